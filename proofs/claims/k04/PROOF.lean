import PyProof.Rows.All
import Wide.All
import OpenK.AllK
import Wide.FinOn
import HandS.ForMost
import HandS.Exc
import HandS.TryOnly
import HandS.TryMany
import HandS.Flow
import HandS.Style
import HandS.Star
import HandS.TupAny
import HandS.Deep
import HandS.ExcInit
import HandS.Zip
import HandS.ExcField
import HandS.DictComp
import HandS.ExcSuper
import HandS.Iter
import HandS.TupSets
import HandS.Conv
import HandS.TupLen
import HandS.Replace
import KE.KExcSuper
import KE.GoesMore
import KE.GoesEnum
import KE.SortData
import KE.DataMinMax
import PyProof.Draws
import PySem.Challenge.RW_wordsatplay_k04_main_patterns_of_words_c
set_option Elab.async false
set_option linter.all false
set_option autoImplicit false
set_option maxRecDepth 100000
set_option maxHeartbeats 4000000
/-! PV1: values as data, what an expression or a statement gives, the places of a def, the words over them. Plain Lean. -/
namespace PV
open PySem
abbrev D := PyData
abbrev lim : Nat := 16777216

inductive R (α : Type) where
  | ok (a : α)
  | exc (c : Nat) (z : D)
  | bad
namespace R
variable {α β γ : Type}
def bind (x : R α) (f : α → R β) : R β := match x with
  | .ok a => f a
  | .exc c z => .exc c z
  | .bad => .bad
def map (f : α → β) (x : R α) : R β := x.bind fun a => .ok (f a)
instance : Monad R where
  pure := R.ok
  bind := R.bind
@[simp] theorem bind_ok (a : α) (f : α → R β) : (R.ok a).bind f = f a := rfl
@[simp] theorem bind_exc (c : Nat) (z : D) (f : α → R β) : (R.exc c z : R α).bind f = .exc c z := rfl
@[simp] theorem bind_bad (f : α → R β) : (R.bad : R α).bind f = .bad := rfl
theorem bind_assoc (x : R α) (f : α → R β) (g : β → R γ) : (x.bind f).bind g = x.bind fun a => (f a).bind g := by cases x <;> rfl
def isOk : R α → Bool
  | .ok _ => true
  | _ => false
end R

inductive Ent where
  | no
  | fz (d : D)
  | ol (xs : List D)
  | od (kvs : List (D × D))
abbrev Rho := List Ent
/-- what the defs answer, by their numbers -/
abbrev Ev := Nat → List D → R D
abbrev FE := Ev → Rho → R D
abbrev FT := Ev → Rho → R Bool
abbrev FL := Ev → Rho → R (List D)

def Ent.frz : Ent → Ent
  | .ol xs => .fz (.list xs)
  | .od kvs => .fz (.dict kvs)
  | e => e
def frzAt : List Nat → Rho → Rho
  | [], ρ => ρ
  | i :: is, ρ => frzAt is (match ρ[i]? with | some e => ρ.set i e.frz | none => ρ)
def wipeR (ρ : Rho) : List Nat → Rho
  | [] => ρ
  | v :: vs => (wipeR ρ vs).set v .no

inductive RS where
  | next (ρ : Rho)
  | ret (d : D)
  | exc (c : Nat) (z : D)
  | bad
abbrev FS := Ev → Rho → RS

/-! ### values' words -/
def b2i (b : Bool) : Int := if b then 1 else 0
def truth : D → R Bool
  | .none => .ok false
  | .bool b => .ok b
  | .int i => .ok (i != 0)
  | .str x => .ok (x.cps.size != 0)
  | .list xs => .ok (!xs.isEmpty)
  | .tuple xs => .ok (!xs.isEmpty)
  | .dict _ => .bad
def pAdd : D → D → R D
  | .int a, .int b => .ok (.int (a + b))
  | .str a, .str b => if a.cps.size + b.cps.size ≤ lim then .ok (.str ⟨a.cps ++ b.cps⟩) else .bad
  | .list a, .list b => if a.length + b.length ≤ lim then .ok (.list (a ++ b)) else .bad
  | .tuple a, .tuple b => if a.length + b.length ≤ lim then .ok (.tuple (a ++ b)) else .bad
  | _, _ => .bad
def pSub : D → D → R D
  | .int a, .int b => .ok (.int (a - b))
  | _, _ => .bad
def pMul : D → D → R D
  | .int a, .int b => if (-(2 ^ 64) < a ∧ a < 2 ^ 64) ∨ (-(2 ^ 64) < b ∧ b < 2 ^ 64) then .ok (.int (a * b)) else .bad
  | .list a, .int k => if k ≤ lim ∧ -lim ≤ k ∧ a.length * k.toNat ≤ lim then .ok (.list (List.replicate k.toNat a).flatten) else .bad
  | _, _ => .bad
def pFdiv : D → D → R D
  | .int a, .int b => if b ≠ 0 ∧ b.natAbs < 1073741824 then .ok (.int (a.fdiv b)) else .bad
  | _, _ => .bad
def pMod : D → D → R D
  | .int a, .int b => if b ≠ 0 then .ok (.int (a.fmod b)) else .bad
  | _, _ => .bad
def pPow : D → D → R D
  | .int a, .int b => if 0 ≤ b ∧ b ≤ 1000000 ∧ a.natAbs < 2 ^ 64 then .ok (.int (a ^ b.toNat)) else .bad
  | _, _ => .bad
def pShl : D → D → R D
  | .int a, .int b => if 0 ≤ b ∧ b ≤ 1000000 ∧ a.natAbs < 2 ^ 64 then .ok (.int (a * 2 ^ b.toNat)) else .bad
  | _, _ => .bad
def pXor : D → D → R D
  | .int a, .int b => .ok (.int (Builtin.bitXor a b))
  | _, _ => .bad
def pNeg : D → R D
  | .int a => .ok (.int (-a))
  | _ => .bad
def noDict : D → Bool := PyData.canLay0
def shp (d : D) : Bool := d.canLay0 && decide (d.depth ≤ 64)
def pEq (a b : D) : R D := if shp a && shp b then .ok (.bool (PyData.eqv a b)) else .bad
def pNe (a b : D) : R D := if shp a && shp b then .ok (.bool (!PyData.eqv a b)) else .bad
def pLt : D → D → R D
  | .int a, .int b => .ok (.bool (decide (a < b)))
  | .str a, .str b => .ok (.bool (decide (a.cps.toList < b.cps.toList)))
  | _, _ => .bad
def pGt (a b : D) : R D := pLt b a
def pLe : D → D → R D
  | .int a, .int b => .ok (.bool (decide (a ≤ b)))
  | .str a, .str b => .ok (.bool (!decide (b.cps.toList < a.cps.toList)))
  | _, _ => .bad
def pGe (a b : D) : R D := pLe b a
def isFlat : D → Bool
  | .int _ => true
  | .str _ => true
  | _ => false
def isTup : D → Bool
  | .tuple xs => xs.all isFlat
  | _ => false
/-- a key of a dict: all keys are of one kind -/
def keyOk (kvs : List (D × D)) (y : D) : Bool := match kvs with
  | [] => isFlat y || isTup y
  | (k, _) :: _ => (isFlat k && isFlat y) || (isTup k && isTup y)
def dLook : List (D × D) → D → Option D
  | [], _ => none
  | (k, v) :: r, y => if PyData.eqv k y then some v else dLook r y
def dPut : List (D × D) → D → D → List (D × D)
  | [], y, v => [(y, v)]
  | (k, u) :: r, y, v => if PyData.eqv k y then (k, v) :: r else (k, u) :: dPut r y v
def pIn : D → D → R D
  | x, .list ys => if shp x && shp (.list ys) then .ok (.bool (ys.any fun z => PyData.eqv z x)) else .bad
  | x, .tuple ys => if shp x && shp (.tuple ys) then .ok (.bool (ys.any fun z => PyData.eqv z x)) else .bad
  | .str x, .str y => .ok (.bool (!(Builtin.Str.occurrences y x 0 y.length 1).isEmpty))
  | x, .dict kvs => if keyOk kvs x then .ok (.bool (dLook kvs x).isSome) else .bad
  | _, _ => .bad
def pNot : D → R D
  | .bool b => .ok (.bool (!b))
  | _ => .bad
def pNotIn (x y : D) : R D := (pIn x y).bind pNot
def isNoneD : D → Bool
  | .none => true
  | _ => false
def pIsNone (x : D) : R D := .ok (.bool (isNoneD x))
def pIsBool (b : Bool) : D → R D
  | .bool a => .ok (.bool (a == b))
  | _ => .bad
/-- the place of an index -/
def ixAt (n : Nat) (i : Int) : Option Nat := if 0 ≤ i then (if i < n then some i.toNat else none) else (if -(n : Int) ≤ i then some (n + i).toNat else none)
def pIdx : D → D → R D
  | .list xs, .int i => match (ixAt xs.length i).bind fun j => xs[j]? with
    | some d => .ok d
    | none => .bad
  | .tuple xs, .int i => match (ixAt xs.length i).bind fun j => xs[j]? with
    | some d => .ok d
    | none => .bad
  | .str x, .int i => match (ixAt x.cps.size i).bind fun j => x.cps.toList[j]? with
    | some c => .ok (.str ⟨#[c]⟩)
    | none => .bad
  | .dict kvs, y => if keyOk kvs y then (match dLook kvs y with
    | some d => .ok d
    | none => .bad) else .bad
  | _, _ => .bad
/-- the end of a slice -/
def cutIx (n d : Nat) : Option Int → Nat
  | none => d
  | some i => if i < 0 then (n + i).toNat else min i.toNat n
def cutL {α : Type} (xs : List α) (lo hi : Option Int) : List α := (xs.drop (cutIx xs.length 0 lo)).take (cutIx xs.length xs.length hi - cutIx xs.length 0 lo)
def pCut (lo hi : Option Int) : D → R D
  | .list xs => .ok (.list (cutL xs lo hi))
  | .tuple xs => .ok (.tuple (cutL xs lo hi))
  | .str x => .ok (.str ⟨(cutL x.cps.toList lo hi).toArray⟩)
  | _ => .bad
def pRev : D → R D
  | .list xs => .ok (.list xs.reverse)
  | _ => .bad
def pLen : D → R D
  | .list xs => .ok (.int xs.length)
  | .tuple xs => .ok (.int xs.length)
  | .str x => .ok (.int x.cps.size)
  | .dict kvs => .ok (.int kvs.length)
  | _ => .bad
end PV

/-! PV2: data in the heap, the known part of the heap, readings that are told by a plain function. -/
namespace PV
open PySem L2

/-! ### data in the heap -/
def kD : L2.Key → D
  | .inl i => .int i
  | .inr x => .str x
def StrOkay (x : Str) : Prop := x.cps.size ≤ lim ∧ PyData.strOk x = true
def KOk : L2.Key → Prop
  | .inr x => StrOkay x
  | .inl _ => True
mutual
inductive Rep (K : PySem.W.Frag) (G : Hp) : V → D → Prop
  | non : Rep K G .non .none
  | bl (b : Bool) : Rep K G (.bl b) (.bool b)
  | int (i : Int) : Rep K G (.int i) (.int i)
  | str (x : Str) : StrOkay x → Rep K G (.str x) (.str x)
  | lst {a : Addr} {xs : List V} {ds : List D} : SqL K G a xs → Reps K G xs ds → Rep K G (.ref a) (.list ds)
  | tup {a : Addr} {xs : List V} {ds : List D} : G a = some (.tup xs) → Reps K G xs ds → Rep K G (.ref a) (.tuple ds)
  | dK {a : Addr} {kvs : List (L2.Key × V)} {ds : List (D × D)} : G a = some (.dK kvs) → (kvs.map (·.1)).Nodup → RepK K G kvs ds → Rep K G (.ref a) (.dict ds)
  | dT {a : Addr} {kvs : List (List L2.Key × V)} {ds : List (D × D)} : G a = some (.dT kvs) → (kvs.map (·.1)).Nodup → RepT K G kvs ds → Rep K G (.ref a) (.dict ds)
inductive Reps (K : PySem.W.Frag) (G : Hp) : List V → List D → Prop
  | nil : Reps K G [] []
  | cons {v : V} {vs : List V} {d : D} {ds : List D} : Rep K G v d → Reps K G vs ds → Reps K G (v :: vs) (d :: ds)
inductive RepK (K : PySem.W.Frag) (G : Hp) : List (L2.Key × V) → List (D × D) → Prop
  | nil : RepK K G [] []
  | cons {k : L2.Key} {v : V} {vs : List (L2.Key × V)} {d : D} {ds : List (D × D)} : KOk k → Rep K G v d → RepK K G vs ds → RepK K G ((k, v) :: vs) ((kD k, d) :: ds)
inductive RepT (K : PySem.W.Frag) (G : Hp) : List (List L2.Key × V) → List (D × D) → Prop
  | nil : RepT K G [] []
  | cons {k : List L2.Key} {v : V} {vs : List (List L2.Key × V)} {d : D} {ds : List (D × D)} : (∀ x ∈ k, KOk x) → Rep K G v d → RepT K G vs ds → RepT K G ((k, v) :: vs) ((.tuple (k.map kD), d) :: ds)
end

abbrev Ex (H H' : Hp) : Prop := ∀ a o, H a = some o → H' a = some o
theorem Ex.refl (H : Hp) : Ex H H := fun _ _ h => h
theorem Ex.trans {H H1 H2 : Hp} (a : Ex H H1) (b : Ex H1 H2) : Ex H H2 := fun x o h => b x o (a x o h)
theorem Ex.new {H : Hp} {p : Addr} {o : HO} (h : H p = none) : Ex H (upd H p o) := fun a u e => by
  rw [upd_ne (ne_of_none e h)]; exact e
theorem Ex.none {H H' : Hp} {p : Addr} (e : Ex H H') (h : H' p = none) : H p = none := by
  cases q : H p with
  | none => rfl
  | some o => rw [e p o q] at h; cases h
theorem Ex.rd {H H' : Hp} {a : Addr} {u : HO} (e : Ex H H') (h : Rd H a u) : Rd H' a u := by
  rcases h with h | ⟨o, h⟩
  · exact .inl (e a _ h)
  · exact .inr ⟨o, e a _ h⟩
theorem Ex.sl {K : PySem.W.Frag} {H H' : Hp} {a : Addr} {xs : List V} (e : Ex H H') (h : SqL K H a xs) : SqL K H' a xs := by
  rcases h with h | h
  · exact .inl (e.rd h)
  · exact .inr h
theorem Ex.st {K : PySem.W.Frag} {H H' : Hp} {a : Addr} {xs : List V} (e : Ex H H') (h : SqT K H a xs) : SqT K H' a xs := by
  rcases h with h | h
  · exact .inl (e.rd h)
  · exact .inr h

section
variable {K : PySem.W.Frag} {G G' : Hp}
mutual
theorem Rep.up (e : Ex G G') : ∀ {v : V} {d : D}, Rep K G v d → Rep K G' v d
  | _, _, .non => .non
  | _, _, .bl b => .bl b
  | _, _, .int i => .int i
  | _, _, .str x h => .str x h
  | _, _, .lst h t => .lst (e.sl h) (Reps.up e t)
  | _, _, .tup h t => .tup (e _ _ h) (Reps.up e t)
  | _, _, .dK h n t => .dK (e _ _ h) n (RepK.up e t)
  | _, _, .dT h n t => .dT (e _ _ h) n (RepT.up e t)
theorem Reps.up (e : Ex G G') : ∀ {vs : List V} {ds : List D}, Reps K G vs ds → Reps K G' vs ds
  | _, _, .nil => .nil
  | _, _, .cons h t => .cons (Rep.up e h) (Reps.up e t)
theorem RepK.up (e : Ex G G') : ∀ {vs : List (L2.Key × V)} {ds : List (D × D)}, RepK K G vs ds → RepK K G' vs ds
  | _, _, .nil => .nil
  | _, _, .cons s h t => .cons s (Rep.up e h) (RepK.up e t)
theorem RepT.up (e : Ex G G') : ∀ {vs : List (List L2.Key × V)} {ds : List (D × D)}, RepT K G vs ds → RepT K G' vs ds
  | _, _, .nil => .nil
  | _, _, .cons s h t => .cons s (Rep.up e h) (RepT.up e t)
end
theorem Reps.length : ∀ {vs : List V} {ds : List D}, Reps K G vs ds → vs.length = ds.length
  | _, _, .nil => rfl
  | _, _, .cons _ t => by rw [List.length_cons, List.length_cons, Reps.length t]
theorem Reps.get : ∀ {vs : List V} {ds : List D} {i : Nat} {d : D}, Reps K G vs ds → ds[i]? = some d → ∃ v, vs[i]? = some v ∧ Rep K G v d
  | _, _, _, _, .nil, e => by simp at e
  | _, _, 0, _, .cons h _, e => by simp at e; subst e; exact ⟨_, rfl, h⟩
  | _, _, i + 1, _, .cons _ t, e => Reps.get (i := i) t (by simpa using e)
theorem Reps.get' : ∀ {vs : List V} {ds : List D} {i : Nat} {v : V}, Reps K G vs ds → vs[i]? = some v → ∃ d, ds[i]? = some d ∧ Rep K G v d
  | _, _, _, _, .nil, e => by simp at e
  | _, _, 0, _, .cons h _, e => by simp at e; subst e; exact ⟨_, rfl, h⟩
  | _, _, i + 1, _, .cons _ t, e => Reps.get' (i := i) t (by simpa using e)
theorem Reps.append : ∀ {vs ws : List V} {ds es : List D}, Reps K G vs ds → Reps K G ws es → Reps K G (vs ++ ws) (ds ++ es)
  | _, _, _, _, .nil, s => s
  | _, _, _, _, .cons h t, s => .cons h (Reps.append t s)
theorem Reps.take : ∀ {vs : List V} {ds : List D} (n : Nat), Reps K G vs ds → Reps K G (vs.take n) (ds.take n)
  | _, _, 0, _ => .nil
  | _, _, _ + 1, .nil => .nil
  | _, _, n + 1, .cons h t => .cons h (Reps.take n t)
theorem Reps.drop : ∀ {vs : List V} {ds : List D} (n : Nat), Reps K G vs ds → Reps K G (vs.drop n) (ds.drop n)
  | _, _, 0, r => r
  | _, _, _ + 1, .nil => .nil
  | _, _, n + 1, .cons _ t => Reps.drop n t
theorem Reps.snoc {vs : List V} {ds : List D} {v : V} {d : D} (r : Reps K G vs ds) (h : Rep K G v d) : Reps K G (vs ++ [v]) (ds ++ [d]) := r.append (.cons h .nil)

/-! inversions -/
theorem Rep.int_inv {v : V} {i : Int} (h : Rep K G v (.int i)) : v = .int i := by cases h; rfl
theorem Rep.bool_inv {v : V} {b : Bool} (h : Rep K G v (.bool b)) : v = .bl b := by cases h; rfl
theorem Rep.none_inv {v : V} (h : Rep K G v .none) : v = .non := by cases h; rfl
theorem Rep.str_inv {v : V} {x : Str} (h : Rep K G v (.str x)) : v = .str x ∧ StrOkay x := by cases h with | str _ h => exact ⟨rfl, h⟩
theorem Rep.list_inv {v : V} {ds : List D} (h : Rep K G v (.list ds)) : ∃ a xs, v = .ref a ∧ SqL K G a xs ∧ Reps K G xs ds := by cases h with | lst h t => exact ⟨_, _, rfl, h, t⟩
theorem Rep.tuple_inv {v : V} {ds : List D} (h : Rep K G v (.tuple ds)) : ∃ a xs, v = .ref a ∧ G a = some (.tup xs) ∧ Reps K G xs ds := by cases h with | tup h t => exact ⟨_, _, rfl, h, t⟩
theorem Rep.dict_inv {v : V} {ds : List (D × D)} (h : Rep K G v (.dict ds)) : ∃ a, v = .ref a ∧ ((∃ kvs, G a = some (.dK kvs) ∧ (kvs.map (·.1)).Nodup ∧ RepK K G kvs ds) ∨ ∃ kvs, G a = some (.dT kvs) ∧ (kvs.map (·.1)).Nodup ∧ RepT K G kvs ds) := by
  cases h with
  | dK h n t => exact ⟨_, rfl, .inl ⟨_, h, n, t⟩⟩
  | dT h n t => exact ⟨_, rfl, .inr ⟨_, h, n, t⟩⟩
theorem Reps.nil_inv {vs : List V} (h : Reps K G vs []) : vs = [] := by cases h; rfl
theorem Reps.cons_inv {vs : List V} {d : D} {ds : List D} (h : Reps K G vs (d :: ds)) : ∃ v ws, vs = v :: ws ∧ Rep K G v d ∧ Reps K G ws ds := by cases h with | cons h t => exact ⟨_, _, rfl, h, t⟩
theorem Reps.one {vs : List V} {d : D} (h : Reps K G vs [d]) : ∃ v, vs = [v] ∧ Rep K G v d := by
  obtain ⟨v, ws, rfl, h1, h2⟩ := h.cons_inv
  rw [h2.nil_inv]; exact ⟨v, rfl, h1⟩
theorem Reps.two {vs : List V} {d e : D} (h : Reps K G vs [d, e]) : ∃ v w, vs = [v, w] ∧ Rep K G v d ∧ Rep K G w e := by
  obtain ⟨v, ws, rfl, h1, h2⟩ := h.cons_inv
  obtain ⟨w, rfl, h3⟩ := h2.one
  exact ⟨v, w, rfl, h1, h3⟩
end

/-! ### a value whose own object stands in the heap, its parts known -/
inductive RepH (K : PySem.W.Frag) (G H : Hp) : V → D → Prop
  | flat {v : V} {d : D} : Rep K G v d → RepH K G H v d
  | lst {a : Addr} {xs : List V} {ds : List D} : SqL K H a xs → Reps K G xs ds → RepH K G H (.ref a) (.list ds)
  | tupK {a : Addr} {xs : List V} {ds : List D} : SqT K G a xs → Reps K G xs ds → RepH K G H (.ref a) (.tuple ds)
  | dK {a : Addr} {kvs : List (L2.Key × V)} {ds : List (D × D)} : H a = some (.dK kvs) → (kvs.map (·.1)).Nodup → RepK K G kvs ds → RepH K G H (.ref a) (.dict ds)
  | dT {a : Addr} {kvs : List (List L2.Key × V)} {ds : List (D × D)} : H a = some (.dT kvs) → (kvs.map (·.1)).Nodup → RepT K G kvs ds → RepH K G H (.ref a) (.dict ds)
section
variable {K : PySem.W.Frag} {G G' H H' : Hp}
theorem RepH.list_inv {v : V} {ds : List D} (e : Ex G H) (h : RepH K G H v (.list ds)) : ∃ a xs, v = .ref a ∧ SqL K H a xs ∧ Reps K G xs ds := by
  cases h with
  | flat h =>
    obtain ⟨a, xs, rfl, h1, h2⟩ := h.list_inv
    exact ⟨a, xs, rfl, e.sl h1, h2⟩
  | lst h t => exact ⟨_, _, rfl, h, t⟩
theorem RepH.dict_inv {v : V} {ds : List (D × D)} (e : Ex G H) (h : RepH K G H v (.dict ds)) : ∃ a, v = .ref a ∧ ((∃ kvs, H a = some (.dK kvs) ∧ (kvs.map (·.1)).Nodup ∧ RepK K G kvs ds) ∨ ∃ kvs, H a = some (.dT kvs) ∧ (kvs.map (·.1)).Nodup ∧ RepT K G kvs ds) := by
  cases h with
  | flat h =>
    obtain ⟨a, ea, q⟩ := h.dict_inv
    subst ea
    rcases q with q | q
    · obtain ⟨ks, h1, h2, h3⟩ := q
      exact ⟨a, rfl, .inl ⟨ks, e _ _ h1, h2, h3⟩⟩
    · obtain ⟨ks, h1, h2, h3⟩ := q
      exact ⟨a, rfl, .inr ⟨ks, e _ _ h1, h2, h3⟩⟩
  | dK h n t => exact ⟨_, rfl, .inl ⟨_, h, n, t⟩⟩
  | dT h n t => exact ⟨_, rfl, .inr ⟨_, h, n, t⟩⟩
theorem RepH.tuple_inv {v : V} {ds : List D} (h : RepH K G H v (.tuple ds)) : ∃ a xs, v = .ref a ∧ SqT K G a xs ∧ Reps K G xs ds := by
  cases h with
  | flat h =>
    obtain ⟨a, xs, rfl, h1, h2⟩ := h.tuple_inv
    exact ⟨a, xs, rfl, .inl (.inl h1), h2⟩
  | tupK h t => exact ⟨_, _, rfl, h, t⟩
theorem RepH.int_inv {v : V} {i : Int} (h : RepH K G H v (.int i)) : v = .int i := by cases h with | flat h => exact h.int_inv
theorem RepH.bool_inv {v : V} {b : Bool} (h : RepH K G H v (.bool b)) : v = .bl b := by cases h with | flat h => exact h.bool_inv
theorem RepH.none_inv {v : V} (h : RepH K G H v .none) : v = .non := by cases h with | flat h => exact h.none_inv
theorem RepH.str_inv {v : V} {x : Str} (h : RepH K G H v (.str x)) : v = .str x ∧ StrOkay x := by cases h with | flat h => exact h.str_inv
theorem RepH.up {v : V} {d : D} (e : Ex G G') (eh : Ex H H') (h : RepH K G H v d) : RepH K G' H' v d := by
  cases h with
  | flat h => exact .flat (h.up e)
  | lst h t => exact .lst (eh.sl h) (t.up e)
  | tupK h t => exact .tupK (e.st h) (t.up e)
  | dK h n t => exact .dK (eh _ _ h) n (t.up e)
  | dT h n t => exact .dT (eh _ _ h) n (t.up e)
end

/-! ### steps: the known part grows, nothing that stood is changed -/
structure Step (G H G' H' : Hp) : Prop where
  g : Ex G G'
  h : Ex H H'
  in' : Ex G' H'
  new : ∀ a, G' a ≠ none → G a ≠ none ∨ H a = none ∨ ∃ xs, H a = some (.tup xs)
theorem Step.refl {G H : Hp} (e : Ex G H) : Step G H G H := ⟨Ex.refl _, Ex.refl _, e, fun _ h => .inl h⟩
theorem Step.trans {G H G1 H1 G2 H2 : Hp} (a : Step G H G1 H1) (b : Step G1 H1 G2 H2) : Step G H G2 H2 := ⟨a.g.trans b.g, a.h.trans b.h, b.in', fun x h => by
  rcases b.new x h with z | z | ⟨xs, z⟩
  · exact a.new x z
  · exact .inr (.inl (a.h.none z))
  · cases q : H x with
    | none => exact .inr (.inl rfl)
    | some o => exact .inr (.inr ⟨xs, by rw [a.h x o q] at z; exact z⟩)⟩
/-- something new, known at once -/
theorem Step.fresh {G H : Hp} {p : Addr} {o : HO} (e : Ex G H) (hp : H p = none) : Step G H (upd G p o) (upd H p o) := by
  have gp : G p = none := e.none hp
  refine ⟨Ex.new gp, Ex.new hp, fun a u h => ?_, fun a h => ?_⟩
  · by_cases q : a = p
    · subst q; rw [upd_same] at h ⊢; exact h
    · rw [upd_ne q] at h ⊢; exact e a u h
  · by_cases q : a = p
    · subst q; exact .inr (.inl hp)
    · rw [upd_ne q] at h; exact .inl h
/-- something new, not yet known -/
theorem Step.loose {G H : Hp} {p : Addr} {o : HO} (e : Ex G H) (hp : H p = none) : Step G H G (upd H p o) := ⟨Ex.refl _, Ex.new hp, e.trans (Ex.new hp), fun _ h => .inl h⟩

/-! ### the places of a def -/
def Ent.own : Ent → Bool
  | .ol _ => true
  | .od _ => true
  | _ => false
structure EnvOk (K : PySem.W.Frag) (G H : Hp) (ρ : Rho) (σ : L2.St) : Prop where
  len : ρ.length = σ.length
  fz : ∀ (i : Nat) (d : D), ρ[i]? = some (Ent.fz d) → ∃ v, σ[i]? = some (some v) ∧ Rep K G v d
  ol : ∀ (i : Nat) (xs : List D), ρ[i]? = some (Ent.ol xs) → ∃ (a : Addr) (vs : List V), σ[i]? = some (some (V.ref a)) ∧ H a = some (.lst vs) ∧ G a = none ∧ Reps K G vs xs
  od : ∀ (i : Nat) (kvs : List (D × D)), ρ[i]? = some (Ent.od kvs) → ∃ a : Addr, σ[i]? = some (some (V.ref a)) ∧ G a = none ∧
    ((∃ vs, H a = some (.dK vs) ∧ (vs.map (·.1)).Nodup ∧ RepK K G vs kvs) ∨ ∃ vs, H a = some (.dT vs) ∧ (vs.map (·.1)).Nodup ∧ RepT K G vs kvs)
  sep : ∀ (i j : Nat) (ei ej : Ent), i ≠ j → ρ[i]? = some ei → ρ[j]? = some ej → ei.own = true → ej.own = true → σ[i]? ≠ σ[j]?
theorem EnvOk.up {K : PySem.W.Frag} {G H G' H' : Hp} {ρ : Rho} {σ : L2.St} (h : EnvOk K G H ρ σ) (e : Ex G H) (s : Step G H G' H') : EnvOk K G' H' ρ σ where
  len := h.len
  fz := fun i d q => by
    obtain ⟨v, h1, h2⟩ := h.fz i d q
    exact ⟨v, h1, h2.up s.g⟩
  ol := fun i xs q => by
    obtain ⟨a, vs, h1, h2, h3, h4⟩ := h.ol i xs q
    refine ⟨a, vs, h1, s.h a _ h2, ?_, h4.up s.g⟩
    cases z : G' a with
    | none => rfl
    | some o =>
      rcases s.new a (by rw [z]; exact fun x => nomatch x) with w | w | ⟨_, w⟩
      · exact absurd h3 w
      · rw [h2] at w; cases w
      · rw [h2] at w; cases w
  od := fun i xs q => by
    obtain ⟨a, h1, h3, h4⟩ := h.od i xs q
    have hn : H a ≠ none := by
      rcases h4 with ⟨vs, z, _⟩ | ⟨vs, z, _⟩ <;> (rw [z]; exact fun x => nomatch x)
    refine ⟨a, h1, ?_, ?_⟩
    · cases z : G' a with
      | none => rfl
      | some o =>
        rcases s.new a (by rw [z]; exact fun x => nomatch x) with w | w | ⟨_, w⟩
        · exact absurd h3 w
        · exact absurd w hn
        · rcases h4 with ⟨vs, y, _⟩ | ⟨vs, y, _⟩ <;> (rw [y] at w; cases w)
    · rcases h4 with ⟨vs, z, n, r⟩ | ⟨vs, z, n, r⟩
      · exact .inl ⟨vs, s.h a _ z, n, r.up s.g⟩
      · exact .inr ⟨vs, s.h a _ z, n, r.up s.g⟩
  sep := h.sep
end PV

/-! PV3: judgements told by plain functions; expressions. -/
namespace PV
open PySem L2

structure FnI where
  name : Str
  ps : List Str
structure Tab where
  fns : List FnI
  cls : List Str
  glb : List (Str × D)
  blt : List Str
variable (T : Tab)

/-- the class of the errors with the number c -/
def ClsAt (mg : Str → Option Value) (c : Nat) (C : Addr) : Prop := ∃ x, T.cls[c]? = some x ∧ mg x = some (.ref C)

section
variable (K : PySem.W.Frag) (mg : Str → Option Value) (W : XK)
/-- what is wanted of an error with the number c and its word z -/
def WX (G H : Hp) (c : Nat) (z : D) : Prop := ∀ (C d : Addr) (v : V) (G' H' : Hp), Step G H G' H' → ClsAt T mg c C → H d = none → H' d = some (.xd [("at", v)]) → Rep K G' v z → W (.ref C) (some d) H'
/-- what must hold so that what the plain function gives is what is wanted -/
def ResG {α β : Type} (G H : Hp) (r : R α) (P : α → β → Hp → Hp → Prop) (Q : β → Hp → Prop) : Prop := match r with
  | .ok d => ∀ v G' H', Step G H G' H' → P d v G' H' → Q v H'
  | .exc c z => WX T K mg W G H c z
  | .bad => False
def rd {α β : Type} (f : Rho → R α) (P : α → β → Hp → Hp → Prop) : L2.St → Hp → (β → Hp → Prop) → Prop := fun σ H Q => ∃ G ρ, Ex G H ∧ EnvOk K G H ρ σ ∧ ResG T K mg W G H (f ρ) P Q
end
abbrev pV (K : PySem.W.Frag) (d : D) (v : V) (G' H' : Hp) : Prop := Rep K G' v d
abbrev pB (K : PySem.W.Frag) (d : D) (v : V) (G' H' : Hp) : Prop := RepH K G' H' v d
abbrev pT (b c : Bool) (_ _ : Hp) : Prop := b = c
abbrev pA (K : PySem.W.Frag) (ds : List D) (vs : List V) (G' H' : Hp) : Prop := Reps K G' vs ds
/-- arguments that may stand in the heap alone -/
inductive RepHs (K : PySem.W.Frag) (G H : Hp) : List V → List D → Prop
  | nil : RepHs K G H [] []
  | cons {v : V} {vs : List V} {d : D} {ds : List D} : RepH K G H v d → RepHs K G H vs ds → RepHs K G H (v :: vs) (d :: ds)
abbrev pAB (K : PySem.W.Frag) (ds : List D) (vs : List V) (G' H' : Hp) : Prop := RepHs K G' H' vs ds
/-- new, not yet known: a list, a dict -/
inductive Loose (K : PySem.W.Frag) (G H : Hp) : V → D → Prop
  | lst {a : Addr} {xs : List V} {ds : List D} : H a = some (.lst xs) → G a = none → Reps K G xs ds → Loose K G H (.ref a) (.list ds)
  | dK {a : Addr} {kvs : List (L2.Key × V)} {ds : List (D × D)} : H a = some (.dK kvs) → G a = none → (kvs.map (·.1)).Nodup → RepK K G kvs ds → Loose K G H (.ref a) (.dict ds)
  | dT {a : Addr} {kvs : List (List L2.Key × V)} {ds : List (D × D)} : H a = some (.dT kvs) → G a = none → (kvs.map (·.1)).Nodup → RepT K G kvs ds → Loose K G H (.ref a) (.dict ds)
/-- fresh behind H: loose, and its place was free -/
abbrev pF (K : PySem.W.Frag) (H0 : Hp) (d : D) (v : V) (G' H' : Hp) : Prop := Loose K G' H' v d ∧ ∀ a, v = .ref a → H0 a = none

section
variable {K : PySem.W.Frag} {mg : Str → Option Value} {W : XK} {G H G' H' : Hp}
theorem WX.later {c : Nat} {z : D} (s : Step G H G' H') (h : WX T K mg W G H c z) : WX T K mg W G' H' c z := fun C d v G2 H2 s2 hc hd hx hr => h C d v G2 H2 (s.trans s2) hc (s.h.none hd) hx hr
theorem ResG.later {α β : Type} {r : R α} {P : α → β → Hp → Hp → Prop} {Q : β → Hp → Prop} (s : Step G H G' H') (h : ResG T K mg W G H r P Q) : ResG T K mg W G' H' r P Q := by
  cases r with
  | ok d => exact fun v G2 H2 s2 p => h v G2 H2 (s.trans s2) p
  | exc c z => exact WX.later T s h
  | bad => exact h
theorem ResG.ok {α β : Type} {d : α} {P : α → β → Hp → Hp → Prop} {Q : β → Hp → Prop} {v : β} (e : Ex G H) (h : ResG T K mg W G H (.ok d) P Q) (p : P d v G H) : Q v H := h v G H (Step.refl e) p
theorem ResG.at {α β : Type} {d : α} {P : α → β → Hp → Hp → Prop} {Q : β → Hp → Prop} {v : β} (s : Step G H G' H') (h : ResG T K mg W G H (.ok d) P Q) (p : P d v G' H') : Q v H' := h v G' H' s p
/-- one thing, then another -/
theorem ResG.seq {α β γ δ : Type} {f : R α} {g : α → R γ} {P : α → β → Hp → Hp → Prop} {P2 : γ → δ → Hp → Hp → Prop} {Q : δ → Hp → Prop} {Q1 : β → Hp → Prop}
    (h : ResG T K mg W G H (f.bind g) P2 Q) (k : ∀ a v G1 H1, Step G H G1 H1 → P a v G1 H1 → ResG T K mg W G1 H1 (g a) P2 Q → Q1 v H1) : ResG T K mg W G H f P Q1 := by
  cases f with
  | ok a => exact fun v G1 H1 s p => k a v G1 H1 s p (ResG.later T s h)
  | exc c z => exact h
  | bad => exact h
theorem ResG.imp {α β : Type} {r : R α} {P P' : α → β → Hp → Hp → Prop} {Q : β → Hp → Prop} (h : ResG T K mg W G H r P Q) (p : ∀ d v G' H', Step G H G' H' → P' d v G' H' → P d v G' H') : ResG T K mg W G H r P' Q := by
  cases r with
  | ok d => exact fun v G2 H2 s2 q => h v G2 H2 s2 (p d v G2 H2 s2 q)
  | exc c z => exact h
  | bad => exact h
theorem RepHs.length : ∀ {vs : List V} {ds : List D}, RepHs K G H vs ds → vs.length = ds.length
  | _, _, .nil => rfl
  | _, _, .cons _ t => by rw [List.length_cons, List.length_cons, RepHs.length t]
theorem RepHs.up (e : Ex G G') (eh : Ex H H') : ∀ {vs : List V} {ds : List D}, RepHs K G H vs ds → RepHs K G' H' vs ds
  | _, _, .nil => .nil
  | _, _, .cons h t => .cons (h.up e eh) (RepHs.up e eh t)
theorem RepHs.nil_inv {vs : List V} (h : RepHs K G H vs []) : vs = [] := by cases h; rfl
theorem RepHs.cons_inv {vs : List V} {d : D} {ds : List D} (h : RepHs K G H vs (d :: ds)) : ∃ v ws, vs = v :: ws ∧ RepH K G H v d ∧ RepHs K G H ws ds := by cases h with | cons h t => exact ⟨_, _, rfl, h, t⟩
/-- what is new becomes known -/
theorem Step.know {a : Addr} {o : HO} (s : Step G H G' H') (ha : H' a = some o) (hg : G' a = none) (hn : H a = none) : Step G H (upd G' a o) H' ∧ Ex G' (upd G' a o) :=
  ⟨⟨s.g.trans (Ex.new hg), s.h, fun b u q => by
    by_cases z : b = a
    · subst z; rw [upd_same] at q; rw [ha]; exact q
    · rw [upd_ne z] at q; exact s.in' b u q, fun b q => by
    by_cases z : b = a
    · subst z; exact .inr (.inl hn)
    · rw [upd_ne z] at q; exact s.new b q⟩, Ex.new hg⟩
theorem pF.known {v : V} {d : D} (s : Step G H G' H') (h : pF K H d v G' H') : ∃ G2, Step G H G2 H' ∧ Rep K G2 v d := by
  obtain ⟨l, hn⟩ := h
  cases l with
  | lst ha hg r =>
    obtain ⟨s2, e⟩ := s.know ha hg (hn _ rfl)
    exact ⟨_, s2, .lst (.inl (.inl upd_same)) (r.up e)⟩
  | dK ha hg n r =>
    obtain ⟨s2, e⟩ := s.know ha hg (hn _ rfl)
    exact ⟨_, s2, .dK upd_same n (r.up e)⟩
  | dT ha hg n r =>
    obtain ⟨s2, e⟩ := s.know ha hg (hn _ rfl)
    exact ⟨_, s2, .dT upd_same n (r.up e)⟩
theorem ResG.fresh {r : R D} {Q : VK} (h : ResG T K mg W G H r (pV K) Q) : ResG T K mg W G H r (pF K H) Q := by
  cases r with
  | ok d => exact fun v G2 H2 s2 q => let ⟨G3, s3, p⟩ := pF.known s2 q; h v G3 H2 s3 p
  | exc c z => exact h
  | bad => exact h
theorem ResG.bor {r : R D} {Q : VK} (h : ResG T K mg W G H r (pB K) Q) : ResG T K mg W G H r (pV K) Q := h.imp T fun _ _ _ _ _ q => .flat q
end

/-! ### what a def promises -/
def spF (K : PySem.W.Frag) (mg : Str → Option Value) (n : Nat) (f : List D → R D) : Sp := fun vs H Q E => vs.length = n ∧ ∃ G ds, Ex G H ∧ Reps K G vs ds ∧ ResG T K mg E G H (f ds) (pV K) Q

/-! ### where one stands -/
structure Gd (N : List Str) (k : Nat) (ev : Ev) (sc : List (Str × NameKind)) (X : Cx) (W : XK) : Prop where
  hN : X.N = N
  nd : N.Nodup
  names : X.env.scope.names = sc
  kind : X.env.scope.kind = .function
  calm : X.calm = true
  room : Room k X.A
  fns : ∀ (j : Nat) (fi : FnI), T.fns[j]? = some fi → ∃ f fd, X.mg fi.name = some (.ref f) ∧ PySem.W.keepIn X.K (.ref f) = true ∧ Binds X.K fd fi.ps [] ∧
    FnOk X.prog X.w X.K X.mg X.base (CX X.prog X.w) k f fd fi.ps (spF T X.K X.mg fi.ps.length (ev j))
  blt : ∀ x ∈ T.blt, X.mg x = none
  glb : ∀ p ∈ T.glb, ∃ u v, X.mg p.1 = some u ∧ RelV v u ∧ ∀ G, Rep X.K G v p.2
  pass : Passes (CX X.prog X.w) X W

section
variable {N : List Str} {k : Nat} {ev : Ev} {sc : List (Str × NameKind)} {X : Cx} {W : XK}
theorem Gd.hu (g : Gd T N k ev sc X W) : X.A.units + 64 < cLine := g.room.units
theorem Gd.vis {x : Str} {kd : NameKind} (g : Gd T N k ev sc X W) (h : sc.lookup x = some kd) (hk : kd = .local ∨ kd = .cell ∨ kd = .free) : Vis X.env.scope x := by
  unfold Vis
  rw [g.names]
  rcases hk with e | e | e
  · subst e; exact .inl h
  · subst e; exact .inr (.inl h)
  · subst e; exact .inr (.inr h)
theorem Gd.gl {x : Str} (g : Gd T N k ev sc X W) (h : sc.lookup x = some .globalImplicit) : Gl X x := by
  unfold Gl Env.kindOf
  rw [g.names]; exact h
theorem PE.mono {e : Expr} {t t' : TE} (h : PE X e t) (i : ∀ σ H Q, t' σ H Q → t σ H Q) : PE X e t' := ⟨fun pins s σ H Q I q => h.run pins s σ H Q I (i σ H Q q)⟩
theorem PT.mono {e : Expr} {t t' : TT} (h : PT X e t) (i : ∀ σ H Q, t' σ H Q → t σ H Q) : PT X e t' := ⟨fun pins s σ H Q I q => h.run pins s σ H Q I (i σ H Q q)⟩
theorem PA.mono {e : List Expr} {t t' : TA} (h : PA X e t) (i : ∀ σ H Q, t' σ H Q → t σ H Q) : PA X e t' := ⟨fun pos pins s σ H Q I q => h.run pos pins s σ H Q I (i σ H Q q)⟩
end

/-- an expression gives a known value | a value whose object stands | a new one -/
def SV (N : List Str) (k : Nat) (ev : Ev) (sc : List (Str × NameKind)) (e : Expr) (f : FE) : Prop := ∀ X W, Gd T N k ev sc X W → PE X e (rd T X.K X.mg W (f ev) (pV X.K))
def SB (N : List Str) (k : Nat) (ev : Ev) (sc : List (Str × NameKind)) (e : Expr) (f : FE) : Prop := ∀ X W, Gd T N k ev sc X W → PE X e (rd T X.K X.mg W (f ev) (pB X.K))
/-- new: what stands ahead of it is told by the reading -/
def rdF (K : PySem.W.Frag) (mg : Str → Option Value) (W : XK) (f : Rho → R D) : TE := fun σ H Q => ∃ G ρ, Ex G H ∧ EnvOk K G H ρ σ ∧ ResG T K mg W G H (f ρ) (pF K H) Q
def SF (N : List Str) (k : Nat) (ev : Ev) (sc : List (Str × NameKind)) (e : Expr) (f : FE) : Prop := ∀ X W, Gd T N k ev sc X W → PE X e (rdF T X.K X.mg W (f ev))
def ST (N : List Str) (k : Nat) (ev : Ev) (sc : List (Str × NameKind)) (e : Expr) (f : FT) : Prop := ∀ X W, Gd T N k ev sc X W → PT X e (rd T X.K X.mg W (f ev) pT)
def SA (N : List Str) (k : Nat) (ev : Ev) (sc : List (Str × NameKind)) (es : List Expr) (f : FL) : Prop := ∀ X W, Gd T N k ev sc X W → PA X es (rd T X.K X.mg W (f ev) (pA X.K))
def SAB (N : List Str) (k : Nat) (ev : Ev) (sc : List (Str × NameKind)) (es : List Expr) (f : FL) : Prop := ∀ X W, Gd T N k ev sc X W → PA X es (rd T X.K X.mg W (f ev) (pAB X.K))

section
variable {T} {N : List Str} {k : Nat} {ev : Ev} {sc : List (Str × NameKind)} {e : Expr} {f : FE}
theorem SF.v (h : SF T N k ev sc e f) : SV T N k ev sc e f := fun X W g => PE.mono (h X W g) fun σ H Q ⟨G, ρ, e1, en, r⟩ => ⟨G, ρ, e1, en, r.fresh T⟩
theorem SV.b (h : SV T N k ev sc e f) : SB T N k ev sc e f := fun X W g => PE.mono (h X W g) fun σ H Q ⟨G, ρ, e1, en, r⟩ => ⟨G, ρ, e1, en, r.bor T⟩
end

/-! ### names, constants -/
def eVar (i : Nat) : FE := fun _ ρ => match ρ[i]? with
  | some (.fz d) => .ok d
  | _ => .bad
def eBor (i : Nat) : FE := fun _ ρ => match ρ[i]? with
  | some (.fz d) => .ok d
  | some (.ol xs) => .ok (.list xs)
  | some (.od kvs) => .ok (.dict kvs)
  | _ => .bad
def eC (d : D) : FE := fun _ _ => .ok d
section
variable {T} {N : List Str} {k : Nat} {ev : Ev} {sc : List (Str × NameKind)}
theorem sv_var {i : Nat} {x : Str} {kd : NameKind} {p : Pos} (hN : N[i]? = some x) (hs : sc.lookup x = some kd) (hk : kd = .local ∨ kd = .cell ∨ kd = .free) (hd : (x == ("__debug__" : Str)) = false) (hcd : (x == ("__classdict__" : Str)) = false) : SV T N k ev sc (.Name x p) (eVar i) := fun X W g => by
  refine PE.mono (pe_var (i := i) (by rw [g.hN]; exact hN) (g.vis T hs hk) hd hcd) fun σ H Q ⟨G, ρ, e1, en, r⟩ => ?_
  unfold eVar at r
  split at r
  · rename_i d hd
    obtain ⟨v, h1, h2⟩ := en.fz i d hd
    exact ⟨v, h1, r.ok T e1 h2⟩
  · exact r.elim
theorem sb_var {i : Nat} {x : Str} {kd : NameKind} {p : Pos} (hN : N[i]? = some x) (hs : sc.lookup x = some kd) (hk : kd = .local ∨ kd = .cell ∨ kd = .free) (hd : (x == ("__debug__" : Str)) = false) (hcd : (x == ("__classdict__" : Str)) = false) : SB T N k ev sc (.Name x p) (eBor i) := fun X W g => by
  refine PE.mono (pe_var (i := i) (by rw [g.hN]; exact hN) (g.vis T hs hk) hd hcd) fun σ H Q ⟨G, ρ, e1, en, r⟩ => ?_
  unfold eBor at r
  split at r
  · rename_i d hd
    obtain ⟨v, h1, h2⟩ := en.fz i d hd
    exact ⟨v, h1, r.ok T e1 (.flat h2)⟩
  · rename_i xs hd
    obtain ⟨a, vs, h1, h2, _, h4⟩ := en.ol i xs hd
    exact ⟨_, h1, r.ok T e1 (.lst (.inl (.inl h2)) h4)⟩
  · rename_i kvs hd
    obtain ⟨a, h1, _, h4⟩ := en.od i kvs hd
    rcases h4 with ⟨vs, h5, h6, h7⟩ | ⟨vs, h5, h6, h7⟩
    · exact ⟨_, h1, r.ok T e1 (.dK h5 h6 h7)⟩
    · exact ⟨_, h1, r.ok T e1 (.dT h5 h6 h7)⟩
  · exact r.elim
theorem sv_int {i : Int} {j : Nat} {p : Pos} : SV T N k ev sc (.Constant (.int i) j p) (eC (.int i)) := fun X W g => PE.mono pe_int fun σ H Q ⟨G, ρ, e1, en, r⟩ => r.ok T e1 (.int i)
theorem sv_bool {b : Bool} {j : Nat} {p : Pos} : SV T N k ev sc (.Constant (.bool b) j p) (eC (.bool b)) := fun X W g => PE.mono pe_bl fun σ H Q ⟨G, ρ, e1, en, r⟩ => r.ok T e1 (.bl b)
theorem sv_none {j : Nat} {p : Pos} : SV T N k ev sc (.Constant .none j p) (eC .none) := fun X W g => PE.mono pe_non fun σ H Q ⟨G, ρ, e1, en, r⟩ => r.ok T e1 .non
theorem sv_str {x : Str} {j : Nat} {p : Pos} (h : StrOkay x) : SV T N k ev sc (.Constant (.str x) j p) (eC (.str x)) := fun X W g => PE.mono pe_str fun σ H Q ⟨G, ρ, e1, en, r⟩ => r.ok T e1 (.str x h)
theorem sv_glob {x : Str} {d : D} {p : Pos} (hs : sc.lookup x = some .globalImplicit) (hg : (x, d) ∈ T.glb) (hd : (x == ("__debug__" : Str)) = false) : SV T N k ev sc (.Name x p) (eC d) := fun X W g => by
  obtain ⟨u, v, h1, h2, h3⟩ := g.glb _ hg
  exact PE.mono (pe_glob (g.gl T hs) h1 h2 hd) fun σ H Q ⟨G, ρ, e1, en, r⟩ => r.ok T e1 (h3 G)
end
end PV

/-! PV4: operators. -/
namespace PV
open PySem L2

section
variable {X : Cx} {a b : Expr} {pos : Pos}
/-- lists of any standing, one behind the other -/
theorem op_catS : OpR X (binaryOp .Add) (fun x y H Q => ∃ (l r : Addr) (xs ys : List V), x = .ref l ∧ y = .ref r ∧ SqL X.K H l xs ∧ SqL X.K H r ys ∧ xs.length + ys.length ≤ sizeLine ∧ ∀ p, H p = none → Q (.ref p) (upd H p (.lst (xs ++ ys)))) := by
  intro pins s σ H x y v u Q I rx ry h
  obtain ⟨l, r, xs, ys, rfl, rfl, h1, h2, hz, q⟩ := h
  cases rx
  cases ry
  obtain ⟨its, r1, ⟨⟨c1, d1, t1, s1⟩, n1, e1, hc1, _, hd1⟩, _⟩ := I.list h1
  obtain ⟨jts, r2, ⟨⟨c2, d2, t2, s2⟩, n2, e2, hc2, _, hd2⟩, _⟩ := I.list h2
  simp only at hc1 hd1 hc2 hd2
  subst hc1 hd1 hc2 hd2
  have l1 := r1.length
  have l2 := r2.length
  refine concat_meets ⟨_, e1, rfl⟩ ⟨_, e2, rfl⟩ noFill_list_add seq_list_add PySem.F.slot_list_add PySem.F.entry_list_add (PySem.F.args_list_add_2 _ _)
    (PyProof.Rows.list_addW l r its.toArray jts.toArray n1 n2 d1 d2 s1 s2 (by simp only [List.size_toArray]; omega)) ⟨e1, e2, ?_⟩
  have ea : its.toArray ++ jts.toArray = (its ++ jts).toArray := by simp
  rw [ea]
  exact ⟨.ref _, _, I.lnew (t' := s.toks) (r1.append r2) (by rw [List.length_append]; omega), rfl, q _ I.fresh⟩
theorem list_mulX (l : Addr) (items : Array Value) (n : Nat) (x : Int) (u : Tok) (dd : Option Addr) (sl : Array (Option Value)) (hc0 : ¬(!Builtin.List.listFitsIndex x) = true) (hc1 : ¬items.size * x.toNat > (2 ^ 63 - 1) / 8) (hc2 : ¬Builtin.List.listTooLong (items.size * x.toNat) = true) :
    Meets (Builtin.«list.__mul__» ⟨[.ref l, .int x u], []⟩) (fun _ R s => s.heap.get? l = some { cls := .type "list", dict := dd, data := .seq items n, slots := sl } ∧
      R (.ok (.ret (Value.ref s.heap.objs.size))) { s with heap := s.heap.push { cls := Value.type "list", data := Data.seq (List.foldl (fun x1 x2 => x1 ++ x2) #[] (List.replicate (if items.isEmpty = true then 0 else x.toNat) items)) }, toks := s.toks }) :=
  .of_wp fun prog w A R s h => by
    obtain ⟨hp, g, d, tk, os⟩ := s; obtain ⟨hl, h⟩ := h
    have hsz := AutoListH.joined_fits hc2
    wp_walk; refine wpAny_ite_false (decide_eq_false (Nat.not_lt.mpr hsz)) ?_; wp_walk; exact ⟨_, rfl, h⟩
theorem int_rmulX (a : Int) (t : Tok) (l : Addr) (items : Array Value) (n : Nat) (dd : Option Addr) (sl : Array (Option Value)) :
    Meets (Builtin.«int.__rmul__» ⟨[.int a t, .ref l], []⟩) (fun _ R s => s.heap.get? l = some { cls := .type "list", dict := dd, data := .seq items n, slots := sl } ∧ R (.ok (.ret Value.notImplemented)) s) :=
  .of_wp fun prog w A R s h => by
    obtain ⟨hp, g, d, tk, os⟩ := s
    obtain ⟨hl, h⟩ := h
    wp_walk
    exact ⟨_, rfl, h⟩
theorem foldlX (its : List Value) : ∀ (m : Nat) (acc : List Value), List.foldl (fun x1 x2 => x1 ++ x2) acc.toArray (List.replicate m its.toArray) = (acc ++ (List.replicate m its).flatten).toArray
  | 0, acc => by simp
  | m + 1, acc => by
    rw [List.replicate_succ, List.foldl_cons, show acc.toArray ++ its.toArray = (acc ++ its).toArray by simp, foldlX its m (acc ++ its), List.replicate_succ, List.flatten_cons, List.append_assoc]
theorem vals_rep {xs : List V} {its : List Value} (r : Vals xs its) : ∀ m : Nat, Vals (List.replicate m xs).flatten (List.replicate m its).flatten
  | 0 => .nil
  | m + 1 => by rw [List.replicate_succ, List.replicate_succ, List.flatten_cons, List.flatten_cons]; exact r.append (vals_rep r m)
theorem op_repS : OpR X (binaryOp .Mult) (fun x y H Q => ∃ (l : Addr) (k : Int) (xs : List V), x = .ref l ∧ y = .int k ∧ SqL X.K H l xs ∧ -(lim : Int) ≤ k ∧ k ≤ lim ∧ xs.length * k.toNat ≤ lim ∧ ∀ p, H p = none → Q (.ref p) (upd H p (.lst (List.replicate k.toNat xs).flatten))) := by
  intro pins s σ H x y v u Q I rx ry h
  obtain ⟨l, k, xs, rfl, rfl, h1, hk1, hk2, hz, q⟩ := h
  cases rx
  obtain ⟨t, rfl⟩ := ry
  obtain ⟨its, r1, ⟨⟨c1, d1, t1, s1⟩, n1, e1, hc1, _, hd1⟩, _⟩ := I.list h1
  simp only at hc1 hd1
  subst hc1 hd1
  have l1 := r1.length
  have hlen : its.toArray.size * k.toNat ≤ 16777216 := by rw [List.size_toArray, ← l1]; exact hz
  have hlim : (lim : Int) = 16777216 := rfl
  have hfit : ¬ (!Builtin.List.listFitsIndex k) = true := by simp [Builtin.List.listFitsIndex]; omega
  have hlong : ¬ Builtin.List.listTooLong (its.toArray.size * k.toNat) = true := by simp only [Builtin.List.listTooLong, sizeLine_eq, decide_eq_true_eq]; omega
  refine PySem.wpAny_binaryOp_repeat_ref (T := "list") (U := "int") (by decide) ⟨_, e1, rfl⟩ (fun s' => typeIs_int s' k t) noFill_list_mul F.fills_int_mul F.slot_int_rmul repeat_list F.slot_int_index.lookup
    (call_meets F.slot_int_rmul (typeIs_int s k t) F.entry_int_rmul (F.args_int_rmul_2 _ _) (int_rmulX k t l its.toArray n1 d1 s1)
      ⟨e1, rfl, ⟨_, e1, rfl⟩, call_meets F.slot_list_mul ⟨_, e1, rfl⟩ F.entry_list_mul (F.args_list_mul_2 _ _) (list_mulX l its.toArray n1 k t d1 s1 hfit (by omega) hlong) ⟨e1, ?_⟩⟩)
  have hm : List.foldl (fun x1 x2 => x1 ++ x2) #[] (List.replicate (if its.toArray.isEmpty = true then 0 else k.toNat) its.toArray) = (List.replicate k.toNat its).flatten.toArray := by
    have f0 : ∀ m : Nat, List.foldl (fun x1 x2 => x1 ++ x2) #[] (List.replicate m its.toArray) = (List.replicate m its).flatten.toArray := fun m => by
      have := foldlX its m []
      rw [List.nil_append] at this
      exact this
    rw [f0]
    cases its with
    | nil => simp
    | cons i is => rfl
  rw [hm]
  refine ⟨.ref _, _, I.lnew (t' := s.toks) (vals_rep r1 k.toNat) ?_, rfl, q _ I.fresh⟩
  have : (List.replicate k.toNat xs).flatten.length = xs.length * k.toNat := by simp [List.length_flatten, List.map_replicate, List.sum_replicate_nat, Nat.mul_comm]
  rw [this, sizeLine_eq]
  exact hz
end

section
variable (T : Tab) (K : PySem.W.Frag) (mg : Str → Option Value) (W : XK)
def rOpD (op : D → D → R D) : R2 := fun x y H Q => ∃ G dx dy, Ex G H ∧ RepH K G H x dx ∧ RepH K G H y dy ∧ ResG T K mg W G H (op dx dy) (pV K) Q
def rOpV (op : D → D → R D) : R2 := fun x y H Q => ∃ G dx dy, Ex G H ∧ Rep K G x dx ∧ Rep K G y dy ∧ ResG T K mg W G H (op dx dy) (pV K) Q
def rUnD (op : D → R D) : V → Hp → VK → Prop := fun x H Q => ∃ G dx, Ex G H ∧ RepH K G H x dx ∧ ResG T K mg W G H (op dx) (pV K) Q
end
def e2 (op : D → D → R D) (f g : FE) : FE := fun ev ρ => (f ev ρ).bind fun x => (g ev ρ).bind fun y => op x y
def e1 (op : D → R D) (f : FE) : FE := fun ev ρ => (f ev ρ).bind op

section
variable {T : Tab} {X : Cx} {W : XK}
theorem strOkay_app {x y : Str} (h1 : StrOkay x) (h2 : StrOkay y) (h : x.cps.size + y.cps.size ≤ lim) : StrOkay ⟨x.cps ++ y.cps⟩ := by
  refine ⟨by rw [Array.size_append]; exact h, ?_⟩
  have a1 := h1.2
  have a2 := h2.2
  unfold PyData.strOk at a1 a2 ⊢
  rw [Array.all_append, a1, a2]; rfl
theorem ResG.new {K : PySem.W.Frag} {mg : Str → Option Value} {G H : Hp} {xs : List V} {ds : List D} {p : Addr} {Q : VK} (e : Ex G H) (r : ResG T K mg W G H (.ok (.list ds)) (pV K) Q) (hp : H p = none) (h : Reps K G xs ds) : Q (.ref p) (upd H p (.lst xs)) :=
  r.at T (Step.fresh e hp) (.lst (.inl (.inl upd_same)) (h.up (Ex.new (e.none hp))))
theorem ResG.newT {K : PySem.W.Frag} {mg : Str → Option Value} {G H : Hp} {xs : List V} {ds : List D} {p : Addr} {Q : VK} (e : Ex G H) (r : ResG T K mg W G H (.ok (.tuple ds)) (pV K) Q) (hp : H p = none) (h : Reps K G xs ds) : Q (.ref p) (upd H p (.tup xs)) :=
  r.at T (Step.fresh e hp) (.tup upd_same (h.up (Ex.new (e.none hp))))
theorem ob_add : OpR X (binaryOp .Add) (rOpV T X.K X.mg W pAdd) := by
  intro pins s σ H x y v u Q I rx ry ⟨G, dx, dy, e, hx, hy, r⟩
  cases dx <;> cases dy <;> try exact False.elim r
  · rename_i a b
    obtain rfl := hx.int_inv
    obtain rfl := hy.int_inv
    exact op_add pins s σ H _ _ v u Q I rx ry ⟨a, b, rfl, rfl, r.ok T e (.int _)⟩
  · rename_i a b
    obtain ⟨rfl, h1⟩ := hx.str_inv
    obtain ⟨rfl, h2⟩ := hy.str_inv
    simp only [pAdd] at r
    split at r
    · rename_i hz
      exact op_add_str pins s σ H _ _ v u Q I rx ry ⟨a, b, rfl, rfl, hz, r.ok T e (.str _ (strOkay_app h1 h2 hz))⟩
    · exact False.elim r
  · rename_i a b
    obtain ⟨p, xs, rfl, h1, h2⟩ := hx.list_inv
    obtain ⟨p', ys, rfl, h3, h4⟩ := hy.list_inv
    simp only [pAdd] at r
    split at r
    · rename_i hz
      have z1 := h2.length
      have z2 := h4.length
      exact op_catS pins s σ H _ _ v u Q I rx ry ⟨p, p', xs, ys, rfl, rfl, e.sl h1, e.sl h3, by rw [sizeLine_eq]; have hl : lim = 16777216 := rfl; omega, fun q hq => r.new e hq (h2.append h4)⟩
    · exact False.elim r
  · rename_i a b
    have hx' := hx
    have hy' := hy
    obtain ⟨p, xs, rfl, h1, h2⟩ := hx.tuple_inv
    obtain ⟨p', ys, rfl, h3, h4⟩ := hy.tuple_inv
    simp only [pAdd] at r
    split at r
    · rename_i hz
      have z1 := h2.length
      have z2 := h4.length
      refine op_catA pins s σ H _ _ v u Q I rx ry ⟨p, p', xs, ys, rfl, rfl, .inl (.inl (e _ _ h1)), .inl (.inl (e _ _ h3)), by rw [sizeLine_eq]; have hl : lim = 16777216 := rfl; omega, fun ex => ?_, fun _ ey => ?_, fun _ _ q hq => r.newT e hq (h2.append h4)⟩
      · rw [ex] at h2
        cases h2
        exact r.ok T e hy
      · rw [ey] at h4
        cases h4
        rw [List.append_nil] at r
        exact r.ok T e hx
    · exact False.elim r
theorem ob_sub : OpR X (binaryOp .Sub) (rOpV T X.K X.mg W pSub) := by
  intro pins s σ H x y v u Q I rx ry ⟨G, dx, dy, e, hx, hy, r⟩
  cases dx <;> cases dy <;> try exact False.elim r
  rename_i a b
  obtain rfl := hx.int_inv
  obtain rfl := hy.int_inv
  exact op_sub pins s σ H _ _ v u Q I rx ry ⟨a, b, rfl, rfl, r.ok T e (.int _)⟩
theorem ob_mul : OpR X (binaryOp .Mult) (rOpV T X.K X.mg W pMul) := by
  intro pins s σ H x y v u Q I rx ry ⟨G, dx, dy, e, hx, hy, r⟩
  cases dx <;> cases dy <;> try exact False.elim r
  · rename_i a b
    obtain rfl := hx.int_inv
    obtain rfl := hy.int_inv
    simp only [pMul] at r
    split at r
    · rename_i hz
      exact op_mul pins s σ H _ _ v u Q I rx ry ⟨a, b, rfl, rfl, hz, r.ok T e (.int _)⟩
    · exact False.elim r
  · rename_i a b
    obtain ⟨p, xs, rfl, h1, h2⟩ := hx.list_inv
    obtain rfl := hy.int_inv
    simp only [pMul] at r
    split at r
    · rename_i hz
      have z1 := h2.length
      refine op_repS pins s σ H _ _ v u Q I rx ry ⟨p, b, xs, rfl, rfl, e.sl h1, hz.2.1, hz.1, by rw [z1]; exact hz.2.2, fun q hq => r.new e hq ?_⟩
      have rep : ∀ m : Nat, Reps X.K G (List.replicate m xs).flatten (List.replicate m a).flatten := fun m => by
        induction m with
        | zero => exact .nil
        | succ m ih => rw [List.replicate_succ, List.replicate_succ, List.flatten_cons, List.flatten_cons]; exact h2.append ih
      exact rep _
    · exact False.elim r
theorem ob_fdiv : OpR X (binaryOp .FloorDiv) (rOpV T X.K X.mg W pFdiv) := by
  intro pins s σ H x y v u Q I rx ry ⟨G, dx, dy, e, hx, hy, r⟩
  cases dx <;> cases dy <;> try exact False.elim r
  rename_i a b
  obtain rfl := hx.int_inv
  obtain rfl := hy.int_inv
  simp only [pFdiv] at r
  split at r
  · rename_i hz
    exact op_fdivN pins s σ H _ _ v u Q I rx ry ⟨a, b, rfl, rfl, hz, r.ok T e (.int _)⟩
  · exact False.elim r
theorem ob_mod : OpR X (binaryOp .Mod) (rOpV T X.K X.mg W pMod) := by
  intro pins s σ H x y v u Q I rx ry ⟨G, dx, dy, e, hx, hy, r⟩
  cases dx <;> cases dy <;> try exact False.elim r
  rename_i a b
  obtain rfl := hx.int_inv
  obtain rfl := hy.int_inv
  simp only [pMod] at r
  split at r
  · rename_i hz
    exact op_modN pins s σ H _ _ v u Q I rx ry ⟨a, b, rfl, rfl, hz, r.ok T e (.int _)⟩
  · exact False.elim r
theorem ob_pow : OpR X (binaryOp .Pow) (rOpV T X.K X.mg W pPow) := by
  intro pins s σ H x y v u Q I rx ry ⟨G, dx, dy, e, hx, hy, r⟩
  cases dx <;> cases dy <;> try exact False.elim r
  rename_i a b
  obtain rfl := hx.int_inv
  obtain rfl := hy.int_inv
  simp only [pPow] at r
  split at r
  · rename_i hz
    exact op_pow pins s σ H _ _ v u Q I rx ry ⟨a, b, rfl, rfl, hz, r.ok T e (.int _)⟩
  · exact False.elim r
theorem ob_shl : OpR X (binaryOp .LShift) (rOpV T X.K X.mg W pShl) := by
  intro pins s σ H x y v u Q I rx ry ⟨G, dx, dy, e, hx, hy, r⟩
  cases dx <;> cases dy <;> try exact False.elim r
  rename_i a b
  obtain rfl := hx.int_inv
  obtain rfl := hy.int_inv
  simp only [pShl] at r
  split at r
  · rename_i hz
    exact op_shl pins s σ H _ _ v u Q I rx ry ⟨a, b, rfl, rfl, hz, r.ok T e (.int _)⟩
  · exact False.elim r
theorem ob_xor : OpR X (binaryOp .BitXor) (rOpV T X.K X.mg W pXor) := by
  intro pins s σ H x y v u Q I rx ry ⟨G, dx, dy, e, hx, hy, r⟩
  cases dx <;> cases dy <;> try exact False.elim r
  rename_i a b
  obtain rfl := hx.int_inv
  obtain rfl := hy.int_inv
  exact op_xor pins s σ H _ _ v u Q I rx ry ⟨a, b, rfl, rfl, r.ok T e (.int _)⟩
theorem ur_neg : UnR X (unaryOp .USub) (rUnD T X.K X.mg W pNeg) := by
  intro pins s σ H x v Q I rx ⟨G, dx, e, hx, r⟩
  cases dx <;> try exact False.elim r
  rename_i a
  obtain rfl := hx.int_inv
  exact un_neg pins s σ H _ v Q I rx ⟨a, rfl, r.ok T e (.int _)⟩
end
/-- the rule of an operator -/
structure OpOkV (T : Tab) (f : Value → Value → Sem Value) (op : D → D → R D) : Prop where
  ok : ∀ (X : Cx) (W : XK), OpR X f (rOpV T X.K X.mg W op)
structure OpOk (T : Tab) (f : Value → Value → Sem Value) (op : D → D → R D) : Prop where
  ok : ∀ (X : Cx) (W : XK) (N : List Str) (k : Nat) (ev : Ev) (sc : List (Str × NameKind)), Gd T N k ev sc X W → OpR X f (rOpD T X.K X.mg W op)
section
variable {T : Tab} {N : List Str} {k : Nat} {ev : Ev} {sc : List (Str × NameKind)} {a b : Expr} {f g : FE} {op : D → D → R D} {pos : Pos}
theorem rd_twoV {X : Cx} {W : XK} {σ : L2.St} {H : Hp} {Q : VK} (h : rd T X.K X.mg W (e2 op f g ev) (pV X.K) σ H Q) : tOp (rOpV T X.K X.mg W op) (rd T X.K X.mg W (f ev) (pV X.K)) (rd T X.K X.mg W (g ev) (pV X.K)) σ H Q := by
  obtain ⟨G, ρ, e, en, r⟩ := h
  refine ⟨G, ρ, e, en, ResG.seq T (g := fun x => (g ev ρ).bind fun y => op x y) r fun dx x G1 H1 s1 p1 r1 => ?_⟩
  refine ⟨G1, ρ, s1.in', en.up e s1, ResG.seq T (g := fun y => op dx y) r1 fun dy y G2 H2 s2 p2 r2 => ?_⟩
  exact ⟨G2, dx, dy, s2.in', p1.up s2.g, p2, r2⟩
theorem rd_two {X : Cx} {W : XK} {σ : L2.St} {H : Hp} {Q : VK} (h : rd T X.K X.mg W (e2 op f g ev) (pV X.K) σ H Q) : tOp (rOpD T X.K X.mg W op) (rd T X.K X.mg W (f ev) (pB X.K)) (rd T X.K X.mg W (g ev) (pB X.K)) σ H Q := by
  obtain ⟨G, ρ, e, en, r⟩ := h
  refine ⟨G, ρ, e, en, ResG.seq T (g := fun x => (g ev ρ).bind fun y => op x y) r fun dx x G1 H1 s1 p1 r1 => ?_⟩
  refine ⟨G1, ρ, s1.in', en.up e s1, ResG.seq T (g := fun y => op dx y) r1 fun dy y G2 H2 s2 p2 r2 => ?_⟩
  exact ⟨G2, dx, dy, s2.in', p1.up s2.g s2.h, p2, r2⟩
theorem sv_bin {o : Operator} (ho : OpOkV T (binaryOp o) op) (ha : SV T N k ev sc a f) (hb : SV T N k ev sc b g) : SV T N k ev sc (.BinOp a o b pos) (e2 op f g) := fun X W gd =>
  PE.mono (pe_op (ho.ok X W) (ha X W gd) (hb X W gd)) fun σ H Q h => rd_twoV h
theorem sv_cmp {o : CmpOp} (ho : OpOk T (compareOp o) op) (ha : SB T N k ev sc a f) (hb : SB T N k ev sc b g) (hm : behindInMarks o b = false) : SV T N k ev sc (.Compare a [o] [b] pos) (e2 op f g) := fun X W gd =>
  PE.mono (pe_cmpR (ho.ok X W N k ev sc gd) (ha X W gd) (hb X W gd) hm) fun σ H Q h => rd_two h
theorem sv_neg (ha : SB T N k ev sc a f) : SV T N k ev sc (.UnaryOp .USub a pos) (e1 pNeg f) := fun X W gd =>
  PE.mono (pe_un (ur_neg (T := T) (W := W)) (ha X W gd)) fun σ H Q ⟨G, ρ, e, en, r⟩ => ⟨G, ρ, e, en, ResG.seq T (g := pNeg) r fun dx x G1 H1 s1 p1 r1 => ⟨G1, dx, s1.in', p1, r1⟩⟩
end
end PV

/-! PV5: comparisons, tests, subscripts, displays. -/
namespace PV
open PySem L2

section
variable {K : PySem.W.Frag} {G H : Hp}
mutual
theorem Rep.dp (e : Ex G H) : ∀ (d : D) (v : V), d.canLay0 = true → Rep K G v d → Dp K H v d
  | .none, _, _, h => by cases h; exact .non
  | .bool b, _, _, h => by cases h; exact .bl b
  | .int i, _, _, h => by cases h; exact .int i
  | .str x, _, _, h => by cases h; exact .str x
  | .list ds, _, c, h => by
    cases h with
    | lst h1 h2 => exact .lst (e.sl h1) (Reps.dp e ds _ (by simpa [PyData.canLay0] using c) h2)
  | .tuple ds, _, c, h => by
    cases h with
    | tup h1 h2 => exact .tup (.inl (.inl (e _ _ h1))) (Reps.dp e ds _ (by simpa [PyData.canLay0] using c) h2)
  | .dict _, _, c, _ => by simp [PyData.canLay0] at c
theorem Reps.dp (e : Ex G H) : ∀ (ds : List D) (vs : List V), PyData.canLayAll0 ds = true → Reps K G vs ds → DpAll K H vs ds
  | [], _, _, h => by cases h; exact .nil
  | d :: ds, _, c, h => by
    cases h with
    | cons h1 h2 =>
      rw [PyData.canLayAll0, Bool.and_eq_true] at c
      exact .cons (Rep.dp e d _ c.1 h1) (Reps.dp e ds _ c.2 h2)
end
theorem RepH.dp (e : Ex G H) {d : D} {v : V} (c : d.canLay0 = true) (h : RepH K G H v d) : Dp K H v d := by
  cases h with
  | flat h => exact h.dp e d v c
  | lst h1 h2 => exact .lst h1 (Reps.dp e _ _ (by simpa [PyData.canLay0] using c) h2)
  | tupK h1 h2 => exact .tup (e.st h1) (Reps.dp e _ _ (by simpa [PyData.canLay0] using c) h2)
  | dK _ _ _ => simp [PyData.canLay0] at c
  | dT _ _ _ => simp [PyData.canLay0] at c
end
theorem shp_iff {d : D} : shp d = true ↔ d.canLay0 = true ∧ d.depth ≤ 64 := by unfold shp; rw [Bool.and_eq_true, decide_eq_true_eq]
theorem shp_shaped {d : D} (h : shp d = true) : SeqAt.shaped d = true := h

def pIs : D → D → R D
  | x, .none => pIsNone x
  | x, .bool b => pIsBool b x
  | _, _ => .bad
def pIsNot (x y : D) : R D := (pIs x y).bind pNot


section
variable {T : Tab} {X : Cx} {W : XK}
theorem or_eq (hu : X.A.units + 64 < cLine) : OpR X (compareOp .Eq) (rOpD T X.K X.mg W pEq) := by
  intro pins s σ H x y v u Q I rx ry ⟨G, dx, dy, e, hx, hy, r⟩
  simp only [pEq] at r
  split at r
  · rename_i hs
    rw [Bool.and_eq_true] at hs
    exact op_eqD hu pins s σ H x y v u Q I rx ry ⟨dx, dy, hx.dp e (shp_iff.mp hs.1).1, hy.dp e (shp_iff.mp hs.2).1, hs.1, hs.2, r.ok T e (.bl _)⟩
  · exact False.elim r
theorem or_ne (hu : X.A.units + 64 < cLine) : OpR X (compareOp .NotEq) (rOpD T X.K X.mg W pNe) := by
  intro pins s σ H x y v u Q I rx ry ⟨G, dx, dy, e, hx, hy, r⟩
  simp only [pNe] at r
  split at r
  · rename_i hs
    rw [Bool.and_eq_true] at hs
    exact op_neD hu pins s σ H x y v u Q I rx ry ⟨dx, dy, hx.dp e (shp_iff.mp hs.1).1, hy.dp e (shp_iff.mp hs.2).1, hs.1, hs.2, r.ok T e (.bl _)⟩
  · exact False.elim r
theorem or_lt : OpR X (compareOp .Lt) (rOpD T X.K X.mg W pLt) := by
  intro pins s σ H x y v u Q I rx ry ⟨G, dx, dy, e, hx, hy, r⟩
  cases dx <;> cases dy <;> try exact False.elim r
  · rename_i a b
    obtain rfl := hx.int_inv
    obtain rfl := hy.int_inv
    exact op_lt pins s σ H _ _ v u Q I rx ry ⟨a, b, rfl, rfl, r.ok T e (.bl _)⟩
  · rename_i a b
    obtain ⟨rfl, _⟩ := hx.str_inv
    obtain ⟨rfl, _⟩ := hy.str_inv
    exact op_lt_str pins s σ H _ _ v u Q I rx ry ⟨a, b, rfl, rfl, r.ok T e (.bl _)⟩
theorem or_gt : OpR X (compareOp .Gt) (rOpD T X.K X.mg W pGt) := by
  intro pins s σ H x y v u Q I rx ry ⟨G, dx, dy, e, hx, hy, r⟩
  cases dx <;> cases dy <;> try exact False.elim r
  · rename_i a b
    obtain rfl := hx.int_inv
    obtain rfl := hy.int_inv
    exact op_gt pins s σ H _ _ v u Q I rx ry ⟨a, b, rfl, rfl, r.ok T e (.bl _)⟩
  · rename_i a b
    obtain ⟨rfl, _⟩ := hx.str_inv
    obtain ⟨rfl, _⟩ := hy.str_inv
    exact op_gt_str pins s σ H _ _ v u Q I rx ry ⟨a, b, rfl, rfl, r.ok T e (.bl _)⟩
theorem or_le : OpR X (compareOp .LtE) (rOpD T X.K X.mg W pLe) := by
  intro pins s σ H x y v u Q I rx ry ⟨G, dx, dy, e, hx, hy, r⟩
  cases dx <;> cases dy <;> try exact False.elim r
  · rename_i a b
    obtain rfl := hx.int_inv
    obtain rfl := hy.int_inv
    exact op_le pins s σ H _ _ v u Q I rx ry ⟨a, b, rfl, rfl, r.ok T e (.bl _)⟩
  · rename_i a b
    obtain ⟨rfl, _⟩ := hx.str_inv
    obtain ⟨rfl, _⟩ := hy.str_inv
    exact op_le_str pins s σ H _ _ v u Q I rx ry ⟨a, b, rfl, rfl, r.ok T e (.bl _)⟩
theorem or_ge : OpR X (compareOp .GtE) (rOpD T X.K X.mg W pGe) := by
  intro pins s σ H x y v u Q I rx ry ⟨G, dx, dy, e, hx, hy, r⟩
  cases dx <;> cases dy <;> try exact False.elim r
  · rename_i a b
    obtain rfl := hx.int_inv
    obtain rfl := hy.int_inv
    exact op_ge pins s σ H _ _ v u Q I rx ry ⟨a, b, rfl, rfl, r.ok T e (.bl _)⟩
  · rename_i a b
    obtain ⟨rfl, _⟩ := hx.str_inv
    obtain ⟨rfl, _⟩ := hy.str_inv
    exact op_ge_str pins s σ H _ _ v u Q I rx ry ⟨a, b, rfl, rfl, r.ok T e (.bl _)⟩

/-! the key of a dict -/
theorem RepK.look : ∀ {vs : List (L2.Key × V)} {ds : List (D × D)} {K : PySem.W.Frag} {G : Hp} (k : L2.Key), RepK K G vs ds → match valV vs k, dLook ds (kD k) with
    | some v, some d => Rep K G v d
    | none, none => True
    | _, _ => False
  | _, _, K, G, k, .nil => by simp [valV, dLook]
  | _, _, K, G, k, @RepK.cons _ _ k' v' vs d' ds sk h t => by
    have ih := RepK.look k t
    have ek : PyData.eqv (kD k') (kD k) = decide (k' = k) := by
      cases k' with
      | inl i => cases k with
        | inl j => simp [kD, PyData.eqv, Bool.beq_eq_decide_eq]
        | inr y => simp [kD, PyData.eqv]
      | inr x => cases k with
        | inl j => simp [kD, PyData.eqv]
        | inr y => simp [kD, PyData.eqv, Bool.beq_eq_decide_eq]
    by_cases z : k' = k
    · rw [valV_pos (p := (k', v')) z, dLook, ek, decide_eq_true z]
      simpa using h
    · rw [valV_neg (p := (k', v')) z, dLook, ek, decide_eq_false z]
      simpa using ih
theorem kDs_eqv : ∀ (a b : List L2.Key), PyData.eqvAll (a.map kD) (b.map kD) = decide (a = b)
  | [], [] => by simp [PyData.eqvAll]
  | [], _ :: _ => by simp [PyData.eqvAll]
  | _ :: _, [] => by simp [PyData.eqvAll]
  | x :: xs, y :: ys => by
    have ek : PyData.eqv (kD x) (kD y) = decide (x = y) := by
      cases x with
      | inl i => cases y with
        | inl j => simp [kD, PyData.eqv, Bool.beq_eq_decide_eq]
        | inr y => simp [kD, PyData.eqv]
      | inr x => cases y with
        | inl j => simp [kD, PyData.eqv]
        | inr y => simp [kD, PyData.eqv, Bool.beq_eq_decide_eq]
    rw [List.map_cons, List.map_cons, PyData.eqvAll, ek, kDs_eqv xs ys]
    by_cases h1 : x = y <;> by_cases h2 : xs = ys <;> simp [h1, h2]
theorem RepT.look : ∀ {vs : List (List L2.Key × V)} {ds : List (D × D)} {K : PySem.W.Frag} {G : Hp} (k : List L2.Key), RepT K G vs ds → match valV vs k, dLook ds (.tuple (k.map kD)) with
    | some v, some d => Rep K G v d
    | none, none => True
    | _, _ => False
  | _, _, K, G, k, .nil => by simp [valV, dLook]
  | _, _, K, G, k, @RepT.cons _ _ k' v' vs d' ds sk h t => by
    have ih := RepT.look k t
    have ek : PyData.eqv (.tuple (k'.map kD)) (.tuple (k.map kD)) = decide (k' = k) := by rw [PyData.eqv, kDs_eqv]
    by_cases z : k' = k
    · rw [valV_pos (p := (k', v')) z, dLook, ek, decide_eq_true z]
      simpa using h
    · rw [valV_neg (p := (k', v')) z, dLook, ek, decide_eq_false z]
      simpa using ih
/-- a key of ints and texts has no key that is a tuple, and the other way round -/
theorem RepK.noT : ∀ {vs : List (L2.Key × V)} {ds : List (D × D)} {K : PySem.W.Frag} {G : Hp} (xs : List D), RepK K G vs ds → dLook ds (.tuple xs) = none
  | _, _, K, G, xs, .nil => rfl
  | _, _, K, G, xs, @RepK.cons _ _ k' v' vs d' ds sk h t => by
    rw [dLook]
    have : PyData.eqv (kD k') (.tuple xs) = false := by cases k' <;> simp [kD, PyData.eqv]
    rw [this]
    exact RepK.noT xs t
end

/-! ### tests -/
def eT (f : FE) : FT := fun ev ρ => (f ev ρ).bind truth
theorem rdT {T : Tab} {K : PySem.W.Frag} {mg : Str → Option Value} {W : XK} {G H : Hp} {b : Bool} {Q : Bool → Hp → Prop} (e : Ex G H) (r : ResG T K mg W G H (.ok b) pT Q) : Q b H := r.ok T e rfl
theorem tru_of {K : PySem.W.Frag} {G H : Hp} {v : V} {d : D} {b : Bool} (e : Ex G H) (h : RepH K G H v d) (ht : truth d = .ok b) : TruV K v H b := by
  cases d with
  | none => obtain rfl := h.none_inv; cases ht; rfl
  | bool c => obtain rfl := h.bool_inv; cases ht; rfl
  | int i => obtain rfl := h.int_inv; cases ht; rfl
  | str x =>
    obtain ⟨rfl, hx⟩ := h.str_inv
    cases ht
    refine ⟨by rw [sizeLine_eq]; exact hx.1, ?_⟩
    show (x.cps.size != 0) = ((x.cps.size : Int) != 0)
    cases q : x.cps.size with
    | zero => rfl
    | succ n => exact (bne_iff_ne.mpr (by omega : ((n + 1 : Nat)) ≠ 0)).trans (bne_iff_ne.mpr (by omega : (((n + 1 : Nat) : Int)) ≠ 0)).symm
  | list xs =>
    obtain ⟨a, vs, rfl, h1, h2⟩ := h.list_inv e
    cases ht
    refine .inl ⟨vs, h1, ?_⟩
    cases h2 <;> rfl
  | tuple xs =>
    obtain ⟨a, vs, rfl, h1, h2⟩ := h.tuple_inv
    cases ht
    refine .inr (.inl ⟨vs, e.st h1, ?_⟩)
    cases h2 <;> rfl
  | dict kvs => cases ht
end PV

/-! PV6: in, subscripts, slices. -/
namespace PV
open PySem L2

section
variable {T : Tab} {X : Cx} {W : XK}
theorem op_inTD (hu : X.A.units + 65 < cLine) : OpR X (compareOp .In) (fun x y H Q => ∃ d ds, Dp X.K H x d ∧ Dp X.K H y (.tuple ds) ∧ SeqAt.shaped d = true ∧ SeqAt.shaped (.tuple ds) = true ∧ Q (.bl (ds.any fun z => PyData.eqv z d)) H) := by
  intro pins s σ H x y v u Q I rx ry ⟨d, ds, hd, he, sd, se, q⟩
  obtain ⟨as, r1⟩ := Dp.reads I d x v hd rx
  obtain ⟨bs, r2⟩ := Dp.reads I (.tuple ds) y u he ry
  have h1 := SeqAt.depth_of_shaped sd
  refine SeqAt.in_tuple_reads r2 r1 (SeqAt.canLay_of_shaped se) (SeqAt.canLay_of_shaped sd) ?_ ⟨.bl _, H, I, rfl, q⟩
  have h2 := Nat.min_le_right (PyData.depthAll ds) d.depth
  show X.A.units + 1 + min (PyData.depthAll ds) d.depth < cLine
  omega
theorem op_notInTD (hu : X.A.units + 65 < cLine) : OpR X (compareOp .NotIn) (fun x y H Q => ∃ d ds, Dp X.K H x d ∧ Dp X.K H y (.tuple ds) ∧ SeqAt.shaped d = true ∧ SeqAt.shaped (.tuple ds) = true ∧ Q (.bl (!ds.any fun z => PyData.eqv z d)) H) := by
  intro pins s σ H x y v u Q I rx ry ⟨d, ds, hd, he, sd, se, q⟩
  obtain ⟨as, r1⟩ := Dp.reads I d x v hd rx
  obtain ⟨bs, r2⟩ := Dp.reads I (.tuple ds) y u he ry
  have h1 := SeqAt.depth_of_shaped sd
  refine SeqAt.notIn_tuple_reads r2 r1 (SeqAt.canLay_of_shaped se) (SeqAt.canLay_of_shaped sd) ?_ ⟨.bl _, H, I, rfl, q⟩
  have h2 := Nat.min_le_right (PyData.depthAll ds) d.depth
  show X.A.units + 1 + min (PyData.depthAll ds) d.depth < cLine
  omega
end

/-! ### dicts that are empty: of either kind of keys -/
section
variable {X : Cx} {pins : List (Addr × Obj)} {σ : L2.St} {H : Hp} {s : Shared} {a : Addr}
theorem Inv.flipT (I : L2.Inv X pins σ H s) (h : H a = some (.dK [])) : L2.Inv X pins σ (upd H a (.dT [])) s := by
  obtain ⟨z, hd, vs, rel, o, es, ep, ho, hx, hdat, hk, hp, hn⟩ := dk_of I.hok h
  cases rel
  have hnil : es.toList = [] := by
    generalize es.toList = l at hp
    cases hp
    rfl
  exact I.write (x := a) (e := a) (o := .dT []) (h' := s.heap) (t' := s.toks) (by rw [h]; exact True.intro) (.inl rfl) (fun _ _ _ q => q) ⟨_, ho⟩
    ⟨Nat.zero_le _, hd, [], .nil, o, es, ep, ho, hx, hdat, by rw [hnil]; rfl, List.nodup_nil⟩
theorem Inv.flipK (I : L2.Inv X pins σ H s) (h : H a = some (.dT [])) : L2.Inv X pins σ (upd H a (.dK [])) s := by
  obtain ⟨z, hd, xs, rel, o, es, ep, ho, hx, hdat, hes, hn⟩ : ObjOk X.prog X.w H s.heap a (.dT []) := I.hok a _ h
  cases rel
  have hnil : es.toList = [] := by rw [hes]; rfl
  have he : es = #[] := by
    apply Array.toList_inj.mp
    exact hnil
  subst he
  exact I.write (x := a) (e := a) (o := .dK []) (h' := s.heap) (t' := s.toks) (by rw [h]; exact True.intro) (.inl rfl) (fun _ _ _ q => q) ⟨_, ho⟩
    ⟨Nat.zero_le _, hd, [], .nil, o, #[], ep, ho, hx, hdat, fun e he => absurd he (by simp), .nil, List.nodup_nil⟩
end
/-- what a dict of any kind holds at a key of any kind (an empty one: nothing) -/
inductive DGt (H : Hp) (a : Addr) (y : V) : Option V → Prop
  | get {r : Option V} : DGet H a y r → DGt H a y r
  | eT {b : Addr} {k : List L2.Key} : H a = some (.dK []) → y = .ref b → H b = some (.tup (k.map kV)) → DGt H a y none
  | eK {k : L2.Key} : H a = some (.dT []) → y = kV k → DGt H a y none
section
variable {X : Cx} {pins : List (Addr × Obj)} {σ : L2.St} {H : Hp} {s : Shared} {a : Addr} {y v : V} {u : Value} {o : Option V} {A : Around} {E : Value → Shared → Prop}
theorem upd_back {o1 o2 : HO} (h : H a = some o1) : upd (upd H a o2) a o1 = H := by
  funext b
  by_cases z : b = a
  · subst z; rw [upd_same, h]
  · rw [upd_ne z, upd_ne z]
theorem DGt.flip (g : DGt H a y o) : (∃ H2 o1 o2, H a = some o1 ∧ H2 = upd H a o2 ∧ DGet H2 a y o ∧ ((o1 = .dK [] ∧ o2 = .dT []) ∨ (o1 = .dT [] ∧ o2 = .dK []))) ∨ DGet H a y o := by
  cases g with
  | get g => exact .inr g
  | eT h ey hb => 
    refine .inl ⟨_, _, .dT [], h, rfl, ?_, .inl ⟨rfl, rfl⟩⟩
    have nb : _ ≠ a := ne_of hb h (fun z => nomatch z)
    subst ey
    exact DGet.t (kvs := []) upd_same (by rw [upd_ne nb]; exact hb)
  | eK h ey =>
    refine .inl ⟨_, _, .dK [], h, rfl, ?_, .inr ⟨rfl, rfl⟩⟩
    subst ey
    exact DGet.k (kvs := []) upd_same
theorem Inv.fl {o1 o2 : HO} (I : L2.Inv X pins σ H s) (h : H a = some o1) (q : (o1 = .dK [] ∧ o2 = .dT []) ∨ (o1 = .dT [] ∧ o2 = .dK [])) : L2.Inv X pins σ (upd H a o2) s := by
  rcases q with ⟨rfl, rfl⟩ | ⟨rfl, rfl⟩
  · exact Inv.flipT I h
  · exact Inv.flipK I h
theorem Inv.flb {o1 o2 : HO} (h : H a = some o1) (q : (o1 = .dK [] ∧ o2 = .dT []) ∨ (o1 = .dT [] ∧ o2 = .dK [])) {s' : Shared} (I : L2.Inv X pins σ (upd H a o2) s') : L2.Inv X pins σ H s' := by
  have I2 := Inv.fl (o1 := o2) (o2 := o1) I upd_same (by rcases q with ⟨rfl, rfl⟩ | ⟨rfl, rfl⟩ <;> simp)
  rw [upd_back h] at I2
  exact I2
theorem g_in {Q : Value → Shared → Prop} (hu : A.units + 1 < cLine) (I : L2.Inv X pins σ H s) (g : DGt H a y o) (ry : RelV y u) (h : ∀ s', L2.Inv X pins σ H s' → Q (.bool o.isSome) s') : wpAny (model X.prog X.w) A (compareOp .In u (.ref a)) Q E s := by
  rcases g.flip with ⟨H2, o1, o2, h1, rfl, g2, q⟩ | g2
  · exact d_in hu (Inv.fl I h1 q) g2 ry fun s' I' => h s' (Inv.flb h1 q I')
  · exact d_in hu I g2 ry h
theorem g_notIn {Q : Value → Shared → Prop} (hu : A.units + 1 < cLine) (I : L2.Inv X pins σ H s) (g : DGt H a y o) (ry : RelV y u) (h : ∀ s', L2.Inv X pins σ H s' → Q (.bool (!o.isSome)) s') : wpAny (model X.prog X.w) A (compareOp .NotIn u (.ref a)) Q E s := by
  rcases g.flip with ⟨H2, o1, o2, h1, rfl, g2, q⟩ | g2
  · exact d_notIn hu (Inv.fl I h1 q) g2 ry fun s' I' => h s' (Inv.flb h1 q I')
  · exact d_notIn hu I g2 ry h
theorem g_get1 {Q : Value → Shared → Prop} (hu : A.units + 1 < cLine) (I : L2.Inv X pins σ H s) (g : DGt H a y o) (ry : RelV y u) (h : ∀ w' s', L2.Inv X pins σ H s' → RelV (o.getD .non) w' → Q w' s') : wpAny (model X.prog X.w) A (call (.builtin "dict.get") [.ref a, u]) Q E s := by
  rcases g.flip with ⟨H2, o1, o2, h1, rfl, g2, q⟩ | g2
  · exact d_get1 hu (Inv.fl I h1 q) g2 ry fun w' s' I' => h w' s' (Inv.flb h1 q I')
  · exact d_get1 hu I g2 ry h
theorem g_get2 {d : V} {r : Value} {Q : Value → Shared → Prop} (hu : A.units + 1 < cLine) (I : L2.Inv X pins σ H s) (g : DGt H a y o) (ry : RelV y u) (rd : RelV d r) (h : ∀ w' s', L2.Inv X pins σ H s' → RelV (o.getD d) w' → Q w' s') : wpAny (model X.prog X.w) A (call (.builtin "dict.get") [.ref a, u, r]) Q E s := by
  rcases g.flip with ⟨H2, o1, o2, h1, rfl, g2, q⟩ | g2
  · exact d_get2 hu (Inv.fl I h1 q) g2 ry rd fun w' s' I' => h w' s' (Inv.flb h1 q I')
  · exact d_get2 hu I g2 ry rd h
end

/-! ### keys as data -/
theorem flat_key {d : D} (h : isFlat d = true) : ∃ k, d = kD k := by
  cases d with
  | int i => exact ⟨.inl i, rfl⟩
  | str x => exact ⟨.inr x, rfl⟩
  | _ => cases h
theorem tup_key {d : D} (h : isTup d = true) : ∃ ks : List L2.Key, d = .tuple (ks.map kD) := by
  cases d with
  | tuple xs =>
    have h : xs.all isFlat = true := h
    have go : ∀ ys : List D, ys.all isFlat = true → ∃ ks : List L2.Key, ys = ks.map kD := by
      intro ys
      induction ys with
      | nil => intro _; exact ⟨[], rfl⟩
      | cons x xs ih =>
        intro h
        rw [List.all_cons, Bool.and_eq_true] at h
        obtain ⟨k, rfl⟩ := flat_key h.1
        obtain ⟨ks, e⟩ := ih h.2
        exact ⟨k :: ks, by rw [e]; rfl⟩
    obtain ⟨ks, e⟩ := go xs h
    exact ⟨ks, by rw [e]⟩
  | _ => cases h
section
variable {K : PySem.W.Frag} {G H : Hp}
theorem Rep.key {v : V} {k : L2.Key} (h : Rep K G v (kD k)) : v = kV k ∧ KOk k := by
  cases k with
  | inl i =>
    have h : Rep K G v (.int i) := h
    exact ⟨h.int_inv, True.intro⟩
  | inr x =>
    have h : Rep K G v (.str x) := h
    exact h.str_inv
theorem Reps.keys : ∀ {ks : List L2.Key} {vs : List V}, Reps K G vs (ks.map kD) → vs = ks.map kV ∧ ∀ x ∈ ks, KOk x
  | [], _, h => by cases h; exact ⟨rfl, fun _ q => nomatch q⟩
  | k :: ks, _, h => by
    rw [List.map_cons] at h
    cases h with
    | cons h1 h2 =>
      obtain ⟨e1, s1⟩ := h1.key
      obtain ⟨e2, s2⟩ := Reps.keys h2
      refine ⟨by rw [e1, e2]; rfl, fun x hx => ?_⟩
      rcases List.mem_cons.mp hx with z | z
      · rw [z]; exact s1
      · exact s2 x z
theorem keyOk_nil {y : D} : keyOk [] y = (isFlat y || isTup y) := rfl
/-- the value at a key -/
theorem dgt_of (e : Ex G H) {a : Addr} {kvs : List (D × D)} {y : V} {d : D} (ok : keyOk kvs d = true) (hy : Rep K G y d)
    (h : (∃ vs, H a = some (.dK vs) ∧ (vs.map (·.1)).Nodup ∧ RepK K G vs kvs) ∨ ∃ vs, H a = some (.dT vs) ∧ (vs.map (·.1)).Nodup ∧ RepT K G vs kvs) :
    ∃ o, DGt H a y o ∧ match o, dLook kvs d with
      | some v, some d => Rep K G v d
      | none, none => True
      | _, _ => False := by
  have flat : ∀ k : L2.Key, d = kD k → (∃ vs, H a = some (.dK vs) ∧ RepK K G vs kvs) ∨ (H a = some (.dT []) ∧ kvs = []) → ∃ o, DGt H a y o ∧ match o, dLook kvs d with
      | some v, some d => Rep K G v d
      | none, none => True
      | _, _ => False := fun k ed q => by
    subst ed
    obtain ⟨rfl, _⟩ := hy.key
    rcases q with ⟨vs, h1, h2⟩ | ⟨h1, rfl⟩
    · exact ⟨_, .get (DGet.k h1), RepK.look k h2⟩
    · exact ⟨none, .eK h1 rfl, by simp [dLook]⟩
  have tupl : ∀ ks : List L2.Key, d = .tuple (ks.map kD) → (∃ vs, H a = some (.dT vs) ∧ RepT K G vs kvs) ∨ (H a = some (.dK []) ∧ kvs = []) → ∃ o, DGt H a y o ∧ match o, dLook kvs d with
      | some v, some d => Rep K G v d
      | none, none => True
      | _, _ => False := fun ks ed q => by
    subst ed
    obtain ⟨b, xs, rfl, hb, hr⟩ := hy.tuple_inv
    obtain ⟨rfl, _⟩ := hr.keys
    rcases q with ⟨vs, h1, h2⟩ | ⟨h1, rfl⟩
    · exact ⟨_, .get (DGet.t h1 (e _ _ hb)), RepT.look ks h2⟩
    · exact ⟨none, .eT h1 rfl (e _ _ hb), by simp [dLook]⟩
  cases kvs with
  | nil =>
    rw [keyOk_nil, Bool.or_eq_true] at ok
    rcases ok with ok | ok
    · obtain ⟨k, ek⟩ := flat_key ok
      rcases h with ⟨vs, h1, _, h2⟩ | ⟨vs, h1, _, h2⟩
      · exact flat k ek (.inl ⟨vs, h1, h2⟩)
      · cases h2; exact flat k ek (.inr ⟨h1, rfl⟩)
    · obtain ⟨k, ek⟩ := tup_key ok
      rcases h with ⟨vs, h1, _, h2⟩ | ⟨vs, h1, _, h2⟩
      · cases h2; exact tupl k ek (.inr ⟨h1, rfl⟩)
      · exact tupl k ek (.inl ⟨vs, h1, h2⟩)
  | cons p r =>
    obtain ⟨k0, d0⟩ := p
    have ok : (isFlat k0 && isFlat d || isTup k0 && isTup d) = true := ok
    rw [Bool.or_eq_true, Bool.and_eq_true, Bool.and_eq_true] at ok
    rcases ok with ⟨o1, o2⟩ | ⟨o1, o2⟩
    · obtain ⟨k, ek⟩ := flat_key o2
      rcases h with ⟨vs, h1, _, h2⟩ | ⟨vs, h1, _, h2⟩
      · exact flat k ek (.inl ⟨vs, h1, h2⟩)
      · cases h2; cases o1
    · obtain ⟨k, ek⟩ := tup_key o2
      rcases h with ⟨vs, h1, _, h2⟩ | ⟨vs, h1, _, h2⟩
      · cases h2 with
        | @cons k' _ _ _ _ _ _ _ => cases k' <;> cases o1
      · exact tupl k ek (.inl ⟨vs, h1, h2⟩)
end
end PV

/-! PV7: in, is, subscripts, slices as operators. -/
namespace PV
open PySem L2

section
variable (T : Tab) (K : PySem.W.Frag) (mg : Str → Option Value) (W : XK)
def rOpBV (op : D → D → R D) : R2 := fun x y H Q => ∃ G dx dy, Ex G H ∧ RepH K G H x dx ∧ Rep K G y dy ∧ ResG T K mg W G H (op dx dy) (pV K) Q
def rOpVB (op : D → D → R D) : R2 := fun x y H Q => ∃ G dx dy, Ex G H ∧ Rep K G x dx ∧ RepH K G H y dy ∧ ResG T K mg W G H (op dx dy) (pV K) Q
end
section
variable {T : Tab} {X : Cx} {W : XK}
theorem okOf {K : PySem.W.Frag} {G : Hp} {o : Option V} {r : Option D} (h : match o, r with
      | some v, some d => Rep K G v d
      | none, none => True
      | _, _ => False) : o.isSome = r.isSome := by
  cases o <;> cases r <;> first | rfl | exact h.elim
theorem or_in (hu : X.A.units + 65 < cLine) : OpR X (compareOp .In) (rOpVB T X.K X.mg W pIn) := by
  intro pins s σ H x y v u Q I rx ry ⟨G, dx, dy, e, hx, hy, r⟩
  cases dy with
  | list ys =>
    simp only [pIn] at r
    split at r
    · rename_i hs
      rw [Bool.and_eq_true] at hs
      exact op_inD hu pins s σ H x y v u Q I rx ry ⟨dx, ys, hx.dp e dx x (shp_iff.mp hs.1).1, hy.dp e (shp_iff.mp hs.2).1, hs.1, hs.2, r.ok T e (.bl _)⟩
    · exact False.elim r
  | tuple ys =>
    simp only [pIn] at r
    split at r
    · rename_i hs
      rw [Bool.and_eq_true] at hs
      exact op_inTD hu pins s σ H x y v u Q I rx ry ⟨dx, ys, hx.dp e dx x (shp_iff.mp hs.1).1, hy.dp e (shp_iff.mp hs.2).1, hs.1, hs.2, r.ok T e (.bl _)⟩
    · exact False.elim r
  | str b =>
    cases dx with
    | str a =>
      obtain ⟨rfl, _⟩ := hx.str_inv
      obtain ⟨rfl, _⟩ := hy.str_inv
      exact op_in_str pins s σ H _ _ v u Q I rx ry ⟨a, b, rfl, rfl, r.ok T e (.bl _)⟩
    | _ => exact False.elim r
  | dict kvs =>
    have r : ResG T X.K X.mg W G H (if keyOk kvs dx then R.ok (PyData.bool (dLook kvs dx).isSome) else R.bad) (pV X.K) Q := by
      cases dx <;> exact r
    split at r
    · rename_i ok
      obtain ⟨a, rfl, h⟩ := hy.dict_inv e
      obtain ⟨o, g, m⟩ := dgt_of e ok hx h
      obtain rfl : u = Value.ref a := ry
      refine g_in (by omega) I g rx fun s' I' => ⟨.bl o.isSome, H, I', rfl, ?_⟩
      rw [okOf m]
      exact r.ok T e (.bl _)
    · exact False.elim r
  | none => cases dx <;> exact False.elim r
  | bool b => cases dx <;> exact False.elim r
  | int i => cases dx <;> exact False.elim r
theorem pNot_in {dx dy : D} {b : Bool} (h : pIn dx dy = .ok (.bool b)) : pNotIn dx dy = .ok (.bool (!b)) := by unfold pNotIn; rw [h]; rfl
theorem or_notin (hu : X.A.units + 65 < cLine) : OpR X (compareOp .NotIn) (rOpVB T X.K X.mg W pNotIn) := by
  intro pins s σ H x y v u Q I rx ry ⟨G, dx, dy, e, hx, hy, r⟩
  unfold pNotIn at r
  cases dy with
  | list ys =>
    simp only [pIn] at r
    split at r
    · rename_i hs
      rw [Bool.and_eq_true] at hs
      exact op_notInD hu pins s σ H x y v u Q I rx ry ⟨dx, ys, hx.dp e dx x (shp_iff.mp hs.1).1, hy.dp e (shp_iff.mp hs.2).1, hs.1, hs.2, r.ok T e (.bl _)⟩
    · exact False.elim r
  | tuple ys =>
    simp only [pIn] at r
    split at r
    · rename_i hs
      rw [Bool.and_eq_true] at hs
      exact op_notInTD hu pins s σ H x y v u Q I rx ry ⟨dx, ys, hx.dp e dx x (shp_iff.mp hs.1).1, hy.dp e (shp_iff.mp hs.2).1, hs.1, hs.2, r.ok T e (.bl _)⟩
    · exact False.elim r
  | str b =>
    cases dx with
    | str a =>
      obtain ⟨rfl, _⟩ := hx.str_inv
      obtain ⟨rfl, _⟩ := hy.str_inv
      exact op_notin_str pins s σ H _ _ v u Q I rx ry ⟨a, b, rfl, rfl, r.ok T e (.bl _)⟩
    | _ => exact False.elim r
  | dict kvs =>
    have r : ResG T X.K X.mg W G H ((if keyOk kvs dx then R.ok (PyData.bool (dLook kvs dx).isSome) else R.bad).bind pNot) (pV X.K) Q := by
      cases dx <;> exact r
    split at r
    · rename_i ok
      obtain ⟨a, rfl, h⟩ := hy.dict_inv e
      obtain ⟨o, g, m⟩ := dgt_of e ok hx h
      obtain rfl : u = Value.ref a := ry
      refine g_notIn (by omega) I g rx fun s' I' => ⟨.bl (!o.isSome), H, I', rfl, ?_⟩
      rw [okOf m]
      exact r.ok T e (.bl _)
    · exact False.elim r
  | none => cases dx <;> exact False.elim r
  | bool b => cases dx <;> exact False.elim r
  | int i => cases dx <;> exact False.elim r
theorem nonDec {K : PySem.W.Frag} {G H : Hp} {x : V} {d : D} (h : RepH K G H x d) : decide (x = V.non) = isNoneD d := by
  unfold isNoneD
  cases h with
  | flat h => cases h <;> simp
  | lst _ _ => simp
  | tupK _ _ => simp
  | dK _ _ _ => simp
  | dT _ _ _ => simp
theorem or_is : OpR X (compareOp .Is) (rOpD T X.K X.mg W pIs) := by
  intro pins s σ H x y v u Q I rx ry ⟨G, dx, dy, e, hx, hy, r⟩
  cases dy with
  | none =>
    obtain rfl := hy.none_inv
    refine op_isN pins s σ H _ _ v u Q I rx ry ⟨rfl, ?_⟩
    rw [nonDec hx]
    exact r.ok T e (.bl _)
  | bool b =>
    obtain rfl := hy.bool_inv
    cases dx with
    | bool a =>
      obtain rfl := hx.bool_inv
      refine op_isBl pins s σ H _ _ v u Q I rx ry ⟨a, b, rfl, rfl, ?_⟩
      have r : ResG T X.K X.mg W G H (.ok (.bool (a == b))) (pV X.K) Q := r
      rw [← Bool.beq_eq_decide_eq]
      exact r.ok T e (.bl _)
    | _ => exact False.elim r
  | _ => cases dx <;> exact False.elim r
theorem or_isnot : OpR X (compareOp .IsNot) (rOpD T X.K X.mg W pIsNot) := by
  intro pins s σ H x y v u Q I rx ry ⟨G, dx, dy, e, hx, hy, r⟩
  unfold pIsNot at r
  cases dy with
  | none =>
    obtain rfl := hy.none_inv
    refine op_notN pins s σ H _ _ v u Q I rx ry ⟨rfl, ?_⟩
    rw [nonDec hx]
    exact r.ok T e (.bl _)
  | bool b =>
    obtain rfl := hy.bool_inv
    cases dx with
    | bool a =>
      obtain rfl := hx.bool_inv
      refine op_notBl pins s σ H _ _ v u Q I rx ry ⟨a, b, rfl, rfl, ?_⟩
      have r : ResG T X.K X.mg W G H (.ok (.bool (!(a == b)))) (pV X.K) Q := r
      rw [← Bool.beq_eq_decide_eq]
      exact r.ok T e (.bl _)
    | _ => exact False.elim r
  | _ => cases dx <;> exact False.elim r

/-! subscripts -/
theorem ix_dict (hu : X.A.units + 1 < cLine) : IxR X (fun x y H Q => ∃ (a : Addr) (v : V), x = .ref a ∧ DGet H a y (some v) ∧ Q v H) := by
  intro value slice pins s σ H x y v u Q I rx ry h hs
  obtain ⟨a, w, rfl, g, q⟩ := h
  obtain rfl : v = Value.ref a := rx
  exact PyProof.Rows.tail_any (dict_typeIs I g) PySem.F.slot_dict_getitem.lookup (d_getItem hu I g ry fun w' s' I' r' => ⟨w, H, I', r', q⟩) hs
theorem ixAt_ixN (n : Nat) (i : Int) : ixAt n i = ixN n i := by
  unfold ixAt ixN
  by_cases h : 0 ≤ i
  · rw [if_pos h, if_pos h]
  · rw [if_neg h, if_neg h, Int.add_comm]
theorem reps_at {K : PySem.W.Frag} {G : Hp} {vs : List V} {ds : List D} {i : Int} {d : D} (r : Reps K G vs ds) (h : (ixAt ds.length i).bind (fun j => ds[j]?) = some d) : ∃ v, atI vs i = some v ∧ Rep K G v d := by
  rw [ixAt_ixN] at h
  unfold atI
  rw [r.length]
  cases q : ixN ds.length i with
  | none => rw [q] at h; cases h
  | some j =>
    rw [q] at h
    obtain ⟨v, h1, h2⟩ := r.get (i := j) h
    exact ⟨v, h1, h2⟩
theorem ir_idx (hu : X.A.units + 1 < cLine) : IxR X (rOpBV T X.K X.mg W pIdx) := by
  intro value slice pins s σ H x y v u Q I rx ry ⟨G, dx, dy, e, hx, hy, r⟩ hs
  cases dx with
  | list ds =>
    cases dy with
    | int i =>
      obtain ⟨a, vs, rfl, h1, h2⟩ := hx.list_inv e
      obtain rfl := hy.int_inv
      simp only [pIdx] at r
      split at r
      · rename_i d hd
        obtain ⟨w, hw, rw'⟩ := reps_at h2 hd
        exact ix_list value slice pins s σ H _ _ v u Q I rx ry ⟨a, vs, i, w, rfl, rfl, h1, hw, r.ok T e rw'⟩ hs
      · exact False.elim r
    | _ => exact False.elim r
  | tuple ds =>
    cases dy with
    | int i =>
      obtain ⟨a, vs, rfl, h1, h2⟩ := hx.tuple_inv
      obtain rfl := hy.int_inv
      simp only [pIdx] at r
      split at r
      · rename_i d hd
        obtain ⟨w, hw, rw'⟩ := reps_at h2 hd
        exact ix_tup value slice pins s σ H _ _ v u Q I rx ry ⟨a, vs, i, w, rfl, rfl, e.st h1, hw, r.ok T e rw'⟩ hs
      · exact False.elim r
    | _ => exact False.elim r
  | str z =>
    cases dy with
    | int i =>
      obtain ⟨rfl, hz⟩ := hx.str_inv
      obtain rfl := hy.int_inv
      simp only [pIdx] at r
      split at r
      · rename_i c hc
        rw [ixAt_ixN] at hc
        refine ix_str value slice pins s σ H _ _ v u Q I rx ry ⟨z, i, c, rfl, rfl, by rw [sizeLine_eq]; exact hz.1, ?_, r.ok T e (.str _ ?_)⟩ hs
        · unfold atI
          rw [Array.length_toList]; exact hc
        · refine ⟨by show 1 ≤ lim; decide, ?_⟩
          cases q : ixN z.cps.size i with
          | none => rw [q] at hc; cases hc
          | some j =>
            rw [q] at hc
            have hc : z.cps.toList[j]? = some c := hc
            have h2 := hz.2
            unfold PyData.strOk at h2 ⊢
            rw [← Array.all_toList, List.all_eq_true] at h2
            have := h2 c (List.mem_of_getElem? hc)
            simpa using this
      · exact False.elim r
    | _ => exact False.elim r
  | dict kvs =>
    have r : ResG T X.K X.mg W G H (if keyOk kvs dy then (match dLook kvs dy with
      | some d => .ok d
      | none => .bad) else .bad) (pV X.K) Q := by cases dy <;> exact r
    split at r
    · rename_i ok
      obtain ⟨a, rfl, h⟩ := hx.dict_inv e
      obtain ⟨o, g, m⟩ := dgt_of e ok hy h
      cases q : dLook kvs dy with
      | none => rw [q] at r; exact False.elim r
      | some d =>
        rw [q] at r m
        cases o with
        | none => exact m.elim
        | some w =>
          cases g with
          | get g => exact ix_dict hu value slice pins s σ H _ y v u Q I rx ry ⟨a, w, rfl, g, r.ok T e m⟩ hs
    · exact False.elim r
  | none => cases dy <;> exact False.elim r
  | bool b => cases dy <;> exact False.elim r
  | int i => cases dy <;> exact False.elim r

/-! slices -/
theorem cutIx_sIx (n d : Nat) (o : Option Int) : cutIx n d o = HT.sIx n d o := by
  cases o with
  | none => rfl
  | some i =>
    show (if i < 0 then ((n : Int) + i).toNat else min i.toNat n) = (if i < 0 then (i + (n : Int)).toNat else min i.toNat n)
    rw [Int.add_comm]
theorem reps_cut {K : PySem.W.Frag} {G : Hp} {vs : List V} {ds : List D} (r : Reps K G vs ds) (lo hi : Option Int) : Reps K G (cutV vs lo hi) (cutL ds lo hi) := by
  unfold cutV cutL
  rw [r.length, cutIx_sIx, cutIx_sIx]
  exact (r.drop _).take _
def rSlD (T : Tab) (K : PySem.W.Frag) (mg : Str → Option Value) (W : XK) : V → Option Int → Option Int → Hp → VK → Prop := fun x lo hi H Q => ∃ G dx, Ex G H ∧ RepH K G H x dx ∧ ResG T K mg W G H (pCut lo hi dx) (pV K) Q ∧ ∀ ds, dx = .tuple ds → Rep K G x dx
theorem strOkay_sub {x : Str} {ys : List Nat} (h : StrOkay x) (hs : ∀ c ∈ ys, c ∈ x.cps.toList) (hl : ys.length ≤ x.cps.size) : StrOkay ⟨ys.toArray⟩ := by
  refine ⟨by rw [List.size_toArray]; exact Nat.le_trans hl h.1, ?_⟩
  have h2 := h.2
  unfold PyData.strOk at h2 ⊢
  rw [← Array.all_toList, List.all_eq_true] at h2 ⊢
  exact fun c hc => h2 c (hs c (by simpa using hc))
theorem sl_D : SlR X (rSlD T X.K X.mg W) := by
  intro pins s σ H x v vl vu lo hi sl Q I rx hs pl pu ⟨G, dx, e, hx, r, ht⟩
  cases dx with
  | list ds =>
    obtain ⟨a, vs, rfl, h1, h2⟩ := hx.list_inv e
    exact sl_list pins s σ H _ v vl vu lo hi sl Q I rx hs pl pu ⟨a, vs, rfl, h1, fun p hp => r.new e hp (reps_cut h2 lo hi)⟩
  | tuple ds =>
    obtain ⟨a, vs, rfl, h1, h2⟩ := (ht ds rfl).tuple_inv
    refine sl_tupA pins s σ H _ v vl vu lo hi sl Q I rx hs pl pu ⟨a, vs, rfl, .inl (.inl (e _ _ h1)), fun ⟨w1, w2⟩ => ?_, fun _ p hp => r.newT e hp (reps_cut h2 lo hi)⟩
    have whole : cutL ds lo hi = ds := by
      unfold cutL
      rw [cutIx_sIx, cutIx_sIx, ← h2.length, w1, w2, List.drop_zero, Nat.sub_zero, h2.length, List.take_length]
    have r : ResG T X.K X.mg W G H (.ok (.tuple (cutL ds lo hi))) (pV X.K) Q := r
    rw [whole] at r
    exact r.ok T e (.tup h1 h2)
  | str z =>
    obtain ⟨rfl, hz⟩ := hx.str_inv
    refine sl_str pins s σ H _ v vl vu lo hi sl Q I rx hs pl pu ⟨z, rfl, by rw [sizeLine_eq]; exact hz.1, ?_⟩
    have r : ResG T X.K X.mg W G H (.ok (.str ⟨(cutL z.cps.toList lo hi).toArray⟩)) (pV X.K) Q := r
    have ez : cutS z lo hi = ⟨(cutL z.cps.toList lo hi).toArray⟩ := by
      unfold cutS cutL
      rw [cutIx_sIx, cutIx_sIx, Array.length_toList]
      rfl
    rw [ez]
    refine r.ok T e (.str _ (strOkay_sub hz (fun c hc => ?_) ?_))
    · unfold cutL at hc
      exact List.mem_of_mem_drop (List.mem_of_mem_take hc)
    · unfold cutL
      rw [List.length_take, List.length_drop, Array.length_toList]
      omega
  | _ => exact False.elim r
end
end PV

/-! PV8: tests, and, or, not, if-else, chains, subscripts, slices. -/
namespace PV
open PySem L2

def toB : D → R Bool
  | .bool b => .ok b
  | _ => .bad
def eTB (f : FE) : FT := fun ev ρ => (f ev ρ).bind toB
def eTAnd (f g : FT) : FT := fun ev ρ => (f ev ρ).bind fun b => if b = true then g ev ρ else .ok false
def eTOr (f g : FT) : FT := fun ev ρ => (f ev ρ).bind fun b => if b = true then .ok true else g ev ρ
def eTNot (f : FT) : FT := fun ev ρ => (f ev ρ).bind fun b => .ok (!b)
def eAnd (f g : FE) : FE := fun ev ρ => (f ev ρ).bind fun d => (truth d).bind fun b => if b = true then g ev ρ else .ok d
def eOr (f g : FE) : FE := fun ev ρ => (f ev ρ).bind fun d => (truth d).bind fun b => if b = true then .ok d else g ev ρ
def eNot (f : FE) : FE := fun ev ρ => (f ev ρ).bind fun d => (truth d).bind fun b => .ok (.bool (!b))
def eIf (c : FT) (f g : FE) : FE := fun ev ρ => (c ev ρ).bind fun b => if b = true then f ev ρ else g ev ρ
/-- a op1 b op2 c -/
def eChain (op op' : D → D → R D) (f g h : FE) : FE := fun ev ρ => (f ev ρ).bind fun x => (g ev ρ).bind fun y => (op x y).bind fun z => (toB z).bind fun b => if b = true then (h ev ρ).bind fun w => op' y w else .ok (.bool false)

/-- its test is its value's truth -/
def PlainT : Expr → Bool
  | .Name .. => true
  | .Call .. => true
  | .Subscript .. => true
  | .Constant .. => true
  | .BinOp .. => true
  | _ => false
theorem plainT {e : Expr} (h : PlainT e = true) (env : Env) : ∀ whole, isTrue e env whole = (do let v ← whole; standAt e.pos; holding [v] (truthy v)) := by
  intro whole
  cases e <;> first | rfl | cases h
def PlainI : Expr → Bool
  | .Slice .. => false
  | _ => true

section
variable {T : Tab} {N : List Str} {k : Nat} {ev : Ev} {sc : List (Str × NameKind)} {a b c : Expr} {rest : List Expr} {pos : Pos} {f g h : FE} {t u : FT} {op op' : D → D → R D}
theorem st_truth (hp : PlainT a = true) (ha : SB T N k ev sc a f) : ST T N k ev sc a (eT f) := fun X W gd => by
  refine PT.mono (pt_truth (ha X W gd) (plainT hp _)) fun σ H Q ⟨G, ρ, e1, en, r⟩ => ?_
  refine ⟨G, ρ, e1, en, r.seq T fun d v G1 H1 s1 p r1 => ?_⟩
  cases q : truth d with
  | ok b => rw [q] at r1; exact ⟨b, tru_of s1.in' p q, r1.ok T s1.in' rfl⟩
  | exc _ _ => cases d <;> cases q
  | bad => rw [q] at r1; exact r1.elim
theorem st_bool (hp : PlainT a = true) (ha : SV T N k ev sc a f) : ST T N k ev sc a (eT f) := st_truth hp ha.b
theorem toB_exc {d : D} {c : Nat} {z : D} (h : toB d = .exc c z) : False := by cases d <;> cases h
/-- what a bool-valued reading gives to a test -/
theorem rd_toB {X : Cx} {W : XK} {F : Rho → R D} {σ : L2.St} {H : Hp} {Q : Bool → Hp → Prop} (hh : rd T X.K X.mg W (fun ρ => (F ρ).bind toB) pT σ H Q) : rd T X.K X.mg W F (pV X.K) σ H (fun x H' => ∃ k, x = .bl k ∧ Q k H') := by
  obtain ⟨G, ρ, e1, en, r⟩ := hh
  refine ⟨G, ρ, e1, en, r.seq T fun d v G1 H1 s1 p r1 => ?_⟩
  cases d with
  | bool b =>
    obtain rfl := p.bool_inv
    exact ⟨b, rfl, r1.ok T s1.in' rfl⟩
  | _ => exact False.elim r1
theorem st_cmp {o : CmpOp} (ho : OpOk T (compareOp o) op) (ha : SB T N k ev sc a f) (hb : SB T N k ev sc b g) (hm : behindInMarks o b = false) : ST T N k ev sc (.Compare a [o] [b] pos) (eTB (e2 op f g)) := fun X W gd =>
  PT.mono (pt_cmpR (ho.ok X W N k ev sc gd) (ha X W gd) (hb X W gd) hm) fun σ H Q hh => rd_two (rd_toB (F := fun ρ => e2 op f g ev ρ) hh)
def SPW (T : Tab) (N : List Str) (k : Nat) (ev : Ev) (sc : List (Str × NameKind)) (e : Expr) (f : FT) : Prop := ∀ X W, Gd T N k ev sc X W → PW X e (rd T X.K X.mg W (f ev) pT)
theorem SPW.st (hh : SPW T N k ev sc a t) : ST T N k ev sc a t := fun X W gd => (hh X W gd).pt
theorem PW.mono {X : Cx} {e : Expr} {t t' : TT} (h : PW X e t) (i : ∀ σ H Q, t' σ H Q → t σ H Q) : PW X e t' := ⟨fun wh pins s σ H Q I q => h.run wh pins s σ H Q I (i σ H Q q)⟩
theorem sw_and1 (ha : ST T N k ev sc a t) : SPW T N k ev sc (.BoolOp .And [a] pos) t := fun X W gd => pw_and1 (ha X W gd)
theorem sw_or1 (ha : ST T N k ev sc a t) : SPW T N k ev sc (.BoolOp .Or [a] pos) t := fun X W gd => pw_or1 (ha X W gd)
theorem sw_and (ha : ST T N k ev sc a t) (hb : SPW T N k ev sc (.BoolOp .And (b :: rest) pos) u) : SPW T N k ev sc (.BoolOp .And (a :: b :: rest) pos) (eTAnd t u) := fun X W gd =>
  PW.mono (pw_and (ha X W gd) (hb X W gd)) fun σ H Q ⟨G, ρ, e1, en, r⟩ => ⟨G, ρ, e1, en, r.seq T fun d v G1 H1 s1 p r1 => by
    have p : d = v := p
    subst p
    cases d with
    | true => exact ⟨G1, ρ, s1.in', en.up e1 s1, r1⟩
    | false => exact r1.ok T s1.in' rfl⟩
theorem sw_or (ha : ST T N k ev sc a t) (hb : SPW T N k ev sc (.BoolOp .Or (b :: rest) pos) u) : SPW T N k ev sc (.BoolOp .Or (a :: b :: rest) pos) (eTOr t u) := fun X W gd =>
  PW.mono (pw_or (ha X W gd) (hb X W gd)) fun σ H Q ⟨G, ρ, e1, en, r⟩ => ⟨G, ρ, e1, en, r.seq T fun d v G1 H1 s1 p r1 => by
    have p : d = v := p
    subst p
    cases d with
    | false => exact ⟨G1, ρ, s1.in', en.up e1 s1, r1⟩
    | true => exact r1.ok T s1.in' rfl⟩
theorem st_not (ha : ST T N k ev sc a t) : ST T N k ev sc (.UnaryOp .Not a pos) (eTNot t) := fun X W gd =>
  PT.mono (pt_not (ha X W gd)) fun σ H Q ⟨G, ρ, e1, en, r⟩ => ⟨G, ρ, e1, en, r.seq T fun d v G1 H1 s1 p r1 => by
    have p : d = v := p
    subst p
    exact r1.ok T s1.in' rfl⟩
theorem truth_exc {d : D} {c : Nat} {z : D} (h : truth d = .exc c z) : False := by cases d <;> cases h
theorem sv_one {o : BoolOp} (ha : SV T N k ev sc a f) : SV T N k ev sc (.BoolOp o [a] pos) f := fun X W gd => pe_one (ha X W gd)
theorem sv_and (ha : SV T N k ev sc a f) (hb : SV T N k ev sc (.BoolOp .And (b :: rest) pos) g) : SV T N k ev sc (.BoolOp .And (a :: b :: rest) pos) (eAnd f g) := fun X W gd =>
  PE.mono (pe_andT (ha X W gd) (hb X W gd)) fun σ H Q ⟨G, ρ, e1, en, r⟩ => ⟨G, ρ, e1, en, r.seq T fun d v G1 H1 s1 p r1 => by
    cases q : truth d with
    | ok b =>
      rw [q] at r1
      refine ⟨b, tru_of s1.in' (.flat p) q, ?_⟩
      cases b with
      | true => exact ⟨G1, ρ, s1.in', en.up e1 s1, r1⟩
      | false => exact r1.ok T s1.in' p
    | exc _ _ => exact (truth_exc q).elim
    | bad => rw [q] at r1; exact r1.elim⟩
theorem sv_or (ha : SV T N k ev sc a f) (hb : SV T N k ev sc (.BoolOp .Or (b :: rest) pos) g) : SV T N k ev sc (.BoolOp .Or (a :: b :: rest) pos) (eOr f g) := fun X W gd =>
  PE.mono (pe_orT (ha X W gd) (hb X W gd)) fun σ H Q ⟨G, ρ, e1, en, r⟩ => ⟨G, ρ, e1, en, r.seq T fun d v G1 H1 s1 p r1 => by
    cases q : truth d with
    | ok b =>
      rw [q] at r1
      refine ⟨b, tru_of s1.in' (.flat p) q, ?_⟩
      cases b with
      | false => exact ⟨G1, ρ, s1.in', en.up e1 s1, r1⟩
      | true => exact r1.ok T s1.in' p
    | exc _ _ => exact (truth_exc q).elim
    | bad => rw [q] at r1; exact r1.elim⟩
theorem sv_not (ha : SB T N k ev sc a f) : SV T N k ev sc (.UnaryOp .Not a pos) (eNot f) := fun X W gd =>
  PE.mono (pe_notT (ha X W gd)) fun σ H Q ⟨G, ρ, e1, en, r⟩ => ⟨G, ρ, e1, en, r.seq T fun d v G1 H1 s1 p r1 => by
    cases q : truth d with
    | ok b =>
      rw [q] at r1
      exact ⟨b, tru_of s1.in' p q, r1.ok T s1.in' (.bl _)⟩
    | exc _ _ => exact (truth_exc q).elim
    | bad => rw [q] at r1; exact r1.elim⟩
theorem sv_if (hc : ST T N k ev sc c t) (ha : SV T N k ev sc a f) (hb : SV T N k ev sc b g) : SV T N k ev sc (.IfExp c a b pos) (eIf t f g) := fun X W gd =>
  PE.mono (pe_ifExp (hc X W gd) (ha X W gd) (hb X W gd)) fun σ H Q ⟨G, ρ, e1, en, r⟩ => ⟨G, ρ, e1, en, r.seq T fun d v G1 H1 s1 p r1 => by
    have p : d = v := p
    subst p
    cases d with
    | true => exact ⟨G1, ρ, s1.in', en.up e1 s1, r1⟩
    | false => exact ⟨G1, ρ, s1.in', en.up e1 s1, r1⟩⟩
/-- chains -/
theorem rd_chain {X : Cx} {W : XK} {σ : L2.St} {H : Hp} {Q : VK} (hh : rd T X.K X.mg W (eChain op op' f g h ev) (pV X.K) σ H Q) :
    tChain (rOpD T X.K X.mg W op) (rOpD T X.K X.mg W op') (rd T X.K X.mg W (f ev) (pB X.K)) (rd T X.K X.mg W (g ev) (pB X.K)) (rd T X.K X.mg W (h ev) (pB X.K)) σ H Q := by
  obtain ⟨G, ρ, e1, en, r⟩ := hh
  refine ⟨G, ρ, e1, en, r.seq T fun dx x G1 H1 s1 px r1 => ?_⟩
  refine ⟨G1, ρ, s1.in', en.up e1 s1, r1.seq T fun dy y G2 H2 s2 py r2 => ?_⟩
  refine ⟨G2, dx, dy, s2.in', px.up s2.g s2.h, py, r2.seq T fun dz z G3 H3 s3 pz r3 => ?_⟩
  cases dz with
  | bool b =>
    obtain rfl := pz.bool_inv
    refine ⟨b, rfl, ?_⟩
    cases b with
    | false => exact r3.ok T s3.in' (.bl _)
    | true =>
      refine ⟨G3, ρ, s3.in', (en.up e1 s1 |>.up s1.in' s2).up s2.in' s3, ?_⟩
      have r3 : ResG T X.K X.mg W G3 H3 ((h ev ρ).bind fun w => op' dy w) (pV X.K) Q := r3
      refine r3.seq T fun dw w G4 H4 s4 pw r4 => ?_
      exact ⟨G4, dy, dw, s4.in', (py.up s3.g s3.h).up s4.g s4.h, pw, r4⟩
  | _ => exact False.elim r3
theorem sv_chain {o o' : CmpOp} (ho : OpOk T (compareOp o) op) (ho' : OpOk T (compareOp o') op') (ha : SB T N k ev sc a f) (hb : SB T N k ev sc b g) (hc : SB T N k ev sc c h) (hm : lastMarks [o, o'] [b, c] = false) : SV T N k ev sc (.Compare a [o, o'] [b, c] pos) (eChain op op' f g h) := fun X W gd =>
  PE.mono (pe_chain (ho.ok X W N k ev sc gd) (ho'.ok X W N k ev sc gd) (ha X W gd) (hb X W gd) (hc X W gd) hm) fun σ H Q hh => rd_chain hh
theorem st_chain {o o' : CmpOp} (ho : OpOk T (compareOp o) op) (ho' : OpOk T (compareOp o') op') (ha : SB T N k ev sc a f) (hb : SB T N k ev sc b g) (hc : SB T N k ev sc c h) (hm : lastMarks [o, o'] [b, c] = false) : ST T N k ev sc (.Compare a [o, o'] [b, c] pos) (eTB (eChain op op' f g h)) := fun X W gd =>
  PT.mono (pt_chain (ho.ok X W N k ev sc gd) (ho'.ok X W N k ev sc gd) (ha X W gd) (hb X W gd) (hc X W gd) hm) fun σ H Q hh => rd_chain (rd_toB (F := fun ρ => eChain op op' f g h ev ρ) hh)
end
end PV

/-! PV9: subscripts, slices, displays, calls of defs and of builtins. -/
namespace PV
open PySem L2

theorem Gd.hu65 {T : Tab} {N : List Str} {k : Nat} {ev : Ev} {sc : List (Str × NameKind)} {X : Cx} {W : XK} (g : Gd T N k ev sc X W) : X.A.units + 65 < cLine := by have := g.room.un; omega
theorem ok_eq {T : Tab} : OpOk T (compareOp .Eq) pEq := ⟨fun X W N k ev sc gd => or_eq gd.hu⟩
theorem ok_ne {T : Tab} : OpOk T (compareOp .NotEq) pNe := ⟨fun X W N k ev sc gd => or_ne gd.hu⟩
theorem ok_lt {T : Tab} : OpOk T (compareOp .Lt) pLt := ⟨fun X W N k ev sc gd => or_lt⟩
theorem ok_gt {T : Tab} : OpOk T (compareOp .Gt) pGt := ⟨fun X W N k ev sc gd => or_gt⟩
theorem ok_le {T : Tab} : OpOk T (compareOp .LtE) pLe := ⟨fun X W N k ev sc gd => or_le⟩
theorem ok_ge {T : Tab} : OpOk T (compareOp .GtE) pGe := ⟨fun X W N k ev sc gd => or_ge⟩
theorem ok_is {T : Tab} : OpOk T (compareOp .Is) pIs := ⟨fun X W N k ev sc gd => or_is⟩
theorem ok_isnot {T : Tab} : OpOk T (compareOp .IsNot) pIsNot := ⟨fun X W N k ev sc gd => or_isnot⟩
theorem ok_add {T : Tab} : OpOkV T (binaryOp .Add) pAdd := ⟨fun X W => ob_add⟩
theorem ok_sub {T : Tab} : OpOkV T (binaryOp .Sub) pSub := ⟨fun X W => ob_sub⟩
theorem ok_mul {T : Tab} : OpOkV T (binaryOp .Mult) pMul := ⟨fun X W => ob_mul⟩
theorem ok_fdiv {T : Tab} : OpOkV T (binaryOp .FloorDiv) pFdiv := ⟨fun X W => ob_fdiv⟩
theorem ok_mod {T : Tab} : OpOkV T (binaryOp .Mod) pMod := ⟨fun X W => ob_mod⟩
theorem ok_pow {T : Tab} : OpOkV T (binaryOp .Pow) pPow := ⟨fun X W => ob_pow⟩
theorem ok_shl {T : Tab} : OpOkV T (binaryOp .LShift) pShl := ⟨fun X W => ob_shl⟩
theorem ok_xor {T : Tab} : OpOkV T (binaryOp .BitXor) pXor := ⟨fun X W => ob_xor⟩

theorem plainI {b : Expr} (h : PlainI b = true) : PlainIx b := by
  intro o i
  cases b <;> first | rfl | cases h

section
variable {T : Tab} {N : List Str} {k : Nat} {ev : Ev} {sc : List (Str × NameKind)} {a b e : Expr} {es : List Expr} {pos p2 : Pos} {f g : FE} {l l' : FL} {op : D → D → R D}
/-- in, not in: the key known, the table borrowed -/
theorem rd_twoVB {X : Cx} {W : XK} {σ : L2.St} {H : Hp} {Q : VK} (h : rd T X.K X.mg W (e2 op f g ev) (pV X.K) σ H Q) : tOp (rOpVB T X.K X.mg W op) (rd T X.K X.mg W (f ev) (pV X.K)) (rd T X.K X.mg W (g ev) (pB X.K)) σ H Q := by
  obtain ⟨G, ρ, e, en, r⟩ := h
  refine ⟨G, ρ, e, en, r.seq T fun dx x G1 H1 s1 p1 r1 => ?_⟩
  refine ⟨G1, ρ, s1.in', en.up e s1, r1.seq T fun dy y G2 H2 s2 p2 r2 => ?_⟩
  exact ⟨G2, dx, dy, s2.in', p1.up s2.g, p2, r2⟩
theorem rd_twoBV {X : Cx} {W : XK} {σ : L2.St} {H : Hp} {Q : VK} (h : rd T X.K X.mg W (e2 op f g ev) (pV X.K) σ H Q) : tOp (rOpBV T X.K X.mg W op) (rd T X.K X.mg W (f ev) (pB X.K)) (rd T X.K X.mg W (g ev) (pV X.K)) σ H Q := by
  obtain ⟨G, ρ, e, en, r⟩ := h
  refine ⟨G, ρ, e, en, r.seq T fun dx x G1 H1 s1 p1 r1 => ?_⟩
  refine ⟨G1, ρ, s1.in', en.up e s1, r1.seq T fun dy y G2 H2 s2 p2 r2 => ?_⟩
  exact ⟨G2, dx, dy, s2.in', p1.up s2.g s2.h, p2, r2⟩
theorem sv_in (ha : SV T N k ev sc a f) (hb : SB T N k ev sc b g) (hm : behindInMarks .In b = false) : SV T N k ev sc (.Compare a [.In] [b] pos) (e2 pIn f g) := fun X W gd =>
  PE.mono (pe_cmpR (or_in gd.hu65) (ha X W gd) (hb X W gd) hm) fun σ H Q h => rd_twoVB h
theorem sv_notin (ha : SV T N k ev sc a f) (hb : SB T N k ev sc b g) (hm : behindInMarks .NotIn b = false) : SV T N k ev sc (.Compare a [.NotIn] [b] pos) (e2 pNotIn f g) := fun X W gd =>
  PE.mono (pe_cmpR (or_notin gd.hu65) (ha X W gd) (hb X W gd) hm) fun σ H Q h => rd_twoVB h
theorem st_in (ha : SV T N k ev sc a f) (hb : SB T N k ev sc b g) (hm : behindInMarks .In b = false) : ST T N k ev sc (.Compare a [.In] [b] pos) (eTB (e2 pIn f g)) := fun X W gd =>
  PT.mono (pt_cmpR (or_in gd.hu65) (ha X W gd) (hb X W gd) hm) fun σ H Q h => rd_twoVB (rd_toB (F := fun ρ => e2 pIn f g ev ρ) h)
theorem st_notin (ha : SV T N k ev sc a f) (hb : SB T N k ev sc b g) (hm : behindInMarks .NotIn b = false) : ST T N k ev sc (.Compare a [.NotIn] [b] pos) (eTB (e2 pNotIn f g)) := fun X W gd =>
  PT.mono (pt_cmpR (or_notin gd.hu65) (ha X W gd) (hb X W gd) hm) fun σ H Q h => rd_twoVB (rd_toB (F := fun ρ => e2 pNotIn f g ev ρ) h)
theorem sv_idx (ha : SB T N k ev sc a f) (hb : SV T N k ev sc b g) (hp : PlainI b = true) : SV T N k ev sc (.Subscript a b pos) (e2 pIdx f g) := fun X W gd =>
  PE.mono (pe_ix (ir_idx (by have := gd.hu; omega)) (ha X W gd) (hb X W gd) (plainI hp)) fun σ H Q h => rd_twoBV h

/-! slices -/
def toI : D → R (Option Int)
  | .int i => .ok (some i)
  | _ => .bad
abbrev FO := Ev → Rho → R (Option Int)
def oN : FO := fun _ _ => .ok none
def oS (f : FE) : FO := fun ev ρ => (f ev ρ).bind toI
def eCut (f : FE) (o o' : FO) : FE := fun ev ρ => (f ev ρ).bind fun d => (o ev ρ).bind fun lo => (o' ev ρ).bind fun hi => pCut lo hi d
abbrev pO (a b : Option Int) (_ _ : Hp) : Prop := a = b
def SO (T : Tab) (N : List Str) (k : Nat) (ev : Ev) (sc : List (Str × NameKind)) (o : Option Expr) (f : FO) : Prop := ∀ X W, Gd T N k ev sc X W → PO X o (rd T X.K X.mg W (f ev) pO)
theorem so_none : SO T N k ev sc none oN := fun X W gd => ⟨fun pins s σ H Q I ⟨G, ρ, e1, en, r⟩ => po_none.run pins s σ H Q I (r.ok T e1 rfl)⟩
theorem so_some (ha : SV T N k ev sc a f) : SO T N k ev sc (some a) (oS f) := fun X W gd => ⟨fun pins s σ H Q I ⟨G, ρ, e1, en, r⟩ => (po_some (ha X W gd)).run pins s σ H Q I ⟨G, ρ, e1, en, r.seq T fun d v G1 H1 s1 p r1 => by
  cases d with
  | int i =>
    obtain rfl := p.int_inv
    exact ⟨i, rfl, r1.ok T s1.in' rfl⟩
  | _ => exact False.elim r1⟩⟩
theorem sv_cut {lo hi : Option Expr} {o o' : FO} (ha : SV T N k ev sc a f) (hl : SO T N k ev sc lo o) (hh : SO T N k ev sc hi o') : SV T N k ev sc (.Subscript a (.Slice lo hi none p2) pos) (eCut f o o') := fun X W gd =>
  PE.mono (pe_slice (sl_D (T := T) (W := W)) (ha X W gd) (hl X W gd) (hh X W gd)) fun σ H Q ⟨G, ρ, e1, en, r⟩ => ⟨G, ρ, e1, en, r.seq T fun d v G1 H1 s1 p r1 => by
    refine ⟨G1, ρ, s1.in', en.up e1 s1, r1.seq T fun i j G2 H2 s2 p2 r2 => ?_⟩
    have p2 : i = j := p2
    subst p2
    refine ⟨G2, ρ, s2.in', (en.up e1 s1).up s1.in' s2, r2.seq T fun i2 j2 G3 H3 s3 p3 r3 => ?_⟩
    have p3 : i2 = j2 := p3
    subst p3
    exact ⟨G3, d, s3.in', .flat ((p.up s2.g).up s3.g), r3, fun _ _ => (p.up s2.g).up s3.g⟩⟩
/-- xs[::-1] of a list -/
theorem sv_revL {kk : Nat} {p1 p3 p4 : Pos} (ha : SB T N k ev sc a f) : SV T N k ev sc (.Subscript a (.Slice none none (some (.UnaryOp .USub (.Constant (.int 1) kk p1) p2)) p3) pos) (e1 pRev f) := fun X W gd =>
  PE.mono (pe_revL (ha X W gd)) fun σ H Q ⟨G, ρ, e1, en, r⟩ => ⟨G, ρ, e1, en, r.seq T fun d v G1 H1 s1 p r1 => by
    cases d with
    | list ds =>
      obtain ⟨x, xs, rfl, h1, h2⟩ := p.list_inv s1.in'
      refine ⟨x, xs, rfl, h1, fun q hq => ?_⟩
      refine r1.new s1.in' hq ?_
      have : ∀ {ws : List V} {es : List D}, Reps X.K G1 ws es → Reps X.K G1 ws.reverse es.reverse := fun {ws es} h => by
        induction h using Reps.rec (motive_1 := fun _ _ _ => True) (motive_3 := fun _ _ _ => True) (motive_4 := fun _ _ _ => True) with
        | nil => exact .nil
        | cons h t _ ih => rw [List.reverse_cons, List.reverse_cons]; exact ih.snoc h
        | _ => trivial
      exact this h2
    | _ => exact False.elim r1⟩

/-! argument lists -/
def NotStar : Expr → Bool
  | .Starred .. => false
  | _ => true
theorem notStar {e : Expr} {es : List Expr} (h : NotStar e = true) (env : Env) : starEach (e :: es) env = (false, eval e env) :: starEach es env := by
  cases e <;> first | rfl | cases h
def aNil : FL := fun _ _ => .ok []
def aCons (f : FE) (g : FL) : FL := fun ev ρ => (f ev ρ).bind fun d => (g ev ρ).bind fun ds => .ok (d :: ds)
def pItems : D → R (List D)
  | .list xs => .ok xs
  | .tuple xs => .ok xs
  | _ => .bad
def aStar (f : FE) (g : FL) : FL := fun ev ρ => (f ev ρ).bind fun d => (pItems d).bind fun xs => (g ev ρ).bind fun ds => .ok (xs ++ ds)
theorem sa_nil : SA T N k ev sc [] aNil := fun X W gd => ⟨fun pos pins s σ H Q I ⟨G, ρ, e1, en, r⟩ => pa_nil.run pos pins s σ H Q I (r.ok T e1 .nil)⟩
theorem sa_cons (ha : SV T N k ev sc e f) (hr : SA T N k ev sc es l) (hs : NotStar e = true) : SA T N k ev sc (e :: es) (aCons f l) := fun X W gd =>
  PA.mono (pa_cons (ha X W gd) (hr X W gd) (notStar hs _)) fun σ H Q ⟨G, ρ, e1, en, r⟩ => ⟨G, ρ, e1, en, r.seq T fun d v G1 H1 s1 p r1 =>
    ⟨G1, ρ, s1.in', en.up e1 s1, r1.seq T fun ds vs G2 H2 s2 p2 r2 => r2.ok T s2.in' (.cons (p.up s2.g) p2)⟩⟩
theorem sab_nil : SAB T N k ev sc [] aNil := fun X W gd => ⟨fun pos pins s σ H Q I ⟨G, ρ, e1, en, r⟩ => pa_nil.run pos pins s σ H Q I (r.ok T e1 .nil)⟩
theorem sab_cons (ha : SB T N k ev sc e f) (hr : SAB T N k ev sc es l) (hs : NotStar e = true) : SAB T N k ev sc (e :: es) (aCons f l) := fun X W gd =>
  PA.mono (pa_cons (ha X W gd) (hr X W gd) (notStar hs _)) fun σ H Q ⟨G, ρ, e1, en, r⟩ => ⟨G, ρ, e1, en, r.seq T fun d v G1 H1 s1 p r1 =>
    ⟨G1, ρ, s1.in', en.up e1 s1, r1.seq T fun ds vs G2 H2 s2 p2 r2 => r2.ok T s2.in' (.cons (p.up s2.g s2.h) p2)⟩⟩
theorem sa_star {p : Pos} (ha : SB T N k ev sc e f) (hr : SA T N k ev sc es l) : SA T N k ev sc (.Starred e p :: es) (aStar f l) := fun X W gd =>
  PA.mono (StX.pa_star (ha X W gd) (hr X W gd)) fun σ H Q ⟨G, ρ, e1, en, r⟩ => ⟨G, ρ, e1, en, r.seq T fun d v G1 H1 s1 p r1 => by
    cases d with
    | list ds =>
      obtain ⟨x, xs, rfl, h1, h2⟩ := p.list_inv s1.in'
      have r1 : ResG T X.K X.mg W G1 H1 ((l ev ρ).bind fun es => .ok (ds ++ es)) (pA X.K) Q := r1
      exact ⟨x, xs, rfl, .inr h1, G1, ρ, s1.in', en.up e1 s1, r1.seq T fun ds vs G2 H2 s2 p2 r2 => r2.ok T s2.in' ((h2.up s2.g).append p2)⟩
    | tuple ds =>
      obtain ⟨x, xs, rfl, h1, h2⟩ := p.tuple_inv
      have r1 : ResG T X.K X.mg W G1 H1 ((l ev ρ).bind fun es => .ok (ds ++ es)) (pA X.K) Q := r1
      exact ⟨x, xs, rfl, .inl (s1.in'.st h1), G1, ρ, s1.in', en.up e1 s1, r1.seq T fun ds vs G2 H2 s2 p2 r2 => r2.ok T s2.in' ((h2.up s2.g).append p2)⟩
    | _ => exact False.elim r1⟩

/-! displays -/
def eLst (l : FL) : FE := fun ev ρ => (l ev ρ).bind fun ds => if ds.length ≤ lim then .ok (.list ds) else .bad
def eTup (l : FL) : FE := fun ev ρ => (l ev ρ).bind fun ds => if ds.length ≤ lim then .ok (.tuple ds) else .bad
/-- a new list, from what stood at H0 -/
theorem ResG.newF {K : PySem.W.Frag} {mg : Str → Option Value} {W : XK} {G H0 G1 H : Hp} {xs : List V} {ds : List D} {p : Addr} {Q : VK} (s1 : Step G H0 G1 H) (r : ResG T K mg W G1 H (.ok (.list ds)) (pF K H0) Q) (hp : H p = none) (h : Reps K G1 xs ds) : Q (.ref p) (upd H p (.lst xs)) :=
  r _ _ _ (Step.loose s1.in' hp) ⟨.lst upd_same (s1.in'.none hp) h, fun a z => by cases z; exact s1.h.none hp⟩
theorem sf_lst (ha : SA T N k ev sc es l) : SF T N k ev sc (.List es pos) (eLst l) := fun X W gd =>
  PE.mono (pe_lst (ha X W gd)) fun σ H Q ⟨G, ρ, e1, en, r⟩ => ⟨G, ρ, e1, en, r.seq T fun ds vs G1 H1 s1 p r1 => by
    split at r1
    · rename_i hl
      exact ⟨by rw [p.length, sizeLine_eq]; exact hl, fun q hq => ResG.newF s1 r1 hq p⟩
    · exact r1.elim⟩
theorem sv_tup {x1 : Nat} (ha : SA T N k ev sc es l) : SV T N k ev sc (.Tuple es x1 pos) (eTup l) := fun X W gd =>
  PE.mono (pe_tup (ha X W gd)) fun σ H Q ⟨G, ρ, e1, en, r⟩ => ⟨G, ρ, e1, en, r.seq T fun ds vs G1 H1 s1 p r1 => by
    split at r1
    · rename_i hl
      exact ⟨by rw [p.length, sizeLine_eq]; exact hl, fun q hq => r1.newT s1.in' hq p⟩
    · exact r1.elim⟩
theorem sf_dict : SF T N k ev sc (.Dict [] [] pos) (eC (.dict [])) := fun X W gd =>
  PE.mono pe_dnewK fun σ H Q ⟨G, ρ, e1, en, r⟩ => fun p hp => by
    have r : ResG T X.K X.mg W G H (.ok (.dict [])) (pF X.K H) Q := r
    exact r _ _ _ (Step.loose e1 hp) ⟨.dK upd_same (e1.none hp) .nil .nil, fun a z => by cases z; exact hp⟩

/-! calls of the program's defs -/
def eCall (j : Nat) (l : FL) : FE := fun ev ρ => (l ev ρ).bind fun ds => ev j ds
theorem spF_of {X : Cx} {W : XK} {j : Nat} {n : Nat} {G H : Hp} {vs : List V} {ds : List D} {Q : VK} (e : Ex G H) (p : Reps X.K G vs ds) (hn : ds.length = n) (r : ResG T X.K X.mg W G H (ev j ds) (pV X.K) Q) : spF T X.K X.mg n (ev j) (vs ++ []) H Q W := by
  rw [List.append_nil]
  exact ⟨p.length.trans hn, G, ds, e, p, r⟩
/-- how many items an argument list without stars gives -/
inductive Cnt : FL → Nat → Prop
  | nil : Cnt aNil 0
  | cons {f : FE} {l : FL} {n : Nat} : Cnt l n → Cnt (aCons f l) (n + 1)
theorem Cnt.len {l : FL} {n : Nat} (h : Cnt l n) : ∀ {ev : Ev} {ρ : Rho} {ds : List D}, l ev ρ = .ok ds → ds.length = n := by
  induction h with
  | nil => intro ev ρ ds e; cases e; rfl
  | @cons f l n _ ih =>
    intro ev ρ ds e
    unfold aCons at e
    cases q : f ev ρ with
    | ok d =>
      rw [q] at e
      have e : (l ev ρ).bind (fun ds => R.ok (d :: ds)) = .ok ds := e
      cases q2 : l ev ρ with
      | ok ds' => rw [q2] at e; cases e; rw [List.length_cons, ih q2]
      | exc _ _ => rw [q2] at e; cases e
      | bad => rw [q2] at e; cases e
    | exc _ _ => rw [q] at e; cases e
    | bad => rw [q] at e; cases e
theorem ResG.seqE {K : PySem.W.Frag} {mg : Str → Option Value} {W : XK} {G H : Hp} {α β γ δ : Type} {f : R α} {g : α → R γ} {P : α → β → Hp → Hp → Prop} {P2 : γ → δ → Hp → Hp → Prop} {Q : δ → Hp → Prop} {Q1 : β → Hp → Prop}
    (h : ResG T K mg W G H (f.bind g) P2 Q) (k : ∀ a v G1 H1, f = .ok a → Step G H G1 H1 → P a v G1 H1 → ResG T K mg W G1 H1 (g a) P2 Q → Q1 v H1) : ResG T K mg W G H f P Q1 := by
  cases f with
  | ok a => exact fun v G1 H1 s p => k a v G1 H1 rfl s p (ResG.later T s h)
  | exc c z => exact h
  | bad => exact h
theorem NoS_any : ∀ {es : List Expr}, es.all NotStar = true → ∀ (env : Env) (pos : Pos), (backTo pos (starEach es env)).any (·.1) = false
  | [], _, _, _ => rfl
  | e :: es, h, env, pos => by
    rw [List.all_cons, Bool.and_eq_true] at h
    rw [notStar h.1]
    exact NoS_any h.2 env pos
theorem sv_call {j : Nat} {fi : FnI} {p : Pos} (hj : T.fns[j]? = some fi) (hs : sc.lookup fi.name = some .globalImplicit) (ha : SA T N k ev sc (e :: es) l) (hc : Cnt l fi.ps.length) (hd : (fi.name == ("__debug__" : Str)) = false) (hn : (e :: es).all NotStar = true) : SV T N k ev sc (.Call (.Name fi.name p) (e :: es) [] pos) (eCall j l) := fun X W gd => by
  obtain ⟨fa, fd, h1, h2, h3, h4⟩ := gd.fns j fi hj
  rw [List.all_cons, Bool.and_eq_true] at hn
  exact PE.mono (pe_call h4 gd.room (gd.gl T hs) h1 h2 h3 .nil gd.pass (ha X W gd) hd (notStar hn.1 _) (NoS_any hn.2 _ _)) fun σ H Q ⟨G, ρ, e1, en, r⟩ => ⟨G, ρ, e1, en, r.seqE fun ds vs G1 H1 ed s1 p r1 => spF_of s1.in' p (hc.len ed) r1⟩
theorem sv_call0 {j : Nat} {fi : FnI} {p : Pos} (hj : T.fns[j]? = some fi) (hs : sc.lookup fi.name = some .globalImplicit) (hc : fi.ps = []) (hd : (fi.name == ("__debug__" : Str)) = false) : SV T N k ev sc (.Call (.Name fi.name p) [] [] pos) (eCall j aNil) := fun X W gd => by
  obtain ⟨fa, fd, h1, h2, h3, h4⟩ := gd.fns j fi hj
  exact PE.mono (pe_call0 h4 gd.room (gd.gl T hs) h1 h2 h3 .nil gd.pass hd) fun σ H Q ⟨G, ρ, e1, en, r⟩ => spF_of (ds := []) e1 .nil (by rw [hc]; rfl) r

/-! calls of builtins -/
def rCB (T : Tab) (K : PySem.W.Frag) (mg : Str → Option Value) (W : XK) (fb : List D → R D) : List V → Hp → VK → Prop := fun xs H Q => ∃ G ds, Ex G H ∧ RepHs K G H xs ds ∧ ResG T K mg W G H (fb ds) (pV K) Q
def rCF (T : Tab) (K : PySem.W.Frag) (mg : Str → Option Value) (W : XK) (fb : List D → R D) : List V → Hp → VK → Prop := fun xs H Q => ∃ G ds, Ex G H ∧ RepHs K G H xs ds ∧ ResG T K mg W G H (fb ds) (pF K H) Q
structure CaOk (T : Tab) (c : Value) (fb : List D → R D) : Prop where
  ok : ∀ (X : Cx) (W : XK) (N : List Str) (k : Nat) (ev : Ev) (sc : List (Str × NameKind)), Gd T N k ev sc X W → CallR X c (rCB T X.K X.mg W fb)
structure CfOk (T : Tab) (c : Value) (fb : List D → R D) : Prop where
  ok : ∀ (X : Cx) (W : XK) (N : List Str) (k : Nat) (ev : Ev) (sc : List (Str × NameKind)), Gd T N k ev sc X W → CallR X c (rCF T X.K X.mg W fb)
def eB (fb : List D → R D) (l : FL) : FE := fun ev ρ => (l ev ρ).bind fb
theorem pF_back {K : PySem.W.Frag} {mg : Str → Option Value} {W : XK} {G H G1 H1 : Hp} {r : R D} {Q : VK} (s : Step G H G1 H1) (h : ResG T K mg W G1 H1 r (pF K H) Q) : ResG T K mg W G1 H1 r (pF K H1) Q :=
  h.imp T fun d v G' H' _ q => ⟨q.1, fun a z => s.h.none (q.2 a z)⟩
section
variable {x : Str} {id : String} {p : Pos} {fb : List D → R D}
theorem sv_bi (hs : sc.lookup x = some .globalImplicit) (hb : x ∈ T.blt) (hv : bootBuiltins x = some (.builtin id)) (hc : CaOk T (.builtin id) fb) (ha : SAB T N k ev sc (e :: es) l) (hn : x ≠ "__name__") (hd : (x == ("__debug__" : Str)) = false) (hst : (e :: es).all NotStar = true) : SV T N k ev sc (.Call (.Name x p) (e :: es) [] pos) (eB fb l) := fun X W gd => by
  rw [List.all_cons, Bool.and_eq_true] at hst
  exact PE.mono (pe_callB (hc.ok X W N k ev sc gd) (gd.gl T hs) (gd.blt x hb) hv (ha X W gd) hn hd (notStar hst.1 _) (NoS_any hst.2 _ _)) fun σ H Q ⟨G, ρ, e1, en, r⟩ => ⟨G, ρ, e1, en, r.seq T fun ds vs G1 H1 s1 p r1 => ⟨G1, ds, s1.in', p, r1⟩⟩
theorem sv_ty (hs : sc.lookup x = some .globalImplicit) (hb : x ∈ T.blt) (hv : bootBuiltins x = some (.type id)) (hc : CaOk T (.type id) fb) (ha : SAB T N k ev sc (e :: es) l) (hn : x ≠ "__name__") (hd : (x == ("__debug__" : Str)) = false) (hst : (e :: es).all NotStar = true) : SV T N k ev sc (.Call (.Name x p) (e :: es) [] pos) (eB fb l) := fun X W gd => by
  rw [List.all_cons, Bool.and_eq_true] at hst
  exact PE.mono (pe_callTy (hc.ok X W N k ev sc gd) (gd.gl T hs) (gd.blt x hb) hv (ha X W gd) hn hd (notStar hst.1 _) (NoS_any hst.2 _ _)) fun σ H Q ⟨G, ρ, e1, en, r⟩ => ⟨G, ρ, e1, en, r.seq T fun ds vs G1 H1 s1 p r1 => ⟨G1, ds, s1.in', p, r1⟩⟩
theorem sf_bi (hs : sc.lookup x = some .globalImplicit) (hb : x ∈ T.blt) (hv : bootBuiltins x = some (.builtin id)) (hc : CfOk T (.builtin id) fb) (ha : SAB T N k ev sc (e :: es) l) (hn : x ≠ "__name__") (hd : (x == ("__debug__" : Str)) = false) (hst : (e :: es).all NotStar = true) : SF T N k ev sc (.Call (.Name x p) (e :: es) [] pos) (eB fb l) := fun X W gd => by
  rw [List.all_cons, Bool.and_eq_true] at hst
  exact PE.mono (pe_callB (hc.ok X W N k ev sc gd) (gd.gl T hs) (gd.blt x hb) hv (ha X W gd) hn hd (notStar hst.1 _) (NoS_any hst.2 _ _)) fun σ H Q ⟨G, ρ, e1, en, r⟩ => ⟨G, ρ, e1, en, r.seq T fun ds vs G1 H1 s1 p r1 => ⟨G1, ds, s1.in', p, pF_back s1 r1⟩⟩
theorem sf_ty (hs : sc.lookup x = some .globalImplicit) (hb : x ∈ T.blt) (hv : bootBuiltins x = some (.type id)) (hc : CfOk T (.type id) fb) (ha : SAB T N k ev sc (e :: es) l) (hn : x ≠ "__name__") (hd : (x == ("__debug__" : Str)) = false) (hst : (e :: es).all NotStar = true) : SF T N k ev sc (.Call (.Name x p) (e :: es) [] pos) (eB fb l) := fun X W gd => by
  rw [List.all_cons, Bool.and_eq_true] at hst
  exact PE.mono (pe_callTy (hc.ok X W N k ev sc gd) (gd.gl T hs) (gd.blt x hb) hv (ha X W gd) hn hd (notStar hst.1 _) (NoS_any hst.2 _ _)) fun σ H Q ⟨G, ρ, e1, en, r⟩ => ⟨G, ρ, e1, en, r.seq T fun ds vs G1 H1 s1 p r1 => ⟨G1, ds, s1.in', p, pF_back s1 r1⟩⟩
end
end
end PV

/-! PV10: places that change; targets; what is walked. -/
namespace PV
open PySem L2

/-! ### places -/
def OwnNew (H0 : Hp) (ρ : Rho) (σ : L2.St) : Prop := ∀ (i : Nat) (e : Ent), ρ[i]? = some e → e.own = true → ∀ a : Addr, σ[i]? = some (some (V.ref a)) → H0 a = none
section
variable {K : PySem.W.Frag} {G H G' H' H0 : Hp} {ρ : Rho} {σ : L2.St}
theorem set_get {α : Type} {l : List α} {i j : Nat} {x y : α} (h : (l.set i x)[j]? = some y) : (j = i ∧ y = x) ∨ (j ≠ i ∧ l[j]? = some y) := by
  by_cases e : i = j
  · subst e
    by_cases hl : i < l.length
    · rw [List.getElem?_set_self hl] at h; exact .inl ⟨rfl, (Option.some.inj h).symm⟩
    · rw [List.getElem?_eq_none (by rw [List.length_set]; omega)] at h; cases h
  · rw [List.getElem?_set_ne e] at h; exact .inr ⟨fun z => e z.symm, h⟩
theorem get_set_ne {α : Type} {l : List α} {i j : Nat} {x : α} (h : j ≠ i) : (l.set i x)[j]? = l[j]? := List.getElem?_set_ne (fun z => h z.symm)
theorem EnvOk.lt (h : EnvOk K G H ρ σ) {i : Nat} {e : Ent} (q : ρ[i]? = some e) : i < σ.length := by
  rw [← h.len]
  exact (List.getElem?_eq_some_iff.mp q).1
/-- a place filled with what is known -/
theorem EnvOk.set {i : Nat} {d : D} {v : V} (h : EnvOk K G H ρ σ) (r : Rep K G v d) : EnvOk K G H (ρ.set i (.fz d)) (σ.set i (some v)) where
  len := by rw [List.length_set, List.length_set]; exact h.len
  fz := fun j d' q => by
    rcases set_get q with ⟨e1, e2⟩ | ⟨e1, e2⟩
    · subst e1; cases e2
      refine ⟨v, ?_, r⟩
      have := (List.getElem?_eq_some_iff.mp q).1
      rw [List.length_set, h.len] at this
      exact List.getElem?_set_self this
    · obtain ⟨w, h1, h2⟩ := h.fz j d' e2
      exact ⟨w, by rw [get_set_ne e1]; exact h1, h2⟩
  ol := fun j xs q => by
    rcases set_get q with ⟨e1, e2⟩ | ⟨e1, e2⟩
    · cases e2
    · obtain ⟨a, vs, h1, h2⟩ := h.ol j xs e2
      exact ⟨a, vs, by rw [get_set_ne e1]; exact h1, h2⟩
  od := fun j xs q => by
    rcases set_get q with ⟨e1, e2⟩ | ⟨e1, e2⟩
    · cases e2
    · obtain ⟨a, h1, h2⟩ := h.od j xs e2
      exact ⟨a, by rw [get_set_ne e1]; exact h1, h2⟩
  sep := fun j k ej ek hjk qj qk oj ok => by
    rcases set_get qj with ⟨e1, e2⟩ | ⟨e1, e2⟩
    · subst e2; cases oj
    · rcases set_get qk with ⟨e3, e4⟩ | ⟨e3, e4⟩
      · subst e4; cases ok
      · rw [get_set_ne e1, get_set_ne e3]; exact h.sep j k ej ek hjk e2 e4 oj ok
theorem OwnNew.set {i : Nat} {d : D} {v : V} (h : OwnNew H0 ρ σ) : OwnNew H0 (ρ.set i (.fz d)) (σ.set i (some v)) := fun j e q o a z => by
  rcases set_get q with ⟨e1, e2⟩ | ⟨e1, e2⟩
  · subst e2; cases o
  · rw [get_set_ne e1] at z; exact h j e e2 o a z
/-- a place forgotten -/
theorem EnvOk.no {i : Nat} (h : EnvOk K G H ρ σ) : EnvOk K G H (ρ.set i .no) (σ.set i none) where
  len := by rw [List.length_set, List.length_set]; exact h.len
  fz := fun j d' q => by
    rcases set_get q with ⟨e1, e2⟩ | ⟨e1, e2⟩
    · cases e2
    · obtain ⟨w, h1, h2⟩ := h.fz j d' e2
      exact ⟨w, by rw [get_set_ne e1]; exact h1, h2⟩
  ol := fun j xs q => by
    rcases set_get q with ⟨e1, e2⟩ | ⟨e1, e2⟩
    · cases e2
    · obtain ⟨a, vs, h1, h2⟩ := h.ol j xs e2
      exact ⟨a, vs, by rw [get_set_ne e1]; exact h1, h2⟩
  od := fun j xs q => by
    rcases set_get q with ⟨e1, e2⟩ | ⟨e1, e2⟩
    · cases e2
    · obtain ⟨a, h1, h2⟩ := h.od j xs e2
      exact ⟨a, by rw [get_set_ne e1]; exact h1, h2⟩
  sep := fun j k ej ek hjk qj qk oj ok => by
    rcases set_get qj with ⟨e1, e2⟩ | ⟨e1, e2⟩
    · subst e2; cases oj
    · rcases set_get qk with ⟨e3, e4⟩ | ⟨e3, e4⟩
      · subst e4; cases ok
      · rw [get_set_ne e1, get_set_ne e3]; exact h.sep j k ej ek hjk e2 e4 oj ok
theorem EnvOk.wipe (h : EnvOk K G H ρ σ) : ∀ vs : List Nat, EnvOk K G H (wipeR ρ vs) (L2.wipe σ vs)
  | [] => h
  | v :: vs => (EnvOk.wipe h vs).no
/-- a place filled with a new list, a new dict -/
theorem EnvOk.own {i : Nat} {a : Addr} {e : Ent} (h : EnvOk K G H ρ σ) (hn : ∀ (j : Nat) (ej : Ent), j ≠ i → ρ[j]? = some ej → ej.own = true → σ[j]? ≠ some (some (.ref a)))
    (ho : (∃ xs vs, e = .ol xs ∧ H a = some (.lst vs) ∧ G a = none ∧ Reps K G vs xs) ∨ (∃ kvs, e = .od kvs ∧ G a = none ∧ ((∃ vs, H a = some (.dK vs) ∧ (vs.map (·.1)).Nodup ∧ RepK K G vs kvs) ∨ ∃ vs, H a = some (.dT vs) ∧ (vs.map (·.1)).Nodup ∧ RepT K G vs kvs))) :
    EnvOk K G H (ρ.set i e) (σ.set i (some (.ref a))) := by
  have here : ∀ {j : Nat} {x : Ent}, (ρ.set i e)[j]? = some x → j = i → (σ.set i (some (V.ref a)))[j]? = some (some (V.ref a)) := fun {j x} q z => by
    subst z
    have := (List.getElem?_eq_some_iff.mp q).1
    rw [List.length_set, h.len] at this
    exact List.getElem?_set_self this
  refine ⟨by rw [List.length_set, List.length_set]; exact h.len, fun j d' q => ?_, fun j xs q => ?_, fun j xs q => ?_, fun j k ej ek hjk qj qk oj ok => ?_⟩
  · rcases set_get q with ⟨e1, e2⟩ | ⟨e1, e2⟩
    · subst e2
      rcases ho with ⟨_, _, z, _⟩ | ⟨_, z, _⟩ <;> cases z
    · obtain ⟨w, h1, h2⟩ := h.fz j d' e2
      exact ⟨w, by rw [get_set_ne e1]; exact h1, h2⟩
  · rcases set_get q with ⟨e1, e2⟩ | ⟨e1, e2⟩
    · subst e2
      rcases ho with ⟨_, vs, z, h1⟩ | ⟨_, z, _⟩
      · cases z; exact ⟨a, vs, here q e1, h1⟩
      · cases z
    · obtain ⟨b, vs, h1, h2⟩ := h.ol j xs e2
      exact ⟨b, vs, by rw [get_set_ne e1]; exact h1, h2⟩
  · rcases set_get q with ⟨e1, e2⟩ | ⟨e1, e2⟩
    · subst e2
      rcases ho with ⟨_, vs, z, h1⟩ | ⟨_, z, h1⟩
      · cases z
      · cases z; exact ⟨a, here q e1, h1⟩
    · obtain ⟨b, h1, h2⟩ := h.od j xs e2
      exact ⟨b, by rw [get_set_ne e1]; exact h1, h2⟩
  · rcases set_get qj with ⟨e1, e2⟩ | ⟨e1, e2⟩
    · rcases set_get qk with ⟨e3, e4⟩ | ⟨e3, e4⟩
      · exact absurd (e1.trans e3.symm) hjk
      · rw [here qj e1, get_set_ne e3]; exact fun z => hn k ek e3 e4 ok z.symm
    · rcases set_get qk with ⟨e3, e4⟩ | ⟨e3, e4⟩
      · rw [here qk e3, get_set_ne e1]; exact fun z => hn j ej e1 e2 oj z
      · rw [get_set_ne e1, get_set_ne e3]; exact h.sep j k ej ek hjk e2 e4 oj ok
/-- an owned thing becomes known -/
theorem EnvOk.frz1 {i : Nat} {e : Ent} (ex : Ex G H) (h : EnvOk K G H ρ σ) (hn : OwnNew H0 ρ σ) (q : ρ[i]? = some e) : ∃ G2, Ex G G2 ∧ Ex G2 H ∧ (∀ a, G2 a ≠ none → G a ≠ none ∨ H0 a = none) ∧ EnvOk K G2 H (ρ.set i e.frz) σ ∧ OwnNew H0 (ρ.set i e.frz) σ := by
  have on : ∀ {e'}, (e' : Ent).own = false ∨ e' = e → OwnNew H0 (ρ.set i e') σ := fun {e'} hf j x y o a z => by
    rcases set_get y with ⟨e1, e2⟩ | ⟨e1, e2⟩
    · subst e2
      rcases hf with hf | hf
      · rw [hf] at o; cases o
      · subst hf; subst e1; exact hn j _ q o a z
    · exact hn j x e2 o a z
  have same : e.frz = e → ∃ G2, Ex G G2 ∧ Ex G2 H ∧ (∀ a, G2 a ≠ none → G a ≠ none ∨ H0 a = none) ∧ EnvOk K G2 H (ρ.set i e.frz) σ ∧ OwnNew H0 (ρ.set i e.frz) σ := fun z => by
    rw [z]
    have w : ρ.set i e = ρ := by
      apply List.ext_getElem?
      intro j
      by_cases c : i = j
      · subst c
        rw [List.getElem?_set_self (List.getElem?_eq_some_iff.mp q).1, q]
      · rw [List.getElem?_set_ne c]
    rw [w]
    exact ⟨G, Ex.refl _, ex, fun _ z => .inl z, h, hn⟩
  -- the place i is frozen with d, its object u at a
  have go : ∀ (a : Addr) (u : HO) (d : D), σ[i]? = some (some (.ref a)) → e.own = true → H a = some u → G a = none → (∀ G2, Ex G G2 → G2 a = some u → Rep K G2 (.ref a) d) →
      ∃ G2, Ex G G2 ∧ Ex G2 H ∧ (∀ a, G2 a ≠ none → G a ≠ none ∨ H0 a = none) ∧ EnvOk K G2 H (ρ.set i (.fz d)) σ ∧ OwnNew H0 (ρ.set i (.fz d)) σ := fun a u d ha oe hu hg hr => by
    have e1 : Ex G (upd G a u) := Ex.new hg
    have e2 : Ex (upd G a u) H := fun b w z => by
      by_cases c : b = a
      · subst c; rw [upd_same] at z; cases z; exact hu
      · rw [upd_ne c] at z; exact ex b w z
    have no : ∀ (j : Nat) (ej : Ent) (b : Addr), j ≠ i → ρ[j]? = some ej → ej.own = true → σ[j]? = some (some (V.ref b)) → b ≠ a := fun j ej b c qj oj z w => by
      subst w
      exact h.sep j i ej e c qj q oj oe (z.trans ha.symm)
    refine ⟨upd G a u, e1, e2, fun b z => ?_, ⟨?_, fun j d' y => ?_, fun j xs y => ?_, fun j xs y => ?_, fun j k ej ek hjk qj qk oj ok => ?_⟩, on (.inl rfl)⟩
    · by_cases c : b = a
      · subst c; exact .inr (hn i e q oe b ha)
      · rw [upd_ne c] at z; exact .inl z
    · rw [List.length_set]; exact h.len
    · rcases set_get y with ⟨c1, c2⟩ | ⟨c1, c2⟩
      · subst c1; cases c2; exact ⟨_, ha, hr _ e1 upd_same⟩
      · obtain ⟨w, h1, h2⟩ := h.fz j d' c2
        exact ⟨w, h1, h2.up e1⟩
    · rcases set_get y with ⟨c1, c2⟩ | ⟨c1, c2⟩
      · cases c2
      · obtain ⟨b, vs, h1, h2, h3, h4⟩ := h.ol j xs c2
        exact ⟨b, vs, h1, h2, by rw [upd_ne (no j _ b c1 c2 rfl h1)]; exact h3, h4.up e1⟩
    · rcases set_get y with ⟨c1, c2⟩ | ⟨c1, c2⟩
      · cases c2
      · obtain ⟨b, h1, h3, h4⟩ := h.od j xs c2
        refine ⟨b, h1, by rw [upd_ne (no j _ b c1 c2 rfl h1)]; exact h3, ?_⟩
        rcases h4 with ⟨vs, z1, z2, z3⟩ | ⟨vs, z1, z2, z3⟩
        · exact .inl ⟨vs, z1, z2, z3.up e1⟩
        · exact .inr ⟨vs, z1, z2, z3.up e1⟩
    · rcases set_get qj with ⟨c1, c2⟩ | ⟨c1, c2⟩
      · subst c2; cases oj
      · rcases set_get qk with ⟨c3, c4⟩ | ⟨c3, c4⟩
        · subst c4; cases ok
        · exact h.sep j k ej ek hjk c2 c4 oj ok
  cases e with
  | no => exact same rfl
  | fz d => exact same rfl
  | ol xs =>
    obtain ⟨a, vs, h1, h2, h3, h4⟩ := h.ol i xs q
    exact go a _ _ h1 rfl h2 h3 fun G2 e2 z => .lst (.inl (.inl z)) (h4.up e2)
  | od kvs =>
    obtain ⟨a, h1, h3, h4⟩ := h.od i kvs q
    rcases h4 with ⟨vs, z1, z2, z3⟩ | ⟨vs, z1, z2, z3⟩
    · exact go a _ _ h1 rfl z1 h3 fun G2 e2 z => .dK z z2 (z3.up e2)
    · exact go a _ _ h1 rfl z1 h3 fun G2 e2 z => .dT z z2 (z3.up e2)
theorem EnvOk.frz : ∀ (is : List Nat) {G : Hp} {ρ : Rho}, Ex G H → EnvOk K G H ρ σ → OwnNew H0 ρ σ → ∃ G2, Ex G G2 ∧ Ex G2 H ∧ (∀ a, G2 a ≠ none → G a ≠ none ∨ H0 a = none) ∧ EnvOk K G2 H (frzAt is ρ) σ ∧ OwnNew H0 (frzAt is ρ) σ
  | [], G, ρ, ex, h, hn => ⟨G, Ex.refl _, ex, fun _ z => .inl z, h, hn⟩
  | i :: is, G, ρ, ex, h, hn => by
    unfold frzAt
    cases q : ρ[i]? with
    | none => exact EnvOk.frz is ex h hn
    | some e =>
      obtain ⟨G2, a1, a2, a3, a4, a5⟩ := EnvOk.frz1 ex h hn q
      obtain ⟨G3, b1, b2, b3, b4, b5⟩ := EnvOk.frz is a2 a4 a5
      refine ⟨G3, a1.trans b1, b2, fun a z => ?_, b4, b5⟩
      rcases b3 a z with z | z
      · exact a3 a z
      · exact .inr z
end

/-! ### targets -/
inductive Tg where
  | v (i : Nat)
  | t (ts : List Tg)
mutual
def bindT : Tg → D → Rho → Option Rho
  | .v i, d, ρ => some (ρ.set i (.fz d))
  | .t ts, .tuple ds, ρ => bindTs ts ds ρ
  | .t _, _, _ => none
def bindTs : List Tg → List D → Rho → Option Rho
  | [], [], ρ => some ρ
  | t :: ts, d :: ds, ρ => (bindT t d ρ).bind (bindTs ts ds)
  | _, _, _ => none
end
mutual
def Tg.ix : Tg → List Nat
  | .v i => [i]
  | .t ts => Tg.ixs ts
def Tg.ixs : List Tg → List Nat
  | [] => []
  | x :: xs => x.ix ++ Tg.ixs xs
end
/-- the target's reading -/
def rdG (K : PySem.W.Frag) (t : Tg) : TG := fun v σ H Q => ∃ G ρ ρ' d, Ex G H ∧ EnvOk K G H ρ σ ∧ Rep K G v d ∧ bindT t d ρ = some ρ' ∧
  ∀ σ', EnvOk K G H ρ' σ' → (∀ j, j ∉ t.ix → σ'[j]? = σ[j]?) → (∀ H0, OwnNew H0 ρ σ → OwnNew H0 ρ' σ') → Q σ' H
def rdGs (K : PySem.W.Frag) (ts : List Tg) : TGs := fun vs σ H Q => ∃ G ρ ρ' ds, Ex G H ∧ EnvOk K G H ρ σ ∧ Reps K G vs ds ∧ bindTs ts ds ρ = some ρ' ∧
  ∀ σ', EnvOk K G H ρ' σ' → (∀ j, j ∉ Tg.ixs ts → σ'[j]? = σ[j]?) → (∀ H0, OwnNew H0 ρ σ → OwnNew H0 ρ' σ') → Q σ' H
/-- where targets stand: a def's body, a block -/
structure Gg (N : List Str) (sc : List (Str × NameKind)) (fl : Str → Bool) (X : Cx) : Prop where
  hN : X.N = N
  nd : N.Nodup
  names : X.env.scope.names = sc
  calm : X.calm = true
  fn : ∀ x, fl x = true → X.fn x = true
def SG (N : List Str) (sc : List (Str × NameKind)) (fl : Str → Bool) (e : Expr) (t : Tg) : Prop := ∀ X, Gg N sc fl X → PG X e (rdG X.K t)
def SGs (N : List Str) (sc : List (Str × NameKind)) (fl : Str → Bool) (es : List Expr) (ts : List Tg) : Prop := ∀ X, Gg N sc fl X → PGs X es (rdGs X.K ts) ∧ (assignEach es X.env).length = ts.length ∧ (assignEach es X.env).findIdx? (·.1) = none
theorem PG.mono {X : Cx} {e : Expr} {t t' : TG} (h : PG X e t) (i : ∀ v σ H Q, t' v σ H Q → t v σ H Q) : PG X e t' := ⟨fun pins s σ H v u Q I r q => h.run pins s σ H v u Q I r (i v σ H Q q)⟩
theorem PGs.mono {X : Cx} {e : List Expr} {t t' : TGs} (h : PGs X e t) (i : ∀ v σ H Q, t' v σ H Q → t v σ H Q) : PGs X e t' := ⟨fun pins s σ H v u Q I r q => h.run pins s σ H v u Q I r (i v σ H Q q)⟩
def isTgt : Expr → Bool
  | .Name .. => true
  | .Tuple .. => true
  | _ => false
section
variable {N : List Str} {sc : List (Str × NameKind)} {fl : Str → Bool} {e : Expr} {es : List Expr} {t : Tg} {ts : List Tg} {pos : Pos}
theorem sg_name {i : Nat} {x : Str} {kd : NameKind} (hi : N[i]? = some x) (hs : sc.lookup x = some kd) (hk : kd = .local ∨ (kd = .cell ∧ fl x = true)) : SG N sc fl (.Name x pos) (.v i) := fun X g => by
  have hx : L2.Loc X.env.scope x := by
    unfold L2.Loc; rw [g.names, hs]
    rcases hk with rfl | ⟨rfl, _⟩
    · exact .inl rfl
    · exact .inr rfl
  have hf : X.fn x = true ∨ X.env.scope.names.lookup x = some .local := by
    rcases hk with rfl | ⟨_, hk⟩
    · exact .inr (by rw [g.names]; exact hs)
    · exact .inl (g.fn x hk)
  refine PG.mono (pg_name (i := i) (by rw [g.hN]; exact g.nd) (by rw [g.hN]; exact hi) hx hf) fun v σ H Q ⟨G, ρ, ρ', d, e1, en, r, b, q⟩ => ?_
  cases b
  exact q _ (en.set r) (fun j hj => get_set_ne (fun z => hj (by rw [z]; exact List.mem_singleton.mpr rfl))) fun H0 o => o.set
theorem sgs_nil : SGs N sc fl [] [] := fun X g => ⟨PGs.mono pgs_nil fun vs σ H Q ⟨G, ρ, ρ', ds, e1, en, r, b, q⟩ =>
  (match ds, r, b with
  | [], r, b => by
    cases b
    exact ⟨r.nil_inv, q _ en (fun _ _ => rfl) fun _ o => o⟩
  | _ :: _, _, b => by cases b), rfl, rfl⟩
theorem each_cons {e : Expr} {es : List Expr} (h : isTgt e = true) (env : Env) : assignEach (e :: es) env = (false, assign e env) :: assignEach es env := by
  cases e <;> first | rfl | cases h
theorem sgs_cons (hh : SG N sc fl e t) (ht : SGs N sc fl es ts) (hi : isTgt e = true) : SGs N sc fl (e :: es) (t :: ts) := fun X g => by
  obtain ⟨h1, h2, h3⟩ := ht X g
  refine ⟨PGs.mono (pgs_cons (hh X g) h1 (by rw [each_cons hi]; rfl)) fun vs σ H Q ⟨G, ρ, ρ', ds, e1, en, r, b, q⟩ => ?_, by rw [each_cons hi, List.length_cons, h2]; rfl, by rw [each_cons hi, List.findIdx?_cons, h3]; rfl⟩
  cases ds with
  | nil => cases b
  | cons d ds =>
    obtain ⟨v, ws, rfl, r1, r2⟩ := r.cons_inv
    have b : (bindT t d ρ).bind (bindTs ts ds) = some ρ' := b
    cases b1 : bindT t d ρ with
    | none => rw [b1] at b; cases b
    | some ρ1 =>
      rw [b1] at b
      refine ⟨v, ws, rfl, G, ρ, ρ1, d, e1, en, r1, b1, fun σ1 en1 f1 o1 => ?_⟩
      refine ⟨G, ρ1, ρ', ds, e1, en1, r2, b, fun σ2 en2 f2 o2 => ?_⟩
      refine q σ2 en2 (fun j hj => ?_) fun H0 o => o2 H0 (o1 H0 o)
      unfold Tg.ixs at hj
      rw [List.mem_append, not_or] at hj
      rw [f2 j hj.2, f1 j hj.1]
theorem sg_tup {kk : Nat} (h : SGs N sc fl es ts) : SG N sc fl (.Tuple es kk pos) (.t ts) := fun X g => by
  obtain ⟨h1, h2, h3⟩ := h X g
  refine PG.mono (pg_tup g.calm h1 h2 h3) fun v σ H Q ⟨G, ρ, ρ', d, e1, en, r, b, q⟩ => ?_
  cases d with
  | tuple ds =>
    obtain ⟨a, xs, rfl, x1, x2⟩ := r.tuple_inv
    have b : bindTs ts ds ρ = some ρ' := b
    have hl : ∀ (ts : List Tg) (ds : List D) (ρ : Rho), bindTs ts ds ρ = some ρ' → ds.length = ts.length := by
      intro ts
      induction ts with
      | nil => intro ds ρ z; cases ds with
        | nil => rfl
        | cons _ _ => cases z
      | cons t ts ih => intro ds ρ z; cases ds with
        | nil => cases z
        | cons d ds =>
          have z : (bindT t d ρ).bind (bindTs ts ds) = some ρ' := z
          cases b1 : bindT t d ρ with
          | none => rw [b1] at z; cases z
          | some ρ1 => rw [b1] at z; rw [List.length_cons, List.length_cons, ih ds ρ1 z]
    exact ⟨a, xs, rfl, .inl (.inl (e1 _ _ x1)), by rw [x2.length]; exact hl ts ds ρ b, G, ρ, ρ', ds, e1, en, x2, b, q⟩
  | _ => cases b
end

/-! ### what is walked -/
def ItD (K : PySem.W.Frag) (J : It) (ds : List D) (G : Hp) : Prop := ∀ (i : Nat) (G2 H2 : Hp), Ex G G2 → Ex G2 H2 →
  (∀ d, ds[i]? = some d → J.go i H2 ∧ ∀ x H3, J.yld i H2 x H3 → ∃ G3, Step G2 H2 G3 H3 ∧ Rep K G3 x d) ∧ (ds.length ≤ i → J.stop i H2)
abbrev pI (K : PySem.W.Frag) (ds : List D) (J : It) (G' _ : Hp) : Prop := ItD K J ds G'
def rdI (T : Tab) (K : PySem.W.Frag) (mg : Str → Option Value) (W : XK) (f : Rho → R (List D)) : TI := fun σ H Q => ∃ G ρ, Ex G H ∧ EnvOk K G H ρ σ ∧ ResG T K mg W G H (f ρ) (pI K) Q
def SI (T : Tab) (N : List Str) (k : Nat) (ev : Ev) (sc : List (Str × NameKind)) (tg e : Expr) (f : FL) : Prop := ∀ X W, Gd T N k ev sc X W → PI X tg e (rdI T X.K X.mg W (f ev))
theorem PI.mono {X : Cx} {tg e : Expr} {t t' : TI} (h : PI X tg e t) (i : ∀ σ H Q, t' σ H Q → t σ H Q) : PI X tg e t' := ⟨fun pins s σ H Q I q => h.run pins s σ H Q I (i σ H Q q)⟩
theorem PI.or {X : Cx} {tg e : Expr} {t t' : TI} (h : PI X tg e t) (h' : PI X tg e t') : PI X tg e (fun σ H Q => t σ H Q ∨ t' σ H Q) := ⟨fun pins s σ H Q I q => q.elim (h.run pins s σ H Q I) (h'.run pins s σ H Q I)⟩
section
variable {K : PySem.W.Frag} {G H : Hp}
theorem itd_list {a : Addr} {xs : List V} {ds : List D} (hx : SqL K G a xs) (r : Reps K G xs ds) : ItD K (Itl K a) ds G := fun i G2 H2 e1 e2 => by
  have hq : SqL K H2 a xs := (e1.trans e2).sl hx
  refine ⟨fun d hd => ?_, fun hl => ⟨xs, hq, by rw [r.length]; exact hl⟩⟩
  obtain ⟨v, h1, h2⟩ := r.get hd
  refine ⟨⟨xs, v, hq, h1⟩, fun x H3 ⟨eH, y⟩ => ?_⟩
  subst eH
  have : v = x := Option.some.inj (h1.symm.trans (y xs hq))
  subst this
  exact ⟨G2, Step.refl e2, h2.up e1⟩
theorem itd_tup {a : Addr} {xs : List V} {ds : List D} (hx : SqT K G a xs) (r : Reps K G xs ds) : ItD K (Itt K a) ds G := fun i G2 H2 e1 e2 => by
  have hq : SqT K H2 a xs := (e1.trans e2).st hx
  refine ⟨fun d hd => ?_, fun hl => ⟨xs, hq, by rw [r.length]; exact hl⟩⟩
  obtain ⟨v, h1, h2⟩ := r.get hd
  refine ⟨⟨xs, v, hq, h1⟩, fun x H3 ⟨eH, y⟩ => ?_⟩
  subst eH
  have : v = x := Option.some.inj (h1.symm.trans (y xs hq))
  subst this
  exact ⟨G2, Step.refl e2, h2.up e1⟩
def strItems (x : Str) : List D := x.cps.toList.map fun c => .str ⟨#[c]⟩
theorem strOkay_one {x : Str} {c : Nat} {i : Nat} (h : StrOkay x) (hc : x.cps.toList[i]? = some c) : StrOkay ⟨#[c]⟩ := by
  refine ⟨by show 1 ≤ lim; decide, ?_⟩
  have h2 := h.2
  unfold PyData.strOk at h2 ⊢
  rw [← Array.all_toList, List.all_eq_true] at h2
  have := h2 c (List.mem_of_getElem? hc)
  simpa using this
theorem itd_str {x : Str} (h : StrOkay x) : ItD K (Its x) (strItems x) G := fun i G2 H2 e1 e2 => by
  have hl : (strItems x).length = x.cps.size := by unfold strItems; rw [List.length_map, Array.length_toList]
  refine ⟨fun d hd => ?_, fun z => by rw [hl] at z; exact z⟩
  have hi : i < x.cps.size := by
    have := (List.getElem?_eq_some_iff.mp hd).1
    rw [hl] at this; exact this
  refine ⟨hi, fun v H3 ⟨eH, c, hc, ev⟩ => ?_⟩
  subst eH ev
  have hc' : x.cps.toList[i]? = some c := by rw [Array.getElem?_toList]; exact hc
  unfold strItems at hd
  rw [List.getElem?_map, hc'] at hd
  cases hd
  exact ⟨G2, Step.refl e2, .str _ (strOkay_one h hc')⟩
def rng (lo : Int) (n : Nat) : List D := (List.range n).map fun i => .int (lo + (i : Nat))
theorem itd_rng {lo : Int} {n : Nat} : ItD K (Itr lo n) (rng lo n) G := fun i G2 H2 e1 e2 => by
  refine ⟨fun d hd => ?_, fun z => by unfold rng at z; rw [List.length_map, List.length_range] at z; exact z⟩
  unfold rng at hd
  rw [List.getElem?_map] at hd
  by_cases hi : i < n
  · rw [List.getElem?_range hi] at hd
    cases hd
    exact ⟨hi, fun x H3 ⟨e3, e4⟩ => by subst e3 e4; exact ⟨G2, Step.refl e2, .int _⟩⟩
  · rw [List.getElem?_eq_none (by rw [List.length_range]; omega)] at hd
    cases hd
def rngC (lo c : Int) (n : Nat) : List D := (List.range n).map fun i => .int (lo + (i : Nat) * c)
theorem itd_rngC {lo c : Int} {n : Nat} : ItD K (Itc lo c n) (rngC lo c n) G := fun i G2 H2 e1 e2 => by
  refine ⟨fun d hd => ?_, fun z => by unfold rngC at z; rw [List.length_map, List.length_range] at z; exact z⟩
  unfold rngC at hd
  rw [List.getElem?_map] at hd
  by_cases hi : i < n
  · rw [List.getElem?_range hi] at hd
    cases hd
    exact ⟨hi, fun x H3 ⟨e3, e4⟩ => by subst e3 e4; exact ⟨G2, Step.refl e2, .int _⟩⟩
  · rw [List.getElem?_eq_none (by rw [List.length_range]; omega)] at hd
    cases hd
/-- a new pair -/
theorem pair_new {G2 H2 : Hp} {T : Addr} {x y : V} {dx dy : D} (e2 : Ex G2 H2) (hT : H2 T = none) (r1 : Rep K G2 x dx) (r2 : Rep K G2 y dy) : ∃ G3, Step G2 H2 G3 (upd H2 T (.tup [x, y])) ∧ Rep K G3 (.ref T) (.tuple [dx, dy]) := by
  have hg : G2 T = none := e2.none hT
  exact ⟨upd G2 T (.tup [x, y]), Step.fresh e2 hT, .tup upd_same (.cons (r1.up (Ex.new hg)) (.cons (r2.up (Ex.new hg)) .nil))⟩
def enumL (ds : List D) : List D := (List.range ds.length).zipWith (fun i d => .tuple [.int (i : Nat), d]) ds
theorem enumL_get {ds : List D} {i : Nat} {d : D} (h : (enumL ds)[i]? = some d) : ∃ x, ds[i]? = some x ∧ d = .tuple [.int (i : Nat), x] := by
  unfold enumL at h
  rw [List.getElem?_zipWith] at h
  cases q : ds[i]? with
  | none => rw [q] at h; cases hr : (List.range ds.length)[i]? <;> rw [hr] at h <;> cases h
  | some x =>
    have hi : i < ds.length := (List.getElem?_eq_some_iff.mp q).1
    rw [q, List.getElem?_range hi] at h
    exact ⟨x, rfl, (Option.some.inj h).symm⟩
theorem enumL_len (ds : List D) : (enumL ds).length = ds.length := by unfold enumL; rw [List.length_zipWith, List.length_range, Nat.min_self]
theorem itd_enum {a : Addr} {xs : List V} {ds : List D} (hx : SqL K G a xs) (r : Reps K G xs ds) : ItD K (Ite K a) (enumL ds) G := fun i G2 H2 e1 e2 => by
  have hq : SqL K H2 a xs := (e1.trans e2).sl hx
  refine ⟨fun d hd => ?_, fun hl => ⟨xs, hq, by rw [r.length, ← enumL_len ds]; exact hl⟩⟩
  obtain ⟨w, hw, rfl⟩ := enumL_get hd
  obtain ⟨v, h1, h2⟩ := r.get hw
  refine ⟨⟨xs, v, hq, h1⟩, fun x H3 ⟨T, y, ex, hT, eH, z⟩ => ?_⟩
  subst ex eH
  have : v = y := Option.some.inj (h1.symm.trans (z xs hq))
  subst this
  exact pair_new e2 hT (.int _) (h2.up e1)
def zipL (ds es : List D) : List D := ds.zipWith (fun d e => .tuple [d, e]) es
theorem zipL_get {ds es : List D} {i : Nat} {d : D} (h : (zipL ds es)[i]? = some d) : ∃ x y, ds[i]? = some x ∧ es[i]? = some y ∧ d = .tuple [x, y] := by
  unfold zipL at h
  rw [List.getElem?_zipWith] at h
  cases q : ds[i]? with
  | none => rw [q] at h; cases h
  | some x =>
    cases q2 : es[i]? with
    | none => rw [q, q2] at h; cases h
    | some y =>
      rw [q, q2] at h
      exact ⟨x, y, rfl, rfl, (Option.some.inj h).symm⟩
theorem zipL_len (ds es : List D) : (zipL ds es).length = min ds.length es.length := by unfold zipL; rw [List.length_zipWith]
theorem itd_zip {a b : Addr} {xs ys : List V} {ds es : List D} (hx : SqL K G a xs) (hy : SqL K G b ys) (r : Reps K G xs ds) (r' : Reps K G ys es) : ItD K (Itz K a b) (zipL ds es) G := fun i G2 H2 e1 e2 => by
  have hq : SqL K H2 a xs := (e1.trans e2).sl hx
  have hq2 : SqL K H2 b ys := (e1.trans e2).sl hy
  refine ⟨fun d hd => ?_, fun hl => ⟨xs, ys, hq, hq2, by rw [zipL_len] at hl; rw [r.length, r'.length]; omega⟩⟩
  obtain ⟨w, w2, hw, hw2, rfl⟩ := zipL_get hd
  obtain ⟨v, h1, h2⟩ := r.get hw
  obtain ⟨v2, h3, h4⟩ := r'.get hw2
  refine ⟨⟨xs, ys, v, v2, hq, hq2, h1, h3⟩, fun x H3 ⟨T, y, y2, ex, hT, eH, z, z2⟩ => ?_⟩
  subst ex eH
  have : v = y := Option.some.inj (h1.symm.trans (z xs hq))
  subst this
  have : v2 = y2 := Option.some.inj (h3.symm.trans (z2 ys hq2))
  subst this
  exact pair_new e2 hT (h2.up e1) (h4.up e1)
theorem itd_zipT {a b : Addr} {xs ys : List V} {ds es : List D} (hx : SqT K G a xs) (hy : SqT K G b ys) (r : Reps K G xs ds) (r' : Reps K G ys es) : ItD K (RZ.ItzT K a b) (zipL ds es) G := fun i G2 H2 e1 e2 => by
  have hq : SqT K H2 a xs := (e1.trans e2).st hx
  have hq2 : SqT K H2 b ys := (e1.trans e2).st hy
  refine ⟨fun d hd => ?_, fun hl => ⟨xs, ys, hq, hq2, by rw [zipL_len] at hl; rw [r.length, r'.length]; omega⟩⟩
  obtain ⟨w, w2, hw, hw2, rfl⟩ := zipL_get hd
  obtain ⟨v, h1, h2⟩ := r.get hw
  obtain ⟨v2, h3, h4⟩ := r'.get hw2
  refine ⟨⟨xs, ys, v, v2, hq, hq2, h1, h3⟩, fun x H3 ⟨T, y, y2, ex, hT, eH, z, z2⟩ => ?_⟩
  subst ex eH
  have : v = y := Option.some.inj (h1.symm.trans (z xs hq))
  subst this
  have : v2 = y2 := Option.some.inj (h3.symm.trans (z2 ys hq2))
  subst this
  exact pair_new e2 hT (h2.up e1) (h4.up e1)
end
end PV

/-! PV15: the program's errors: made, raised. -/
namespace PV
open PySem L2 PySem.W PySem.Calls PyProof.Rows

/-- what the written part says of the base error's __init__ (super().__init__(at); self.at = at), at fI, of the class at D -/
structure PErr (P : Program) (K : PySem.W.Frag) (fI D : Addr) where
  (name qual : Str)
  (params : Arguments)
  (body : List Stmt)
  (scope : Scope)
  (dV kV doc pm ct oc ccl cl : Value)
  (an od cdd cld : Option Addr)
  (osl ccs csl : Array (Option Value))
  (cc cda : Addr)
  (vs : Array Value)
  (file : Str)
  (tf : Tok)
  (cdD : ClassData)
  (ar : Arg)
  (p0 p1 p2 p3 p4 p5 q1 q2 q3 q4 : Pos)
  hf : K.lookup fI = some ⟨oc, od, .func (ksFn name qual params body scope dV kV doc pm an (.ref cda) ct cc), osl⟩
  hcd : codeIn K (.ref cda) qual = true
  hcode : K.lookup cda = some ⟨ccl, cdd, .fields vs, ccs⟩
  hvs : vs[2]? = some (.str file tf)
  hfile : ((P.main.file : Str) == file) = true
  hcell : K.lookup cc = some ⟨cl, cld, .cell (some (.ref D)), csl⟩
  hD : clsIn K D = some cdD
  hbody : body = [.Expr (.Call (.Attribute (.Call (.Name "super" p0) [] [] p1) "__init__" p2) [.Name "at" p3] [] p4) p5, .Assign [.Attribute (.Name "self" q1) "at" q2] (.Name "at" q3) q4]
  pl : Env → Sem Bool
  hcall : ∀ env : Env, eval (.Call (.Attribute (.Call (.Name "super" p0) [] [] p1) "__init__" p2) [.Name "at" p3] [] p4) env = (do
    let ov ← attributeBase (.Call (.Name "super" p0) [] [] p1) "__init__" env (eval (.Call (.Name "super" p0) [] [] p1) env)
    standAt p2.atName
    let (f, first) ← holding [ov] (getMethod ov "__init__" (pl env))
    callWith p4 f first (backTo p4 (starEach [.Name "at" p3] env)) [])
  har : (params.posonlyargs ++ params.args).head? = some ar
  hself : ar.arg = "self"
  hbind : ∀ a b : Value, bindArgs (ksFn name qual params body scope dV kV doc pm an (.ref cda) ct cc) ⟨[a, b], []⟩ = pure [(("self" : Str), a), (("at" : Str), b)]
  hks : scope.names.lookup ("super" : Str) = some .globalImplicit
  hkc : scope.names.lookup ("__class__" : Str) = some .free
  hka : scope.names.lookup ("self" : Str) = some .local
  hkb : scope.names.lookup ("at" : Str) = some .local
  hk : scope.kind = .function
  hco : scope.isCoroutine = false
  hgen : scope.isGenerator = false
  hnoc : ∀ x ∈ scope.names, x.2 ≠ .cell
  htop : (P.main.scope.names.lookup ("super" : Str)).isSome = false
  hany : nsIn K cStatics "thirdparty.any" = some none
/-- .. and of an error class at C -/
structure PErrC (K : PySem.W.Frag) (D C : Addr) : Prop where
  oex : OexC K C
  sup : ks_superIn K C D "__init__" = some (some (.builtin "ValueError.__init__"))
  mro : mroIn K C (.ref D) = some true
  sub : subIn K (.ref C) (.type "ValueError") = some true
  noat : findIn K (.ref C) "at" = some none

section
variable {P : Program} {w : World} {A : Around} {K : PySem.W.Frag} {fI D C : Addr} {mg : Str → Option Value}
theorem init_run (T : PErr P K fI D) (TC : PErrC K D C) {s : Shared} {x t0 : Addr} {v : Value} {R : Result → Shared → Prop} {mb : Str → Option Value} (X : K.In s.heap) (lim : s.heap.NoLimit) (hg : s.heap.Ns mainGlobals mg) (hsup : mg "super" = none)
    (hb : s.heap.Ns builtinsNs mb) (hboot : mb "super" = bootBuiltins "super") (hroom : A.depth < recursionLimit) (hx : s.heap.get? x = some (HandSPX.excO C t0)) (hnx : K.lookup x = none)
    (hq : ∀ h' tk' t1 dx, (∀ b o, b ≠ x → s.heap.get? b = some o → h'.get? b = some o) → s.heap.objs.size ≤ dx → dx ≠ x → h'.get? x = some { cls := .ref C, dict := some dx, data := .fields #[.ref t1, .none, .none, .none, .bool false, .none] } →
      h'.Ns1 dx (fun y => if y = "at" then some v else none) → R (.ok (.ret .none)) { s with heap := h', toks := tk' }) :
    codeAny (model P w) A (.call (.ref fI) ⟨[.ref x, v], []⟩) R s := by
  obtain ⟨nm, q, N, bs, bm, sn, sub, ab, col, dd, k0, k1, k2, k3, k5, hC, hbm⟩ := TC.oex.cls
  have hcl : clsIn K C = some { name := nm, bases := bs, mro := .ref C :: bm, ns := N, qualname := q, hasDict := true, slotNames := sn, subclasses := sub, abstract := ab, collection := col, hasDel := false } := by unfold clsIn; rw [hC] <;> rfl
  obtain ⟨oD, hD1, hD2⟩ : ∃ oD, s.heap.get? D = some oD ∧ oD.data = .cls T.cdD := by
    have hD := T.hD
    unfold clsIn at hD
    split at hD
    · rename_i c d cd' sl ho
      cases hD
      exact ⟨_, X _ _ ho, rfl⟩
    · cases hD
  refine ks_codeAny_call_defAt (fd := ksFn T.name T.qual T.params T.body T.scope T.dV T.kV T.doc T.pm T.an (.ref T.cda) T.ct T.cc) (body := T.body) (binds := [("self", .ref x), ("at", v)]) hroom (X _ _ T.hf) rfl lim (codeRec_of X T.hcd) rfl (.of_eq (T.hbind _ _)) T.hnoc ?_ (fun h₀ hns k0' => ?_) T.hco T.hgen T.hk
  · intro y hy
    rcases List.mem_cons.mp hy with rfl | hy
    · exact T.hka
    · rw [List.mem_singleton.mp hy]; exact T.hkb
  have X0 : K.In h₀ := X.keeps k0'
  have hxs : x < s.heap.objs.size := Heap.lt_size hx
  have hself : (List.lookup ("self" : Str) [(("self" : Str), Value.ref x), (("at" : Str), v)].reverse) = some (.ref x) := by rfl
  have hat : (List.lookup ("at" : Str) [(("self" : Str), Value.ref x), (("at" : Str), v)].reverse) = some v := by rfl
  have hxC : x ≠ C := fun z => by
    have e := X _ _ hC
    rw [← z, hx] at e
    have e := Option.some.inj e
    cases e
  generalize henv : callEnv (ksFn T.name T.qual T.params T.body T.scope T.dV T.kV T.doc T.pm T.an (.ref T.cda) T.ct T.cc) s.heap.objs.size fI = env
  have e1 : env.scope = T.scope := by rw [← henv]; rfl
  have e2 : env.locals = s.heap.objs.size := by rw [← henv]; rfl
  have e3 : env.globals = mainGlobals := by rw [← henv]; rfl
  have e4 : env.builtins = builtinsNs := by rw [← henv]; rfl
  have e5 : env.func = some fI := by rw [← henv]; rfl
  have e6 : env.code = .ref T.cda := by rw [← henv]; rfl
  have e7 : env.cells = [(("__class__" : Str), T.cc)] := by rw [← henv]; rfl
  have kS : env.kindOf "super" = some .globalImplicit := by unfold Env.kindOf; rw [e1]; exact T.hks
  have kC : env.kindOf "__class__" = some .free := by unfold Env.kindOf; rw [e1]; exact T.hkc
  have kA : env.kindOf "self" = some .local := by unfold Env.kindOf; rw [e1]; exact T.hka
  have kB : env.kindOf "at" = some .local := by unfold Env.kindOf; rw [e1]; exact T.hkb
  have kF : env.scope.kind = .function := by rw [e1]; exact T.hk
  have hns' : h₀.Ns env.locals (fun y => List.lookup y [(("self" : Str), Value.ref x), (("at" : Str), v)].reverse) := by rw [e2]; exact hns
  rw [T.hbody]
  refine ks_wpAt_execs_cons (ks_wpAt_Expr_any (ks_wpAt_MethodCall (pl := T.pl env) ?_ (T.hcall env)) (by unfold interactive; rw [kF]; rfl) rfl)
  refine ks_wpAt_super_base (env := env) kS kC rfl e5 (X0 _ _ T.hf) rfl T.har e6 (X0 _ _ T.hcode) (by rfl) T.hvs T.hfile T.htop ?_
  refine ks_loadName_global kF kS (loadGlobal_builtin (env := env) (by rw [e3]; exact hg.keeps k0') hsup (by rw [e4]; exact hb.keeps k0') (hboot.trans PyProof.Rows.Boot.super) ⟨rfl, ?_⟩)
  refine wpAny_loadName_free kF kC (by rw [e7]; rfl) ⟨_, X0 _ _ T.hcell, rfl⟩ ?_
  rw [T.hself]
  refine wpAny_loadName_local kF kA hns' hself ?_
  refine ks_wpAny_isType_cls (k0' _ _ hD1) hD2 ⟨rfl, ?_⟩
  refine ks_wpAny_call_super (k0' _ _ hD1) hD2 (k0' _ _ hx) rfl (fun c e => by cases e) (looks_mroIn X0 TC.mro) (fun h1 so k1 => ?_)
  have X1 : K.In h1 := X0.keeps k1
  have hx1 := k1 _ _ (k0' _ _ hx)
  have I1 : InstAt h1 x (HandSPX.excO C t0) C none := ⟨hx1, rfl, rfl, trivial⟩
  have hI : Looks (model P w) h1 (isInstance (.ref x) (.type "ValueError")) true := I1.type.andThen (looks_subIn X1 TC.sub)
  have hal : alongIn K "__init__" (((Value.ref C :: bm).dropWhile (· != .ref D)).drop 1) = some (some (.builtin "ValueError.__init__")) := by
    have h := TC.sup
    unfold ks_superIn at h
    rw [hcl] at h
    exact h
  refine kxs_getMethod kxs_ValueError so (looks_opaque X1 T.hany) (l₀ := .ref C :: bm) ?_ rfl X1 hal hI hxC rfl ?_
  · exact fun A Q E s k q => wpAny_bind ((looks_clsIn X1 hcl) A _ E s k (wpAny_pure q))
  have nL : ∀ {h' : Heap}, (∀ b o, b ≠ x → h₀.get? b = some o → h'.get? b = some o) → h'.Ns env.locals (fun y => List.lookup y [(("self" : Str), Value.ref x), (("at" : Str), v)].reverse) := fun {h'} k => by
    obtain ⟨oL, es, ep, hL, r⟩ := hns'
    exact ⟨oL, es, ep, k _ _ (fun z => by rw [e2] at z; exact absurd hxs (by rw [z]; exact Nat.lt_irrefl _)) hL, r⟩
  have hx2 : (h1.push (kxs_mw "ValueError.__init__" x)).get? x = some (HandSPX.excO C t0) := Heap.get?_push_of_some _ hx1
  have hu2 : (h1.push (kxs_mw "ValueError.__init__" x)).get? h1.objs.size = some (kxs_mw "ValueError.__init__" x) := Heap.get?_push_size _ rfl
  have k2 : ∀ b o, h₀.get? b = some o → (h1.push (kxs_mw "ValueError.__init__" x)).get? b = some o := fun b o e => Heap.get?_push_of_some _ (k1 b o e)
  refine kxs_callWith (i := "ValueError.__init__") (x := x) rfl ?_
  refine Calls.evalArgs_plain (Calls.spliced_cons (wpAny_Name (wpAny_loadName_local kF kB (nL fun b o _ e => k2 b o e) hat (Calls.spliced_nil ⟨hu2, ?_⟩)) rfl))
  -- the built-in __init__ runs
  have run : ∀ {Q : Value → Shared → Prop} {E : Value → Shared → Prop} {A : Around} {t : Nat}, (∀ h3 t1, (∀ b o, b ≠ x → (h1.push (kxs_mw "ValueError.__init__" x)).get? b = some o → h3.get? b = some o) → h3.get? x = some (HandSPX.excO C t1) → Q .none { s with heap := h3, toks := t }) →
      wpAny (model P w) A (call (.ref h1.objs.size) [v]) Q E { s with heap := h1.push (kxs_mw "ValueError.__init__" x), toks := t } := fun {Q E A t} hq => by
    obtain ⟨hh, gg, dd', tt, oo⟩ := s
    refine wpAny_call (codeAny_of_tree ?_)
    show wpAny _ A.in1 (callAny (.ref h1.objs.size) ⟨[v], []⟩) _ _ _
    simp only [callAny]
    refine wpAny_bind (wpAny_load hu2 ?_)
    simp only [kxs_mw, show (Value.type "method-wrapper" == Value.type "method" || Value.type "method-wrapper" == Value.type "builtin_function_or_method" || Value.type "method-wrapper" == Value.type "method-wrapper") = true by decide, if_true]
    refine KFB.if_so (by decide) ?_
    refine wpAny_bind (check_bound_init PySem.F.excBase_ValueError.toExcCallFacts (X1.keeps (fun b o e => Heap.get?_push_of_some _ e) _ _ hC) hx2 rfl ?_)
    refine wpAny_bind (wpAny_pure (wpAny_pure ?_))
    refine ⟨plainId_quiet PySem.F.excBase_ValueError.init.plain _, codeAny_builtin PySem.F.excBase_ValueError.initEntry ?_⟩
    exact exc_init_tree (cls := .ref C) (t0 := t0) (dv := none) (c2 := .none) (c3 := .none) (b4 := .bool false) hx2 (by show 1 ≤ sizeLine; decide) fun h' k e _ => hq h' _ k e
  refine run fun h3 t1 k3 hx3 => ?_
  have k03 : ∀ b o, b ≠ x → h₀.get? b = some o → h3.get? b = some o := fun b o hb e => k3 b o hb (k2 b o e)
  refine ks_wpAt_execs_cons (ks_wpAt_Assign_Attr (wpAt_of_wpAny (wpAny_Name (wpAny_loadName_local kF kB (nL k03) hat ?_) rfl)) rfl)
  refine wpAny_Name (wpAny_loadName_local kF kA (nL k03) hself ?_) rfl
  have X3 : K.In h3 := fun b o e => by
    refine k03 b o (fun z => ?_) (X0 b o e)
    rw [z, hnx] at e
    cases e
  refine set_plain X3 (ox := HandSPX.excO C t1) (od := none) ⟨hx3, rfl, rfl, trivial⟩ TC.oex.sa ?_
  refine HandSPX.exc_osa X3 hx3 hcl (show HandSPX.refsVE (.ref C :: bm) = true from hbm) rfl TC.noat fun h4 tk4 dx k4 dn dne hx4 hn4 => ?_
  refine wpAt_of_wpAny (wpAny_execs_nil ?_)
  refine hq h4 tk4 t1 dx (fun b o hb e => k4 b o hb (k03 b o hb (k0' b o e))) ?_ dne hx4 hn4
  obtain ⟨oL, _, _, hL, _⟩ := nL k03
  rw [e2] at hL
  exact Nat.le_trans (Nat.le_of_lt (Heap.lt_size hL)) dn
end

/-- what the written part says of the program's errors -/
structure Errs (T : Tab) (P : Program) (K : PySem.W.Frag) (mg : Str → Option Value) : Prop where
  base : ∃ fI D, Nonempty (PErr P K fI D) ∧ mg "super" = none ∧ typeIn K (.ref fI) = some (.type "function") ∧ ∀ (c : Nat) (x : Str), T.cls[c]? = some x → ∃ C, mg x = some (.ref C) ∧ PErrC K D C ∧ findIn K (.ref C) "__init__" = some (some (.ref fI)) ∧ XfC K C
  dif : ∀ (c c' : Nat) (C C' : Addr), ClsAt T mg c C → ClsAt T mg c' C' → exmOne K (.ref C) (.ref C') = some (decide (c = c'))
end PV

/-! PV12: statements. -/
namespace PV
open PySem L2

def RS.seq (r : RS) (k : Rho → RS) : RS := match r with
  | .next ρ => k ρ
  | .ret d => .ret d
  | .exc c z => .exc c z
  | .bad => .bad
/-- what must hold at a statement so that what the plain function gives is what is wanted. G0 H0: where the def began; G: what is known now -/
def ResS (T : Tab) (K : PySem.W.Frag) (mg : Str → Option Value) (W : XK) (G0 H0 G : Hp) (D : Ends) (r : RS) : Prop := match r with
  | .next ρ => ∀ σ' G' H', Step G0 H0 G' H' → Ex G G' → EnvOk K G' H' ρ σ' → OwnNew H0 ρ σ' → D.nx σ' H'
  | .ret d => ∀ v G' H', Step G0 H0 G' H' → Ex G G' → Rep K G' v d → D.rt v H'
  | .exc c z => WX T K mg W G0 H0 c z
  | .bad => False
def rdS (T : Tab) (K : PySem.W.Frag) (mg : Str → Option Value) (W : XK) (f : Rho → RS) : TS := fun D σ H => ∃ G0 H0 G ρ, Step G0 H0 G H ∧ EnvOk K G H ρ σ ∧ OwnNew H0 ρ σ ∧ ResS T K mg W G0 H0 G D (f ρ)
section
variable {T : Tab} {K : PySem.W.Frag} {mg : Str → Option Value} {W : XK} {G0 H0 G H G1 : Hp} {D D' : Ends}
theorem ResS.up {r : RS} (e : Ex G G1) (h : ResS T K mg W G0 H0 G D r) : ResS T K mg W G0 H0 G1 D r := by
  cases r with
  | next ρ => exact fun σ' G' H' s x => h σ' G' H' s (e.trans x)
  | ret d => exact fun v G' H' s x => h v G' H' s (e.trans x)
  | exc c z => exact h
  | bad => exact h
theorem ResS.seq {r : RS} {k : Rho → RS} (h : ResS T K mg W G0 H0 G D (r.seq k)) (hn : ∀ ρ σ' G' H', r = .next ρ → Step G0 H0 G' H' → Ex G G' → EnvOk K G' H' ρ σ' → OwnNew H0 ρ σ' → ResS T K mg W G0 H0 G' D (k ρ) → D'.nx σ' H')
    (hr : ∀ v H', D.rt v H' → D'.rt v H') : ResS T K mg W G0 H0 G D' r := by
  cases r with
  | next ρ => exact fun σ' G' H' s e en o => hn ρ σ' G' H' rfl s e en o (ResS.up e h)
  | ret d => exact fun v G' H' s e r => hr v H' (h v G' H' s e r)
  | exc c z => exact h
  | bad => exact h
/-- an expression within a statement: what follows of its value -/
def RS.ofR {α : Type} (r : R α) (k : α → RS) : RS := match r with
  | .ok a => k a
  | .exc c z => .exc c z
  | .bad => .bad
theorem ResS.expr {α β : Type} {r : R α} {k : α → RS} {P : α → β → Hp → Hp → Prop} {Q : β → Hp → Prop} (s0 : Step G0 H0 G H) (h : ResS T K mg W G0 H0 G D (RS.ofR r k))
    (hk : ∀ a v G' H', r = .ok a → Step G H G' H' → P a v G' H' → ResS T K mg W G0 H0 G' D (k a) → Q v H') : ResG T K mg W G H r P Q := by
  cases r with
  | ok a => exact fun v G' H' s p => hk a v G' H' rfl s p (ResS.up s.g h)
  | exc c z => exact WX.later T s0 h
  | bad => exact h
end

/-! ### where statements stand -/
structure Gs (T : Tab) (N : List Str) (k : Nat) (ev : Ev) (sc : List (Str × NameKind)) (X : Cx) (W : XK) : Prop extends Gd T N k ev sc X W where
  tk : Takes X (fun cls d _ H => W cls d H)
  hs : X.stack = X.env :: X.outer
  hf : X.env.frame = some X.env.locals
  po : PassesOwn (model X.prog X.w) X.A X.env X.xe
  fnT : ∀ x, X.fn x = true
  errs : Errs T X.prog X.K X.mg
  lv : 2 ≤ k
section
variable {T : Tab} {N : List Str} {k : Nat} {ev : Ev} {sc : List (Str × NameKind)} {X : Cx} {W : XK}
theorem Gs.gg (g : Gs T N k ev sc X W) : Gg N sc (fun _ => true) X := ⟨g.hN, g.nd, g.names, g.calm, fun x _ => g.fnT x⟩
end
def SS (T : Tab) (N : List Str) (k : Nat) (ev : Ev) (sc : List (Str × NameKind)) (st : Stmt) (f : FS) : Prop := ∀ X W, Gs T N k ev sc X W → PS X st (rdS T X.K X.mg W (f ev))
def SSs (T : Tab) (N : List Str) (k : Nat) (ev : Ev) (sc : List (Str × NameKind)) (st : List Stmt) (f : FS) : Prop := ∀ X W, Gs T N k ev sc X W → PSs X st (rdS T X.K X.mg W (f ev))
theorem PS.mono {X : Cx} {e : Stmt} {t t' : TS} (h : PS X e t) (i : ∀ D σ H, t' D σ H → t D σ H) : PS X e t' := ⟨fun pins s σ H D I q => h.run pins s σ H D I (i D σ H q)⟩
theorem PSs.mono {X : Cx} {e : List Stmt} {t t' : TS} (h : PSs X e t) (i : ∀ D σ H, t' D σ H → t D σ H) : PSs X e t' := ⟨fun pins s σ H D I q => h.run pins s σ H D I (i D σ H q)⟩

/-! ### values to be bound: known, or new -/
abbrev FN := Ev → Rho → R Ent
def pEn (K : PySem.W.Frag) (H0 : Hp) (e : Ent) (v : V) (G' H' : Hp) : Prop := match e with
  | .fz d => Rep K G' v d
  | .ol xs => pF K H0 (.list xs) v G' H'
  | .od kvs => pF K H0 (.dict kvs) v G' H'
  | .no => False
def rdN (T : Tab) (K : PySem.W.Frag) (mg : Str → Option Value) (W : XK) (f : Rho → R Ent) : TE := fun σ H Q => ∃ G ρ, Ex G H ∧ EnvOk K G H ρ σ ∧ ResG T K mg W G H (f ρ) (pEn K H) Q
def SN (T : Tab) (N : List Str) (k : Nat) (ev : Ev) (sc : List (Str × NameKind)) (e : Expr) (f : FN) : Prop := ∀ X W, Gd T N k ev sc X W → PE X e (rdN T X.K X.mg W (f ev))
def nV (f : FE) : FN := fun ev ρ => (f ev ρ).bind fun d => .ok (.fz d)
def toOwn : D → R Ent
  | .list xs => .ok (.ol xs)
  | .dict kvs => .ok (.od kvs)
  | _ => .bad
def nF (f : FE) : FN := fun ev ρ => (f ev ρ).bind toOwn
section
variable {T : Tab} {N : List Str} {k : Nat} {ev : Ev} {sc : List (Str × NameKind)} {e : Expr} {f : FE}
theorem SV.n (h : SV T N k ev sc e f) : SN T N k ev sc e (nV f) := fun X W g => PE.mono (h X W g) fun σ H Q ⟨G, ρ, e1, en, r⟩ => ⟨G, ρ, e1, en, r.seq T fun d v G1 H1 s1 p r1 => ResG.ok T (P := pEn X.K H) s1.in' r1 p |> id⟩
theorem SF.n (h : SF T N k ev sc e f) : SN T N k ev sc e (nF f) := fun X W g => PE.mono (h X W g) fun σ H Q ⟨G, ρ, e1, en, r⟩ => ⟨G, ρ, e1, en, r.seq T fun d v G1 H1 s1 p r1 => by
  cases d with
  | list xs => exact ResG.ok T (P := pEn X.K H) s1.in' r1 p
  | dict xs => exact ResG.ok T (P := pEn X.K H) s1.in' r1 p
  | _ => exact False.elim r1⟩
end
section
variable {K : PySem.W.Frag} {G H G' H' H0 : Hp} {ρ : Rho} {σ : L2.St} {i : Nat} {en : Ent} {v : V}
theorem own_there (h : EnvOk K G H ρ σ) {j : Nat} {e : Ent} (q : ρ[j]? = some e) (o : e.own = true) {a : Addr} (z : σ[j]? = some (some (V.ref a))) : H a ≠ none := by
  cases e with
  | no => cases o
  | fz d => cases o
  | ol xs =>
    obtain ⟨b, vs, h1, h2, _⟩ := h.ol j xs q
    rw [h1] at z
    cases z
    rw [h2]; exact fun x => nomatch x
  | od xs =>
    obtain ⟨b, h1, _, h2⟩ := h.od j xs q
    rw [h1] at z
    cases z
    rcases h2 with ⟨vs, h2, _⟩ | ⟨vs, h2, _⟩ <;> (rw [h2]; exact fun x => nomatch x)
/-- a value bound to a place -/
theorem EnvOk.bind (ex : Ex G H) (h : EnvOk K G H ρ σ) (s : Step G H G' H') (p : pEn K H en v G' H') : EnvOk K G' H' (ρ.set i en) (σ.set i (some v)) := by
  have h2 := h.up ex s
  have fresh : ∀ {a : Addr}, v = .ref a → (∀ b, v = .ref b → H b = none) → ∀ (j : Nat) (ej : Ent), j ≠ i → ρ[j]? = some ej → ej.own = true → σ[j]? ≠ some (some (.ref a)) := fun {a} ev hn j ej _ q o z =>
    own_there h q o z (hn a ev)
  cases en with
  | no => exact False.elim p
  | fz d => exact h2.set p
  | ol xs =>
    obtain ⟨l, hn⟩ := p
    cases l with
    | lst z1 z2 z3 => exact h2.own (fresh rfl hn) (.inl ⟨_, _, rfl, z1, z2, z3⟩)
  | od kvs =>
    obtain ⟨l, hn⟩ := p
    cases l with
    | dK z1 z2 z3 z4 => exact h2.own (fresh rfl hn) (.inr ⟨_, rfl, z2, .inl ⟨_, z1, z3, z4⟩⟩)
    | dT z1 z2 z3 z4 => exact h2.own (fresh rfl hn) (.inr ⟨_, rfl, z2, .inr ⟨_, z1, z3, z4⟩⟩)
theorem OwnNew.bind (s : ∀ a, H a = none → H0 a = none) (h : OwnNew H0 ρ σ) (p : pEn K H en v G' H') : OwnNew H0 (ρ.set i en) (σ.set i (some v)) := fun j e q o a z => by
  rcases set_get q with ⟨e1, e2⟩ | ⟨e1, e2⟩
  · subst e1 e2
    have hv : v = .ref a := by
      have hl : j < σ.length := by
        have := (List.getElem?_eq_some_iff.mp z).1
        rw [List.length_set] at this; exact this
      rw [List.getElem?_set_self hl] at z
      exact Option.some.inj (Option.some.inj z)
    cases e with
    | no => cases o
    | fz d => cases o
    | ol xs => exact s a (p.2 a hv)
    | od xs => exact s a (p.2 a hv)
  · rw [get_set_ne e1] at z; exact h j e e2 o a z
end

/-! ### the rules -/
def sSet (i : Nat) (f : FN) : FS := fun ev ρ => RS.ofR (f ev ρ) fun e => .next (ρ.set i e)
def sTgt (t : Tg) (f : FE) : FS := fun ev ρ => RS.ofR (f ev ρ) fun d => match bindT t d ρ with
  | some ρ' => .next ρ'
  | none => .bad
def sPar (i j : Nat) (f g : FN) : FS := fun ev ρ => RS.ofR (f ev ρ) fun e => RS.ofR (g ev ρ) fun e' => .next ((ρ.set i e).set j e')
def sPar3 (i j l : Nat) (f g h : FN) : FS := fun ev ρ => RS.ofR (f ev ρ) fun e => RS.ofR (g ev ρ) fun e' => RS.ofR (h ev ρ) fun e2 => .next (((ρ.set i e).set j e').set l e2)
def sExpr (f : FE) : FS := fun ev ρ => RS.ofR (f ev ρ) fun _ => .next ρ
def sRet (f : FE) : FS := fun ev ρ => RS.ofR (f ev ρ) fun d => .ret d
def sIf (c : FT) (f g : FS) : FS := fun ev ρ => RS.ofR (c ev ρ) fun b => if b = true then f ev ρ else g ev ρ
def sNil : FS := fun _ ρ => .next ρ
def sSeq (f g : FS) : FS := fun ev ρ => (f ev ρ).seq (g ev)
def sFrz (is : List Nat) (f : FS) : FS := fun ev ρ => f ev (frzAt is ρ)
def forL (t : Tg) (body : Rho → RS) : List D → Rho → RS
  | [], ρ => .next ρ
  | d :: ds, ρ => match bindT t d ρ with
    | some ρ1 => (body ρ1).seq (forL t body ds)
    | none => .bad
def sFor (t : Tg) (it : FL) (body : FS) : FS := fun ev ρ => RS.ofR (it ev ρ) fun ds => forL t (body ev) ds ρ
def whileL (c : Rho → R Bool) (body : Rho → RS) : Nat → Rho → RS
  | 0, _ => .bad
  | n + 1, ρ => RS.ofR (c ρ) fun b => if b = true then (body ρ).seq (whileL c body n) else .next ρ
/-- how many turns a while is let -/
abbrev fuel : Nat := 1000000000000000000000000
def sWhile (c : FT) (body : FS) : FS := fun ev ρ => whileL (c ev) (body ev) fuel ρ

def NoComp : Expr → Bool
  | .ListComp .. => false
  | .SetComp .. => false
  | .DictComp .. => false
  | _ => true
theorem swaps_no {e : Expr} (h : NoComp e = true) (t : Option Expr) (l : Nat) (env : Env) : swapsWith e t l env = pure false := by
  cases e <;> first | rfl | cases h
section
variable {T : Tab} {N : List Str} {k : Nat} {ev : Ev} {sc : List (Str × NameKind)} {e a b c : Expr} {f g : FE} {n m o : FN} {t : FT} {s u : FS} {st : Stmt} {rest body : List Stmt} {pos p1 p2 pt : Pos} {x y : Str} {i j : Nat}
theorem sw_no (hc : NoComp e = true) : ∀ env : Env, env.scope.names = sc → env.scope.kind = .function → swapsWith e (some (.Name x p1)) pos.line env = pure false := fun env _ _ => swaps_no hc _ _ _
theorem sw_cell (hs : sc.lookup x = some .cell) : ∀ env : Env, env.scope.names = sc → env.scope.kind = .function → swapsWith e (some (.Name x p1)) pos.line env = pure false := fun env hn _ => by
  have hk : env.kindOf x = some .cell := by unfold Env.kindOf; rw [hn]; exact hs
  have z : (NameKind.cell == NameKind.local) = false := by decide
  cases e <;> first | rfl | (simp only [swapsWith, hk]; simp [z]; done)
theorem ss_set {kd : NameKind} (hi : N[i]? = some x) (hs : sc.lookup x = some kd) (hk : kd = .local ∨ kd = .cell) (hsw : ∀ env : Env, env.scope.names = sc → env.scope.kind = .function → swapsWith e (some (.Name x p1)) pos.line env = pure false) (he : SN T N k ev sc e n) : SS T N k ev sc (.Assign [.Name x p1] e pos) (sSet i n) := fun X W gs => by
  have hx : L2.Loc X.env.scope x := by
    unfold L2.Loc; rw [gs.names, hs]
    rcases hk with rfl | rfl
    · exact .inl rfl
    · exact .inr rfl
  refine PS.mono (ps_set (i := i) (by rw [gs.hN]; exact gs.nd) (by rw [gs.hN]; exact hi) hx (he X W gs.toGd) (hsw _ gs.names gs.kind) (.inl (gs.fnT x))) fun D σ H ⟨G0, H0, G, ρ, s0, en, on, r⟩ => ?_
  refine ⟨G, ρ, s0.in', en, ResS.expr s0 r fun e v G' H' _ s1 p r1 => ?_⟩
  exact r1 _ G' H' (s0.trans s1) (Ex.refl _) (en.bind s0.in' s1 p) (on.bind (fun a z => s0.h.none z) p)
def noTupE : Expr → Bool
  | .Tuple .. => false
  | _ => true
theorem noswap {tg : Expr} {env : Env} (h : noTupE e = true) : swappedStores [tg] e env = pure none := by
  cases tg <;> first | rfl | (cases e <;> first | rfl | cases h)
theorem ss_tgt {ts : List Expr} {kk : Nat} {tg : Tg} (hg : SG N sc (fun _ => true) (.Tuple ts kk pt) tg) (hc : NoComp e = true) (hn : noTupE e = true) (he : SV T N k ev sc e f) : SS T N k ev sc (.Assign [.Tuple ts kk pt] e pos) (sTgt tg f) := fun X W gs => by
  refine PS.mono (ps_asg (he X W gs.toGd) (hg X gs.gg) (by unfold swapsWithSole; exact swaps_no hc _ _ _) (noswap hn)) fun D σ H ⟨G0, H0, G, ρ, s0, en, on, r⟩ => ?_
  refine ⟨G, ρ, s0.in', en, ResS.expr s0 r fun d v G' H' _ s1 p r1 => ?_⟩
  cases q : bindT tg d ρ with
  | none => rw [q] at r1; exact False.elim r1
  | some ρ' =>
    rw [q] at r1
    exact ⟨G', ρ, ρ', d, s1.in', en.up s0.in' s1, p, q, fun σ' en' _ o => r1 σ' G' H' (s0.trans s1) (Ex.refl _) en' (o H0 on)⟩
theorem ss_expr (hc : NoComp e = true) (he : SB T N k ev sc e f) : SS T N k ev sc (.Expr e pos) (sExpr f) := fun X W gs =>
  PS.mono (ps_expr (he X W gs.toGd) (swaps_no hc _ _ _)) fun D σ H ⟨G0, H0, G, ρ, s0, en, on, r⟩ => ⟨G, ρ, s0.in', en, ResS.expr s0 r fun d v G' H' _ s1 p r1 =>
    r1 σ G' H' (s0.trans s1) (Ex.refl _) (en.up s0.in' s1) on⟩
theorem ss_ret (he : SV T N k ev sc e f) : SS T N k ev sc (.Return (some e) pos) (sRet f) := fun X W gs =>
  PS.mono (ps_ret (he X W gs.toGd)) fun D σ H ⟨G0, H0, G, ρ, s0, en, on, r⟩ => ⟨G, ρ, s0.in', en, ResS.expr s0 r fun d v G' H' _ s1 p r1 =>
    r1 v G' H' (s0.trans s1) (Ex.refl _) p⟩
theorem ss_retN : SS T N k ev sc (.Return none pos) (sRet (eC .none)) := fun X W gs =>
  PS.mono ps_retN fun D σ H ⟨G0, H0, G, ρ, s0, en, on, r⟩ => by
    have r : ResS T X.K X.mg W G0 H0 G D (.ret .none) := r
    exact r _ G H s0 (Ex.refl _) .non
theorem ss_pass : SS T N k ev sc (.Pass pos) sNil := fun X W gs => PS.mono ps_pass fun D σ H ⟨G0, H0, G, ρ, s0, en, on, r⟩ => r σ G H s0 (Ex.refl _) en on
theorem ss_if (hc : ST T N k ev sc c t) (ha : SSs T N k ev sc body s) (hb : SSs T N k ev sc rest u) : SS T N k ev sc (.If c body rest pos) (sIf t s u) := fun X W gs =>
  PS.mono (ps_if (hc X W gs.toGd) (ha X W gs) (hb X W gs)) fun D σ H ⟨G0, H0, G, ρ, s0, en, on, r⟩ => ⟨G, ρ, s0.in', en, ResS.expr s0 r fun d v G' H' _ s1 p r1 => by
    have p : d = v := p
    subst p
    cases d with
    | true => exact ⟨G0, H0, G', ρ, s0.trans s1, en.up s0.in' s1, on, r1⟩
    | false => exact ⟨G0, H0, G', ρ, s0.trans s1, en.up s0.in' s1, on, r1⟩⟩
theorem sss_nil : SSs T N k ev sc [] sNil := fun X W gs => PSs.mono pss_nil fun D σ H ⟨G0, H0, G, ρ, s0, en, on, r⟩ => r σ G H s0 (Ex.refl _) en on
theorem sss_cons (h1 : SS T N k ev sc st s) (h2 : SSs T N k ev sc rest u) : SSs T N k ev sc (st :: rest) (sSeq s u) := fun X W gs =>
  PSs.mono (pss_cons (h1 X W gs) (h2 X W gs)) fun D σ H ⟨G0, H0, G, ρ, s0, en, on, r⟩ => ⟨G0, H0, G, ρ, s0, en, on, ResS.seq r (fun ρ' σ' G' H' _ s1 e1 en1 o1 r1 => ⟨G0, H0, G', ρ', s1, en1, o1, r1⟩) fun _ _ z => z⟩
theorem sss_one (h1 : SS T N k ev sc st s) : SSs T N k ev sc [st] s := fun X W gs => pss_one (h1 X W gs)
theorem ss_frz (is : List Nat) (h : SS T N k ev sc st s) : SS T N k ev sc st (sFrz is s) := fun X W gs =>
  PS.mono (h X W gs) fun D σ H ⟨G0, H0, G, ρ, s0, en, on, r⟩ => by
    obtain ⟨G2, a1, a2, a3, a4, a5⟩ := en.frz is s0.in' on
    refine ⟨G0, H0, G2, frzAt is ρ, ⟨s0.g.trans a1, s0.h, a2, fun a z => ?_⟩, a4, a5, ResS.up a1 r⟩
    rcases a3 a z with z | z
    · exact s0.new a z
    · exact .inr (.inl z)
theorem ss_for {tgE : Expr} {tg : Tg} {it : FL} (hi : SI T N k ev sc tgE e it) (hg : SG N sc (fun _ => true) tgE tg) (hb : SSs T N k ev sc body s) (hf : ∀ (env : Env) (x : Value), foldedSetIterable e env x = pure x) : SS T N k ev sc (.For tgE e body [] pos) (sFor tg it s) := fun X W gs => by
  refine PS.mono (ps_for gs.po gs.calm (hi X W gs.toGd) (hg X gs.gg) (hb X W gs) (hf X.env)) fun D σ H ⟨G0, H0, G, ρ, s0, en, on, r⟩ => ?_
  refine ⟨G, ρ, s0.in', en, ResS.expr s0 r fun ds J G1 H1 _ s1 pJ r1 => ?_⟩
  refine ⟨fun i m σ H => m = ds.length - i ∧ ∃ G2 ρ2, Step G0 H0 G2 H ∧ Ex G1 G2 ∧ EnvOk X.K G2 H ρ2 σ ∧ OwnNew H0 ρ2 σ ∧ ResS T X.K X.mg W G0 H0 G2 D (forL tg (s ev) (ds.drop i) ρ2),
    ⟨ds.length, rfl, G1, ρ, s0.trans s1, Ex.refl _, en.up s0.in' s1, on, r1⟩, ?_⟩
  rintro i m σ2 H2 ⟨rfl, G2, ρ2, s2, e2, en2, on2, r2⟩
  obtain ⟨go, stop⟩ := pJ i G2 H2 e2 s2.in'
  by_cases hl : i < ds.length
  · have hd : ds.drop i = ds[i] :: ds.drop (i + 1) := List.drop_eq_getElem_cons hl
    rw [hd] at r2
    obtain ⟨j1, j2⟩ := go ds[i] (List.getElem?_eq_getElem hl)
    refine .inr ⟨j1, fun σ' H' => ∃ G3 ρ3, Step G0 H0 G3 H' ∧ Ex G1 G3 ∧ EnvOk X.K G3 H' ρ3 σ' ∧ OwnNew H0 ρ3 σ' ∧ ResS T X.K X.mg W G0 H0 G3 D (forL tg (s ev) (ds.drop (i + 1)) ρ3), fun σ' H' hN => ⟨ds.length - (i + 1), by omega, rfl, hN⟩, fun x H3 y => ?_⟩
    obtain ⟨G3, s3, p3⟩ := j2 x H3 y
    unfold forL at r2
    cases q : bindT tg ds[i] ρ2 with
    | none => rw [q] at r2; exact False.elim r2
    | some ρ3 =>
      rw [q] at r2
      refine ⟨G3, ρ2, ρ3, ds[i], s3.in', en2.up s2.in' s3, p3, q, fun σ3 en3 _ o3 => ?_⟩
      refine ⟨G0, H0, G3, ρ3, s2.trans s3, en3, o3 H0 on2, ?_⟩
      exact ResS.seq (ResS.up s3.g r2) (fun ρ4 σ4 G4 H4 _ s4 e4 en4 on4 r4 => ⟨G4, ρ4, s4, (e2.trans s3.g).trans e4, en4, on4, r4⟩) fun _ _ z => z
  · have hd : ds.drop i = [] := List.drop_eq_nil_of_le (by omega)
    rw [hd] at r2
    exact .inl ⟨stop (by omega), r2 σ2 G2 H2 s2 (Ex.refl _) en2 on2⟩
theorem ss_while (hc : ST T N k ev sc c t) (hb : SSs T N k ev sc body s) : SS T N k ev sc (.While c body [] pos) (sWhile t s) := fun X W gs => by
  refine PS.mono (ps_while gs.po (hc X W gs.toGd) (hb X W gs)) fun D σ H ⟨G0, H0, G, ρ, s0, en, on, r⟩ => ?_
  refine ⟨fun m σ H => ∃ G2 ρ2, Step G0 H0 G2 H ∧ EnvOk X.K G2 H ρ2 σ ∧ OwnNew H0 ρ2 σ ∧ Ex G G2 ∧ ResS T X.K X.mg W G0 H0 G2 D (whileL (t ev) (s ev) m ρ2), ⟨fuel, G, ρ, s0, en, on, Ex.refl _, r⟩, ?_⟩
  rintro m σ2 H2 ⟨G2, ρ2, s2, en2, on2, e2, r2⟩
  cases m with
  | zero => exact False.elim r2
  | succ m =>
    refine ⟨G2, ρ2, s2.in', en2, ResS.expr s2 r2 fun b b' G3 H3 _ s3 p3 r3 => ?_⟩
    have p3 : b = b' := p3
    subst p3
    cases b with
    | false =>
      rw [if_neg Bool.false_ne_true] at r3 ⊢
      exact r3 σ2 G3 H3 (s2.trans s3) (Ex.refl _) (en2.up s2.in' s3) on2
    | true =>
      rw [if_pos rfl] at r3 ⊢
      refine ⟨fun σ' H' => ∃ G4 ρ4, Step G0 H0 G4 H' ∧ EnvOk X.K G4 H' ρ4 σ' ∧ OwnNew H0 ρ4 σ' ∧ Ex G G4 ∧ ResS T X.K X.mg W G0 H0 G4 D (whileL (t ev) (s ev) m ρ4), fun σ' H' hN => ⟨m, Nat.lt_succ_self _, hN⟩, ?_⟩
      refine ⟨G0, H0, G3, ρ2, s2.trans s3, en2.up s2.in' s3, on2, ?_⟩
      exact ResS.seq r3 (fun ρ4 σ4 G4 H4 _ s4 e4 en4 on4 r4 => ⟨G4, ρ4, s4, en4, on4, (e2.trans s3.g).trans e4, r4⟩) fun _ _ z => z
end
end PV

/-! PV12: statements that change a list or a dict of the def's own. -/
namespace PV
open PySem L2

section
variable {K : PySem.W.Frag} {G0 H0 G H : Hp} {ρ : Rho} {σ : L2.St} {i : Nat} {e e' : Ent} {a : Addr} {u : HO}
theorem Step.mut (s : Step G0 H0 G H) (hg : G a = none) (h0 : H0 a = none) : Step G0 H0 G (upd H a u) :=
  ⟨s.g, fun b o q => by rw [upd_ne (ne_of_none q h0)]; exact s.h b o q, fun b o q => by rw [upd_ne (ne_of_none q hg)]; exact s.in' b o q, s.new⟩
theorem EnvOk.mut (h : EnvOk K G H ρ σ) (q : ρ[i]? = some e) (oe : e.own = true) (ha : σ[i]? = some (some (.ref a))) (hg : G a = none)
    (ho : (∃ xs vs, e' = .ol xs ∧ u = .lst vs ∧ Reps K G vs xs) ∨ (∃ kvs, e' = .od kvs ∧ ((∃ vs, u = .dK vs ∧ (vs.map (·.1)).Nodup ∧ RepK K G vs kvs) ∨ ∃ vs, u = .dT vs ∧ (vs.map (·.1)).Nodup ∧ RepT K G vs kvs))) :
    EnvOk K G (upd H a u) (ρ.set i e') σ := by
  have no : ∀ (j : Nat) (ej : Ent) (b : Addr), j ≠ i → ρ[j]? = some ej → ej.own = true → σ[j]? = some (some (V.ref b)) → b ≠ a := fun j ej b c qj oj z w => by
    subst w
    exact h.sep j i ej e c qj q oj oe (z.trans ha.symm)
  have oe' : e'.own = true := by rcases ho with ⟨_, _, rfl, _⟩ | ⟨_, rfl, _⟩ <;> rfl
  refine ⟨by rw [List.length_set]; exact h.len, fun j d' y => ?_, fun j xs y => ?_, fun j xs y => ?_, fun j k ej ek hjk qj qk oj ok => ?_⟩
  · rcases set_get y with ⟨c1, c2⟩ | ⟨c1, c2⟩
    · rw [← c2] at oe'; cases oe'
    · exact h.fz j d' c2
  · rcases set_get y with ⟨c1, c2⟩ | ⟨c1, c2⟩
    · subst c1 c2
      rcases ho with ⟨ys, vs, z1, z2, z3⟩ | ⟨_, z, _⟩
      · cases z1; subst z2; exact ⟨a, vs, ha, upd_same, hg, z3⟩
      · cases z
    · obtain ⟨b, vs, h1, h2, h3, h4⟩ := h.ol j xs c2
      exact ⟨b, vs, h1, by rw [upd_ne (no j _ b c1 c2 rfl h1)]; exact h2, h3, h4⟩
  · rcases set_get y with ⟨c1, c2⟩ | ⟨c1, c2⟩
    · subst c1 c2
      rcases ho with ⟨_, _, z, _⟩ | ⟨ys, z1, z2⟩
      · cases z
      · cases z1
        refine ⟨a, ha, hg, ?_⟩
        rcases z2 with ⟨vs, z2, z3⟩ | ⟨vs, z2, z3⟩
        · subst z2; exact .inl ⟨vs, upd_same, z3⟩
        · subst z2; exact .inr ⟨vs, upd_same, z3⟩
    · obtain ⟨b, h1, h3, h4⟩ := h.od j xs c2
      refine ⟨b, h1, h3, ?_⟩
      rw [upd_ne (no j _ b c1 c2 rfl h1)]
      exact h4
  · have there : ∀ (j : Nat) (ej : Ent), (ρ.set i e')[j]? = some ej → ej.own = true → ∃ ej', ρ[j]? = some ej' ∧ ej'.own = true := fun j ej y o => by
      rcases set_get y with ⟨c1, c2⟩ | ⟨c1, c2⟩
      · subst c1; exact ⟨e, q, oe⟩
      · exact ⟨ej, c2, o⟩
    obtain ⟨x1, y1, z1⟩ := there j ej qj oj
    obtain ⟨x2, y2, z2⟩ := there k ek qk ok
    exact h.sep j k x1 x2 hjk y1 y2 z1 z2
theorem OwnNew.mut (h : OwnNew H0 ρ σ) (q : ρ[i]? = some e) (oe : e.own = true) : OwnNew H0 (ρ.set i e') σ := fun j x y o b z => by
  rcases set_get y with ⟨c1, c2⟩ | ⟨c1, c2⟩
  · subst c1; exact h j e q oe b z
  · exact h j x c2 o b z
end

/-! ### dicts: a key and a value put in -/
theorem putK_pos {κ : Type} [DecidableEq κ] {p : κ × V} {r : List (κ × V)} {k : κ} {v : V} (e : p.1 = k) (nd : (List.map (·.1) (p :: r)).Nodup) : putK (p :: r) k v = (k, v) :: r := by
  unfold putK
  rw [List.any_cons, decide_eq_true e, Bool.true_or, if_pos rfl, List.map_cons, if_pos e, e]
  congr 1
  rw [List.map_cons, List.nodup_cons] at nd
  conv => rhs; rw [← List.map_id r]
  apply List.map_congr_left
  intro q hq
  rw [if_neg]
  · rfl
  · intro z
    apply nd.1
    rw [e, ← z]
    exact List.mem_map_of_mem hq
theorem putK_neg {κ : Type} [DecidableEq κ] {p : κ × V} {r : List (κ × V)} {k : κ} {v : V} (e : ¬ p.1 = k) : putK (p :: r) k v = p :: putK r k v := by
  unfold putK
  rw [List.any_cons, decide_eq_false e, Bool.false_or]
  split
  · rw [List.map_cons, if_neg e]
  · rfl
theorem putK_keys {κ : Type} [DecidableEq κ] (k j : κ) (v : V) : ∀ kvs : List (κ × V), j ∈ (putK kvs k v).map (·.1) → j = k ∨ j ∈ kvs.map (·.1) := by
  intro kvs h
  unfold putK at h
  split at h
  · right
    rw [List.map_map] at h
    obtain ⟨q, hq, e⟩ := List.mem_map.mp h
    rw [← e]
    show (if q.1 = k then (q.1, v) else q).1 ∈ _
    rw [show (if q.1 = k then (q.1, v) else q).1 = q.1 by split <;> rfl]
    exact List.mem_map_of_mem hq
  · rw [List.map_append, List.mem_append] at h
    rcases h with h | h
    · exact .inr h
    · left; simpa using h
theorem putK_nodup {κ : Type} [DecidableEq κ] (k : κ) (v : V) : ∀ kvs : List (κ × V), (kvs.map (·.1)).Nodup → ((putK kvs k v).map (·.1)).Nodup
  | [], _ => by simp [putK]
  | p :: r, nd => by
    by_cases e : p.1 = k
    · rw [putK_pos e nd]; rw [List.map_cons] at nd ⊢; rw [← e]; exact nd
    · rw [putK_neg e, List.map_cons]
      rw [List.map_cons] at nd
      rw [List.nodup_cons] at nd ⊢
      refine ⟨fun hm => ?_, putK_nodup k v r nd.2⟩
      rcases putK_keys k _ v r hm with z | z
      · exact e z
      · exact nd.1 z
theorem kD_eqv (k' k : L2.Key) : PyData.eqv (kD k') (kD k) = decide (k' = k) := by
  cases k' with
  | inl i => cases k with
    | inl j => simp [kD, PyData.eqv, Bool.beq_eq_decide_eq]
    | inr y => simp [kD, PyData.eqv]
  | inr x => cases k with
    | inl j => simp [kD, PyData.eqv]
    | inr y => simp [kD, PyData.eqv, Bool.beq_eq_decide_eq]
section
variable {K : PySem.W.Frag} {G : Hp}
theorem RepK.put {K : PySem.W.Frag} {G : Hp} {k : L2.Key} {v : V} {d : D} (hk : KOk k) (r : Rep K G v d) : ∀ (vs : List (L2.Key × V)) {ds : List (D × D)}, (vs.map (·.1)).Nodup → RepK K G vs ds → RepK K G (putK vs k v) (dPut ds (kD k) d)
  | [], ds, _, h => by cases h; exact .cons hk r .nil
  | (k', v') :: vs, ds, nd, h => by
    cases h with
    | cons sk h t =>
      rw [dPut, kD_eqv]
      by_cases e : k' = k
      · rw [putK_pos (p := (k', v')) e nd, decide_eq_true e, if_pos rfl, e]
        exact .cons hk r t
      · rw [putK_neg (p := (k', v')) e, decide_eq_false e, if_neg Bool.false_ne_true]
        exact .cons sk h (RepK.put hk r vs (by rw [List.map_cons, List.nodup_cons] at nd; exact nd.2) t)
theorem RepT.put {K : PySem.W.Frag} {G : Hp} {k : List L2.Key} {v : V} {d : D} (hk : ∀ x ∈ k, KOk x) (r : Rep K G v d) : ∀ (vs : List (List L2.Key × V)) {ds : List (D × D)}, (vs.map (·.1)).Nodup → RepT K G vs ds → RepT K G (putK vs k v) (dPut ds (.tuple (k.map kD)) d)
  | [], ds, _, h => by cases h; exact .cons hk r .nil
  | (k', v') :: vs, ds, nd, h => by
    have ek : PyData.eqv (.tuple (k'.map kD)) (.tuple (k.map kD)) = decide (k' = k) := by rw [PyData.eqv, kDs_eqv]
    cases h with
    | cons sk h t =>
      rw [dPut, ek]
      by_cases e : k' = k
      · rw [putK_pos (p := (k', v')) e nd, decide_eq_true e, if_pos rfl, e]
        exact .cons hk r t
      · rw [putK_neg (p := (k', v')) e, decide_eq_false e, if_neg Bool.false_ne_true]
        exact .cons sk h (RepT.put hk r vs (by rw [List.map_cons, List.nodup_cons] at nd; exact nd.2) t)
theorem RepK.length : ∀ {vs : List (L2.Key × V)} {ds : List (D × D)}, RepK K G vs ds → vs.length = ds.length
  | _, _, .nil => rfl
  | _, _, .cons _ _ t => by rw [List.length_cons, List.length_cons, RepK.length t]
theorem RepT.length : ∀ {vs : List (List L2.Key × V)} {ds : List (D × D)}, RepT K G vs ds → vs.length = ds.length
  | _, _, .nil => rfl
  | _, _, .cons _ _ t => by rw [List.length_cons, List.length_cons, RepT.length t]
end
/-- the heap behind a[y] = v; an empty dict takes the keys' kind -/
def DPt (H : Hp) (a : Addr) (y v : V) (H' : Hp) : Prop := DPut H a y v H' ∨ ∃ o1 o2, H a = some o1 ∧ ((o1 = .dK [] ∧ o2 = .dT []) ∨ (o1 = .dT [] ∧ o2 = .dK [])) ∧ DPut (upd H a o2) a y v H'
section
variable {X : Cx} {pins : List (Addr × Obj)} {σ : L2.St} {H : Hp} {s : Shared} {a : Addr} {y v : V} {u r : Value} {A : Around} {E : Value → Shared → Prop}
theorem p_setItem {H' : Hp} {Q : Unit → Shared → Prop} (hu : A.units + 1 < cLine) (I : L2.Inv X pins σ H s) (g : DPt H a y v H') (ry : RelV y u) (rv : RelV v r) (h : ∀ s', L2.Inv X pins σ H' s' → Q () s') :
    wpAny (model X.prog X.w) A (setItem (.ref a) u r) Q E s := by
  rcases g with g | ⟨o1, o2, h1, q, g⟩
  · exact d_setItem hu I g ry rv h
  · exact d_setItem hu (Inv.fl I h1 q) g ry rv h
end
theorem upd_upd {H : Hp} {a : Addr} {o1 o2 : HO} : upd (upd H a o1) a o2 = upd H a o2 := by
  funext b
  by_cases z : b = a
  · subst z; rw [upd_same, upd_same]
  · rw [upd_ne z, upd_ne z, upd_ne z]
theorem dpt_of {K : PySem.W.Frag} {G H : Hp} (e : Ex G H) {a : Addr} {kvs : List (D × D)} {y v : V} {d c : D} (hl : kvs.length < lim) (ok : keyOk kvs d = true) (hy : Rep K G y d) (hv : Rep K G v c)
    (h : (∃ vs, H a = some (.dK vs) ∧ (vs.map (·.1)).Nodup ∧ RepK K G vs kvs) ∨ ∃ vs, H a = some (.dT vs) ∧ (vs.map (·.1)).Nodup ∧ RepT K G vs kvs) :
    ∃ u, DPt H a y v (upd H a u) ∧ ((∃ vs, u = .dK vs ∧ (vs.map (·.1)).Nodup ∧ RepK K G vs (dPut kvs d c)) ∨ ∃ vs, u = .dT vs ∧ (vs.map (·.1)).Nodup ∧ RepT K G vs (dPut kvs d c)) := by
  have flat : ∀ k : L2.Key, d = kD k → (∃ vs, H a = some (.dK vs) ∧ (vs.map (·.1)).Nodup ∧ RepK K G vs kvs) ∨ (H a = some (.dT []) ∧ kvs = []) → ∃ u, DPt H a y v (upd H a u) ∧ ((∃ vs, u = .dK vs ∧ (vs.map (·.1)).Nodup ∧ RepK K G vs (dPut kvs d c)) ∨ ∃ vs, u = .dT vs ∧ (vs.map (·.1)).Nodup ∧ RepT K G vs (dPut kvs d c)) := fun k ed q => by
    subst ed
    obtain ⟨rfl, hk⟩ := hy.key
    rcases q with ⟨vs, h1, nd, h2⟩ | ⟨h1, rfl⟩
    · exact ⟨_, .inl (DPut.k h1 (by rw [h2.length, sizeLine_eq]; exact hl)), .inl ⟨_, rfl, putK_nodup _ _ _ nd, RepK.put hk hv _ nd h2⟩⟩
    · refine ⟨.dK (putK [] k v), .inr ⟨_, .dK [], h1, .inr ⟨rfl, rfl⟩, ?_⟩, .inl ⟨_, rfl, putK_nodup _ _ _ .nil, RepK.put hk hv _ .nil .nil⟩⟩
      have := DPut.k (H := upd H a (.dK [])) (a := a) (kvs := []) (k := k) (v := v) upd_same (by decide)
      rw [upd_upd] at this
      exact this
  have tupl : ∀ ks : List L2.Key, d = .tuple (ks.map kD) → (∃ vs, H a = some (.dT vs) ∧ (vs.map (·.1)).Nodup ∧ RepT K G vs kvs) ∨ (H a = some (.dK []) ∧ kvs = []) → ∃ u, DPt H a y v (upd H a u) ∧ ((∃ vs, u = .dK vs ∧ (vs.map (·.1)).Nodup ∧ RepK K G vs (dPut kvs d c)) ∨ ∃ vs, u = .dT vs ∧ (vs.map (·.1)).Nodup ∧ RepT K G vs (dPut kvs d c)) := fun ks ed q => by
    subst ed
    obtain ⟨b, xs, rfl, hb, hr⟩ := hy.tuple_inv
    obtain ⟨rfl, hk⟩ := hr.keys
    rcases q with ⟨vs, h1, nd, h2⟩ | ⟨h1, rfl⟩
    · exact ⟨_, .inl (DPut.t h1 (e _ _ hb) (by rw [h2.length, sizeLine_eq]; exact hl)), .inr ⟨_, rfl, putK_nodup _ _ _ nd, RepT.put hk hv _ nd h2⟩⟩
    · have nb : b ≠ a := ne_of (e _ _ hb) h1 (fun z => nomatch z)
      refine ⟨.dT (putK [] ks v), .inr ⟨_, .dT [], h1, .inl ⟨rfl, rfl⟩, ?_⟩, .inr ⟨_, rfl, putK_nodup _ _ _ .nil, RepT.put hk hv _ .nil .nil⟩⟩
      have := DPut.t (H := upd H a (.dT [])) (a := a) (kvs := []) (k := ks) (v := v) (b := b) upd_same (by rw [upd_ne nb]; exact e _ _ hb) (by decide)
      rw [upd_upd] at this
      exact this
  cases kvs with
  | nil =>
    rw [keyOk_nil, Bool.or_eq_true] at ok
    rcases ok with ok | ok
    · obtain ⟨k, ek⟩ := flat_key ok
      rcases h with ⟨vs, h1, nd, h2⟩ | ⟨vs, h1, nd, h2⟩
      · exact flat k ek (.inl ⟨vs, h1, nd, h2⟩)
      · cases h2; exact flat k ek (.inr ⟨h1, rfl⟩)
    · obtain ⟨k, ek⟩ := tup_key ok
      rcases h with ⟨vs, h1, nd, h2⟩ | ⟨vs, h1, nd, h2⟩
      · cases h2; exact tupl k ek (.inr ⟨h1, rfl⟩)
      · exact tupl k ek (.inl ⟨vs, h1, nd, h2⟩)
  | cons p r =>
    obtain ⟨k0, d0⟩ := p
    have ok : (isFlat k0 && isFlat d || isTup k0 && isTup d) = true := ok
    rw [Bool.or_eq_true, Bool.and_eq_true, Bool.and_eq_true] at ok
    rcases ok with ⟨o1, o2⟩ | ⟨o1, o2⟩
    · obtain ⟨k, ek⟩ := flat_key o2
      rcases h with ⟨vs, h1, nd, h2⟩ | ⟨vs, h1, nd, h2⟩
      · exact flat k ek (.inl ⟨vs, h1, nd, h2⟩)
      · cases h2; cases o1
    · obtain ⟨k, ek⟩ := tup_key o2
      rcases h with ⟨vs, h1, nd, h2⟩ | ⟨vs, h1, nd, h2⟩
      · cases h2 with
        | @cons k' _ _ _ _ _ _ _ => cases k' <;> cases o1
      · exact tupl k ek (.inl ⟨vs, h1, nd, h2⟩)

/-! ### the rules -/
def sApp (i : Nat) (f : FE) : FS := fun ev ρ => match ρ[i]? with
  | some (.ol xs) => RS.ofR (f ev ρ) fun d => if xs.length < lim then .next (ρ.set i (.ol (xs ++ [d]))) else .bad
  | _ => .bad
def sPut (i : Nat) (k v : FE) : FS := fun ev ρ => match ρ[i]? with
  | some (.od kvs) => RS.ofR (v ev ρ) fun d => RS.ofR (k ev ρ) fun c => if keyOk kvs c = true ∧ kvs.length < lim then .next (ρ.set i (.od (dPut kvs c d))) else .bad
  | _ => .bad
/-- x = v.pop() -/
def sPop (t : Tg) (i : Nat) : FS := fun _ ρ => match ρ[i]? with
  | some (.ol xs) => match xs.getLast? with
    | some d => match bindT t d (ρ.set i (.ol xs.dropLast)) with
      | some ρ' => .next ρ'
      | none => .bad
    | none => .bad
  | _ => .bad
section
variable {T : Tab} {N : List Str} {k : Nat} {ev : Ev} {sc : List (Str × NameKind)} {e ke : Expr} {f g : FE} {pos p1 ap cp tp : Pos} {x y : Str} {i : Nat}
theorem pv_of {X : Cx} {W : XK} (gd : Gd T N k ev sc X W) {kd : NameKind} (hi : N[i]? = some x) (hs : sc.lookup x = some kd) (hk : kd = .local ∨ kd = .cell ∨ kd = .free) (hd : (x == ("__debug__" : Str)) = false) (hcd : (x == ("__classdict__" : Str)) = false) : PE X (.Name x p1) (tVar i) :=
  pe_var (i := i) (by rw [gd.hN]; exact hi) (gd.vis T hs hk) hd hcd
theorem ss_append {kd : NameKind} (hi : N[i]? = some x) (hs : sc.lookup x = some kd) (hk : kd = .local ∨ kd = .cell) (hd : (x == ("__debug__" : Str)) = false) (hcd : (x == ("__classdict__" : Str)) = false)
    (he : SV T N k ev sc e f) (hst : NotStar e = true) (hline : (ap.endLine == cp.line) = true) : SS T N k ev sc (.Expr (.Call (.Attribute (.Name x p1) "append" ap) [e] [] cp) pos) (sApp i f) := fun X W gs => by
  have hk' : kd = .local ∨ kd = .cell ∨ kd = .free := hk.elim .inl fun z => .inr (.inl z)
  refine PS.mono (ps_expr (pe_bm PySem.F.plainAttrs_list PySem.F.slot_list_append PySem.F.type_list_append mt_append (pv_of gs.toGd hi hs hk' hd hcd) (pa_cons (he X W gs.toGd) pa_nil (notStar hst _)) rfl (by rw [notStar hst]; rfl) hline (notStar hst _) rfl)) fun D σ H ⟨G0, H0, G, ρ, s0, en, on, r⟩ => ?_
  unfold sApp at r
  split at r
  · rename_i xs q
    obtain ⟨a, vs, h1, h2, h3, h4⟩ := en.ol i xs q
    refine ⟨.ref a, h1, .inl ⟨rfl, vs, .inl (.inl h2)⟩, G, ρ, s0.in', en, ResS.expr s0 r fun d v G' H' _ s1 p r1 => ?_⟩
    split at r1
    · rename_i hl
      have en' := en.up s0.in' s1
      obtain ⟨b, ws, h5, h6, h7, h8⟩ := en'.ol i xs q
      rw [h1] at h5
      cases h5
      refine ⟨a, ws, v, rfl, rfl, h6, by rw [h8.length, sizeLine_eq]; exact hl, ?_⟩
      exact r1 σ G' _ ((s0.trans s1).mut h7 (on i _ q rfl a h1)) (Ex.refl _) (en'.mut q rfl h1 h7 (.inl ⟨_, _, rfl, rfl, h8.snoc p⟩)) (on.mut q rfl)
    · exact False.elim r1
  · exact False.elim r
theorem ss_put {kd : NameKind} (hi : N[i]? = some x) (hs : sc.lookup x = some kd) (hk : kd = .local ∨ kd = .cell ∨ kd = .free) (hd : (x == ("__debug__" : Str)) = false) (hcd : (x == ("__classdict__" : Str)) = false)
    (hc : NoComp e = true) (hp : PlainI ke = true) (hke : SV T N k ev sc ke g) (he : SV T N k ev sc e f) : SS T N k ev sc (.Assign [.Subscript (.Name x p1) ke tp] e pos) (sPut i g f) := fun X W gs => by
  have hps : PSet X (fun o y v H Q => ∃ a H', o = .ref a ∧ DPt H a y v H' ∧ Q H') := fun pins s σ H o y v ov iv u Q I ro ri rv ⟨a, H', eo, g, q⟩ => by
    subst eo
    obtain rfl : ov = Value.ref a := ro
    exact p_setItem (by have := gs.hu; omega) I g ri rv fun s' I' => ⟨H', I', q⟩
  refine PS.mono (ps_asg (he X W gs.toGd) (pg_sub (pv_of gs.toGd hi hs hk hd hcd) (hke X W gs.toGd) hps (fun v => by cases ke <;> first | rfl | cases hp)) (by unfold swapsWithSole; exact swaps_no hc _ _ _) rfl) fun D σ H ⟨G0, H0, G, ρ, s0, en, on, r⟩ => ?_
  unfold sPut at r
  split at r
  · rename_i kvs q
    refine ⟨G, ρ, s0.in', en, ResS.expr s0 r fun d v G1 H1 _ s1 p1 r1 => ?_⟩
    have en1 := en.up s0.in' s1
    obtain ⟨a, h1, _, _⟩ := en1.od i kvs q
    refine ⟨.ref a, h1, G1, ρ, s1.in', en1, ResS.expr (s0.trans s1) r1 fun c y G2 H2 _ s2 p2 r2 => ?_⟩
    split at r2
    · rename_i ok
      have en2 := en1.up s1.in' s2
      obtain ⟨b, h5, h6, h7⟩ := en2.od i kvs q
      rw [h1] at h5
      cases h5
      obtain ⟨u, g, z⟩ := dpt_of s2.in' ok.2 ok.1 p2 (p1.up s2.g) h7
      refine ⟨a, _, rfl, g, ?_⟩
      exact r2 σ G2 _ (((s0.trans s1).trans s2).mut h6 (on i _ q rfl a h1)) (Ex.refl _) (en2.mut q rfl h1 h6 (.inr ⟨_, rfl, z⟩)) (on.mut q rfl)
    · exact False.elim r2
  · exact False.elim r
end
end PV

/-! PV13: builtins and methods. -/
namespace PV
open PySem L2

/-- what one argument gives -/
def b1 (f : D → R D) : List D → R D
  | [d] => f d
  | _ => .bad
def b2 (f : D → D → R D) : List D → R D
  | [d, e] => f d e
  | _ => .bad
section
variable {T : Tab} {K : PySem.W.Frag} {mg : Str → Option Value} {W : XK}
theorem b1_inv {f : D → R D} {G H : Hp} {xs : List V} {ds : List D} {P : D → V → Hp → Hp → Prop} {Q : VK} (p : RepHs K G H xs ds) (r : ResG T K mg W G H (b1 f ds) P Q) : ∃ x d, xs = [x] ∧ ds = [d] ∧ RepH K G H x d ∧ ResG T K mg W G H (f d) P Q := by
  match ds, p, r with
  | [d], p, r =>
    obtain ⟨v, ws, rfl, h1, h2⟩ := p.cons_inv
    rw [h2.nil_inv]
    exact ⟨v, d, rfl, rfl, h1, r⟩
  | [], _, r => exact False.elim r
  | _ :: _ :: _, _, r => exact False.elim r
theorem b2_inv {f : D → D → R D} {G H : Hp} {xs : List V} {ds : List D} {P : D → V → Hp → Hp → Prop} {Q : VK} (p : RepHs K G H xs ds) (r : ResG T K mg W G H (b2 f ds) P Q) : ∃ x y d e, xs = [x, y] ∧ ds = [d, e] ∧ RepH K G H x d ∧ RepH K G H y e ∧ ResG T K mg W G H (f d e) P Q := by
  match ds, p, r with
  | [d, e], p, r =>
    obtain ⟨v, ws, rfl, h1, h2⟩ := p.cons_inv
    obtain ⟨v2, ws, rfl, h3, h4⟩ := h2.cons_inv
    rw [h4.nil_inv]
    exact ⟨v, v2, d, e, rfl, rfl, h1, h3, r⟩
  | [], _, r => exact False.elim r
  | [_], _, r => exact False.elim r
  | _ :: _ :: _ :: _, _, r => exact False.elim r
end
/-! ### lists of one kind -/
def allI : List D → Option (List Int)
  | [] => some []
  | .int i :: r => (allI r).map (i :: ·)
  | _ => none
def allB : List D → Option (List Bool)
  | [] => some []
  | .bool i :: r => (allB r).map (i :: ·)
  | _ => none
def allS : List D → Option (List Str)
  | [] => some []
  | .str i :: r => (allS r).map (i :: ·)
  | _ => none
section
variable {K : PySem.W.Frag} {G H : Hp}
theorem reps_I : ∀ {ds : List D} {vs : List V} {ns : List Int}, Reps K G vs ds → allI ds = some ns → vs = ns.map V.int
  | [], _, _, h, e => by cases h; cases e; rfl
  | .int i :: r, _, ns, h, e => by
    cases h with
    | cons h1 h2 =>
      obtain rfl := h1.int_inv
      cases q : allI r with
      | none => rw [allI, q] at e; cases e
      | some l => rw [allI, q] at e; cases e; rw [reps_I h2 q]; rfl
  | .none :: _, _, _, _, e => by cases e
  | .bool _ :: _, _, _, _, e => by cases e
  | .str _ :: _, _, _, _, e => by cases e
  | .list _ :: _, _, _, _, e => by cases e
  | .tuple _ :: _, _, _, _, e => by cases e
  | .dict _ :: _, _, _, _, e => by cases e
theorem reps_B : ∀ {ds : List D} {vs : List V} {ns : List Bool}, Reps K G vs ds → allB ds = some ns → vs = ns.map V.bl
  | [], _, _, h, e => by cases h; cases e; rfl
  | .bool i :: r, _, ns, h, e => by
    cases h with
    | cons h1 h2 =>
      obtain rfl := h1.bool_inv
      cases q : allB r with
      | none => rw [allB, q] at e; cases e
      | some l => rw [allB, q] at e; cases e; rw [reps_B h2 q]; rfl
  | .none :: _, _, _, _, e => by cases e
  | .int _ :: _, _, _, _, e => by cases e
  | .str _ :: _, _, _, _, e => by cases e
  | .list _ :: _, _, _, _, e => by cases e
  | .tuple _ :: _, _, _, _, e => by cases e
  | .dict _ :: _, _, _, _, e => by cases e
theorem reps_S : ∀ {ds : List D} {vs : List V} {ns : List Str}, Reps K G vs ds → allS ds = some ns → vs = ns.map V.str ∧ ∀ x ∈ ns, StrOkay x
  | [], _, _, h, e => by cases h; cases e; exact ⟨rfl, fun _ q => nomatch q⟩
  | .str i :: r, _, ns, h, e => by
    cases h with
    | cons h1 h2 =>
      have h1' := h1.str_inv.2
      obtain rfl := h1.str_inv.1
      cases q : allS r with
      | none => rw [allS, q] at e; cases e
      | some l =>
        rw [allS, q] at e
        cases e
        obtain ⟨a, b⟩ := reps_S h2 q
        refine ⟨by rw [a]; rfl, fun x hx => ?_⟩
        rcases List.mem_cons.mp hx with z | z
        · rw [z]; exact h1'
        · exact b x z
  | .none :: _, _, _, _, e => by cases e
  | .bool _ :: _, _, _, _, e => by cases e
  | .int _ :: _, _, _, _, e => by cases e
  | .list _ :: _, _, _, _, e => by cases e
  | .tuple _ :: _, _, _, _, e => by cases e
  | .dict _ :: _, _, _, _, e => by cases e
end
/-! ### the plain words -/
def pInt : D → R D
  | .int i => .ok (.int i)
  | .bool b => .ok (.int (b2i b))
  | _ => .bad
def pAbs : D → R D
  | .int i => .ok (.int (if i < 0 then -i else i))
  | _ => .bad
def pMax2 : D → D → R D
  | .int i, .int j => .ok (.int (if j > i then j else i))
  | _, _ => .bad
def pMin2 : D → D → R D
  | .int i, .int j => .ok (.int (if j < i then j else i))
  | _, _ => .bad
def pSum1 : D → R D
  | .list ds => match allI ds with
    | some ns => .ok (.int ns.sum)
    | none => .bad
  | _ => .bad
def pAny : D → R D
  | .list ds => match allB ds with
    | some ns => .ok (.bool (ns.any id))
    | none => .bad
  | _ => .bad
def pAll : D → R D
  | .list ds => match allB ds with
    | some ns => .ok (.bool (ns.all id))
    | none => .bad
  | _ => .bad
def pList : D → R D
  | .list ds => .ok (.list ds)
  | .tuple ds => .ok (.list ds)
  | .dict kvs => .ok (.list (kvs.map (·.1)))
  | _ => .bad
def pTuple : D → R D
  | .list ds => .ok (.tuple ds)
  | _ => .bad
section
variable {T : Tab} {K : PySem.W.Frag} {G H : Hp} {X : Cx} {W : XK}
theorem keys_K : ∀ {vs : List (L2.Key × V)} {kvs : List (D × D)}, RepK K G vs kvs → Reps K G (vs.map fun kv => kV kv.1) (kvs.map (·.1))
  | _, _, .nil => .nil
  | _, _, @RepK.cons _ _ k v vs d ds hk h t => by
    rw [List.map_cons, List.map_cons]
    refine .cons ?_ (keys_K t)
    cases k with
    | inl i => exact .int i
    | inr x => exact .str x hk
theorem ca_len : CaOk T (.builtin "len") (b1 pLen) := ⟨fun X W N k ev sc gd pins s σ H xs us Q I r ⟨G, ds, e, p, h⟩ => by
  obtain ⟨x, d, rfl, rfl, px, h⟩ := b1_inv p h
  cases d with
  | list ds =>
    obtain ⟨a, vs, rfl, h1, h2⟩ := px.list_inv e
    exact call_len_seq pins s σ H _ us Q I r ⟨a, vs, rfl, .inl h1, by rw [h2.length]; exact h.ok T e (.int _)⟩
  | tuple ds =>
    obtain ⟨a, vs, rfl, h1, h2⟩ := px.tuple_inv
    exact call_len_seq pins s σ H _ us Q I r ⟨a, vs, rfl, .inr (e.st h1), by rw [h2.length]; exact h.ok T e (.int _)⟩
  | str z =>
    obtain ⟨rfl, hz⟩ := px.str_inv
    exact call_len_str pins s σ H _ us Q I r ⟨z, rfl, by rw [sizeLine_eq]; exact hz.1, h.ok T e (.int _)⟩
  | dict kvs =>
    obtain ⟨a, rfl, q⟩ := px.dict_inv e
    rcases q with ⟨vs, h1, _, h2⟩ | ⟨vs, h1, _, h2⟩
    · exact call_lenD pins s σ H _ us Q I r ⟨a, vs, rfl, h1, by rw [h2.length]; exact h.ok T e (.int _)⟩
    · exact call_len_dT pins s σ H _ us Q I r ⟨a, vs, rfl, h1, by rw [h2.length]; exact h.ok T e (.int _)⟩
  | _ => exact False.elim h⟩
theorem ca_int : CaOk T (.type "int") (b1 pInt) := ⟨fun X W N k ev sc gd pins s σ H xs us Q I r ⟨G, ds, e, p, h⟩ => by
  obtain ⟨x, d, rfl, rfl, px, h⟩ := b1_inv p h
  cases d with
  | int i => obtain rfl := px.int_inv; exact call_int1 pins s σ H _ us Q I r (.inl ⟨i, rfl, h.ok T e (.int _)⟩)
  | bool b => obtain rfl := px.bool_inv; exact call_int1 pins s σ H _ us Q I r (.inr ⟨b, rfl, h.ok T e (.int _)⟩)
  | _ => exact False.elim h⟩
theorem ca_abs : CaOk T (.builtin "abs") (b1 pAbs) := ⟨fun X W N k ev sc gd pins s σ H xs us Q I r ⟨G, ds, e, p, h⟩ => by
  obtain ⟨x, d, rfl, rfl, px, h⟩ := b1_inv p h
  cases d with
  | int i => obtain rfl := px.int_inv; exact call_abs pins s σ H _ us Q I r ⟨i, rfl, h.ok T e (.int _)⟩
  | _ => exact False.elim h⟩
theorem ca_max2 : CaOk T (.builtin "max") (b2 pMax2) := ⟨fun X W N k ev sc gd pins s σ H xs us Q I r ⟨G, ds, e, p, h⟩ => by
  obtain ⟨x, y, d, d', rfl, rfl, px, py, h⟩ := b2_inv p h
  cases d with
  | int i => cases d' with
    | int j =>
      obtain rfl := px.int_inv
      obtain rfl := py.int_inv
      exact call_max2 gd.calm pins s σ H _ us Q I r ⟨i, j, rfl, h.ok T e (.int _)⟩
    | _ => exact False.elim h
  | _ => exact False.elim h⟩
theorem ca_min2 : CaOk T (.builtin "min") (b2 pMin2) := ⟨fun X W N k ev sc gd pins s σ H xs us Q I r ⟨G, ds, e, p, h⟩ => by
  obtain ⟨x, y, d, d', rfl, rfl, px, py, h⟩ := b2_inv p h
  cases d with
  | int i => cases d' with
    | int j =>
      obtain rfl := px.int_inv
      obtain rfl := py.int_inv
      exact call_min2 gd.calm pins s σ H _ us Q I r ⟨i, j, rfl, h.ok T e (.int _)⟩
    | _ => exact False.elim h
  | _ => exact False.elim h⟩
theorem ca_sum : CaOk T (.builtin "sum") (b1 pSum1) := ⟨fun X W N k ev sc gd pins s σ H xs us Q I r ⟨G, ds, e, p, h⟩ => by
  obtain ⟨x, d, rfl, rfl, px, h⟩ := b1_inv p h
  cases d with
  | list ds =>
    obtain ⟨a, vs, rfl, h1, h2⟩ := px.list_inv e
    simp only [pSum1] at h
    cases q : allI ds with
    | none => rw [q] at h; exact False.elim h
    | some ns => rw [q] at h; rw [reps_I h2 q] at h1; exact cr_sum gd.calm pins s σ H _ us Q I r ⟨a, ns, rfl, h1, h.ok T e (.int _)⟩
  | _ => exact False.elim h⟩
theorem ca_any : CaOk T (.builtin "any") (b1 pAny) := ⟨fun X W N k ev sc gd pins s σ H xs us Q I r ⟨G, ds, e, p, h⟩ => by
  obtain ⟨x, d, rfl, rfl, px, h⟩ := b1_inv p h
  cases d with
  | list ds =>
    obtain ⟨a, vs, rfl, h1, h2⟩ := px.list_inv e
    simp only [pAny] at h
    cases q : allB ds with
    | none => rw [q] at h; exact False.elim h
    | some ns => rw [q] at h; rw [reps_B h2 q] at h1; exact cr_any gd.calm pins s σ H _ us Q I r ⟨a, ns, rfl, h1, h.ok T e (.bl _)⟩
  | _ => exact False.elim h⟩
theorem ca_all : CaOk T (.builtin "all") (b1 pAll) := ⟨fun X W N k ev sc gd pins s σ H xs us Q I r ⟨G, ds, e, p, h⟩ => by
  obtain ⟨x, d, rfl, rfl, px, h⟩ := b1_inv p h
  cases d with
  | list ds =>
    obtain ⟨a, vs, rfl, h1, h2⟩ := px.list_inv e
    simp only [pAll] at h
    cases q : allB ds with
    | none => rw [q] at h; exact False.elim h
    | some ns => rw [q] at h; rw [reps_B h2 q] at h1; exact cr_all gd.calm pins s σ H _ us Q I r ⟨a, ns, rfl, h1, h.ok T e (.bl _)⟩
  | _ => exact False.elim h⟩
/-- a new list from the heap as it stands -/
theorem ResG.newF0 {ds : List D} {xs : List V} {p : Addr} {Q : VK} {mg : Str → Option Value} (e : Ex G H) (r : ResG T K mg W G H (.ok (.list ds)) (pF K H) Q) (hp : H p = none) (h : Reps K G xs ds) : Q (.ref p) (upd H p (.lst xs)) :=
  ResG.newF (Step.refl e) r hp h
/-- tuples that stand in the heap become known -/
theorem know_tups : ∀ {kvs : List (List L2.Key × V)} {bs : List Addr} {ds : List (D × D)} {G : Hp}, Ex G H → IsKeys H kvs bs → RepT K G kvs ds → ∃ G2, Step G H G2 H ∧ (∀ b, G2 b ≠ none → G b ≠ none ∨ ∃ xs, H b = some (.tup xs)) ∧ Reps K G2 (bs.map V.ref) (ds.map (·.1))
  | [], _, _, G, e, h, r => by
    cases h; cases r
    exact ⟨G, Step.refl e, fun _ h => .inl h, .nil⟩
  | (ks, v) :: kvs, bs, ds, G, e, h, r => by
    cases h with
    | @cons _ b _ bs h1 h2 =>
      cases r with
      | @cons _ _ _ d ds hk hv ht =>
        obtain ⟨G2, s2, n2, r2⟩ := know_tups e h2 ht
        have h1 : H b = some (.tup (ks.map kV)) := h1
        have keysR : ∀ (G : Hp) (ks : List L2.Key), (∀ x ∈ ks, KOk x) → Reps K G (ks.map kV) (ks.map kD) := by
          intro G ks
          induction ks with
          | nil => intro _; exact .nil
          | cons k ks ih =>
            intro hk
            refine .cons ?_ (ih fun x hx => hk x (List.mem_cons_of_mem _ hx))
            have hk0 := hk k List.mem_cons_self
            cases k with
            | inl i => exact .int i
            | inr x => exact .str x hk0
        cases q : G2 b with
        | some o =>
          have : o = .tup (ks.map kV) := by
            have := s2.in' b o q
            rw [h1] at this
            exact (Option.some.inj this).symm
          subst this
          exact ⟨G2, s2, n2, .cons (.tup q (keysR _ _ hk)) r2⟩
        | none =>
          have ex : Ex G2 (upd G2 b (.tup (ks.map kV))) := Ex.new q
          have tupB : ∀ c, upd G2 b (.tup (ks.map kV)) c ≠ none → G2 c ≠ none ∨ ∃ xs, H c = some (.tup xs) := fun c hc => by
            by_cases z : c = b
            · subst z; exact .inr ⟨_, h1⟩
            · rw [upd_ne z] at hc; exact .inl hc
          refine ⟨upd G2 b (.tup (ks.map kV)), ⟨s2.g.trans ex, s2.h, fun c u hc => ?_, fun c hc => ?_⟩, fun c hc => ?_, .cons (.tup upd_same (keysR _ _ hk)) (r2.up ex)⟩
          · by_cases z : c = b
            · subst z; rw [upd_same] at hc; cases hc; exact h1
            · rw [upd_ne z] at hc; exact s2.in' c u hc
          · rcases tupB c hc with w | w
            · exact s2.new c w
            · exact .inr (.inr w)
          · rcases tupB c hc with w | w
            · exact n2 c w
            · exact .inr w
theorem cf_list : CfOk T (.type "list") (b1 pList) := ⟨fun X W N k ev sc gd pins s σ H xs us Q I r ⟨G, ds, e, p, h⟩ => by
  obtain ⟨x, d, rfl, rfl, px, h⟩ := b1_inv p h
  cases d with
  | list ds =>
    obtain ⟨a, vs, rfl, h1, h2⟩ := px.list_inv e
    exact call_list_of pins s σ H _ us Q I r ⟨a, vs, rfl, .inl h1, fun p hp => h.newF0 e hp h2⟩
  | tuple ds =>
    obtain ⟨a, vs, rfl, h1, h2⟩ := px.tuple_inv
    exact call_list_of pins s σ H _ us Q I r ⟨a, vs, rfl, .inr (e.st h1), fun p hp => h.newF0 e hp h2⟩
  | dict kvs =>
    obtain ⟨a, rfl, q⟩ := px.dict_inv e
    rcases q with ⟨vs, h1, _, h2⟩ | ⟨vs, h1, _, h2⟩
    · exact call_list_dK gd.calm pins s σ H _ us Q I r ⟨a, vs, rfl, h1, fun p hp => h.newF0 e hp (keys_K h2)⟩
    · refine call_list_dT gd.calm pins s σ H _ us Q I r ⟨a, vs, rfl, .inl h1, fun p bs hp hk => ?_⟩
      obtain ⟨G2, s2, _, r2⟩ := know_tups e hk h2
      have h : ResG T X.K X.mg W G H (.ok (.list (kvs.map (·.1)))) (pF X.K H) Q := h
      exact ResG.newF s2 (ResG.later T s2 h) hp r2
  | _ => exact False.elim h⟩
theorem ca_tuple : CaOk T (.type "tuple") (b1 pTuple) := ⟨fun X W N k ev sc gd pins s σ H xs us Q I r ⟨G, ds, e, p, h⟩ => by
  obtain ⟨x, d, rfl, rfl, px, h⟩ := b1_inv p h
  cases d with
  | list ds =>
    obtain ⟨a, vs, rfl, h1, h2⟩ := px.list_inv e
    exact call_tuple_of pins s σ H _ us Q I r ⟨a, vs, rfl, .inl ⟨h1, fun p hp => h.newT e hp h2⟩⟩
  | _ => exact False.elim h⟩
end

/-! ### methods -/
structure MeOk (T : Tab) (ty id : String) (name : Str) (isT : D → Bool) (fb : D → List D → R D) : Prop where
  pa : PlainAttrs ty
  slot : Slot ty name id
  hty : typeOf (.builtin id) = pure (.type "method_descriptor")
  ty : ∀ {K : PySem.W.Frag} {G H : Hp} {x : V} {d : D}, isT d = true → Ex G H → RepH K G H x d → tyV K ty x H
  ok : ∀ (X : Cx) (W : XK) (N : List Str) (k : Nat) (ev : Ev) (sc : List (Str × NameKind)), Gd T N k ev sc X W → MtR X id (fun x xs H Q => ∃ G d ds, Ex G H ∧ RepH X.K G H x d ∧ RepHs X.K G H xs ds ∧ isT d = true ∧ ResG T X.K X.mg W G H (fb d ds) (pV X.K) Q)
def eM (isT : D → Bool) (fb : D → List D → R D) (f : FE) (l : FL) : FE := fun ev ρ => (f ev ρ).bind fun d => if isT d = true then (l ev ρ).bind fun ds => fb d ds else .bad
def NoBase (o : Expr) (name : Str) : Prop := ∀ env, attributeBase o name env (eval o env) = eval o env
theorem starEach_all : ∀ {es : List Expr}, es.all NotStar = true → ∀ (env : Env) (pos : Pos), (backTo pos (starEach es env)).all (fun x => !x.1) = true
  | [], _, _, _ => rfl
  | e :: es, h, env, pos => by
    rw [List.all_cons, Bool.and_eq_true] at h
    rw [notStar h.1]
    exact starEach_all h.2 env pos
section
variable {T : Tab} {N : List Str} {k : Nat} {ev : Ev} {sc : List (Str × NameKind)} {o e : Expr} {es : List Expr} {f : FE} {l : FL} {name : Str} {ap cp : Pos} {ty id : String} {isT : D → Bool} {fb : D → List D → R D}
theorem sv_m (hm : MeOk T ty id name isT fb) (hb : NoBase o name) (ho : SB T N k ev sc o f) (ha : SAB T N k ev sc (e :: es) l) (hst : (e :: es).all NotStar = true) (hl : decide ((e :: es).length < 30) = true) (hline : (ap.endLine == cp.line) = true) :
    SV T N k ev sc (.Call (.Attribute o name ap) (e :: es) [] cp) (eM isT fb f l) := fun X W gd => by
  have hst' := hst
  rw [List.all_cons, Bool.and_eq_true] at hst'
  refine PE.mono (pe_bm hm.pa hm.slot hm.hty (hm.ok X W N k ev sc gd) (ho X W gd) (ha X W gd) (hb _) (by
    rw [starEach_all hst]
    show (true && true && decide ((e :: es).length + 0 + 0 < 30)) = true
    simpa using hl) hline (notStar hst'.1 _) (NoS_any hst'.2 _ _)) fun σ H Q ⟨G, ρ, e1, en, r⟩ => ⟨G, ρ, e1, en, r.seq T fun d v G1 H1 s1 p r1 => ?_⟩
  split at r1
  · rename_i it
    refine ⟨hm.ty it s1.in' p, G1, ρ, s1.in', en.up e1 s1, r1.seq T fun ds vs G2 H2 s2 p2 r2 => ?_⟩
    exact ⟨G2, d, ds, s2.in', p.up s2.g s2.h, p2, it, r2⟩
  · exact False.elim r1
end
def isL : D → Bool
  | .list _ => true
  | _ => false
def isS : D → Bool
  | .str _ => true
  | _ => false
def isDc : D → Bool
  | .dict _ => true
  | _ => false
/-- the first place of an equal one -/
def placeOf (ds : List D) (d : D) : Option Nat := ds.findIdx? fun z => PyData.eqv z d
def mIndexL : D → List D → R D
  | .list ds, [d] => if shp (.list ds) && shp d then (match placeOf ds d with
    | some j => .ok (.int (j : Nat))
    | none => .bad) else .bad
  | _, _ => .bad
def mIndexS : D → List D → R D
  | .str x, [.str y] => match Builtin.Str.occurrences x y 0 x.length 1 with
    | i :: _ => .ok (.int (i : Nat))
    | [] => .bad
  | _, _ => .bad
def mJoin : D → List D → R D
  | .str x, [.list ds] => match allS ds with
    | some ys => if (ys.map (·.cps.size)).sum + ys.length * x.cps.size ≤ lim then .ok (.str (Str.join x ys)) else .bad
    | none => .bad
  | _, _ => .bad
def mCountS : D → List D → R D
  | .str x, [.str y] => .ok (.int (Txt.count x y))
  | _, _ => .bad
def mGet : D → List D → R D
  | .dict kvs, [y] => if keyOk kvs y then .ok ((dLook kvs y).getD .none) else .bad
  | .dict kvs, [y, z] => if keyOk kvs y then .ok ((dLook kvs y).getD z) else .bad
  | _, _ => .bad
section
variable {T : Tab}
theorem tyL {K : PySem.W.Frag} {G H : Hp} {x : V} {d : D} (i : isL d = true) (e : Ex G H) (p : RepH K G H x d) : tyV K "list" x H := by
  cases d with
  | list ds =>
    obtain ⟨a, vs, rfl, h1, h2⟩ := p.list_inv e
    exact .inl ⟨rfl, vs, h1⟩
  | _ => cases i
theorem tyS {K : PySem.W.Frag} {G H : Hp} {x : V} {d : D} (i : isS d = true) (e : Ex G H) (p : RepH K G H x d) : tyV K "str" x H := by
  cases d with
  | str ds =>
    obtain ⟨rfl, _⟩ := p.str_inv
    rfl
  | _ => cases i
theorem tyD {K : PySem.W.Frag} {G H : Hp} {x : V} {d : D} (i : isDc d = true) (e : Ex G H) (p : RepH K G H x d) : tyV K "dict" x H := by
  cases d with
  | dict ds =>
    obtain ⟨a, rfl, q⟩ := p.dict_inv e
    rcases q with ⟨vs, h1, _⟩ | ⟨vs, h1, _⟩
    · exact .inr (.inr (.inl ⟨rfl, .inl ⟨vs, h1⟩⟩))
    · exact .inr (.inr (.inl ⟨rfl, .inr ⟨vs, h1⟩⟩))
  | _ => cases i
theorem RepHs.one {K : PySem.W.Frag} {G H : Hp} {vs : List V} {d : D} (h : RepHs K G H vs [d]) : ∃ v, vs = [v] ∧ RepH K G H v d := by
  obtain ⟨v, ws, rfl, h1, h2⟩ := h.cons_inv
  rw [h2.nil_inv]; exact ⟨v, rfl, h1⟩
theorem findIdx_spec {p : D → Bool} : ∀ {ds : List D} {j : Nat}, ds.findIdx? p = some j → ∃ z, ds[j]? = some z ∧ p z = true ∧ ∀ (m : Nat) (z' : D), m < j → ds[m]? = some z' → p z' = false := by
  intro ds j h
  rw [List.findIdx?_eq_some_iff_getElem] at h
  obtain ⟨hj, h1, h2⟩ := h
  refine ⟨ds[j], List.getElem?_eq_getElem hj, h1, fun m z' hm hz => ?_⟩
  have := h2 m hm
  rw [List.getElem?_eq_getElem (by omega)] at hz
  cases hz
  simpa using this
theorem me_indexL : MeOk T "list" "list.index" "index" isL mIndexL := ⟨PySem.F.plainAttrs_list, PySem.F.slot_list_index, PySem.F.type_list_index, tyL, fun X W N k ev sc gd pins s σ H x xs v us Q I rx rs ⟨G, d, ds, e, px, ps, it, h⟩ => by
  cases d with
  | list zs =>
    match ds, ps, h with
    | [y], ps, h =>
      obtain ⟨w, rfl, pw⟩ := ps.one
      simp only [mIndexL] at h
      split at h
      · rename_i hs
        rw [Bool.and_eq_true] at hs
        cases q : placeOf zs y with
        | none => rw [q] at h; exact False.elim h
        | some j =>
          rw [q] at h
          obtain ⟨z, z1, z2, z3⟩ := findIdx_spec q
          obtain ⟨a, vs, rfl, h1, h2⟩ := px.list_inv e
          exact mt_indexD gd.hu65 pins s σ H _ _ v us Q I rx rs ⟨a, w, y, zs, j, z, rfl, rfl, px.dp e (shp_iff.mp hs.1).1, pw.dp e (shp_iff.mp hs.2).1, hs.1, hs.2, z1, z2, z3, h.ok T e (.int _)⟩
      · exact False.elim h
    | [], _, h => exact False.elim h
    | _ :: _ :: _, _, h => exact False.elim h
  | _ => cases it⟩
theorem me_indexS : MeOk T "str" "str.index" "index" isS mIndexS := ⟨PySem.F.plainAttrs_str, PySem.F.slot_str_index, PySem.F.type_str_index, tyS, fun X W N k ev sc gd pins s σ H x xs v us Q I rx rs ⟨G, d, ds, e, px, ps, it, h⟩ => by
  cases d with
  | str z =>
    match ds, ps, h with
    | [.str y], ps, h =>
      obtain ⟨w, rfl, pw⟩ := ps.one
      obtain ⟨rfl, _⟩ := pw.str_inv
      obtain ⟨rfl, _⟩ := px.str_inv
      simp only [mIndexS] at h
      cases q : Builtin.Str.occurrences z y 0 z.length 1 with
      | nil => rw [q] at h; exact False.elim h
      | cons i r =>
        rw [q] at h
        exact mt_sindex pins s σ H _ _ v us Q I rx rs ⟨z, y, i, r, rfl, rfl, q, h.ok T e (.int _)⟩
    | [], _, h => exact False.elim h
    | a :: _ :: _, _, h => cases a <;> exact False.elim h
    | [.int _], _, h => exact False.elim h
    | [.none], _, h => exact False.elim h
    | [.bool _], _, h => exact False.elim h
    | [.list _], _, h => exact False.elim h
    | [.tuple _], _, h => exact False.elim h
    | [.dict _], _, h => exact False.elim h
  | _ => cases it⟩
theorem me_countS : MeOk T "str" "str.count" "count" isS mCountS := ⟨PySem.F.plainAttrs_str, PySem.F.slot_str_count, PySem.F.type_str_count, tyS, fun X W N k ev sc gd pins s σ H x xs v us Q I rx rs ⟨G, d, ds, e, px, ps, it, h⟩ => by
  cases d with
  | str z =>
    match ds, ps, h with
    | [.str y], ps, h =>
      obtain ⟨w, rfl, pw⟩ := ps.one
      obtain ⟨rfl, _⟩ := pw.str_inv
      obtain ⟨rfl, _⟩ := px.str_inv
      exact mt_count pins s σ H _ _ v us Q I rx rs ⟨z, y, rfl, rfl, h.ok T e (.int _)⟩
    | [], _, h => exact False.elim h
    | a :: _ :: _, _, h => cases a <;> exact False.elim h
    | [.int _], _, h => exact False.elim h
    | [.none], _, h => exact False.elim h
    | [.bool _], _, h => exact False.elim h
    | [.list _], _, h => exact False.elim h
    | [.tuple _], _, h => exact False.elim h
    | [.dict _], _, h => exact False.elim h
  | _ => cases it⟩
theorem strOkay_join {x : Str} {ys : List Str} (hx : StrOkay x) (hy : ∀ y ∈ ys, StrOkay y) (hl : (ys.map (·.cps.size)).sum + ys.length * x.cps.size ≤ lim) : StrOkay (Str.join x ys) := by
  refine ⟨Nat.le_trans (StrLaws.join_length_le x ys) hl, ?_⟩
  have app : ∀ {a b : Str}, PyData.strOk a = true → PyData.strOk b = true → PyData.strOk (a ++ b) = true := fun {a b} h1 h2 => by
    unfold PyData.strOk at h1 h2 ⊢
    show (a.cps ++ b.cps).all _ = true
    rw [Array.all_append, h1, h2]
    rfl
  have go : ∀ zs : List Str, (∀ y ∈ zs, StrOkay y) → PyData.strOk (Str.join x zs) = true := by
    intro zs
    induction zs with
    | nil => intro _; exact (by decide +kernel : PyData.strOk Str.empty = true)
    | cons z zs ih =>
      intro h
      cases zs with
      | nil => exact (h z List.mem_cons_self).2
      | cons w r => exact app (app (h z List.mem_cons_self).2 hx.2) (ih fun y hy => h y (List.mem_cons_of_mem _ hy))
  exact go ys hy
theorem me_join : MeOk T "str" "str.join" "join" isS mJoin := ⟨PySem.F.plainAttrs_str, PySem.F.slot_str_join, PySem.F.type_str_join, tyS, fun X W N k ev sc gd pins s σ H x xs v us Q I rx rs ⟨G, d, ds, e, px, ps, it, h⟩ => by
  cases d with
  | str z =>
    match ds, ps, h with
    | [.list zs], ps, h =>
      obtain ⟨w, rfl, pw⟩ := ps.one
      obtain ⟨a, vs, rfl, h1, h2⟩ := pw.list_inv e
      obtain ⟨rfl, hz⟩ := px.str_inv
      simp only [mJoin] at h
      cases q : allS zs with
      | none => rw [q] at h; exact False.elim h
      | some ys =>
        rw [q] at h
        simp only at h
        split at h
        · rename_i hl
          obtain ⟨e1, e2⟩ := reps_S h2 q
          subst e1
          exact mt_join pins s σ H _ _ v us Q I rx rs ⟨z, a, ys, rfl, rfl, .inl h1, hl, by rw [show Txt.join z ys = Str.join z ys from TL.join_eq z ys]; exact h.ok T e (.str _ (strOkay_join hz e2 hl))⟩
        · exact False.elim h
    | [], _, h => exact False.elim h
    | a :: _ :: _, _, h => cases a <;> exact False.elim h
    | [.int _], _, h => exact False.elim h
    | [.none], _, h => exact False.elim h
    | [.bool _], _, h => exact False.elim h
    | [.str _], _, h => exact False.elim h
    | [.tuple _], _, h => exact False.elim h
    | [.dict _], _, h => exact False.elim h
  | _ => cases it⟩
end
end PV

/-! PV14: what is walked, list comprehensions. -/
namespace PV
open PySem L2

def pIter : D → R (List D)
  | .list ds => .ok ds
  | .tuple ds => .ok ds
  | .str x => .ok (strItems x)
  | _ => .bad
def iVal (f : FE) : FL := fun ev ρ => (f ev ρ).bind pIter
def q1 (f : D → R (List D)) : List D → R (List D)
  | [d] => f d
  | _ => .bad
def q2 (f : D → D → R (List D)) : List D → R (List D)
  | [d, e] => f d e
  | _ => .bad
def q3 (f : D → D → D → R (List D)) : List D → R (List D)
  | [d, e, g] => f d e g
  | _ => .bad
def pRng1 : D → R (List D)
  | .int j => if -(2 ^ 62) ≤ j ∧ j < 2 ^ 62 then .ok (rng 0 j.toNat) else .bad
  | _ => .bad
def pRng2 : D → D → R (List D)
  | .int i, .int j => if -(2 ^ 62) ≤ i ∧ i < 2 ^ 62 ∧ -(2 ^ 62) ≤ j ∧ j < 2 ^ 62 then .ok (rng i (j - i).toNat) else .bad
  | _, _ => .bad
/-- a step of -1 -/
def pRng3 : D → D → D → R (List D)
  | .int i, .int j, .int c => if c = -1 ∧ -(2 ^ 62) ≤ i ∧ i < 2 ^ 62 ∧ -(2 ^ 62) ≤ j ∧ j < 2 ^ 62 then .ok (rngC i (-1) (i - j).toNat) else .bad
  | _, _, _ => .bad
def iB (g : List D → R (List D)) (l : FL) : FL := fun ev ρ => (l ev ρ).bind g
def pEnum : D → R (List D)
  | .list ds => .ok (enumL ds)
  | .tuple ds => .ok (enumL ds)
  | .str x => .ok (enumL (strItems x))
  | _ => .bad
def pZip : D → D → R (List D)
  | .list ds, .list es => .ok (zipL ds es)
  | .tuple ds, .tuple es => .ok (zipL ds es)
  | _, _ => .bad
section
variable {T : Tab} {K : PySem.W.Frag} {mg : Str → Option Value} {W : XK} {α β : Type}
theorem q1_inv {f : D → R (List D)} {G H : Hp} {xs : List V} {ds : List D} {P : List D → β → Hp → Hp → Prop} {Q : β → Hp → Prop} (p : Reps K G xs ds) (r : ResG T K mg W G H (q1 f ds) P Q) : ∃ x d, xs = [x] ∧ ds = [d] ∧ Rep K G x d ∧ ResG T K mg W G H (f d) P Q := by
  match ds, p, r with
  | [d], p, r =>
    obtain ⟨v, rfl, h1⟩ := p.one
    exact ⟨v, d, rfl, rfl, h1, r⟩
  | [], _, r => exact False.elim r
  | _ :: _ :: _, _, r => exact False.elim r
theorem q2_inv {f : D → D → R (List D)} {G H : Hp} {xs : List V} {ds : List D} {P : List D → β → Hp → Hp → Prop} {Q : β → Hp → Prop} (p : Reps K G xs ds) (r : ResG T K mg W G H (q2 f ds) P Q) : ∃ x y d e, xs = [x, y] ∧ ds = [d, e] ∧ Rep K G x d ∧ Rep K G y e ∧ ResG T K mg W G H (f d e) P Q := by
  match ds, p, r with
  | [d, e], p, r =>
    obtain ⟨v, w, rfl, h1, h2⟩ := p.two
    exact ⟨v, w, d, e, rfl, rfl, h1, h2, r⟩
  | [], _, r => exact False.elim r
  | [_], _, r => exact False.elim r
  | _ :: _ :: _ :: _, _, r => exact False.elim r
end
section
variable {T : Tab} {N : List Str} {k : Nat} {ev : Ev} {sc : List (Str × NameKind)} {e a b tg : Expr} {es : List Expr} {f : FE} {l : FL} {p pos tpos : Pos} {kk : Nat}
theorem si_val (he : SV T N k ev sc e f) : SI T N k ev sc tg e (iVal f) := fun X W gd => by
  have h := he X W gd
  refine PI.mono (PI.or (pi_list h) (PI.or (pi_tup h) (pi_str h))) fun σ H Q ⟨G, ρ, e1, en, r⟩ => ?_
  unfold iVal at r
  cases q : f ev ρ with
  | exc c z => rw [q] at r; exact .inl ⟨G, ρ, e1, en, by rw [q]; exact r⟩
  | bad => rw [q] at r; exact r.elim
  | ok d =>
    cases d with
    | list ds =>
      refine .inl ⟨G, ρ, e1, en, r.seqE fun d v G1 H1 ed s1 p r1 => ?_⟩
      obtain rfl : PyData.list ds = d := R.ok.inj (q.symm.trans ed)
      obtain ⟨x, xs, rfl, h1, h2⟩ := p.list_inv
      have r1 : ResG T X.K X.mg W G1 H1 (.ok ds) (pI X.K) Q := r1
      exact ⟨x, rfl, ⟨xs, s1.in'.sl h1⟩, r1.ok T s1.in' (itd_list h1 h2)⟩
    | tuple ds =>
      refine .inr (.inl ⟨G, ρ, e1, en, r.seqE fun d v G1 H1 ed s1 p r1 => ?_⟩)
      obtain rfl : PyData.tuple ds = d := R.ok.inj (q.symm.trans ed)
      obtain ⟨x, xs, rfl, h1, h2⟩ := p.tuple_inv
      have r1 : ResG T X.K X.mg W G1 H1 (.ok ds) (pI X.K) Q := r1
      exact ⟨x, rfl, ⟨xs, .inl (.inl (s1.in' _ _ h1))⟩, r1.ok T s1.in' (itd_tup (.inl (.inl h1)) h2)⟩
    | str z =>
      refine .inr (.inr ⟨G, ρ, e1, en, r.seqE fun d v G1 H1 ed s1 p r1 => ?_⟩)
      obtain rfl : PyData.str z = d := R.ok.inj (q.symm.trans ed)
      obtain ⟨rfl, hz⟩ := p.str_inv
      have r1 : ResG T X.K X.mg W G1 H1 (.ok (strItems z)) (pI X.K) Q := r1
      exact ⟨z, rfl, r1.ok T s1.in' (itd_str hz)⟩
    | _ => rw [q] at r; exact False.elim r
theorem si_rng1 {x : Str} (hx : x = "range") (hs : sc.lookup x = some .globalImplicit) (hb : x ∈ T.blt) (ha : SA T N k ev sc [a] l) (hst : NotStar a = true) : SI T N k ev sc tg (.Call (.Name x p) [a] [] pos) (iB (q1 pRng1) l) := fun X W gd => by
  subst hx
  refine PI.mono (pi_range1 (gd.gl T hs) (gd.blt _ hb) (ha X W gd) (notStar hst _)) fun σ H Q ⟨G, ρ, e1, en, r⟩ => ⟨G, ρ, e1, en, r.seq T fun ds vs G1 H1 s1 p r1 => ?_⟩
  obtain ⟨v, d, rfl, rfl, pv, r1⟩ := q1_inv p r1
  cases d with
  | int j =>
    obtain rfl := pv.int_inv
    simp only [pRng1] at r1
    split at r1
    · rename_i hj
      exact ⟨j, rfl, hj.1, hj.2, r1.ok T s1.in' itd_rng⟩
    · exact False.elim r1
  | _ => exact False.elim r1
theorem si_rng2 {x : Str} (hx : x = "range") (hs : sc.lookup x = some .globalImplicit) (hb : x ∈ T.blt) (ha : SA T N k ev sc [a, b] l) (hst : NotStar a = true) (hst2 : NotStar b = true) : SI T N k ev sc tg (.Call (.Name x p) [a, b] [] pos) (iB (q2 pRng2) l) := fun X W gd => by
  subst hx
  refine PI.mono (pi_range2 (gd.gl T hs) (gd.blt _ hb) (ha X W gd) (by rw [notStar hst, notStar hst2]; rfl) (by rw [notStar hst2]; rfl)) fun σ H Q ⟨G, ρ, e1, en, r⟩ => ⟨G, ρ, e1, en, r.seq T fun ds vs G1 H1 s1 p r1 => ?_⟩
  obtain ⟨v, w, d, d', rfl, rfl, pv, pw, r1⟩ := q2_inv p r1
  cases d with
  | int i => cases d' with
    | int j =>
      obtain rfl := pv.int_inv
      obtain rfl := pw.int_inv
      simp only [pRng2] at r1
      split at r1
      · rename_i hj
        exact ⟨i, j, rfl, hj, r1.ok T s1.in' itd_rng⟩
      · exact False.elim r1
    | _ => exact False.elim r1
  | _ => exact False.elim r1
theorem si_zip {x : Str} {elts : List Expr} (hx : x = "zip") (hs : sc.lookup x = some .globalImplicit) (hb : x ∈ T.blt) (ha : SA T N k ev sc [a, b] l) (hst : NotStar a = true) (hst2 : NotStar b = true) : SI T N k ev sc (.Tuple elts kk tpos) (.Call (.Name x p) [a, b] [] pos) (iB (q2 pZip) l) := fun X W gd => by
  subst hx
  refine PI.mono (RZ.pi_zipA (gd.gl T hs) (gd.blt _ hb) (ha X W gd) (notStar hst _) (by rw [notStar hst2]; rfl)) fun σ H Q ⟨G, ρ, e1, en, r⟩ => ⟨G, ρ, e1, en, r.seq T fun ds vs G1 H1 s1 p r1 => ?_⟩
  obtain ⟨v, w, d, d', rfl, rfl, pv, pw, r1⟩ := q2_inv p r1
  cases d with
  | list xs => cases d' with
    | list ys =>
      obtain ⟨c, us, rfl, h1, h2⟩ := pv.list_inv
      obtain ⟨c', us', rfl, h3, h4⟩ := pw.list_inv
      exact ⟨c, c', us, us', rfl, .inl ⟨s1.in'.sl h1, s1.in'.sl h3, ResG.ok T (P := pI X.K) s1.in' (d := zipL xs ys) r1 (itd_zip h1 h3 h2 h4)⟩⟩
    | _ => exact False.elim r1
  | tuple xs => cases d' with
    | tuple ys =>
      obtain ⟨c, us, rfl, h1, h2⟩ := pv.tuple_inv
      obtain ⟨c', us', rfl, h3, h4⟩ := pw.tuple_inv
      exact ⟨c, c', us, us', rfl, .inr ⟨.inl (.inl (s1.in' _ _ h1)), .inl (.inl (s1.in' _ _ h3)), ResG.ok T (P := pI X.K) s1.in' (d := zipL xs ys) r1 (itd_zipT (.inl (.inl h1)) (.inl (.inl h3)) h2 h4)⟩⟩
    | _ => exact False.elim r1
  | _ => exact False.elim r1
end

/-! ### comprehensions -/
def noX {α : Type} (r : R α) : R α := match r with
  | .exc _ _ => .bad
  | r => r
def lcL (t : Tg) (c : Rho → R Bool) (f : Rho → R D) (ρ : Rho) : List D → R (List D)
  | [] => .ok []
  | d :: ds => match bindT t d ρ with
    | none => .bad
    | some ρ1 => (noX (c ρ1)).bind fun b => if b = true then (noX (f ρ1)).bind fun y => (lcL t c f ρ ds).bind fun ys => .ok (y :: ys) else lcL t c f ρ ds
/-- [elt for t in it if c]: vs the block's own places -/
def eLc (vs : List Nat) (t : Tg) (it : FL) (c : FT) (f : FE) : FE := fun ev ρ => (it ev ρ).bind fun ds => if ds.length ≤ lim then (lcL t (c ev) (f ev) (wipeR ρ vs) ds).bind fun ys => .ok (.list ys) else .bad
def tYesF : FT := fun _ _ => .ok true
theorem lcL_noexc {t : Tg} {c : Rho → R Bool} {f : Rho → R D} {ρ : Rho} : ∀ {ds : List D} {k : Nat} {z : D}, lcL t c f ρ ds ≠ .exc k z
  | [], _, _ => fun h => by cases h
  | d :: ds, k, z => fun h => by
    unfold lcL at h
    cases q : bindT t d ρ with
    | none => rw [q] at h; cases h
    | some ρ1 =>
      rw [q] at h
      simp only at h
      cases q2 : c ρ1 with
      | exc _ _ => rw [q2] at h; cases h
      | bad => rw [q2] at h; cases h
      | ok b =>
        rw [q2] at h
        cases b with
        | false => exact lcL_noexc (ds := ds) h
        | true =>
          cases q3 : f ρ1 with
          | exc _ _ => rw [q3] at h; cases h
          | bad => rw [q3] at h; cases h
          | ok y =>
            rw [q3] at h
            have h : (lcL t c f ρ ds).bind (fun ys => R.ok (y :: ys)) = .exc k z := h
            cases q4 : lcL t c f ρ ds with
            | exc k' z' => exact lcL_noexc q4
            | bad => rw [q4] at h; cases h
            | ok ys => rw [q4] at h; cases h
/-- one turn -/
theorem lcL_turn {t : Tg} {c : Rho → R Bool} {f : Rho → R D} {ρ : Rho} {d : D} {ds ys : List D} (h : lcL t c f ρ (d :: ds) = .ok ys) : ∃ ρ1, bindT t d ρ = some ρ1 ∧
    ((c ρ1 = .ok false ∧ lcL t c f ρ ds = .ok ys) ∨ ∃ y zs, c ρ1 = .ok true ∧ f ρ1 = .ok y ∧ lcL t c f ρ ds = .ok zs ∧ ys = y :: zs) := by
  unfold lcL at h
  cases q : bindT t d ρ with
  | none => rw [q] at h; cases h
  | some ρ1 =>
    rw [q] at h
    refine ⟨ρ1, rfl, ?_⟩
    simp only at h
    cases q2 : c ρ1 with
    | exc _ _ => rw [q2] at h; cases h
    | bad => rw [q2] at h; cases h
    | ok b =>
      rw [q2] at h
      cases b with
      | false => exact .inl ⟨rfl, h⟩
      | true =>
        cases q3 : f ρ1 with
        | exc _ _ => rw [q3] at h; cases h
        | bad => rw [q3] at h; cases h
        | ok y =>
          rw [q3] at h
          have h : (lcL t c f ρ ds).bind (fun ys => R.ok (y :: ys)) = .ok ys := h
          cases q4 : lcL t c f ρ ds with
          | exc k' z' => rw [q4] at h; cases h
          | bad => rw [q4] at h; cases h
          | ok zs => rw [q4] at h; cases h; exact .inr ⟨y, zs, rfl, rfl, rfl, rfl⟩
mutual
theorem bindT_len : ∀ {t : Tg} {d : D} {ρ ρ' : Rho}, bindT t d ρ = some ρ' → ρ'.length = ρ.length
  | .v i, d, ρ, ρ', h => by cases h; rw [List.length_set]
  | .t ts, d, ρ, ρ', h => by
    cases d with
    | tuple ds => exact bindTs_len (ts := ts) (ds := ds) h
    | _ => cases h
theorem bindTs_len : ∀ {ts : List Tg} {ds : List D} {ρ ρ' : Rho}, bindTs ts ds ρ = some ρ' → ρ'.length = ρ.length
  | [], [], ρ, ρ', h => by cases h; rfl
  | t :: ts, d :: ds, ρ, ρ', h => by
    have h : (bindT t d ρ).bind (bindTs ts ds) = some ρ' := h
    cases q : bindT t d ρ with
    | none => rw [q] at h; cases h
    | some ρ1 =>
      rw [q] at h
      rw [bindTs_len (ts := ts) (ds := ds) h, bindT_len q]
  | [], _ :: _, _, _, h => by cases h
  | _ :: _, [], _, _, h => by cases h
end
theorem wipe_in {σ : L2.St} {i : Nat} : ∀ {vs : List Nat}, i ∈ vs → ∀ {x : Option V}, (L2.wipe σ vs)[i]? = some x → x = none
  | v :: vs, h, x, q => by
    unfold L2.wipe at q
    rcases set_get q with ⟨_, e⟩ | ⟨e1, e2⟩
    · exact e
    · rcases List.mem_cons.mp h with z | z
      · exact absurd z e1
      · exact wipe_in z e2
theorem wipe_same {σ τ : L2.St} {vs : List Nat} (hl : τ.length = σ.length) (h : ∀ j, j ∉ vs → τ[j]? = (L2.wipe σ vs)[j]?) : L2.wipe τ vs = L2.wipe σ vs := by
  apply List.ext_getElem?
  intro j
  by_cases hj : j ∈ vs
  · by_cases hb : j < σ.length
    · have e1 : j < (L2.wipe τ vs).length := by rw [L2.wipe_length, hl]; exact hb
      have e2 : j < (L2.wipe σ vs).length := by rw [L2.wipe_length]; exact hb
      rw [List.getElem?_eq_getElem e1, List.getElem?_eq_getElem e2, wipe_in hj (List.getElem?_eq_getElem e1), wipe_in hj (List.getElem?_eq_getElem e2)]
    · rw [List.getElem?_eq_none (by rw [L2.wipe_length, hl]; omega), List.getElem?_eq_none (by rw [L2.wipe_length]; omega)]
  · rw [L2.wipe_out hj]
    exact h j hj
/-- the names of a block -/
def relN (names sc : List (Str × NameKind)) : List (Str × NameKind) := names.map fun (n, k) => if (k == .free && sc.lookup n == some .cell) then (n, .cell) else (n, k)
def NoFold : Expr → Bool
  | .Set .. => false
  | _ => true
theorem noFold {e : Expr} (h : NoFold e = true) (env : Env) (x : Value) : foldedSetIterable e env x = pure x := by
  cases e <;> first | rfl | cases h
section
variable {T : Tab} {N : List Str} {k : Nat} {ev : Ev} {sc : List (Str × NameKind)} {elt tgE iter : Expr} {ifs : List Expr} {scope : Scope} {own : List (Str × Nat)} {pos : Pos} {it : FL} {c : FT} {f : FE} {t : Tg}
theorem blk_names {X : Cx} {W : XK} (gd : Gd T N k ev sc X W) : (relS scope X.env.scope).names = relN scope.names sc := by
  unfold relS relN
  rw [gd.kind, gd.names]
  simp
theorem Gd.blk {X : Cx} {W : XK} (gd : Gd T N k ev sc X W) (hk : scope.kind = .function) (s : Shared) (H : Hp) (C : Addr) (cl : List (Str × Addr)) (fp : List Addr) : Gd T N k ev (relN scope.names sc) (X.blk s H scope (compEnvC scope cl C X.env) fp) (fun _ _ _ => False) where
  hN := gd.hN
  nd := gd.nd
  names := blk_names gd
  kind := hk
  calm := gd.calm
  room := gd.room
  fns := gd.fns
  blt := gd.blt
  glb := gd.glb
  pass := fun pins σ H s e s' I ⟨a, B, H', cls, d, _, _, _, _, _, _, _, h⟩ => h.elim
theorem Gd.blkG {X : Cx} {W : XK} (gd : Gd T N k ev sc X W) (s : Shared) (H : Hp) (C : Addr) (cl : List (Str × Addr)) (fp : List Addr) : Gg N (relN scope.names sc) (fun x => scope.names.lookup x == some .cell) (X.blk s H scope (compEnvC scope cl C X.env) fp) where
  hN := gd.hN
  nd := gd.nd
  names := blk_names gd
  calm := gd.calm
  fn := fun x h => h
/-- the tests of a clause -/
inductive SC (T : Tab) (N : List Str) (k : Nat) (ev : Ev) (sc : List (Str × NameKind)) : List Expr → FT → Prop
  | nil : SC T N k ev sc [] tYesF
  | one {e : Expr} {c : FT} : ST T N k ev sc e c → SC T N k ev sc [e] c
theorem SC.pts {X : Cx} {W : XK} {es : List Expr} (h : SC T N k ev sc es c) (gd : Gd T N k ev sc X W) : PTs X es (rd T X.K X.mg W (c ev) pT) := by
  cases h with
  | nil => exact ⟨fun pins s σ H Q I ⟨G, ρ, e1, en, r⟩ => pts_nil.run pins s σ H Q I (ResG.ok T (P := pT) (d := true) e1 r rfl)⟩
  | one h => exact pts_one (h X W gd)
theorem rd_lc {X : Cx} {W : XK} {σ : L2.St} {H : Hp} {Q : VK} (hsub : ∀ i ∈ t.ix, i ∈ own.map (·.2)) (hh : rdF T X.K X.mg W (eLc (own.map (·.2)) t it c f ev) σ H Q) :
    tLc (rdI T X.K X.mg W (it ev)) (rdG X.K t) (rd T X.K X.mg (fun _ _ _ => False) (c ev) pT) (rd T X.K X.mg (fun _ _ _ => False) (f ev) (pV X.K)) (own.map (·.2)) σ H Q := by
  obtain ⟨G, ρ, e1, en, r⟩ := hh
  refine ⟨G, ρ, e1, en, r.seq T fun ds J G1 H1 s1 pJ r1 => fun Da hDa => ?_⟩
  split at r1
  case isFalse => exact False.elim r1
  rename_i hlim
  cases qq : lcL t (c ev) (f ev) (wipeR ρ (own.map (·.2))) ds with
  | exc k z => exact (lcL_noexc qq).elim
  | bad => rw [qq] at r1; exact False.elim r1
  | ok ys =>
    rw [qq] at r1
    have r1 : ResG T X.K X.mg W G1 H1 (.ok (.list ys)) (pF X.K H) Q := r1
    have gDa : G1 Da = none := s1.in'.none hDa
    have enW := (en.up e1 s1).wipe (own.map (·.2))
    refine ⟨fun i m H2 => m = ds.length - i ∧ ∃ G2 vs zs rest, Step G1 H1 G2 H2 ∧ H2 Da = some (.lst vs) ∧ G2 Da = none ∧ Reps X.K G2 vs zs ∧ zs.length ≤ i ∧ lcL t (c ev) (f ev) (wipeR ρ (own.map (·.2))) (ds.drop i) = .ok rest ∧ ys = zs ++ rest,
      ⟨ds.length, rfl, G1, [], [], ys, Step.loose s1.in' hDa, upd_same, gDa, .nil, Nat.le_refl _, qq, rfl⟩, ?_⟩
    rintro i m H2 ⟨rfl, G2, vs, zs, rest, s2, h1, h2, h3, hz, h4, h5⟩
    obtain ⟨go, stop⟩ := pJ i G2 H2 s2.g s2.in'
    by_cases hl : i < ds.length
    · rw [List.drop_eq_getElem_cons hl] at h4
      obtain ⟨j1, j2⟩ := go ds[i] (List.getElem?_eq_getElem hl)
      obtain ⟨ρ1, hb, alt⟩ := lcL_turn h4
      refine .inr ⟨j1, fun H3 => ∃ G3 vs zs rest, Step G1 H1 G3 H3 ∧ H3 Da = some (.lst vs) ∧ G3 Da = none ∧ Reps X.K G3 vs zs ∧ zs.length ≤ i + 1 ∧ lcL t (c ev) (f ev) (wipeR ρ (own.map (·.2))) (ds.drop (i + 1)) = .ok rest ∧ ys = zs ++ rest,
        fun H' hN => ⟨ds.length - (i + 1), by omega, rfl, hN⟩, fun x H3 y => ?_⟩
      obtain ⟨G3, s3, p3⟩ := j2 x H3 y
      have keep : ∀ {G4 H4 : Hp}, Step G2 H2 G4 H4 → H4 Da = some (.lst vs) ∧ G4 Da = none := fun {G4 H4} s => by
        refine ⟨s.h _ _ h1, ?_⟩
        cases q : G4 Da with
        | none => rfl
        | some o =>
          rcases s.new Da (by rw [q]; exact fun z => nomatch z) with w | w | ⟨_, w⟩
          · exact absurd h2 w
          · rw [h1] at w; cases w
          · rw [h1] at w; cases w
      have en3 := (enW.up s1.in' s2).up s2.in' s3
      refine ⟨G3, wipeR ρ (own.map (·.2)), ρ1, ds[i], s3.in', en3, p3, hb, fun σ2 en4 fr _ => ?_⟩
      have hlen : σ2.length = σ.length := by
        have a1 := en4.len
        have a2 := bindT_len hb
        have a3 := enW.len
        rw [L2.wipe_length] at a3
        omega
      refine ⟨wipe_same hlen fun j hj => fr j fun z => hj (hsub j z), ?_⟩
      refine ⟨G3, ρ1, s3.in', en4, ?_⟩
      rcases alt with ⟨c1, c2⟩ | ⟨y, ws, c1, c2, c3, c4⟩
      · rw [c1]
        intro b G4 H4 s4 pb
        have pb : false = b := pb
        subst pb
        rw [if_neg Bool.false_ne_true]
        obtain ⟨k1, k2⟩ := keep (s3.trans s4)
        exact ⟨G4, vs, zs, rest, (s2.trans s3).trans s4, k1, k2, (h3.up s3.g).up s4.g, Nat.le_succ_of_le hz, c2, h5⟩
      · rw [c1]
        intro b G4 H4 s4 pb
        have pb : true = b := pb
        subst pb
        rw [if_pos rfl]
        refine ⟨G4, ρ1, s4.in', en4.up s3.in' s4, ?_⟩
        rw [c2]
        intro w G5 H5 s5 pw
        obtain ⟨k1, k2⟩ := keep ((s3.trans s4).trans s5)
        have r5 := ((h3.up s3.g).up s4.g).up s5.g
        refine ⟨vs, k1, by rw [r5.length, sizeLine_eq]; have : lim = 16777216 := rfl; omega, G5, vs ++ [w], zs ++ [y], ws, ?_, upd_same, k2, r5.snoc pw, ?_, c3, ?_⟩
        · exact (((s2.trans s3).trans s4).trans s5).mut k2 hDa
        · rw [List.length_append, List.length_singleton]; omega
        · rw [h5, c4, List.append_assoc]; rfl
    · rw [List.drop_eq_nil_of_le (by omega)] at h4
      have : rest = [] := (R.ok.inj h4).symm
      subst this
      rw [List.append_nil] at h5
      subst h5
      exact .inl ⟨stop (by omega), r1 _ G2 H2 s2 ⟨.lst h1 h2 h3, fun a z => by cases z; exact s1.h.none hDa⟩⟩
abbrev scOf (sc : List (Str × NameKind)) : Scope := ⟨.function, sc, false, false, []⟩
theorem blk_of {X : Cx} {W : XK} (gd : Gd T N k ev sc X W) (h : blkC N (scOf sc) scope own = true) : BlkOk X.N X.env.scope scope own := by
  have b := blkOk_by h
  rw [gd.hN]
  exact ⟨b.kind, b.uniq, b.ix, fun y hy e => by rw [gd.names]; exact b.free y hy e, b.own⟩
/-- .. as a value -/
theorem sf_lc (hb : blkC N (scOf sc) scope own = true) (hi : SI T N k ev sc tgE iter it) (hg : SG N (relN scope.names sc) (fun x => scope.names.lookup x == some .cell) tgE t) (hc : SC T N k ev (relN scope.names sc) ifs c)
    (he : SV T N k ev (relN scope.names sc) elt f) (hsub : ∀ i ∈ t.ix, i ∈ own.map (·.2)) (hf : NoFold iter = true) : SF T N k ev sc (.ListComp elt [⟨tgE, iter, ifs, 0⟩] scope pos) (eLc (own.map (·.2)) t it c f) := fun X W gd => by
  have ok := blk_of gd hb
  exact PE.mono (pe_lc (te := rd T X.K X.mg (fun _ _ _ => False) (f ev) (pV X.K)) (tt := rd T X.K X.mg (fun _ _ _ => False) (c ev) pT) (g := rdG X.K t) gd.calm (by rw [gd.hN]; exact gd.nd) (hi X W gd) ok (fun s H C cl fp => hg _ (gd.blkG s H C cl fp)) (fun s H C cl fp => hc.pts (gd.blk ok.kind s H C cl fp)) (fun s H C cl fp => he _ _ (gd.blk ok.kind s H C cl fp)) (noFold hf _)) fun σ H Q hh => rd_lc hsub hh
theorem rdN_F {K : PySem.W.Frag} {mg : Str → Option Value} {W : XK} {f : FE} {σ : L2.St} {H : Hp} {Q : VK} (h : rdN T K mg W (nF f ev) σ H Q) : rdF T K mg W (f ev) σ H Q := by
  obtain ⟨G, ρ, e1, en, r⟩ := h
  refine ⟨G, ρ, e1, en, r.seq T fun d v G1 H1 s1 p r1 => ?_⟩
  cases d with
  | list xs => exact ResG.ok T (P := pEn K H) s1.in' r1 p
  | dict xs => exact ResG.ok T (P := pEn K H) s1.in' r1 p
  | _ => exact False.elim r1
theorem rdN_V {K : PySem.W.Frag} {mg : Str → Option Value} {W : XK} {f : FE} {σ : L2.St} {H : Hp} {Q : VK} (h : rdN T K mg W (nV f ev) σ H Q) : rdF T K mg W (f ev) σ H Q := by
  obtain ⟨G, ρ, e1, en, r⟩ := h
  refine ⟨G, ρ, e1, en, ResG.fresh T (r.seq T fun d v G1 H1 s1 p r1 => ?_)⟩
  exact ResG.ok T (P := pEn K H) s1.in' r1 p
/-- what binds a new value -/
def NewN (n : FE → FN) : Prop := ∀ {T : Tab} {ev : Ev} {K : PySem.W.Frag} {mg : Str → Option Value} {W : XK} {f : FE} {σ : L2.St} {H : Hp} {Q : VK}, rdN T K mg W (n f ev) σ H Q → rdF T K mg W (f ev) σ H Q
theorem newF : NewN nF := rdN_F
theorem newV : NewN nV := rdN_V
/-- x = [..], both on one line, x local -/
theorem ss_lc {n : FE → FN} (hn : NewN n) {x : Str} {i : Nat} {p1 spos : Pos} (hN : N[i]? = some x) (hx : sc.lookup x = some .local) (hline : (p1.line == pos.line) = true) (ha : (scope.names.any fun (n, k) => n == x && (k == .local || k == .cell)) = false)
    (hb : blkC N (scOf sc) scope own = true) (hi : SI T N k ev sc tgE iter it) (hg : SG N (relN scope.names sc) (fun x => scope.names.lookup x == some .cell) tgE t) (hc : SC T N k ev (relN scope.names sc) ifs c)
    (he : SV T N k ev (relN scope.names sc) elt f) (hsub : ∀ i ∈ t.ix, i ∈ own.map (·.2)) (hf : NoFold iter = true) :
    SS T N k ev sc (.Assign [.Name x p1] (.ListComp elt [⟨tgE, iter, ifs, 0⟩] scope pos) spos) (sSet i (n (eLc (own.map (·.2)) t it c f))) := fun X W gs => by
  have ok := blk_of gs.toGd hb
  have gd := gs.toGd
  refine PS.mono (ps_setLc (te := rd T X.K X.mg (fun _ _ _ => False) (f ev) (pV X.K)) (tt := rd T X.K X.mg (fun _ _ _ => False) (c ev) pT) (g := rdG X.K t) gd.calm (by rw [gd.hN]; exact gd.nd) (by rw [gd.hN]; exact hN) (by rw [gd.names]; exact hx) (sw_true gd.kind (by rw [gd.names]; exact hx) hline ha) (hi X W gd) ok (fun s H C cl fp => hg _ (gd.blkG s H C cl fp)) (fun s H C cl fp => hc.pts (gd.blk ok.kind s H C cl fp)) (fun s H C cl fp => he _ _ (gd.blk ok.kind s H C cl fp)) (noFold hf _)) fun D σ H ⟨G0, H0, G, ρ, s0, en, on, r⟩ => ?_
  refine rd_lc (T := T) (W := W) hsub (hn ⟨G, ρ, s0.in', en, ResS.expr s0 r fun e v G' H' _ s1 p r1 => ?_⟩)
  exact r1 _ G' H' (s0.trans s1) (Ex.refl _) (en.bind s0.in' s1 p) (on.bind (fun a z => s0.h.none z) p)
end
end PV

/-! PV16: raise; try with several clauses. -/
namespace PV
open PySem L2 PySem.W PySem.Calls PyProof.Rows

section
variable {X : Cx} {fI D C : Addr} {x : Str} {p pos : Pos} {e : Expr} {ta : TA} {k : Nat}
/-- an error of the program is made -/
theorem pmk_err (T : PErr X.prog X.K fI D) (TC : PErrC X.K D C) (iC : findIn X.K (.ref C) "__init__" = some (some (.ref fI))) (tI : typeIn X.K (.ref fI) = some (.type "function")) (hsup : X.mg "super" = none) (hr : Room (k + 2) X.A)
    (hg : Gl X x) (hm : X.mg x = some (.ref C)) (ha : PA X [e] ta) (hdb : (x == ("__debug__" : Str)) = false) (he : NotStar e = true) :
    PMk X (.Call (.Name x p) [e] [] pos) (fun σ H Q => ta σ H fun vs H1 => ∃ y, vs = [y] ∧ ∀ d, H1 d = none → Q (.ref C) (some d) (upd H1 d (.xd [("at", y)]))) := by
  intro pins s σ H Q I h
  obtain ⟨nm, q, N, bs, bm, sn, sub, ab, col, dd, k0, k1, k2, k3, k5, hC, hbm⟩ := TC.oex.cls
  refine wpAny_Call_Name_kw (ld_glob I hg hm ?_ hdb)
  refine callWith_K (h₀ := X.base) I.ok.mod.kin TC.oex.kC (thn (ha.run pos pins s σ H _ I h) fun us s1 ⟨vs, H1, I1, r1, y, ev, q1⟩ => ⟨I1.kIn, ?_⟩) (notStar he _) rfl
  subst ev
  obtain ⟨u, rfl, ry⟩ := vals1 r1
  show wpAny _ _ (call (.ref C) [u]) _ _ _
  obtain ⟨hp, g, dr, tk, os⟩ := s1
  have kk : ∀ b o, hp.get? b = some o → ((hp.push (kdv_tup [u])).push (HandSPX.excO C hp.objs.size)).get? b = some o := fun b o e => Heap.get?_push_of_some _ (Heap.get?_push_of_some _ e)
  have hget : ((hp.push (kdv_tup [u])).push (HandSPX.excO C hp.objs.size)).get? (hp.objs.size + 1) = some (HandSPX.excO C hp.objs.size) := by heap_get
  have hnx : X.K.lookup (hp.objs.size + 1) = none := by
    cases z : X.K.lookup (hp.objs.size + 1) with
    | none => rfl
    | some o => exact absurd (Heap.lt_size (I1.kIn _ _ z)) (by show ¬ hp.objs.size + 1 < hp.objs.size; omega)
  obtain ⟨mb, hb1, hb2⟩ := I1.mod.blt
  refine wpAny_call (HandSPX.call_own PySem.F.excBase_ValueError (fun Y => HandSPX.refsVE_contains Y bm hbm) (I1.kIn _ _ hC) (looks_findIn I1.kIn iC) (fun self => bind_fn I1.kIn self tI) (by show 1 ≤ sizeLine; decide)
    (init_run T TC (mg := X.mg) (mb := mb) (I1.kIn.keeps kk) (I1.nolimit.keeps kk) (I1.mod.glob.keeps fun b o e => kk b o (I1.bk b o e)) hsup (hb1.keeps fun b o e => kk b o (I1.bk b o e)) (hb2 _ (by decide)) (hr.make C [u] []).depth hget hnx fun h' tk' t1 dx k1 k2 k3 k4 k5 => ?_))
  have hsz : hp.objs.size ≤ ((hp.push (kdv_tup [u])).push (HandSPX.excO C hp.objs.size)).objs.size := by rw [Heap.size_push, Heap.size_push]; omega
  have hdx : hp.objs.size ≤ dx := Nat.le_trans hsz k2
  obtain ⟨G, g1, g2⟩ := restrict h' fun b => decide (b ≠ hp.objs.size + 1)
  have gk : ∀ b, b ≠ hp.objs.size + 1 → G.get? b = h'.get? b := fun b hb => g1 b (decide_eq_true hb)
  have ge : G.get? (hp.objs.size + 1) = none := g2 _ (by simp)
  have kG : ∀ b o, hp.get? b = some o → G.get? b = some o := fun b o z => by
    have hb : b ≠ hp.objs.size + 1 := fun w => by
      have hlt : b < hp.objs.size := Heap.lt_size z
      rw [w] at hlt
      exact absurd (Nat.lt_of_succ_lt hlt) (Nat.lt_irrefl _)
    rw [gk b hb]
    exact k1 b o hb (kk b o z)
  have J : Inv X pins σ (upd H1 dx (.xd [("at", y)])) ⟨G, g, dr, tk', os⟩ := I1.laid (t' := tk') (a := dx) (o := .xd [("at", y)]) (h' := G) kG hdx ⟨_, k5.at fun o z => (gk dx k3).trans z, relO_put (fs := []) ry fun _ => True.intro⟩
  have na : upd H1 dx (.xd [("at", y)]) (hp.objs.size + 1) = none := by
    rw [upd_ne (Ne.symm k3)]
    exact I1.hok.fresh (Nat.le_succ _)
  refine ⟨rfl, hp.objs.size + 1, _, _, ⟨G, g, dr, tk', os⟩, _, .ref C, some dx, rfl, J, fun b o z => ?_, ge, k4, ⟨rfl, rfl⟩, rfl, rfl, na, rfl, I1.bare, raises_own TC.oex.exC TC.oex.tyC, q1 dx (I1.hok.fresh hdx)⟩
  by_cases hb : b = hp.objs.size + 1
  · rw [hb, ge] at z; cases z
  · exact (gk b hb).symm.trans z
/-! ### a try whose clauses are: except C as n -/
/-- what the clauses wish of an error of the body; slot i is n's -/
def wAll (K : PySem.W.Frag) (i : Nat) (out : L2.WX) (D : Ends) : List (Value × (Addr → Value → Option Addr → TS)) → L2.WX
  | [] => out
  | (c, ts) :: r => fun cls d σ H => ∃ b, exmOne K cls c = some b ∧ (b = true → ∀ a, H a = none → ts a cls d { nx := fun σ' H' => D.nx (σ'.set i none) H', rt := D.rt, bk := fun σ' H' => D.bk (σ'.set i none) H', ct := fun σ' H' => D.ct (σ'.set i none) H' } (σ.set i (some (.ref a))) H) ∧
      (b = false → wAll K i out D r cls d σ H)
inductive AllOk (X : Cx) (n : Str) : List ExceptHandler → List (Value × (Addr → Value → Option Addr → TS)) → Prop
  | nil : AllOk X n [] []
  | cons {x : Str} {c : Value} {ts : Addr → Value → Option Addr → TS} {b0 : Stmt} {suite : List Stmt} {np pe : Pos} {hs : List ExceptHandler} {l : List (Value × (Addr → Value → Option Addr → TS))} (named : Names X x c)
      (ok : ∀ (a : Addr) (oe : Obj) (cls : Value) (d : Option Addr) (pn : List (Addr × Obj)), Zc cls d oe → (∃ vs, oe.data = .fields vs) → PSs (X.suite a ((a, oe) :: pn)) (b0 :: suite) (ts a cls d)) (more : AllOk X n hs l) :
      AllOk X n (.ExceptHandler (some (.Name x np)) (some n) (b0 :: suite) pe :: hs) ((c, ts) :: l)
theorem ps_tryAll {n : Str} {i : Nat} {body : List Stmt} {h0 : ExceptHandler} {hds : List ExceptHandler} {l : List (Value × (Addr → Value → Option Addr → TS))} {tb : L2.WX → TS} {out : L2.WX} (stk : X.stack = X.env :: X.outer) (frm : X.env.frame = some X.env.locals) (nd : X.N.Nodup) (place : X.N[i]? = some n) (loc : X.env.kindOf n = some .local) (tk : Takes X out)
    (inner : ∀ (W : L2.WX) (pn : List (Addr × Obj)) (xe : Value → Shared → Prop), Takes (X.tr pn xe) W → PassesOwn (model X.prog X.w) X.A X.env xe → PSs (X.tr pn xe) body (tb W))
    (clauses : AllOk X n (h0 :: hds) l) : PS X (.Try body (h0 :: hds) [] [] pos) (fun D σ H => tb (wAll X.K i out D l) D σ H) := by
  refine ⟨fun pins s σ H D inv start => ?_⟩
  have okX := inv.ok
  have isLoc : L2.Loc X.env.scope n := .inl loc
  have frames : X.A.frames = some (X.env :: X.outer) := by rw [okX.frames, stk]
  refine wpAny_Try_except (wpAny_mono ((inner (wAll X.K i out D l) (X.pn ++ pins) (fun er s₁ => wpAny (model X.prog X.w) X.A (noteFrame er X.env) (fun _ s₂ => wpAny (model X.prog X.w) X.A (setFlight er none) (fun _ s₃ =>
    wpAny (model X.prog X.w) X.A (handleBy er X.env (h0 :: hds)) (SP X pins D) X.xe s₃) X.xe s₂) X.xe s₁) (fun u s' caught => ?_) PassesOwn.looking).run [] s σ H D (inv.toTry _) start) (fun f s1 fin => ?_) (fun _ _ z => z))
  · obtain ⟨a, B, sI, pins', τ, H', cls, d, rfl, inTry, fresh, grown, sky, none', os, bare, wish⟩ := caught
    have at0 : Inv X pins τ H' sI := inTry.ofTry okX
    refine Sky.land Zc.steady frames frm (show Sky B (X.env :: X.outer) a (Zc cls d) X.env.locals s'.heap by rw [← stk]; exact sky) fun h3 fl3 up3 => ?_
    have at3 : Inv X pins τ H' { s' with heap := h3 } := at0.landed fresh fl3.1 (grown.trans up3) os bare
    obtain ⟨oe3, vs3, there3, zc3, data3⟩ := fl3.there
    have nofr : a ∉ frs (X.env :: X.outer) := fun hm => by
      obtain ⟨_, o', eo, hnf⟩ := fl3.2.2.1.mem hm
      rw [there3] at eo
      cases eo
      exact hnf _ data3
    have noL : a ≠ X.env.locals := fun z => nofr (List.mem_filterMap.mpr ⟨X.env, List.mem_cons_self, by rw [frm, z]⟩)
    have noF : a ∉ X.fs := fun hm => by
      obtain ⟨ev, hev, q⟩ := List.mem_filterMap.mp hm
      exact nofr (List.mem_filterMap.mpr ⟨ev, List.mem_cons_of_mem _ hev, q⟩)
    have in3 := at3.suite there3 data3 none' noL noF
    have each : ∀ {hs : List ExceptHandler} {ls : List (Value × (Addr → Value → Option Addr → TS))}, AllOk X n hs ls → wAll X.K i out D ls cls d τ H' → wpAny (model X.prog X.w) X.A (handleBy (.ref a) X.env hs) (SP X pins D) X.xe { s' with heap := h3 } := by
      intro hs ls ok
      induction ok with
      | nil =>
        intro w
        refine wpAny_handleBy_nil ?_
        obtain ⟨_, _, _, oe, vs, tb', oT, ts', heap', _, dat, fld, _⟩ := id fl3
        unfold PySem.passOn
        refine wpAny_bind (wpAny_field heap' dat fld ?_)
        rw [if_neg (show ¬ ((Value.ref tb' == Value.none) = true) from by simp)]
        have goes : wpAny (model X.prog X.w) X.A (setFlight (.ref a) X.env.frame) (fun _ s4 => wpAny (model X.prog X.w) X.A (throw (.ref a) : Sem Flow) (SP X pins D) X.xe s4) X.xe { s' with heap := h3 } := by
          rw [frm]
          exact HandSPX.setFlight_upZ fl3 fun h4 held up4 => wpAny_throw (tk _ _ ⟨a, B, sI, pins, τ, H', cls, d, rfl, at0, fresh, (grown.trans up3).trans up4, .inr (.inr (by rw [stk]; exact held)), none', os, bare, w⟩)
        first | exact wpAny_bind (wpAny_pure (wpAny_bind goes)) | exact wpAny_bind goes
      | @cons x c ts b0 suite np pe hs2 l2 named ok more ih =>
        intro w
        obtain ⟨b, isC, yes, no⟩ := w
        refine wpAny_handleBy_cons (codeAny_handlers_test ?_) (by intro q; cases q)
        have looks := exm_one (M := model X.prog X.w) at3.kIn (fun A Q E s k q => wpAny_typeOf_ref (k _ _ there3) (by rw [zc3.1]; exact q)) isC
        have name : ∀ {Q : Value → Shared → Prop} {E : Value → Shared → Prop}, Q c { s' with heap := h3 } → wpAny (model X.prog X.w) (X.A.mark (some (.ref a))) (eval (.Name x np) X.env) Q E { s' with heap := h3 } := fun {Q E} q => by
          obtain ⟨gl, dbg, own | ⟨blt, boot, nn⟩⟩ := named
          · exact ld_glob (X := X.suite a ((a, oe3) :: (X.pn ++ pins))) in3 gl own q dbg
          · exact ld_blt (X := X.suite a ((a, oe3) :: (X.pn ++ pins))) in3 gl blt boot q nn dbg
        refine name (looks.here ?_)
        cases b with
        | false => exact ih (no rfl)
        | true =>
          refine codeAny_handlers_suite_as (HandSPX.lands_againZ fl3 fun h4 fl4 up4 => ?_)
          have at4 : Inv X pins τ H' { s' with heap := h4 } := at0.landed fresh fl4.1 ((grown.trans up3).trans up4) os bare
          obtain ⟨oe4, vs4, there4, zc4, data4⟩ := fl4.there
          have in4 := at4.suite there4 data4 none' noL noF
          refine store_ok (X := X.suite a ((a, oe4) :: (X.pn ++ pins))) (v := .ref a) in4 nd place isLoc rfl (fun s5 in5 => ?_) (.inr loc)
          refine wpAny_mono ((ok a oe4 cls d (X.pn ++ pins) zc4 ⟨_, data4⟩).run [] s5 _ H' _ in5 (yes rfl a none')) (fun f s6 fin => ?_) (fun _ _ z => False.elim z)
          have leave : ∀ {τ6 : L2.St} {H6 : Hp} {Q : Shared → Prop}, Inv (X.suite a ((a, oe4) :: (X.pn ++ pins))) [] τ6 H6 s6 → (∀ s7, Inv X pins (τ6.set i none) H6 s7 → Q s7) →
              wpAny (model X.prog X.w) X.A (do bindName X.env n .none; unbindBehindTheSuite X.env n pe) (fun _ s7 => Q s7) X.xe s6 := fun {τ6 H6 Q} in6 hq => gone_ok (in6.unsuite okX) nd place loc hq
          cases f with
          | next => obtain ⟨τ6, H6, in6, q6⟩ := fin; exact leave in6 fun s7 at7 => ⟨_, _, at7, q6⟩
          | brk => obtain ⟨τ6, H6, in6, q6⟩ := fin; exact leave in6 fun s7 at7 => ⟨_, _, at7, q6⟩
          | cont => obtain ⟨τ6, H6, in6, q6⟩ := fin; exact leave in6 fun s7 at7 => ⟨_, _, at7, q6⟩
          | ret u => obtain ⟨v6, τ6, H6, in6, r6, q6⟩ := fin; exact leave in6 fun s7 at7 => ⟨_, _, _, at7, r6, q6⟩
    exact each clauses wish
  · cases f with
    | next => obtain ⟨τ, H', at', q⟩ := fin; exact wpAny_execs_nil ⟨τ, H', at'.ofTry okX, q⟩
    | brk => obtain ⟨τ, H', at', q⟩ := fin; exact ⟨τ, H', at'.ofTry okX, q⟩
    | cont => obtain ⟨τ, H', at', q⟩ := fin; exact ⟨τ, H', at'.ofTry okX, q⟩
    | ret u => obtain ⟨v, τ, H', at', r, q⟩ := fin; exact ⟨v, τ, H', at'.ofTry okX, r, q⟩
end
end PV

/-! PV17: raise and try as statements; what a def promises. -/
namespace PV
open PySem L2 PySem.W

def sRaise (c : Nat) (f : FE) : FS := fun ev ρ => RS.ofR (f ev ρ) fun z => .exc c z
def hFind : List (Nat × Str) → Nat → Option Str
  | [], _ => none
  | (c', x) :: r, c => if c = c' then some x else hFind r c
/-- a try; each clause returns its text and what the error holds -/
def sTry (hs : List (Nat × Str)) (f : FS) : FS := fun ev ρ => if ρ.any Ent.own = true then .bad else match f ev ρ with
  | .exc c z => (match hFind hs c with
    | some x => .ret (.tuple [.str x, z])
    | none => .exc c z)
  | r => r
section
variable {T : Tab} {N : List Str} {k : Nat} {ev : Ev} {sc : List (Str × NameKind)} {e : Expr} {f : FE} {s : FS} {body : List Stmt} {x n : Str} {p p1 pos : Pos} {c i : Nat}
theorem ss_raise (hc : T.cls[c]? = some x) (hs : sc.lookup x = some .globalImplicit) (hd : (x == ("__debug__" : Str)) = false) (hn : NotStar e = true) (he : SV T N k ev sc e f) : SS T N k ev sc (.Raise (some (.Call (.Name x p) [e] [] p1)) none pos) (sRaise c f) := fun X W gs => by
  obtain ⟨fI, D, ⟨TE⟩, hsup, tI, all⟩ := gs.errs.base
  obtain ⟨C, hm, TC, iC, xf⟩ := all c x hc
  obtain ⟨j, rfl⟩ : ∃ j, k = j + 2 := ⟨k - 2, by have := gs.lv; omega⟩
  refine PS.mono (ps_raise gs.calm gs.tk (pmk_err TE TC iC tI hsup gs.room (gs.gl T hs) hm (pa_cons (he X W gs.toGd) pa_nil (notStar hn _)) hd hn)) fun Dd σ H ⟨G0, H0, G, ρ, s0, en, on, r⟩ => ?_
  refine ⟨G, ρ, s0.in', en, ResS.expr s0 r fun z v G' H' _ s1 pz r1 => ?_⟩
  refine ⟨v, rfl, fun d hd => ?_⟩
  exact r1 C d v G' _ ((s0.trans s1).trans (Step.loose s1.in' hd)) ⟨x, hc, hm⟩ ((s0.trans s1).h.none hd) upd_same pz
/-- the clauses: except C as n: return (txt, n.at) -/
inductive HdC (T : Tab) (sc : List (Str × NameKind)) (n : Str) : List ExceptHandler → List (Nat × Str) → Prop
  | nil : HdC T sc n [] []
  | cons {x txt : Str} {c : Nat} {j kk : Nat} {p1 p2 p3 p4 p5 p6 p7 : Pos} {hs : List ExceptHandler} {l : List (Nat × Str)} (hc : T.cls[c]? = some x) (hx : sc.lookup x = some .globalImplicit) (hd : (x == ("__debug__" : Str)) = false) (ht : StrOkay txt) (more : HdC T sc n hs l) :
      HdC T sc n (.ExceptHandler (some (.Name x p1)) (some n) [.Return (some (.Tuple [.Constant (.str txt) j p2, .Attribute (.Name n p3) "at" p4] kk p5)) p6] p7 :: hs) ((c, txt) :: l)
/-- what a clause does -/
def tsOf (i : Nat) (txt : Str) (C : Addr) : Addr → Value → Option Addr → TS := fun a cls d => tRet (tTup (tCons (tC (.str txt)) (tCons (tXf a cls d C "at" (tVar i)) tNil)))
def lsOf (mg : Str → Option Value) (T : Tab) (i : Nat) : List (Nat × Str) → List (Value × (Addr → Value → Option Addr → TS))
  | [] => []
  | (c, txt) :: r => (match (T.cls[c]?).bind mg with
    | some (.ref C) => (.ref C, tsOf i txt C)
    | _ => (.none, fun _ _ _ => tNever)) :: lsOf mg T i r
theorem HdC.ok {X : Cx} {W : XK} (gs : Gs T N k ev sc X W) (hi : N[i]? = some n) (hloc : sc.lookup n = some .local) (hd : (n == ("__debug__" : Str)) = false) (hcd : (n == ("__classdict__" : Str)) = false) {hs : List ExceptHandler} {l : List (Nat × Str)} (h : HdC T sc n hs l) : AllOk X n hs (lsOf X.mg T i l) := by
  induction h with
  | nil => exact .nil
  | @cons x txt c j kk p1 p2 p3 p4 p5 p6 p7 hs l hc hx hdb ht more ih =>
    obtain ⟨fI, D, ⟨TE⟩, hsup, tI, all⟩ := gs.errs.base
    obtain ⟨C, hm, TC, iC, xf⟩ := all c x hc
    have e1 : (T.cls[c]?).bind X.mg = some (.ref C) := by rw [hc]; exact hm
    have e2 : lsOf X.mg T i ((c, txt) :: l) = (.ref C, tsOf i txt C) :: lsOf X.mg T i l := by
      rw [lsOf, e1]
    rw [e2]
    refine .cons ⟨gs.gl T hx, hdb, .inl hm⟩ (fun a oe cls d pn hz hf => ?_) ih
    have vis : Vis (X.suite a ((a, oe) :: pn)).env.scope n := .inl (by show X.env.scope.names.lookup n = _; rw [gs.names]; exact hloc)
    have pv : PE (X.suite a ((a, oe) :: pn)) (.Name n p3) (tVar i) := pe_var (i := i) (by show X.N[i]? = _; rw [gs.hN]; exact hi) vis hd hcd
    exact pss_one (ps_ret (pe_tup (pa_cons pe_str (pa_cons (pe_xf xf TC.noat hz hf pv) pa_nil))))
theorem wAll_of {X : Cx} {W : XK} (gs : Gs T N k ev sc X W) {Dd : Ends} {c : Nat} {z : D} {G0 H0 G H G' H' : Hp} {C d : Addr} {v : V} {σ' : L2.St} (s0 : Step G0 H0 G H) (s1 : Step G H G' H') (hcl : ClsAt T X.mg c C) (hd : H d = none) (hx : H' d = some (.xd [("at", v)])) (rep : Rep X.K G' v z) (hl : i < σ'.length) :
    ∀ {hs : List ExceptHandler} {l : List (Nat × Str)}, HdC T sc n hs l → ResS T X.K X.mg W G0 H0 G Dd (match hFind l c with | some x => .ret (.tuple [.str x, z]) | none => .exc c z) →
      wAll X.K i (fun cls d _ H => W cls d H) Dd (lsOf X.mg T i l) (.ref C) (some d) σ' H' := by
  intro hs l hh
  induction hh with
  | nil =>
    intro r
    exact r C d v G' H' (s0.trans s1) hcl (s0.h.none hd) hx rep
  | @cons x txt cj j kk p1 p2 p3 p4 p5 p6 p7 hs l hc hxs hdb ht more ih =>
    intro r
    obtain ⟨fI, D, ⟨TE⟩, hsup, tI, all⟩ := gs.errs.base
    obtain ⟨Cj, hm, TC, iC, xf⟩ := all cj x hc
    have e1 : (T.cls[cj]?).bind X.mg = some (.ref Cj) := by rw [hc]; exact hm
    have e2 : lsOf X.mg T i ((cj, txt) :: l) = (.ref Cj, tsOf i txt Cj) :: lsOf X.mg T i l := by rw [lsOf, e1]
    rw [e2]
    refine ⟨decide (c = cj), gs.errs.dif c cj C Cj hcl ⟨x, hc, hm⟩, fun hb a ha => ?_, fun hb => ?_⟩
    · have ec := of_decide_eq_true hb
      subst ec
      obtain ⟨x', hc', hm'⟩ := hcl
      rw [hc] at hc'
      cases hc'
      rw [hm] at hm'
      cases hm'
      have r : ResS T X.K X.mg W G0 H0 G Dd (.ret (.tuple [.str txt, z])) := by
        have : hFind ((c, txt) :: l) c = some txt := by rw [hFind, if_pos rfl]
        rw [this] at r
        exact r
      refine ⟨.ref a, by rw [List.getElem?_set_self hl], rfl, rfl, d, _, v, rfl, hx, ?_, by show 2 ≤ sizeLine; decide, fun p hp => ?_⟩
      · rw [lookup_put, if_pos rfl]
      · have gp : G' p = none := s1.in'.none hp
        exact r _ _ _ ((s0.trans s1).trans (Step.fresh s1.in' hp)) (s1.g.trans (Ex.new gp)) (.tup upd_same (.cons (.str _ ht) (.cons (rep.up (Ex.new gp)) .nil)))
    · have ec := of_decide_eq_false hb
      refine ih ?_
      have : hFind ((cj, txt) :: l) c = hFind l c := by rw [hFind, if_neg ec]
      rw [this] at r
      exact r
theorem gs_tr {X : Cx} {W : XK} (gs : Gs T N k ev sc X W) {Wx : L2.WX} {pn : List (Addr × Obj)} {xe : Value → Shared → Prop} (tk : Takes (X.tr pn xe) Wx) (po : PassesOwn (model X.prog X.w) X.A X.env xe) :
    Gs T N k ev sc (X.tr pn xe) (fun cls d H => ∀ σ : L2.St, σ.length = N.length → Wx cls d σ H) where
  hN := gs.hN
  nd := gs.nd
  names := gs.names
  kind := gs.kind
  calm := gs.calm
  room := gs.room
  fns := gs.fns
  blt := gs.blt
  glb := gs.glb
  pass := fun pins σ H s e s' I c => tk e s' (XE.of_call I (fun cls d H' h => h σ (by rw [I.len]; exact congrArg List.length gs.hN)) c)
  tk := fun u s' ⟨a, B, sI, pins, σ, H, cls, d, e, I, nb, up, sky, na, os, ag, w⟩ => tk u s' ⟨a, B, sI, pins, σ, H, cls, d, e, I, nb, up, sky, na, os, ag, w σ (by rw [I.len]; exact congrArg List.length gs.hN)⟩
  hs := gs.hs
  hf := gs.hf
  po := po
  fnT := gs.fnT
  errs := gs.errs
  lv := gs.lv
theorem ss_try {h0 : ExceptHandler} {hds : List ExceptHandler} {l : List (Nat × Str)} (hi : N[i]? = some n) (hloc : sc.lookup n = some .local) (hd : (n == ("__debug__" : Str)) = false) (hcd : (n == ("__classdict__" : Str)) = false) (hb : SSs T N k ev sc body s) (hh : HdC T sc n (h0 :: hds) l) :
    SS T N k ev sc (.Try body (h0 :: hds) [] [] pos) (sTry l s) := fun X W gs => by
  refine PS.mono (ps_tryAll (i := i) gs.hs gs.hf (by rw [gs.hN]; exact gs.nd) (by rw [gs.hN]; exact hi) (by unfold Env.kindOf; rw [gs.names]; exact hloc) gs.tk (tb := fun Wx => rdS T X.K X.mg (fun cls d H => ∀ σ : L2.St, σ.length = N.length → Wx cls d σ H) (s ev))
    (fun Wx pn xe tkx po => hb (X.tr pn xe) _ (gs_tr gs tkx po)) (hh.ok gs hi hloc hd hcd)) fun Dd σ H ⟨G0, H0, G, ρ, s0, en, on, r⟩ => ?_
  unfold sTry at r
  split at r
  · exact False.elim r
  · rename_i hown
    refine ⟨G, H, G, ρ, Step.refl s0.in', en, fun j e q o a z => absurd (List.any_eq_true.mpr ⟨e, List.mem_of_getElem? q, o⟩) hown, ?_⟩
    cases q : s ev ρ with
    | next ρ' =>
      rw [q] at r
      exact fun σ' G' H' s1 e1 en1 o1 => r σ' G' H' (s0.trans s1) e1 en1 fun j e q o a z => s0.h.none (o1 j e q o a z)
    | ret d =>
      rw [q] at r
      exact fun v G' H' s1 e1 p => r v G' H' (s0.trans s1) e1 p
    | bad =>
      rw [q] at r
      exact r
    | exc c z =>
      rw [q] at r
      intro C d v G' H' s1 hcl hdn hx rep σ' hl
      exact wAll_of gs s0 s1 hcl hdn hx rep (by rw [hl]; exact (List.getElem?_eq_some_iff.mp hi).1) hh r
end

/-! ### what a def answers -/
def entry (n : Nat) (ds : List D) : Rho := ds.map Ent.fz ++ List.replicate (n - ds.length) .no
def runF (f : FS) (n : Nat) (ev : Ev) (ds : List D) : R D := match f ev (entry n ds) with
  | .next _ => .ok .none
  | .ret d => .ok d
  | .exc c z => .exc c z
  | .bad => .bad
/-- the defs, to a depth of calls -/
def evN (rows : List (FS × Nat × Nat)) : Nat → Ev
  | 0 => fun _ _ => .bad
  | k + 1 => fun j ds => match rows[j]? with
    | some (f, n, m) => if ds.length = m then runF f n (evN rows k) ds else .bad
    | none => .bad
section
variable {K : PySem.W.Frag} {G H : Hp}
theorem entry_ok {N : List Str} {vs : List V} {ds : List D} (p : Reps K G vs ds) : EnvOk K G H (entry N.length ds) (L2.start N vs) where
  len := by unfold entry L2.start; rw [List.length_append, List.length_append, List.length_map, List.length_map, List.length_replicate, List.length_replicate, p.length]
  fz := fun i d q => by
    unfold entry at q
    by_cases h : i < ds.length
    · rw [List.getElem?_append_left (by rw [List.length_map]; exact h), List.getElem?_map] at q
      cases z : ds[i]? with
      | none => rw [z] at q; cases q
      | some d' =>
        rw [z] at q
        cases q
        obtain ⟨v, h1, h2⟩ := p.get z
        refine ⟨v, ?_, h2⟩
        unfold L2.start
        rw [List.getElem?_append_left (by rw [List.length_map, p.length]; exact h), List.getElem?_map, h1]
        rfl
    · rw [List.getElem?_append_right (by rw [List.length_map]; omega), List.getElem?_replicate] at q
      split at q <;> cases q
  ol := fun i d q => by
    unfold entry at q
    have := List.mem_of_getElem? q
    rw [List.mem_append] at this
    rcases this with h | h
    · obtain ⟨_, _, e⟩ := List.mem_map.mp h; cases e
    · cases (List.mem_replicate.mp h).2
  od := fun i d q => by
    unfold entry at q
    have := List.mem_of_getElem? q
    rw [List.mem_append] at this
    rcases this with h | h
    · obtain ⟨_, _, e⟩ := List.mem_map.mp h; cases e
    · cases (List.mem_replicate.mp h).2
  sep := fun i j ei ej _ q _ o _ => by
    unfold entry at q
    have := List.mem_of_getElem? q
    rw [List.mem_append] at this
    rcases this with h | h
    · obtain ⟨_, _, e⟩ := List.mem_map.mp h; subst e; cases o
    · have := (List.mem_replicate.mp h).2; subst this; cases o
theorem entry_new {H0 : Hp} {n : Nat} {ds : List D} {σ : L2.St} : OwnNew H0 (entry n ds) σ := fun i e q o a z => by
  unfold entry at q
  have := List.mem_of_getElem? q
  rw [List.mem_append] at this
  rcases this with h | h
  · obtain ⟨_, _, e⟩ := List.mem_map.mp h; subst e; cases o
  · have := (List.mem_replicate.mp h).2; subst this; cases o
end
/-- a def of the table at its place: its text, its names -/
structure Def (T : Tab) (K : PySem.W.Frag) (mg : Str → Option Value) (fi : FnI) where
  (f : Addr)
  (qual : Str)
  (params : Arguments)
  (body : List Stmt)
  (scope : Scope)
  (dV kV doc pm cdv ct oc : Value)
  (an od : Option Addr)
  (osl : Array (Option Value))
  lk : K.lookup f = some ⟨oc, od, .func (fnOf fi.name qual params body scope dV kV doc pm an cdv ct), osl⟩
  hcd : codeIn K cdv qual = true
  gm : mg fi.name = some (.ref f)
  kp : keepIn K (.ref f) = true
  bd : ∀ us : List Value, us.length = fi.ps.length → bindArgs (fnOf fi.name qual params body scope dV kV doc pm an cdv ct) ⟨us, []⟩ = pure (fi.ps.zip us)
end PV

/-! PV18: all defs keep their promises; the law. -/
namespace PV
open PySem L2 PySem.W

/-- a def's text gives the row (its plain function, the places, the parameters) -/
structure Body (T : Tab) (fi : FnI) (row : FS × Nat × Nat) (body : List Stmt) (scope : Scope) : Prop where
  ex : ∃ N : List Str, FnScope N fi.ps scope ∧ row.2.1 = N.length ∧ row.2.2 = fi.ps.length ∧ ∀ (k : Nat) (ev : Ev), SSs T N k ev scope.names body row.1
/-- a def stands in the written part -/
def Stands (T : Tab) (K : PySem.W.Frag) (mg : Str → Option Value) (rows : List (FS × Nat × Nat)) (j : Nat) (fi : FnI) : Prop := ∃ (d : Def T K mg fi) (row : FS × Nat × Nat), rows[j]? = some row ∧ Body T fi row d.body d.scope
/-- what is known of the module -/
structure Facts (T : Tab) (P : Program) (K : PySem.W.Frag) (mg : Str → Option Value) (rows : List (FS × Nat × Nat)) : Prop where
  fns : ∀ (j : Nat) (fi : FnI), T.fns[j]? = some fi → Stands T K mg rows j fi
  blt : ∀ x ∈ T.blt, mg x = none
  glb : ∀ p ∈ T.glb, ∃ u v, mg p.1 = some u ∧ RelV v u ∧ ∀ G, Rep K G v p.2
  errs : Errs T P K mg
section
variable {T : Tab} {P : Program} {w : World} {K : PySem.W.Frag} {mg : Str → Option Value} {rows : List (FS × Nat × Nat)}
theorem fns_ok (F : Facts T P K mg rows) : ∀ (k j : Nat) (fi : FnI), T.fns[j]? = some fi → ∃ f fd, mg fi.name = some (.ref f) ∧ keepIn K (.ref f) = true ∧ Binds K fd fi.ps [] ∧ (∀ us : List Value, us.length = fi.ps.length → bindArgs fd ⟨us, []⟩ = pure (fi.ps.zip us)) ∧ ∀ base : Heap, FnOk P w K mg base (CX P w) (k + 2) f fd fi.ps (spF T K mg fi.ps.length (evN rows k j)) := by
  intro k
  induction k with
  | zero =>
    intro j fi hj
    obtain ⟨d, row, hr, B⟩ := F.fns j fi hj
    refine ⟨d.f, _, d.gm, d.kp, Binds.all d.bd, d.bd, fun base => ⟨fun vs H Q E h => h.1, fun A outer s H args us vs Q E _ _ _ _ h => ?_⟩⟩
    obtain ⟨_, G, ds, _, _, r⟩ := h
    exact False.elim r
  | succ k ih =>
    intro j fi hj
    obtain ⟨d, row, hr, ⟨N, S, hN, hm, ok⟩⟩ := F.fns j fi hj
    refine ⟨d.f, _, d.gm, d.kp, Binds.all d.bd, d.bd, fun base => fn_of d.lk d.hcd S (fun vs H Q E h => h.1) fun A outer s H vs Q E room h => ?_⟩
    obtain ⟨hl, G, ds, e, p, r⟩ := h
    have hd : ds.length = row.2.2 := by rw [hm, ← hl, p.length]
    have er : evN rows (k + 1) j ds = runF row.1 row.2.1 (evN rows k) ds := by
      show (match rows[j]? with
        | some (f, n, m) => if ds.length = m then runF f n (evN rows k) ds else .bad
        | none => .bad) = _
      rw [hr]
      obtain ⟨f, n, m⟩ := row
      exact if_pos hd
    rw [er] at r
    have gs : Gs T N (k + 2) (evN rows k) d.scope.names (cxOf (CX P w) P w K mg base N d.qual d.scope d.f d.cdv A outer s H E) E := {
      hN := rfl
      nd := S.nd
      names := rfl
      kind := S.kind
      calm := rfl
      room := room
      fns := fun j fi hj => let ⟨f, fd, a, b, c, _, e⟩ := ih j fi hj; ⟨f, fd, a, b, c, e base⟩
      blt := F.blt
      glb := F.glb
      pass := passes_call (takes_of rfl rfl rfl rfl) fun _ _ _ _ h => h
      tk := takes_of rfl rfl rfl rfl
      hs := rfl
      hf := rfl
      po := passes_of rfl
      fnT := fun _ => rfl
      errs := F.errs
      lv := Nat.le_add_left _ _ }
    refine ⟨_, ok (k + 2) (evN rows k) _ E gs, G, H, G, entry N.length ds, Step.refl e, entry_ok p, entry_new, ?_⟩
    rw [hN] at r
    unfold runF at r
    cases q : row.1 (evN rows k) (entry N.length ds) with
    | next ρ =>
      rw [q] at r
      have r : ResG T K mg E G H (.ok .none) (pV K) Q := r
      exact fun σ' G' H' s _ _ _ => r _ G' H' s .non
    | ret d =>
      rw [q] at r
      exact fun v G' H' s _ p => r v G' H' s p
    | exc c z => rw [q] at r; exact r
    | bad => rw [q] at r; exact r
/-- what a law promises -/
def spLaw (K : PySem.W.Frag) : Sp := fun vs H Q _ => ∃ (a : Addr) (ns : List Int), vs = [.ref a] ∧ SqL K H a (ns.map V.int) ∧ ns.length ≤ 63 ∧ ∀ H', Q (.bl true) H'
theorem reps_ints {G : Hp} : ∀ ns : List Int, Reps K G (ns.map V.int) (ns.map PyData.int)
  | [] => .nil
  | i :: r => .cons (.int i) (reps_ints r)
theorem law_ok (F : Facts T P K mg rows) {k j : Nat} {x : Str} {y : Str} (hj : T.fns[j]? = some ⟨x, [y]⟩) (math : ∀ ns : List Int, ns.length ≤ 63 → evN rows k j [.list (ns.map PyData.int)] = .ok (.bool true)) {fa : Addr} (hfa : mg x = some (.ref fa)) :
    ∃ fd : FuncData, (∀ (s : Shared) (u : Value), BindsTo s fd ⟨[u], []⟩ [(y, u)]) ∧ ∀ base : Heap, K.In base → base.Ns mainGlobals mg → FnOk P w K mg base (CX P w) (k + 2) fa fd [y] (spLaw K) := by
  obtain ⟨f, fd, h1, h2, h3, h4, h5⟩ := fns_ok (w := w) F k j _ hj
  have h1 : mg x = some (.ref f) := h1
  rw [hfa] at h1
  cases h1
  refine ⟨fd, fun s u => .of_eq (h4 [u] rfl), fun base _ _ => (h5 base).imp fun vs H Q E h => ?_⟩
  obtain ⟨a, ns, rfl, hS, hl, q⟩ := h
  refine ⟨rfl, H, [.list (ns.map PyData.int)], Ex.refl _, .cons (.lst hS (reps_ints ns)) .nil, ?_⟩
  rw [math ns hl]
  exact fun v G' H' s p => by rw [p.bool_inv]; exact q H'
end
end PV

/-! PV19: enumerate over tuples and texts. -/
namespace PV
open PySem L2 PySem.Calls PyProof.Rows

abbrev enObj (a : Addr) : Obj := { cls := .type "enumerate", data := .fields #[.none, .bool false, .ref a, rawInt 0, .none, .none] }
theorem meets_enum1 {v : Value} {o : Obj} {H : Heap → Prop} (B : Begins v o H) :
    Meets (Builtin.«enumerate.__new__» ⟨[.type "enumerate", v], []⟩) (fun _ R s => H s.heap ∧ R (.ok (.ret (.ref (s.heap.push o).objs.size))) { s with heap := (s.heap.push o).push (enObj s.heap.objs.size) }) :=
  .of_wp fun prog w A R s h => by
    obtain ⟨hp, g, d, tk, os⟩ := s
    obtain ⟨h1, h⟩ := h
    have isE := sub_enumerate
    have begins : ∀ {A' : Around} {E : Value → Shared → Prop} {Q : Value → Shared → Prop}, Q (.ref hp.objs.size) ⟨hp.push o, g, d, tk, os⟩ → wpAny (model prog w) A' (pyIter v) Q E ⟨hp, g, d, tk, os⟩ := fun q => B.iter prog w _ _ ⟨hp, g, d, tk, os⟩ _ h1 q
    wp_walk using begins
    refine wpAny_stack_any fun st => wpAny_pure ?_
    split
    · rename_i c _ _ _ _ _
      cases (c == Value.type "enumerate") <;> (wp_walk using begins; exact ⟨_, rfl, h⟩)
    · wp_walk using begins
      exact ⟨_, rfl, h⟩
section
variable {prog : Program} {w : World} {A : Around} {E : Value → Shared → Prop} {s : Shared}
theorem call_enum1 {v : Value} {o : Obj} {H : Heap → Prop} {Q : Value → Shared → Prop} (B : Begins v o H) (h1 : H s.heap)
    (h : ∀ h', IsEnum h' (s.heap.objs.size + 1) s.heap.objs.size 0 .none → h'.get? s.heap.objs.size = some o → (∀ b o', s.heap.get? b = some o' → h'.get? b = some o') → Q (.ref (s.heap.objs.size + 1)) { s with heap := h' }) :
    wpAny (model prog w) A (call (.type "enumerate") [v]) Q E s := by
  refine callType_new F.called_enumerate (by decide) (F.typeCall_enumerate_1 _) (F.newCall_enumerate_1 _) (fun obj => F.args_object_init_2 obj _) F.entry_enumerate_new (meets_enum1 B) ⟨h1, ?_⟩
  have size1 : (s.heap.push o).objs.size = s.heap.objs.size + 1 := Heap.size_push ..
  have made : IsEnum ((s.heap.push o).push (enObj s.heap.objs.size)) (s.heap.objs.size + 1) s.heap.objs.size 0 .none := by
    have q := Heap.get?_push_size (s.heap.push o) (o := enObj s.heap.objs.size) rfl
    rw [size1] at q
    exact q
  show _ ∧ _
  rw [size1]
  exact ⟨⟨_, made, rfl⟩, h _ made (Heap.get?_push_of_some _ (Heap.get?_push_size _ B.free)) fun b o' x => Heap.get?_push_of_some _ (Heap.get?_push_of_some _ x)⟩
end
/-- the tuple at a, each item in a new pair -/
def IteT (K : PySem.W.Frag) (a : Addr) : It :=
  ⟨fun i H => ∃ (xs : List V) (x : V), SqT K H a xs ∧ xs[i]? = some x, fun i H v H' => ∃ T x, v = .ref T ∧ H T = none ∧ H' = upd H T (.tup [.int (i : Nat), x]) ∧ ∀ xs, SqT K H a xs → xs[i]? = some x, fun i H => ∃ xs : List V, SqT K H a xs ∧ xs.length ≤ i⟩
/-- the letters of x, each in a new pair -/
def IteS (x : Str) : It :=
  ⟨fun i _ => i < x.cps.size, fun i H v H' => ∃ T c, v = .ref T ∧ H T = none ∧ x.cps[i]? = some c ∧ H' = upd H T (.tup [.int (i : Nat), .str ⟨#[c]⟩]), fun i _ => x.cps.size ≤ i⟩
section
variable {P : Program} {w : World} {K : PySem.W.Frag} {elts : List Expr} {kk : Nat} {tpos : Pos}
/-- one turn of an enumerate, told by what its iterator draws -/
theorem enum_turn {X : Cx} {e it : Addr} {fp : List Addr} {n i : Nat} {Pv : Nat → Value → Prop} {St : Nat → Heap → Prop} {pins : List (Addr × Obj)} {s : Shared} {σ : L2.St} {H : Hp} {E : Value → Shared → Prop} {Q : V → Hp → Shared → Prop} (D : Draws X.prog X.w X.A.in1 it fp n Pv St) (I : L2.Inv X pins σ H s)
    (hf : ∀ b ∈ [e, it], FpOk X pins H b) {old : Value} (he : IsEnum s.heap e it ((i : Nat) : Int) old) (hst : St i s.heap) (hlt : i < n) (hne : e ≠ it) (hef : e ∉ fp)
    (hv : ∀ u, Pv i u → ∃ x, RelV x u ∧ ∀ T h' tk, H T = none → L2.Inv X pins σ (upd H T (.tup [.int (i : Nat), x])) { s with heap := h', toks := tk } → (∃ old, IsEnum h' e it (((i + 1 : Nat)) : Int) old) → St (i + 1) h' → (∀ b ∈ [e, it], (upd H T (.tup [.int (i : Nat), x])) b = none) →
      Q (.ref T) (upd H T (.tup [.int (i : Nat), x])) { s with heap := h', toks := tk }) :
    wpAny (model X.prog X.w) X.A (pyNext (.ref e)) (fun r s1 => ∃ u, r = some u ∧ wpAny (model X.prog X.w) X.A (letOwnedTupleGo (.Tuple elts kk tpos) (.ref e) u) (fun _ s2 => ∃ v H', RelV v u ∧ Q v H' s2) E s1) E s := by
  have le : e < s.heap.objs.size := Heap.lt_size he
  have li : it < s.heap.objs.size := by obtain ⟨_, q⟩ := D.live _ _ hst; exact Heap.lt_size q
  refine wpAny_pyNext_enum_itemD D he hst hlt hne hef fun u h' tk hP ho hst' hT hsz hk => ?_
  obtain ⟨x, rx, q⟩ := hv u hP
  refine ⟨_, rfl, wpAny_letOwnedTupleGo_enum (s := { s with heap := h', toks := tk + 1 }) ho fun h'' he' sb => ?_⟩
  have hT2 : h''.get? s.heap.objs.size = some { cls := .type "tuple", data := .seq #[.int i tk, u] } := (sb.2 _ (Nat.ne_of_gt le)).trans hT
  have new : ObjOk X.prog X.w (upd H s.heap.objs.size (.tup [.int (i : Nat), x])) h'' s.heap.objs.size (.tup [.int (i : Nat), x]) :=
    ⟨by show 2 ≤ sizeLine; decide, [.int i tk, u], .cons ⟨_, rfl⟩ (.cons rx .nil), ⟨_, hT2, rfl, _, rfl⟩⟩
  have I1 : L2.Inv X pins σ (upd H s.heap.objs.size (.tup [.int (i : Nat), x])) { s with heap := h'', toks := tk + 1 } :=
    I.turnedNew (ch := [e, it]) (fun b ob hb y => (sb.2 b (fun z => hb (by simp [z]))).trans (hk b ob (fun z => hb (by simp [z])) (fun z => hb (by simp [z])) y)) hf (Nat.le_refl _) new
  refine ⟨.ref s.heap.objs.size, _, rfl, q s.heap.objs.size h'' (tk + 1) (I.hok.fresh (Nat.le_refl _)) I1 ⟨u, ?_⟩ (D.frame _ _ _ hst' fun b hb o y => (sb.2 b fun z => hef (z ▸ hb)).trans y) fun b hb => ?_⟩
  · rw [show (((i + 1 : Nat)) : Int) = (i : Int) + 1 by omega]; exact he'
  · have hlt' : b < s.heap.objs.size := by
      rcases List.mem_cons.mp hb with z | z
      · rw [z]; exact le
      · rw [List.mem_singleton.mp z]; exact li
    rw [upd_ne (Nat.ne_of_lt hlt')]
    exact (hf b hb).1
theorem turn_enumT (a e it : Addr) : Turn P w K (.Tuple elts kk tpos) (IteT K a) [e, it] e (fun i h => (∃ old, IsEnum h e it ((i : Nat) : Int) old) ∧ h.IsTupleIter it a i ∧ e ≠ it) where
  mem := by simp
  obj := fun i h st b hb => by
    obtain ⟨⟨old, he⟩, ⟨o, ho, hc, hd⟩, _⟩ := st
    rcases List.mem_cons.mp hb with z | z
    · rw [z]; exact ⟨_, he, fun v q => nomatch q⟩
    · rw [List.mem_singleton.mp z]; exact ⟨o, ho, fun v q => by rw [hd] at q; cases q⟩
  keep := fun i h h' st k => ⟨st.1.imp fun old he => k e (by simp) _ he, st.2.1.at fun o q => k it (by simp) o q, st.2.2⟩
  item := by
    intro X hP hw hK hc i pins s σ H E I hf st hg
    subst hP hw hK
    obtain ⟨⟨old, he⟩, hit, hne⟩ := st
    obtain ⟨xs, x, hq, hx⟩ := hg
    obtain ⟨its, rv, p, hz⟩ := I.tuple hq
    obtain ⟨u0, hu0, ru0⟩ := rv.get hx
    have hea : e ≠ a := fun z => by
      obtain ⟨o, ho, hcl, _⟩ := p
      rw [← z] at ho
      rw [show s.heap.get? e = _ from he] at ho
      cases ho
      exact absurd (show Value.type "enumerate" = Value.type "tuple" from hcl) (by decide)
    have hia : a ≠ it := fun z => by
      obtain ⟨o, ho, hcl, _⟩ := p
      obtain ⟨o', ho', hcl', _⟩ := hit
      rw [z, ho'] at ho
      cases ho
      rw [hcl'] at hcl
      exact absurd hcl (by decide)
    refine thn (enum_turn (Draws.tuple (A := X.A.in1) (I.ok.hd hc) it a hia its.toArray) I hf he ⟨hit, p⟩ (i := i) (by
      have := rv.length
      have := (List.getElem?_eq_some_iff.mp hx).1
      rw [List.size_toArray]; omega) hne (by simp [hne, hea]) (Q := fun v H' s2 => L2.Inv X pins σ H' s2 ∧ (IteT X.K a).yld i H v H' ∧ ((∃ old, IsEnum s2.heap e it (((i + 1 : Nat)) : Int) old) ∧ s2.heap.IsTupleIter it a (i + 1) ∧ e ≠ it) ∧ ∀ b ∈ [e, it], H' b = none) fun u hu => ?_) fun r s1 ⟨u, hr, h4⟩ => ⟨u, hr, thn h4 fun _ s2 ⟨v, H', rvv, i1, y, t, nn⟩ => ⟨v, H', i1, rvv, y, t, nn⟩⟩
    refine ⟨x, ?_, fun T h' tk hT I1 hen hst' nn => ⟨I1, ⟨T, x, rfl, hT, rfl, fun ys hy => by rw [I.tuple_inj hy hq]; exact hx⟩, ⟨hen, hst'.1, hne⟩, nn⟩⟩
    have : u = u0 := by
      rw [List.getElem?_toArray, hu0] at hu
      exact (Option.some.inj hu).symm
    rw [this]
    exact ru0
  done := by
    intro X hP hw hK hc i pins s σ H E I hf st hg
    subst hP hw hK
    obtain ⟨⟨old, he⟩, hit, hne⟩ := st
    obtain ⟨xs, hq, hx⟩ := hg
    obtain ⟨its, rv, p, hz⟩ := I.tuple hq
    obtain ⟨f0, f1, f2, f3, f4, f5⟩ := hf it (by simp)
    have len := rv.length
    have D : Draws X.prog X.w X.A.in1 it [it, a] i (fun _ _ => False) (fun j h => j = i ∧ h.IsTupleIter it a i ∧ h.IsTuple a its.toArray) := {
      live := fun _ _ st => let ⟨o, ho, _⟩ := st.2.1; ⟨o, ho⟩
      frame := fun _ _ _ st hk => ⟨st.1, st.2.1.at fun o y => hk it (by simp) o y, st.2.2.at fun o y => hk a (by simp) o y⟩
      item := fun j s Q E hj st _ => absurd st.1 (Nat.ne_of_lt hj)
      done := fun s Q E st hE => wpAny_nextOf_tuple_end (A := X.A.in1) (I.ok.hd hc) st.2.1 st.2.2 (by rw [List.getElem?_toArray]; exact List.getElem?_eq_none (by omega)) hE }
    exact wpAny_pyNext_enum_endD D he ⟨rfl, hit, p⟩ fun h' hx => ⟨rfl, I.turned (t' := s.toks) (fun b o hb y => hx b o hb y) f0 f1 f3 f4 f5⟩
  self := fun A i s Q E st h => let ⟨⟨_, he⟩, _⟩ := st; wpAny_pyIter_enum he h
theorem turn_enumS (x : Str) (t : Tok) (e it : Addr) : Turn P w K (.Tuple elts kk tpos) (IteS x) [e, it] e (fun i h => (∃ old, IsEnum h e it ((i : Nat) : Int) old) ∧ h.IsStrIter it (strIterType x) x t i ∧ e ≠ it) where
  mem := by simp
  obj := fun i h st b hb => by
    obtain ⟨⟨old, he⟩, ⟨o, ho, hc, hd⟩, _⟩ := st
    rcases List.mem_cons.mp hb with z | z
    · rw [z]; exact ⟨_, he, fun v q => nomatch q⟩
    · rw [List.mem_singleton.mp z]; exact ⟨o, ho, fun v q => by rw [hd] at q; cases q⟩
  keep := fun i h h' st k => ⟨st.1.imp fun old he => k e (by simp) _ he, (let ⟨o, ho, r⟩ := st.2.1; ⟨o, k it (by simp) o ho, r⟩), st.2.2⟩
  item := by
    intro X hP hw hK hc i pins s σ H E I hf st hg
    subst hP hw hK
    obtain ⟨⟨old, he⟩, hit, hne⟩ := st
    refine thn (enum_turn (Draws.text (A := X.A.in1) (I.ok.hd hc) it x t) I hf he hit (i := i) hg hne (by simp [hne]) (Q := fun v H' s2 => L2.Inv X pins σ H' s2 ∧ (IteS x).yld i H v H' ∧ ((∃ old, IsEnum s2.heap e it (((i + 1 : Nat)) : Int) old) ∧ s2.heap.IsStrIter it (strIterType x) x t (i + 1) ∧ e ≠ it) ∧ ∀ b ∈ [e, it], H' b = none) fun u hu => ?_) fun r s1 ⟨u, hr, h4⟩ => ⟨u, hr, thn h4 fun _ s2 ⟨v, H', rvv, i1, y, t, nn⟩ => ⟨v, H', i1, rvv, y, t, nn⟩⟩
    obtain ⟨c, tk0, h1, rfl⟩ := hu
    exact ⟨.str ⟨#[c]⟩, ⟨tk0, rfl⟩, fun T h' tk hT I1 hen hst' nn => ⟨I1, ⟨T, c, rfl, hT, h1, rfl⟩, ⟨hen, hst', hne⟩, nn⟩⟩
  done := by
    intro X hP hw hK hc i pins s σ H E I hf st hg
    subst hP hw hK
    obtain ⟨⟨old, he⟩, hit, hne⟩ := st
    obtain ⟨f0, f1, f2, f3, f4, f5⟩ := hf it (by simp)
    have hg : x.cps.size ≤ i := hg
    have D : Draws X.prog X.w X.A.in1 it [it] i (fun _ _ => False) (fun j h => j = i ∧ h.IsStrIter it (strIterType x) x t i) := {
      live := fun _ _ st => let ⟨o, ho, _⟩ := st.2; ⟨o, ho⟩
      frame := fun _ _ _ st hk => ⟨st.1, let ⟨o, ho, r⟩ := st.2; ⟨o, hk it (by simp) o ho, r⟩⟩
      item := fun j s Q E hj st _ => absurd st.1 (Nat.ne_of_lt hj)
      done := fun s Q E st hE => by
        have h2 := st.2
        cases ha : x.cps.all (· < 128)
        · simp only [strIterType, ha, Bool.false_eq_true, if_false] at h2
          exact wpAny_nextOf_wide_end (A := X.A.in1) (I.ok.hd hc) h2 (by simpa using hg) hE
        · simp only [strIterType, ha, if_true] at h2
          exact wpAny_nextOf_ascii_end (A := X.A.in1) (I.ok.hd hc) h2 (by simpa using hg) hE }
    exact wpAny_pyNext_enum_endD D he ⟨rfl, hit⟩ fun h' hx => ⟨rfl, I.turned (t' := s.toks) (fun b o hb y => hx b o hb y) f0 f1 f3 f4 f5⟩
  self := fun A i s Q E st h => let ⟨⟨_, he⟩, _⟩ := st; wpAny_pyIter_enum he h
end
section
variable {X : Cx} {e : Expr} {ta : TA} {p pos tpos : Pos} {elts : List Expr} {kk : Nat}
theorem pi_enumT (hg : Gl X "enumerate") (hm : X.mg "enumerate" = none) (ha : PA X [e] ta) (hs : starEach [e] X.env = [(false, eval e X.env)]) :
    PI X (.Tuple elts kk tpos) (.Call (.Name "enumerate" p) [e] [] pos) (fun σ H R => ta σ H fun vs H1 => (∃ a xs, vs = [.ref a] ∧ SqT X.K H1 a xs ∧ R (IteT X.K a) H1) ∨ ∃ x, vs = [.str x] ∧ R (IteS x) H1) := by
  refine ⟨fun pins s σ H R I h => ?_⟩
  refine Call_ (ld_blt I hg hm boot_enumerate (PyProof.Rows.callWith_type1 (thn (ha.run pos pins s σ H _ I h) fun us s1 ⟨vs, H1, I1, r1, q1⟩ => ?_) hs rfl))
  have fin : ∀ {v : Value} {o : Obj} {Hv : Heap → Prop} {J : It} {tn : Nat → Heap → Prop}, Begins v o Hv → Hv s1.heap → Turn X.prog X.w X.K (.Tuple elts kk tpos) J [s1.heap.objs.size + 1, s1.heap.objs.size] (s1.heap.objs.size + 1) tn →
      (∀ h', IsEnum h' (s1.heap.objs.size + 1) s1.heap.objs.size 0 .none → h'.get? s1.heap.objs.size = some o → tn 0 h') → R J H1 → wpAny (model X.prog X.w) X.A (call (.type "enumerate") [v]) (fun v s1 => wpAny (model X.prog X.w) X.A (pyIter v) (PIE X pins σ (.Tuple elts kk tpos) R) X.xe s1) X.xe s1 := fun {v o Hv J tn} B hv T ht q => by
    refine call_enum1 B hv fun h' he hit hk => wpAny_pyIter_enum he ?_
    have I2 : L2.Inv X pins σ H1 { s1 with heap := h' } := I1.kept (t' := s1.toks) hk
    refine ⟨s1.heap.objs.size + 1, _, tn, J, H1, rfl, I2, T, ht h' he hit, fun b hb => ?_, q⟩
    have hle : s1.heap.objs.size ≤ b := by
      rcases List.mem_cons.mp hb with z | z
      · rw [z]; exact Nat.le_add_right _ _
      · rw [List.mem_singleton.mp z]; exact Nat.le_refl _
    exact I1.fpOk hle (I1.hok.fresh hle)
  rcases q1 with ⟨a, xs, rfl, hq, q⟩ | ⟨x, rfl, q⟩
  · obtain ⟨u, rfl, ru⟩ := vals1 r1
    cases ru
    obtain ⟨its, rv, p', hz⟩ := I1.tuple hq
    exact fin (begins_tuple a its.toArray) p' (turn_enumT a _ _) (fun h' he ho => ⟨⟨_, he⟩, ⟨_, ho, rfl, rfl⟩, Nat.succ_ne_self _⟩) q
  · obtain ⟨u, rfl, ru⟩ := vals1 r1
    obtain ⟨t, rfl⟩ := ru
    exact fin (begins_text x t) trivial (turn_enumS x t _ _) (fun h' he ho => ⟨⟨_, he⟩, ⟨_, ho, rfl, rfl⟩, Nat.succ_ne_self _⟩) q
end
section
variable {K : PySem.W.Frag} {G H : Hp}
theorem itd_enumT {a : Addr} {xs : List V} {ds : List D} (hx : SqT K G a xs) (r : Reps K G xs ds) : ItD K (IteT K a) (enumL ds) G := fun i G2 H2 e1 e2 => by
  have hq : SqT K H2 a xs := (Ex.trans e1 e2).st hx
  refine ⟨fun d hd => ?_, fun hl => ⟨xs, hq, by rw [r.length, ← enumL_len ds]; exact hl⟩⟩
  obtain ⟨w, hw, rfl⟩ := enumL_get hd
  obtain ⟨v, h1, h2⟩ := r.get hw
  refine ⟨⟨xs, v, hq, h1⟩, fun x H3 ⟨T, y, ex, hT, eH, z⟩ => ?_⟩
  subst ex eH
  have : v = y := Option.some.inj (h1.symm.trans (z xs hq))
  subst this
  exact pair_new e2 hT (.int _) (h2.up e1)
theorem itd_enumS {x : Str} (h : StrOkay x) : ItD K (IteS x) (enumL (strItems x)) G := fun i G2 H2 e1 e2 => by
  have hl : (strItems x).length = x.cps.size := by unfold strItems; rw [List.length_map, Array.length_toList]
  refine ⟨fun d hd => ?_, fun z => by rw [enumL_len, hl] at z; exact z⟩
  obtain ⟨w, hw, rfl⟩ := enumL_get hd
  have hi : i < x.cps.size := by
    have := (List.getElem?_eq_some_iff.mp hw).1
    rw [hl] at this; exact this
  refine ⟨hi, fun v H3 ⟨T, c, ev, hT, hc, eH⟩ => ?_⟩
  subst ev eH
  have hc' : x.cps.toList[i]? = some c := by rw [Array.getElem?_toList]; exact hc
  unfold strItems at hw
  rw [List.getElem?_map, hc'] at hw
  cases hw
  exact pair_new e2 hT (.int _) (.str _ (strOkay_one h hc'))
end
section
variable {T : Tab} {N : List Str} {k : Nat} {ev : Ev} {sc : List (Str × NameKind)} {a : Expr} {l : FL} {p pos tpos : Pos} {kk : Nat} {elts : List Expr}
theorem si_enum {x : Str} (hx : x = "enumerate") (hs : sc.lookup x = some .globalImplicit) (hb : x ∈ T.blt) (ha : SA T N k ev sc [a] l) (hst : NotStar a = true) : SI T N k ev sc (.Tuple elts kk tpos) (.Call (.Name x p) [a] [] pos) (iB (q1 pEnum) l) := fun X W gd => by
  subst hx
  refine PI.mono (PI.or (pi_enum (gd.gl T hs) (gd.blt _ hb) (ha X W gd) (notStar hst _)) (pi_enumT (gd.gl T hs) (gd.blt _ hb) (ha X W gd) (notStar hst _))) fun σ H Q ⟨G, ρ, e1, en, r⟩ => ?_
  unfold iB at r
  cases q : l ev ρ with
  | exc c z => rw [q] at r; exact .inl ⟨G, ρ, e1, en, by rw [q]; exact r⟩
  | bad => rw [q] at r; exact r.elim
  | ok ds =>
    match ds, q with
    | [], q => rw [q] at r; exact False.elim r
    | _ :: _ :: _, q => rw [q] at r; exact False.elim r
    | [d], q =>
      cases d with
      | list ds =>
        refine .inl ⟨G, ρ, e1, en, r.seqE fun d v G1 H1 ed s1 p r1 => ?_⟩
        obtain rfl : [PyData.list ds] = d := R.ok.inj (q.symm.trans ed)
        obtain ⟨v, rfl, pv⟩ := p.one
        obtain ⟨x, xs, rfl, h1, h2⟩ := pv.list_inv
        exact ⟨x, xs, rfl, s1.in'.sl h1, ResG.ok T (P := pI X.K) (d := enumL ds) s1.in' r1 (itd_enum h1 h2)⟩
      | tuple ds =>
        refine .inr ⟨G, ρ, e1, en, r.seqE fun d v G1 H1 ed s1 p r1 => ?_⟩
        obtain rfl : [PyData.tuple ds] = d := R.ok.inj (q.symm.trans ed)
        obtain ⟨v, rfl, pv⟩ := p.one
        obtain ⟨x, xs, rfl, h1, h2⟩ := pv.tuple_inv
        exact .inl ⟨x, xs, rfl, .inl (.inl (s1.in' _ _ h1)), ResG.ok T (P := pI X.K) (d := enumL ds) s1.in' r1 (itd_enumT (.inl (.inl h1)) h2)⟩
      | str z =>
        refine .inr ⟨G, ρ, e1, en, r.seqE fun d v G1 H1 ed s1 p r1 => ?_⟩
        obtain rfl : [PyData.str z] = d := R.ok.inj (q.symm.trans ed)
        obtain ⟨v, rfl, pv⟩ := p.one
        obtain ⟨rfl, hz⟩ := pv.str_inv
        exact .inr ⟨z, rfl, ResG.ok T (P := pI X.K) (d := enumL (strItems z)) s1.in' r1 (itd_enumS hz)⟩
      | _ => rw [q] at r; exact False.elim r
end
end PV

/-! PV20: more rules: blocks with their names told, lists added, two names at once, range as a list, methods of two kinds, max and min. -/
namespace PV
open PySem L2

theorem bt_len : bootBuiltins "len" = some (.builtin "len") := by decide +kernel
theorem bt_abs : bootBuiltins "abs" = some (.builtin "abs") := by decide +kernel
theorem bt_int : bootBuiltins "int" = some (.type "int") := by decide +kernel
theorem bt_max : bootBuiltins "max" = some (.builtin "max") := by decide +kernel
theorem bt_min : bootBuiltins "min" = some (.builtin "min") := by decide +kernel
theorem bt_sum : bootBuiltins "sum" = some (.builtin "sum") := by decide +kernel
theorem bt_any : bootBuiltins "any" = some (.builtin "any") := by decide +kernel
theorem bt_all : bootBuiltins "all" = some (.builtin "all") := by decide +kernel
theorem bt_list : bootBuiltins "list" = some (.type "list") := by decide +kernel
theorem bt_tuple : bootBuiltins "tuple" = some (.type "tuple") := by decide +kernel
theorem bt_sorted : bootBuiltins "sorted" = some (.builtin "sorted") := by decide +kernel

section
variable {T : Tab} {N : List Str} {k : Nat} {ev : Ev} {sc sc2 : List (Str × NameKind)} {a b e elt tgE iter : Expr} {ifs : List Expr} {scope : Scope} {own : List (Str × Nat)} {pos : Pos} {it l : FL} {c : FT} {f g : FE} {t : Tg}
theorem sf_lc2 (hb : blkC N (scOf sc) scope own = true) (hr : relN scope.names sc = sc2) (hi : SI T N k ev sc tgE iter it) (hg : SG N sc2 (fun x => scope.names.lookup x == some .cell) tgE t) (hc : SC T N k ev sc2 ifs c)
    (he : SV T N k ev sc2 elt f) (hsub : ∀ i ∈ t.ix, i ∈ own.map (·.2)) (hf : NoFold iter = true) : SF T N k ev sc (.ListComp elt [⟨tgE, iter, ifs, 0⟩] scope pos) (eLc (own.map (·.2)) t it c f) := by
  subst hr
  exact sf_lc hb hi hg hc he hsub hf
theorem ss_lc2 {n : FE → FN} (hn : NewN n) {x : Str} {i : Nat} {p1 spos : Pos} (hN : N[i]? = some x) (hx : sc.lookup x = some .local) (hline : (p1.line == pos.line) = true) (ha : (scope.names.any fun (n, k) => n == x && (k == .local || k == .cell)) = false)
    (hb : blkC N (scOf sc) scope own = true) (hr : relN scope.names sc = sc2) (hi : SI T N k ev sc tgE iter it) (hg : SG N sc2 (fun x => scope.names.lookup x == some .cell) tgE t) (hc : SC T N k ev sc2 ifs c)
    (he : SV T N k ev sc2 elt f) (hsub : ∀ i ∈ t.ix, i ∈ own.map (·.2)) (hf : NoFold iter = true) :
    SS T N k ev sc (.Assign [.Name x p1] (.ListComp elt [⟨tgE, iter, ifs, 0⟩] scope pos) spos) (sSet i (n (eLc (own.map (·.2)) t it c f))) := by
  subst hr
  exact ss_lc hn hN hx hline ha hb hi hg hc he hsub hf
/-- a sum of lists is a new list -/
def pAddL : D → D → R D
  | .list a, .list b => if a.length + b.length ≤ lim then .ok (.list (a ++ b)) else .bad
  | _, _ => .bad
theorem sf_addL (ha : SV T N k ev sc a f) (hb : SV T N k ev sc b g) : SF T N k ev sc (.BinOp a .Add b pos) (e2 pAddL f g) := fun X W gd =>
  PE.mono (pe_op (op_catS (X := X)) (ha X W gd) (hb X W gd)) fun σ H Q ⟨G, ρ, e1, en, r⟩ => by
    refine ⟨G, ρ, e1, en, ResG.seq T (g := fun x => (g ev ρ).bind fun y => pAddL x y) r fun dx x G1 H1 s1 p1 r1 => ?_⟩
    refine ⟨G1, ρ, s1.in', en.up e1 s1, ResG.seq T (g := fun y => pAddL dx y) r1 fun dy y G2 H2 s2 p2 r2 => ?_⟩
    cases dx <;> cases dy <;> try exact False.elim r2
    rename_i xs ys
    obtain ⟨p, vs, rfl, h1, h2⟩ := (p1.up s2.g).list_inv
    obtain ⟨q, ws, rfl, h3, h4⟩ := p2.list_inv
    simp only [pAddL] at r2
    split at r2
    · rename_i hz
      have z1 := h2.length
      have z2 := h4.length
      exact ⟨p, q, vs, ws, rfl, rfl, s2.in'.sl h1, s2.in'.sl h3, by rw [sizeLine_eq]; have hl : lim = 16777216 := rfl; omega, fun o ho => ResG.newF (s1.trans s2) r2 ho (h2.append h4)⟩
    · exact r2.elim
/-- list(range(..)) -/
def rgD (i j : Int) : List D := (List.range (j - i).toNat).map fun n => PyData.int (i + (n : Nat))
def pLRng : List D → R D
  | [.int j] => if -(2 ^ 62) ≤ j ∧ j < 2 ^ 62 ∧ j.toNat ≤ 2 ^ 24 then .ok (.list (rgD 0 j)) else .bad
  | [.int i, .int j] => if -(2 ^ 62) ≤ i ∧ i < 2 ^ 62 ∧ -(2 ^ 62) ≤ j ∧ j < 2 ^ 62 ∧ (j - i).toNat ≤ 2 ^ 24 then .ok (.list (rgD i j)) else .bad
  | _ => .bad
def eLRng (l : FL) : FE := fun ev ρ => (l ev ρ).bind pLRng
theorem reps_rg {K : PySem.W.Frag} {G : Hp} (i j : Int) : Reps K G (rgV i j) (rgD i j) := by
  unfold rgV rgD
  generalize (j - i).toNat = m
  generalize List.range m = ns
  induction ns with
  | nil => exact .nil
  | cons n ns ih => exact .cons (.int _) ih
theorem sf_lrange1 {x y : Str} {p p2 pos2 : Pos} (hx : x = "list") (hy : y = "range") (hs : sc.lookup x = some .globalImplicit) (hb : x ∈ T.blt) (hs2 : sc.lookup y = some .globalImplicit) (hb2 : y ∈ T.blt) (ha : SV T N k ev sc a f) (ht : NotStar a = true) :
    SF T N k ev sc (.Call (.Name x p) [.Call (.Name y p2) [a] [] pos2] [] pos) (eLRng (aCons f aNil)) := fun X W gd => by
  subst hx hy
  refine PE.mono (pe_listRg gd.calm (gd.gl T hs) (gd.blt _ hb) (prg_1 (gd.gl T hs2) (gd.blt _ hb2) (ha X W gd) (notStar ht _)) (notStar (e := .Call (.Name "range" p2) [a] [] pos2) rfl _)) fun σ H Q ⟨G, ρ, e1, en, r⟩ => ⟨G, ρ, e1, en, ?_⟩
  have r : ResG T X.K X.mg W G H (((f ev ρ).bind fun d => .ok [d]).bind pLRng) (pF X.K H) Q := r
  rw [R.bind_assoc] at r
  refine r.seq T fun d v G1 H1 s1 p1 r1 => ?_
  cases d with
  | int j =>
    obtain rfl := p1.int_inv
    have r1 : ResG T X.K X.mg W G1 H1 (pLRng [.int j]) (pF X.K H) Q := r1
    simp only [pLRng] at r1
    split at r1
    · rename_i hz
      exact ⟨j, rfl, ⟨by omega, by omega, hz.1, hz.2.1, by have := hz.2.2; simpa using this⟩, fun q hq => ResG.newF s1 r1 hq (reps_rg _ _)⟩
    · exact r1.elim
  | _ => exact False.elim r1
/-- a method of one type or of another -/
def eM2 (isA : D → Bool) (fa : D → List D → R D) (isB : D → Bool) (fb : D → List D → R D) (f : FE) (l : FL) : FE := fun ev ρ => (f ev ρ).bind fun d => if isA d = true then (l ev ρ).bind fun ds => fa d ds else if isB d = true then (l ev ρ).bind fun ds => fb d ds else .bad
end
end PV

/-! PV21: methods of two kinds, get, max, min, turned tuples, two names at once. -/
namespace PV
open PySem L2 PySem.Spec PyProof.Rows HT PySem.W

section
variable {T : Tab} {N : List Str} {k : Nat} {ev : Ev} {sc : List (Str × NameKind)} {a b e o : Expr} {es : List Expr} {pos ap cp : Pos} {l : FL} {f g : FE}
theorem PE.or {X : Cx} {t t' : TE} (h : PE X e t) (h' : PE X e t') : PE X e (fun σ H Q => t σ H Q ∨ t' σ H Q) := ⟨fun pins s σ H Q I q => q.elim (h.run pins s σ H Q I) (h'.run pins s σ H Q I)⟩
theorem sv_alt {f1 f2 : FE} (h1 : SV T N k ev sc e f1) (h2 : SV T N k ev sc e f2) (hf : ∀ ev ρ, f ev ρ = f1 ev ρ ∨ f ev ρ = f2 ev ρ) : SV T N k ev sc e f := fun X W gd =>
  PE.mono (PE.or (h1 X W gd) (h2 X W gd)) fun σ H Q ⟨G, ρ, e1, en, r⟩ => by
    rcases hf ev ρ with z | z
    · rw [z] at r; exact .inl ⟨G, ρ, e1, en, r⟩
    · rw [z] at r; exact .inr ⟨G, ρ, e1, en, r⟩
theorem sv_m2 {name : Str} {ty id ty2 id2 : String} {isA isB : D → Bool} {fa fb : D → List D → R D} (hm : MeOk T ty id name isA fa) (hm2 : MeOk T ty2 id2 name isB fb) (hb : NoBase o name) (ho : SB T N k ev sc o f) (ha : SAB T N k ev sc (e :: es) l)
    (hst : (e :: es).all NotStar = true) (hl : decide ((e :: es).length < 30) = true) (hline : (ap.endLine == cp.line) = true) :
    SV T N k ev sc (.Call (.Attribute o name ap) (e :: es) [] cp) (eM2 isA fa isB fb f l) :=
  sv_alt (f := eM2 isA fa isB fb f l) (sv_m hm hb ho ha hst hl hline) (sv_m hm2 hb ho ha hst hl hline) fun ev ρ => by
    unfold eM2 eM
    cases f ev ρ with
    | exc _ _ => exact .inl rfl
    | bad => exact .inl rfl
    | ok d =>
      simp only [R.bind_ok]
      by_cases h : isA d = true
      · rw [if_pos h, if_pos h]; exact .inl rfl
      · rw [if_neg h, if_neg h]; exact .inr rfl
end

/-! get: what it gives is known -/
structure MeOkV (T : Tab) (ty id : String) (name : Str) (isT : D → Bool) (fb : D → List D → R D) : Prop where
  pa : PlainAttrs ty
  slot : Slot ty name id
  hty : typeOf (.builtin id) = pure (.type "method_descriptor")
  ty : ∀ {K : PySem.W.Frag} {G H : Hp} {x : V} {d : D}, isT d = true → Ex G H → RepH K G H x d → tyV K ty x H
  ok : ∀ (X : Cx) (W : XK) (N : List Str) (k : Nat) (ev : Ev) (sc : List (Str × NameKind)), Gd T N k ev sc X W → MtR X id (fun x xs H Q => ∃ G d ds, Ex G H ∧ RepH X.K G H x d ∧ Reps X.K G xs ds ∧ isT d = true ∧ ResG T X.K X.mg W G H (fb d ds) (pV X.K) Q)
section
variable {T : Tab} {N : List Str} {k : Nat} {ev : Ev} {sc : List (Str × NameKind)} {o e : Expr} {es : List Expr} {f : FE} {l : FL} {name : Str} {ap cp : Pos} {ty id : String} {isT : D → Bool} {fb : D → List D → R D}
theorem sv_mV (hm : MeOkV T ty id name isT fb) (hb : NoBase o name) (ho : SB T N k ev sc o f) (ha : SA T N k ev sc (e :: es) l) (hst : (e :: es).all NotStar = true) (hl : decide ((e :: es).length < 30) = true) (hline : (ap.endLine == cp.line) = true) :
    SV T N k ev sc (.Call (.Attribute o name ap) (e :: es) [] cp) (eM isT fb f l) := fun X W gd => by
  have hst' := hst
  rw [List.all_cons, Bool.and_eq_true] at hst'
  refine PE.mono (pe_bm hm.pa hm.slot hm.hty (hm.ok X W N k ev sc gd) (ho X W gd) (ha X W gd) (hb _) (by
    rw [starEach_all hst]
    show (true && true && decide ((e :: es).length + 0 + 0 < 30)) = true
    simpa using hl) hline (notStar hst'.1 _) (NoS_any hst'.2 _ _)) fun σ H Q ⟨G, ρ, e1, en, r⟩ => ⟨G, ρ, e1, en, r.seq T fun d v G1 H1 s1 p r1 => ?_⟩
  split at r1
  · rename_i it
    refine ⟨hm.ty it s1.in' p, G1, ρ, s1.in', en.up e1 s1, r1.seq T fun ds vs G2 H2 s2 p2 r2 => ?_⟩
    exact ⟨G2, d, ds, s2.in', p.up s2.g s2.h, p2, it, r2⟩
  · exact False.elim r1
theorem dictH {K : PySem.W.Frag} {G H : Hp} {x : V} {kvs : List (D × D)} (e : Ex G H) (px : RepH K G H x (.dict kvs)) : ∃ a, x = .ref a ∧ ((∃ vs, H a = some (.dK vs) ∧ (vs.map (·.1)).Nodup ∧ RepK K G vs kvs) ∨ ∃ vs, H a = some (.dT vs) ∧ (vs.map (·.1)).Nodup ∧ RepT K G vs kvs) := px.dict_inv e
theorem me_get : MeOkV T "dict" "dict.get" "get" isDc mGet := ⟨PySem.F.plainAttrs_dict, PySem.F.slot_dict_get, PySem.F.type_dict_get, tyD, fun X W N k ev sc gd pins s σ H x xs v us Q I rx rs ⟨G, d, ds, e, px, ps, it, h⟩ => by
  have hu : X.A.units + 1 < cLine := by have := gd.hu65; omega
  cases d with
  | dict kvs =>
    obtain ⟨a, rfl, hd⟩ := dictH e px
    obtain rfl : v = .ref a := rx
    match ds, ps, h with
    | [y], ps, h =>
      obtain ⟨w, rfl, pw⟩ := ps.one
      obtain ⟨u, rfl, ru⟩ := vals1 rs
      simp only [mGet] at h
      split at h
      · rename_i hk
        obtain ⟨oo, g, m⟩ := dgt_of e hk pw hd
        refine g_get1 hu I g ru fun w' s' I' r' => ⟨oo.getD .non, H, I', r', ?_⟩
        cases oo with
        | none =>
          cases q : dLook kvs y with
          | none => rw [q] at h; exact h.ok T e .non
          | some z => rw [q] at m; exact m.elim
        | some z' =>
          cases q : dLook kvs y with
          | none => rw [q] at m; exact m.elim
          | some z => rw [q] at m h; exact h.ok T e m
      · exact False.elim h
    | [y, z], ps, h =>
      obtain ⟨w, w2, rfl, pw, pz⟩ := ps.two
      obtain ⟨u, u2, rfl, ru, ru2⟩ := vals2 rs
      simp only [mGet] at h
      split at h
      · rename_i hk
        obtain ⟨oo, g, m⟩ := dgt_of e hk pw hd
        refine g_get2 hu I g ru ru2 fun w' s' I' r' => ⟨oo.getD w2, H, I', r', ?_⟩
        cases oo with
        | none =>
          cases q : dLook kvs y with
          | none => rw [q] at h; exact h.ok T e pz
          | some z => rw [q] at m; exact m.elim
        | some z' =>
          cases q : dLook kvs y with
          | none => rw [q] at m; exact m.elim
          | some z => rw [q] at m h; exact h.ok T e m
      · exact False.elim h
    | [], _, h => exact False.elim h
    | _ :: _ :: _ :: _, _, h => exact False.elim h
  | _ => cases it⟩
end

/-! max, min of ints -/
def lMax : List Int → Option Int
  | [] => none
  | x :: xs => some (xs.foldl max x)
def lMin : List Int → Option Int
  | [] => none
  | x :: xs => some (xs.foldl min x)
def pMax : D → R D
  | .list ds => match (allI ds).bind lMax with
    | some m => .ok (.int m)
    | none => .bad
  | .tuple ds => match (allI ds).bind lMax with
    | some m => .ok (.int m)
    | none => .bad
  | _ => .bad
def pMin : D → R D
  | .list ds => match (allI ds).bind lMin with
    | some m => .ok (.int m)
    | none => .bad
  | .tuple ds => match (allI ds).bind lMin with
    | some m => .ok (.int m)
    | none => .bad
  | _ => .bad
theorem allI_ints : ∀ {ds : List D} {ns : List Int}, allI ds = some ns → ds = ns.map PyData.int
  | [], _, e => by cases e; rfl
  | .int i :: r, ns, e => by
    cases q : allI r with
    | none => rw [allI, q] at e; cases e
    | some l => rw [allI, q] at e; cases e; rw [allI_ints q]; rfl
  | .none :: _, _, e => by cases e
  | .bool _ :: _, _, e => by cases e
  | .str _ :: _, _, e => by cases e
  | .list _ :: _, _, e => by cases e
  | .tuple _ :: _, _, e => by cases e
  | .dict _ :: _, _, e => by cases e
theorem alike_ints (ns : List Int) : AlikeAll (ns.map PyData.int) := by
  refine ⟨fun x hx y hy => ?_, fun x hx => ?_⟩
  · obtain ⟨i, _, rfl⟩ := List.mem_map.mp hx
    obtain ⟨j, _, rfl⟩ := List.mem_map.mp hy
    rfl
  · obtain ⟨i, _, rfl⟩ := List.mem_map.mp hx
    exact fun z => nomatch z
theorem depth_ints : ∀ ns : List Int, PyData.depthAll (ns.map PyData.int) = 0
  | [] => rfl
  | n :: ns => by rw [List.map_cons, PyData.depthAll, depth_ints ns]; rfl
theorem dp_ints {K : PySem.W.Frag} {H : Hp} : ∀ ns : List Int, DpAll K H (ns.map V.int) (ns.map PyData.int)
  | [] => .nil
  | n :: ns => .cons (.int n) (dp_ints ns)
section
variable {T : Tab}
theorem ca_max : CaOk T (.builtin "max") (b1 pMax) := ⟨fun X W N k ev sc gd pins s σ H xs us Q I r ⟨G, ds, e, p, h⟩ => by
  obtain ⟨x, d, rfl, rfl, px, h⟩ := b1_inv p h
  have hu := gd.hu65
  obtain ⟨u, rfl, ru⟩ := vals1 r
  have key : ∀ (ds : List D) (vs : List V) (its : List Value) (n : Int) (ns : List Int), Reps X.K G vs ds → allI ds = some (n :: ns) → Vals vs its → ResG T X.K X.mg W G H (.ok (.int (ns.foldl max n))) (pV X.K) Q →
      (∃ as, ReadsAll s.heap its (.int n :: ns.map PyData.int) as) ∧ AlikeAll (.int n :: ns.map PyData.int) ∧ X.A.units + 1 + PyData.depthAll (.int n :: ns.map PyData.int) < cLine ∧
      ∀ (v : Value) h' tk bs, Reads h' v (maxD (.int n) (ns.map PyData.int)) bs → (∀ b o, s.heap.get? b = some o → h'.get? b = some o) → EP X pins σ Q v { s with heap := h', toks := tk } := fun ds vs its n ns hr hi rv h => by
    have ed := allI_ints hi
    have ev := reps_I hr hi
    subst ed ev
    have hd := depth_ints (n :: ns)
    rw [List.map_cons] at hd
    refine ⟨Dp.readsAll I _ _ _ (dp_ints (n :: ns)) rv, alike_ints (n :: ns), by rw [hd]; omega, fun v h' tk bs hv hk => ?_⟩
    rw [maxD_ints] at hv
    cases hv
    exact ⟨.int _, H, I.kept hk, ⟨_, rfl⟩, h.ok T e (.int _)⟩
  cases d with
  | list ds =>
    obtain ⟨a, vs, rfl, h1, h2⟩ := px.list_inv e
    obtain rfl : u = .ref a := ru
    simp only [pMax] at h
    cases q : allI ds with
    | none => rw [q] at h; exact False.elim h
    | some ns =>
      cases ns with
      | nil => rw [q] at h; exact False.elim h
      | cons n ns =>
        rw [q] at h
        obtain ⟨its, rv, hl, _⟩ := I.list h1
        obtain ⟨⟨as, k1⟩, k2, k3, k4⟩ := key ds vs its n ns h2 q rv h
        exact max_list_data (I.ok.hd gd.calm) hl.isList k1 k2 k3 fun i v h' tk bs _ hv hk => k4 v h' tk bs hv hk
  | tuple ds =>
    obtain ⟨a, vs, rfl, h1, h2⟩ := px.tuple_inv
    obtain rfl : u = .ref a := ru
    simp only [pMax] at h
    cases q : allI ds with
    | none => rw [q] at h; exact False.elim h
    | some ns =>
      cases ns with
      | nil => rw [q] at h; exact False.elim h
      | cons n ns =>
        rw [q] at h
        obtain ⟨its, rv, hl, _⟩ := I.tuple (e.st h1)
        obtain ⟨⟨as, k1⟩, k2, k3, k4⟩ := key ds vs its n ns h2 q rv h
        exact max_tuple_data (I.ok.hd gd.calm) hl k1 k2 k3 fun i v h' tk bs _ hv hk => k4 v h' tk bs hv hk
  | _ => exact False.elim h⟩
theorem ca_min : CaOk T (.builtin "min") (b1 pMin) := ⟨fun X W N k ev sc gd pins s σ H xs us Q I r ⟨G, ds, e, p, h⟩ => by
  obtain ⟨x, d, rfl, rfl, px, h⟩ := b1_inv p h
  have hu := gd.hu65
  obtain ⟨u, rfl, ru⟩ := vals1 r
  have key : ∀ (ds : List D) (vs : List V) (its : List Value) (n : Int) (ns : List Int), Reps X.K G vs ds → allI ds = some (n :: ns) → Vals vs its → ResG T X.K X.mg W G H (.ok (.int (ns.foldl min n))) (pV X.K) Q →
      (∃ as, ReadsAll s.heap its (.int n :: ns.map PyData.int) as) ∧ AlikeAll (.int n :: ns.map PyData.int) ∧ X.A.units + 1 + PyData.depthAll (.int n :: ns.map PyData.int) < cLine ∧
      ∀ (v : Value) h' tk bs, Reads h' v (minD (.int n) (ns.map PyData.int)) bs → (∀ b o, s.heap.get? b = some o → h'.get? b = some o) → EP X pins σ Q v { s with heap := h', toks := tk } := fun ds vs its n ns hr hi rv h => by
    have ed := allI_ints hi
    have ev := reps_I hr hi
    subst ed ev
    have hd := depth_ints (n :: ns)
    rw [List.map_cons] at hd
    refine ⟨Dp.readsAll I _ _ _ (dp_ints (n :: ns)) rv, alike_ints (n :: ns), by rw [hd]; omega, fun v h' tk bs hv hk => ?_⟩
    rw [minD_ints] at hv
    cases hv
    exact ⟨.int _, H, I.kept hk, ⟨_, rfl⟩, h.ok T e (.int _)⟩
  cases d with
  | list ds =>
    obtain ⟨a, vs, rfl, h1, h2⟩ := px.list_inv e
    obtain rfl : u = .ref a := ru
    simp only [pMin] at h
    cases q : allI ds with
    | none => rw [q] at h; exact False.elim h
    | some ns =>
      cases ns with
      | nil => rw [q] at h; exact False.elim h
      | cons n ns =>
        rw [q] at h
        obtain ⟨its, rv, hl, _⟩ := I.list h1
        obtain ⟨⟨as, k1⟩, k2, k3, k4⟩ := key ds vs its n ns h2 q rv h
        exact min_list_data (I.ok.hd gd.calm) hl.isList k1 k2 k3 fun i v h' tk bs _ hv hk => k4 v h' tk bs hv hk
  | tuple ds =>
    obtain ⟨a, vs, rfl, h1, h2⟩ := px.tuple_inv
    obtain rfl : u = .ref a := ru
    simp only [pMin] at h
    cases q : allI ds with
    | none => rw [q] at h; exact False.elim h
    | some ns =>
      cases ns with
      | nil => rw [q] at h; exact False.elim h
      | cons n ns =>
        rw [q] at h
        obtain ⟨its, rv, hl, _⟩ := I.tuple (e.st h1)
        obtain ⟨⟨as, k1⟩, k2, k3, k4⟩ := key ds vs its n ns h2 q rv h
        exact min_tuple_data (I.ok.hd gd.calm) hl k1 k2 k3 fun i v h' tk bs _ hv hk => k4 v h' tk bs hv hk
  | _ => exact False.elim h⟩
end

/-! a tuple turned -/
section
variable {prog : Program} {w : World} {A : Around} {E : Value → Shared → Prop} {s : Shared}
theorem sliceApplied_rev {sl : Addr} {tk : Tok} {n : Nat} {Q : Int × Int × Nat → Shared → Prop} (hs : s.heap.IsSliceOf sl .none .none (.int (-1) tk))
    (h : Q ((n : Int) - 1, -1, n) s) : wpAny (model prog w) A (Builtin.Slice.sliceApplied (.ref sl) (pure (n : Int))) Q E s := by
  obtain ⟨os, hos, hcs, hds⟩ := id hs
  unfold Builtin.Slice.sliceApplied Builtin.Slice.sliceFields
  refine wpAny_bind (wpAny_bind (wpAny_field hos hds (x := .none) rfl (wpAny_bind (wpAny_field hos hds (x := .none) rfl (wpAny_bind (wpAny_field hos hds (x := .int (-1) tk) rfl (wpAny_pure ?_)))))))
  refine wpAny_bind (slicePart_int ?_)
  show wpAny _ _ (if ((-1 : Int) == 0) = true then _ else _) _ _ s
  rw [if_neg (by decide)]
  refine wpAny_bind (slicePart_none (wpAny_bind (slicePart_none (wpAny_bind (wpAny_pure ?_)))))
  have pl : Builtin.Slice.slicePlaces ((n : Int) - 1) (-1) (-1) = n := by
    unfold Builtin.Slice.slicePlaces
    rw [if_neg (by decide)]
    by_cases hn : n = 0
    · subst hn; decide
    · rw [if_pos (by omega)]
      show ((((n : Int) - 1 - -1 - 1) / 1 + 1 : Int)).toNat = n
      rw [Int.ediv_one]
      omega
  show wpAny _ _ (pure ((n : Int) - 1, (-1 : Int), Builtin.Slice.slicePlaces ((n : Int) - 1) (-1) (-1))) _ _ s
  rw [pl]
  exact wpAny_pure h
theorem pick_rev (xs : Array Value) : ((List.range xs.size).filterMap fun (m : Nat) => xs[((xs.size : Int) - 1 + (m : Int) * (-1)).toNat]?).toArray = xs.toList.reverse.toArray := by
  have e : ((List.range xs.size).filterMap fun (m : Nat) => xs[((xs.size : Int) - 1 + (m : Int) * (-1)).toNat]?) = ((List.range xs.size).map (fun k => xs.size - 1 - k)).filterMap (fun k => xs[k]?) := by
    rw [List.filterMap_map]
    have go : ∀ ms : List Nat, (∀ m ∈ ms, m < xs.size) → ms.filterMap (fun (m : Nat) => xs[((xs.size : Int) - 1 + (m : Int) * (-1)).toNat]?) = ms.filterMap ((fun k => xs[k]?) ∘ fun k => xs.size - 1 - k) := by
      intro ms
      induction ms with
      | nil => intro _; rfl
      | cons m ms ih =>
        intro hm
        have h0 := hm m List.mem_cons_self
        have e0 : ((xs.size : Int) - 1 + (m : Int) * (-1)).toNat = xs.size - 1 - m := by omega
        rw [List.filterMap_cons, List.filterMap_cons, ih fun y hy => hm y (List.mem_cons_of_mem _ hy), e0]
        rfl
    exact go _ fun m hm => List.mem_range.mp hm
  rw [e, krv_range, List.filterMap_reverse, krv_all]
theorem getItem_tuple_rev {t sl : Addr} {items : Array Value} {tk : Tok} {Q : Value → Shared → Prop} (ht : IsTup s.heap t items) (hs : s.heap.IsSliceOf sl .none .none (.int (-1) tk))
    (h : Q (.ref s.heap.objs.size) { s with heap := s.heap.push { cls := .type "tuple", data := .seq items.toList.reverse.toArray } })
    (hsz : items.size ≤ sizeLine) : wpAny (model prog w) A (getItem (.ref t) (.ref sl)) Q E s := by
  have hfit : sizeOk (.seq items.toList.reverse.toArray) := by
    show items.toList.reverse.toArray.size ≤ sizeLine
    rw [List.size_toArray, List.length_reverse, Array.length_toList]
    exact hsz
  obtain ⟨os, hos, hcs, hds⟩ := id hs
  have hTs : s.TypeIs (.ref sl) "slice" := ⟨os, hos, hcs⟩
  unfold getItem
  try with_reducible refine wpAny_holding ?_
  first | refine wpAny_bind (wpAny_pure ?_) | skip
  refine wpAny_bind (wpAny_sequenceKey ht.typeIs (by decide) ?_)
  refine wpAny_bind (wpAny_callSpecial?_slot (name := Str.ofString "__getitem__") ht.typeIs PyProof.Rows.slot_tuple_getitem
    (wpAny_call_entry PyProof.Rows.slot_tuple_getitem ht.typeIs entry_tuple_getitem ?_ (args_tuple_getitem _ _)))
  show wpAny _ _ (Builtin.Tuple.tupleItemsOf (.ref t) >>= _) _ _ s
  refine wpAny_bind (tupleItemsOf_ ht ?_)
  refine wpAny_bind (wpAny_typeOf hTs ?_)
  rw [if_pos (by decide)]
  refine wpAny_bind (sliceApplied_rev (n := items.size) hs ?_)
  show wpAny _ _ (if (((items.size : Int) - 1 == 0) && ((-1 : Int) == 1) && (items.size == items.size)) = true then _ else _) _ _ s
  rw [if_neg (by rw [show (((-1 : Int)) == 1) = false from rfl, Bool.and_false, Bool.false_and]; exact Bool.false_ne_true), pick_rev]
  first
    | exact wpAny_bind (m := Builtin.Tuple.tupleExact _) (wpAny_newObj_type (wpAny_pure ⟨_, rfl, wpAny_pure h⟩) hfit)
    | exact wpAny_bind (m := Builtin.Tuple.tupleExact _) (wpAny_newObj_type (wpAny_bind (wpAny_pure (wpAny_pure ⟨_, rfl, wpAny_pure h⟩))) hfit)
    | exact wpAny_bind (wpAny_bind (m := Builtin.Tuple.tupleExact _) (wpAny_newObj_type (wpAny_pure (wpAny_pure ⟨_, rfl, wpAny_pure h⟩)) hfit))
    | exact wpAny_bind (wpAny_bind (m := Builtin.Tuple.tupleExact _) (wpAny_newObj_type (wpAny_pure ⟨_, rfl, wpAny_pure h⟩) hfit))
end
section
variable {T : Tab} {N : List Str} {k : Nat} {ev : Ev} {sc : List (Str × NameKind)} {a : Expr} {pos : Pos} {f : FE}
theorem pe_revT {X : Cx} {e : Expr} {te : TE} {kk : Nat} {p1 p2 p3 : Pos} (he : PE X e te) : PE X (.Subscript e (.Slice none none (some (.UnaryOp .USub (.Constant (.int 1) kk p1) p2)) p3) pos)
    (fun σ H Q => te σ H fun x H1 => ∃ a xs, x = .ref a ∧ SqT X.K H1 a xs ∧ ∀ p, H1 p = none → Q (.ref p) (upd H1 p (.tup xs.reverse))) := by
  refine ⟨fun pins s σ H Q I h => ?_⟩
  refine Subscript_ (thn (he.run pins s σ H _ I h) fun v s1 ⟨x, H1, I1, r1, q1⟩ => ?_)
  obtain ⟨a, xs, ex, hx, q⟩ := q1
  subst ex
  cases r1
  refine wpAny_Slice (thn (po_none.run pins s1 σ H1 (fun o H2 => o = none ∧ H2 = H1) I1 ⟨rfl, rfl⟩) fun vl s2 ⟨l, H2, I2, pl, el, e2⟩ => ?_)
  subst el e2
  refine thn (po_none.run pins s2 σ H2 (fun o H3 => o = none ∧ H3 = H2) I2 ⟨rfl, rfl⟩) fun vu s3 ⟨u, H3, I3, pu, eu, e3⟩ => ?_
  subst eu e3
  have one : PO X (some (.UnaryOp .USub (.Constant (.int 1) kk p1) p2)) (tPart (tUn (rU fun i => .int (-i)) (tC (.int 1)))) := po_some (pe_un un_neg pe_int)
  refine thn (one.run pins s3 σ H3 (fun o H4 => o = some (-1) ∧ H4 = H3) I3 ⟨1, rfl, -1, rfl, rfl, rfl⟩) fun vs s4 ⟨o, H4, I4, ps, eo, e4⟩ => ?_
  subst eo e4
  cases pl
  cases pu
  obtain ⟨tk, rfl⟩ : ∃ tk, vs = .int (-1) tk := by cases ps; exact ⟨_, rfl⟩
  have I5 : L2.Inv X pins σ H4 { s4 with heap := s4.heap.push { cls := .type "slice", data := .fields #[.none, .none, .int (-1) tk] } } := I4.kept (t' := s4.toks) fun b ob q => Heap.get?_push_of_some _ q
  obtain ⟨its, r, ht, hz⟩ := I5.tuple hx
  have hlen := r.length
  refine tail_any (ops := [.ref a, .ref s4.heap.objs.size]) ht.typeIs (PyProof.Rows.slot_tuple_getitem.lookup) ?_ (by with_unfolding_all rfl)
  refine getItem_tuple_rev ht (Heap.IsSliceOf.new _ .none .none (.int (-1) tk)) ?_ (by rw [List.size_toArray]; omega)
  refine ⟨.ref _, _, I5.laid (t' := s4.toks) (o := .tup xs.reverse) (fun b ob q => Heap.get?_push_of_some _ q) (Nat.le_refl _) ?_, rfl, q _ (I5.hok.fresh (Nat.le_refl _))⟩
  exact ⟨by rw [List.length_reverse]; exact hz, _, r.reverse, IsTup.new _ _⟩
def pRevT : D → R D
  | .tuple xs => .ok (.tuple xs.reverse)
  | _ => .bad
def pRv : D → R D
  | .list xs => .ok (.list xs.reverse)
  | .tuple xs => .ok (.tuple xs.reverse)
  | _ => .bad
theorem reps_rev {K : PySem.W.Frag} {G : Hp} : ∀ {es : List D} {ws : List V}, Reps K G ws es → Reps K G ws.reverse es.reverse
  | [], _, h => by cases h; exact .nil
  | d :: es, _, h => by
    cases h with
    | cons h t => rw [List.reverse_cons, List.reverse_cons]; exact (reps_rev t).snoc h
theorem sv_rev {kk : Nat} {p1 p2 p3 : Pos} (ha : SV T N k ev sc a f) : SV T N k ev sc (.Subscript a (.Slice none none (some (.UnaryOp .USub (.Constant (.int 1) kk p1) p2)) p3) pos) (e1 pRv f) := by
  have h1 : SV T N k ev sc (.Subscript a (.Slice none none (some (.UnaryOp .USub (.Constant (.int 1) kk p1) p2)) p3) pos) (e1 pRev f) := sv_revL (p4 := p1) ha.b
  have h2 : SV T N k ev sc (.Subscript a (.Slice none none (some (.UnaryOp .USub (.Constant (.int 1) kk p1) p2)) p3) pos) (e1 pRevT f) := fun X W gd =>
    PE.mono (pe_revT (ha X W gd)) fun σ H Q ⟨G, ρ, e1, en, r⟩ => ⟨G, ρ, e1, en, r.seq T fun d v G1 H1 s1 p r1 => by
      cases d with
      | tuple ds =>
        obtain ⟨x, xs, rfl, h1, h2⟩ := p.tuple_inv
        exact ⟨x, xs, rfl, s1.in'.st (.inl (.inl h1)), fun q hq => r1.newT s1.in' hq (reps_rev h2)⟩
      | _ => exact False.elim r1⟩
  exact sv_alt h1 h2 fun ev ρ => by
    unfold e1
    cases f ev ρ with
    | exc _ _ => exact .inl rfl
    | bad => exact .inl rfl
    | ok d => cases d <;> first | exact .inl rfl | exact .inr rfl
end
end PV

/-! PV22: sum of lists, with a list to start with. -/
namespace PV
open PySem L2 PySem.W PyProof.Rows

section
variable {prog : Program} {w : World} {A : Around} {R : Result → Shared → Prop} {I : Addr} {fp wr : List Addr} {G : Array GenState → Array GenState → Prop} {n : Nat} {P : Nat → Value → Prop} {St : Nat → Shared → Prop}
def IsLst (h : Heap) (a : Addr) (xs : List Value) : Prop := ∃ dd c sl, h.get? a = some { cls := .type "list", dict := dd, data := .seq xs.toArray c, slots := sl }
def IsLst0 (h : Heap) (a : Addr) (xs : List Value) : Prop := ∃ c, h.get? a = some { cls := .type "list", data := .seq xs.toArray c }
def joinTo (val : Nat → List Value) : Nat → Nat → List Value
  | _, 0 => []
  | i, k + 1 => val i ++ joinTo val (i + 1) k
theorem sum_loopL (W : WalksS prog w A.in1 I fp wr G n P St) (h0 : Heap) (lo : Nat) (hlo : ∀ i s, St i s → lo ≤ s.heap.objs.size) (val : Nat → List Value) (S : Addr) (hSf : S ∉ fp) (hwl : ∀ i s, St i s → ∀ b ∈ wr, b < s.heap.objs.size)
    (hval : ∀ i v, i < n → P i v → ∃ a, v = .ref a ∧ a ∉ S :: wr ∧ IsLst h0 a (val i)) :
    ∀ (k i : Nat) (s : Shared) (t : Addr) (acc : List Value) (c : Nat), n - i = k → i ≤ n → St i s → s.heap.get? S = some { cls := .type "list", dict := none, data := .seq #[.ref t] c, slots := #[] } → IsLst s.heap t acc → t ∉ S :: wr →
    (∀ b o, b ∉ S :: wr → h0.get? b = some o → s.heap.get? b = some o) → acc.length + (joinTo val i k).length ≤ sizeLine → S < s.heap.objs.size →
    (∀ s' t', Moved (S :: wr) G s s' → IsLst s'.heap t' (acc ++ joinTo val i k) → ((k = 0 ∧ t' = t) ∨ (lo ≤ t' ∧ IsLst0 s'.heap t' (acc ++ joinTo val i k))) → R (.ok (.ret (.ref t'))) s') →
    codeAny (model prog w) A (.builtin "sum.loop" ⟨[.ref I, .ref S, rawInt 2, rawInt 0], []⟩) R s := by
  have hSw : S ∉ wr := fun h => hSf (W.sub _ h)
  have hsub : ∀ b ∈ wr, b ∈ S :: wr := fun b hb => List.mem_cons_of_mem _ hb
  intro k
  induction k with
  | zero =>
    intro i s t acc c hk hi hst hS ht htn h0k hlen hSl hR
    have hin : i = n := by omega
    subst hin
    refine codeAny_builtin F.entry_sum_loop ?_
    rw [Around.under_plainId F.plain_sum_loop _]
    show wpAny _ A.in1 (seqItems? (.ref S) >>= _) _ _ s
    refine wpAny_bind (wpAny_seqItems hS rfl ?_)
    show wpAny _ A.in1 (tryCatch (pyNext (.ref I)) _ >>= _) _ _ s
    refine wpAny_bind (wpAny_tryCatch (W.done s _ _ hst fun s' hm => ?_))
    obtain ⟨dd, cc, sl, ht⟩ := ht
    exact wpAny_pure (hR s' t (hm.mono hsub) ⟨dd, cc, sl, by simpa [joinTo] using hm.heap t _ (fun q => htn (hsub _ q)) ht⟩ (.inl ⟨rfl, rfl⟩))
  | succ k ih =>
    intro i s t acc c hk hi hst hS ht htn h0k hlen hSl hR
    have hlt : i < n := by omega
    refine codeAny_builtin F.entry_sum_loop ?_
    rw [Around.under_plainId F.plain_sum_loop _]
    show wpAny _ A.in1 (seqItems? (.ref S) >>= _) _ _ s
    refine wpAny_bind (wpAny_seqItems hS rfl ?_)
    show wpAny _ A.in1 (tryCatch (pyNext (.ref I)) _ >>= _) _ _ s
    refine wpAny_bind (wpAny_tryCatch (W.item i s _ _ hlt hst fun v s' hP hst' hm => ?_))
    obtain ⟨a, rfl, han, dd2, c2, sl2, ha⟩ := hval i v hlt hP
    obtain ⟨dd, cc, sl, ht⟩ := ht
    have hS' := hm.heap S _ hSw hS
    have ht' := hm.heap t _ (fun q => htn (hsub _ q)) ht
    have ha' := hm.heap a _ (fun q => han (hsub _ q)) (h0k a _ han ha)
    have hj : joinTo val i (k + 1) = val i ++ joinTo val (i + 1) k := rfl
    rw [hj, List.length_append] at hlen
    show wpAny _ A.in1 ((holding [Value.ref a] (binaryOp .Add (.ref t) (.ref a))).attempt >>= _) _ _ _
    refine wpAny_bind (wpAny_attempt (wpAny_holding (concat_meets ⟨_, ht', rfl⟩ ⟨_, ha', rfl⟩ noFill_list_add seq_list_add PySem.F.slot_list_add PySem.F.entry_list_add (PySem.F.args_list_add_2 _ _)
      (PyProof.Rows.list_addW t a acc.toArray (val i).toArray cc c2 dd dd2 sl sl2 (by simp only [List.size_toArray]; omega)) ⟨ht', ha', ?_⟩)))
    have hS2 : (s'.heap.push { cls := Value.type "list", data := Data.seq (acc.toArray ++ (val i).toArray) }).get? S = some { cls := .type "list", dict := none, data := .seq #[.ref t] c, slots := #[] } := Heap.get?_push_of_some _ hS'
    have hT2 : (s'.heap.push { cls := Value.type "list", data := Data.seq (acc.toArray ++ (val i).toArray) }).get? s'.heap.objs.size = some { cls := Value.type "list", data := Data.seq (acc.toArray ++ (val i).toArray) } := Heap.get?_push_size _ rfl
    have hSn : S ≠ s'.heap.objs.size := Nat.ne_of_lt (Heap.lt_size hS')
    have hlo' := hlo _ _ hst'
    show wpAny _ A.in1 (updateSeq S (fun _ => #[.ref s'.heap.objs.size]) >>= _) _ _ _
    refine wpAny_bind (wpAny_updateSeq hS2 rfl ?_)
    have hS3 := Heap.get?_update_self (Obj.mapSeq fun _ => #[Value.ref s'.heap.objs.size]) hS2 rfl
    refine wpAny_bind (wpAny_letGo ?_)
    refine wpAny_bind (wpAny_updateSeq hS3 rfl (wpAny_pure ⟨plainId_quiet F.plain_sum_loop _, ?_⟩))
    have other : ∀ b o, b ≠ S → s'.heap.get? b = some o → _ := fun b o hb e => (Heap.get?_update_other _ (Obj.mapSeq fun _ => #[Value.ref s'.heap.objs.size]) (fun h : S = b => hb h.symm)).trans ((Heap.get?_update_other _ (Obj.mapSeq fun _ => #[Value.ref s'.heap.objs.size]) (fun h : S = b => hb h.symm)).trans (Heap.get?_push_of_some (o := { cls := Value.type "list", data := Data.seq (acc.toArray ++ (val i).toArray) }) e))
    have hnew := (Heap.get?_update_other _ (Obj.mapSeq fun _ => #[Value.ref s'.heap.objs.size]) hSn).trans ((Heap.get?_update_other _ (Obj.mapSeq fun _ => #[Value.ref s'.heap.objs.size]) hSn).trans hT2)
    have hwr : s'.heap.objs.size ∉ wr := fun q => Nat.lt_irrefl _ (hwl _ _ hst' _ q)
    refine ih (i + 1) _ s'.heap.objs.size (acc ++ val i) _ (by omega) hlt (W.frame _ s' _ _ hst' (Nat.le_refl _) fun b hb o e => other b o (fun z => hSf (z ▸ hb)) e) (Heap.get?_update_self _ hS3 rfl) ⟨none, _, _, by simpa using hnew⟩ (fun q => by
      rcases List.mem_cons.mp q with z | z
      · exact hSn z.symm
      · exact hwr z) (fun b o hb e => other b o (fun z => hb (by rw [z]; exact List.mem_cons_self)) (hm.heap b o (fun q => hb (hsub _ q)) (h0k b o hb e))) (by rw [List.length_append]; omega) (Heap.lt_size (Heap.get?_update_self _ hS3 rfl)) fun s'' t'' hm'' ht'' hor => ?_
    refine hR s'' t'' (Moved.trans W.gtrans ((hm.mono hsub).then_heap (Nat.le_refl _) fun b o hb e => other b o (fun z => hb (by rw [z]; exact List.mem_cons_self)) e) hm'') (by rw [hj, ← List.append_assoc]; exact ht'') (.inr ?_)
    rcases hor with ⟨z0, z⟩ | z
    · subst z z0
      refine ⟨hlo', 0, ?_⟩
      have := hm''.heap s'.heap.objs.size _ (fun q => by
        rcases List.mem_cons.mp q with z | z
        · exact hSn z.symm
        · exact hwr z) hnew
      simpa [joinTo] using this
    · rw [hj, ← List.append_assoc]; exact z
end
section
variable {prog : Program} {w : World} {A : Around} {E : Value → Shared → Prop} {s : Shared}
theorem args_sum2 (a b : Value) : argsOk "sum" ⟨[a, b], []⟩ := by unfold argsOk; kernel_rfl
theorem call_sumL {l t : Addr} {vs : Array Value} {acc : List Value} {val : Nat → List Value} {Q : Value → Shared → Prop} (hh : A.handled = none) (hl : s.heap.IsList l vs) (ht : IsLst s.heap t acc) (hn : 0 < vs.size)
    (hval : ∀ i v, vs[i]? = some v → ∃ a, v = .ref a ∧ IsLst s.heap a (val i)) (hlen : acc.length + (joinTo val 0 vs.size).length ≤ sizeLine)
    (hQ : ∀ t' h' tk, s.heap.objs.size ≤ t' → IsLst0 h' t' (acc ++ joinTo val 0 vs.size) → (∀ b o, s.heap.get? b = some o → h'.get? b = some o) → Q (.ref t') { s with heap := h', toks := tk }) :
    wpAny (model prog w) A (call (.builtin "sum") [.ref l, .ref t]) Q E s := by
  obtain ⟨dd, cc, sl, ht⟩ := ht
  refine call_function_tree F.kind_sum F.plain_sum F.entry_sum (args_sum2 _ _) ?_
  unfold Builtin.«sum»
  simp only [List.length_cons, List.length_nil]
  rw [if_neg (by decide)]
  refine wpAny_bind (wpAny_of_eq (show Builtin.Builtins.bindParams "sum" ["start"] 0 ⟨[.ref t], []⟩ = pure [some (.ref t)] from rfl) ?_)
  refine wpAny_bind (iter_listW (A := A.in1) hh hl fun s₂ e W st hfp hnw hk => ?_)
  have ht2 := hk _ _ ht
  have T2 : ∃ o, s₂.heap.get? t = some o ∧ o.cls = .type "list" := ⟨_, ht2, rfl⟩
  refine wpAny_bind (wpAny_pure ?_)
  simp only [List.forIn_cons, List.forIn_nil]
  refine wpAny_bind (wpAny_bind (wpAny_bind (wpAny_isInstance (T := "list") (b := false) T2 PySem.F.sub_list_str ?_)))
  simp only [Bool.false_eq_true, if_false]
  refine wpAny_pure (wpAny_bind (wpAny_bind (wpAny_isInstance (T := "list") (b := false) T2 PySem.F.sub_list_bytes ?_)))
  simp only [Bool.false_eq_true, if_false]
  refine wpAny_pure (wpAny_bind (wpAny_bind (wpAny_isInstance (T := "list") (b := false) T2 PySem.F.sub_list_bytearray ?_)))
  simp only [Bool.false_eq_true, if_false]
  refine wpAny_pure (wpAny_pure ?_)
  refine wpAny_bind (wpAny_newObj_type ?_)
  have hSf : s₂.heap.objs.size ∉ [s.heap.objs.size, l] := fun hm => Nat.lt_irrefl _ (hfp _ hm)
  have old : ∀ b o, s.heap.get? b = some o → b ∉ s₂.heap.objs.size :: [s.heap.objs.size] := fun b o e1 q => by
    rcases List.mem_cons.mp q with z | z
    · exact Nat.lt_irrefl _ (z ▸ Heap.lt_size (hk b o e1))
    · exact hnw b o e1 z
  have keep : ∀ b o, s₂.heap.get? b = some o → (s₂.heap.push { cls := .type "list", data := .seq #[Value.ref t] }).get? b = some o := fun b o e1 => Heap.get?_push_of_some _ e1
  refine wpAny_pure ⟨plainId_quiet F.plain_sum_loop _, sum_loopL W s.heap s.heap.objs.size (fun i s' st' => ?_) val s₂.heap.objs.size hSf (fun i s' st' b hb => ?_) (fun i v hi hv => ?_) vs.size 0 _ t acc 0 (by omega) (Nat.zero_le _)
    (W.frame 0 s₂ _ _ st (Nat.le_refl _) fun b _ o e => keep b o e) (Heap.get?_push_size _ rfl) ⟨dd, cc, sl, keep _ _ ht2⟩ (old _ _ ht) (fun b o _ e1 => keep b o (hk b o e1)) hlen (by show s₂.heap.objs.size < (s₂.heap.push _).objs.size; rw [Heap.size_push]; exact Nat.lt_succ_self _) fun s' t' hm ht' hor => ?_⟩
  · obtain ⟨⟨o, ho, _⟩, _⟩ := st'
    exact Nat.le_of_lt (Heap.lt_size ho)
  · obtain ⟨⟨o, ho, _⟩, _⟩ := st'
    rw [List.mem_singleton.mp hb]
    exact Heap.lt_size ho
  · obtain ⟨a, ea, dd, c, sl, ha⟩ := hval i v hv
    exact ⟨a, ea, old _ _ ha, dd, c, sl, ha⟩
  · subst e
    rcases hor with ⟨z, _⟩ | ⟨z, z2⟩
    · omega
    · have e1 : s' = { s with heap := s'.heap, toks := s'.toks } := by
        obtain ⟨hp, g, d, tk, os⟩ := s'
        have h1 : g = s.gens := hm.gens
        have h2 : d = s.drawn := hm.drawn
        have h3 : os = s.os := hm.os
        subst h1 h2 h3
        rfl
      rw [e1]
      exact hQ t' _ _ z z2 fun b o eb => hm.heap b o (old b o eb) (keep _ _ (hk b o eb))
end
/-! the rule -/
def allL : List D → Option (List (List D))
  | [] => some []
  | .list xs :: r => (allL r).map (xs :: ·)
  | _ => none
def pSum2 : D → D → R D
  | .list ds, .list st => match allL ds with
    | some yss => if yss ≠ [] ∧ st.length + yss.flatten.length ≤ lim then .ok (.list (st ++ yss.flatten)) else .bad
    | none => .bad
  | _, _ => .bad
section
variable {K : PySem.W.Frag} {G H : Hp}
/-- lists in lists -/
inductive Subs (K : PySem.W.Frag) (G : Hp) : List V → List (List V) → List (List D) → Prop
  | nil : Subs K G [] [] []
  | cons {a : Addr} {vs : List V} {xs : List V} {xss : List (List V)} {ds : List D} {dss : List (List D)} : SqL K G a xs → Reps K G xs ds → Subs K G vs xss dss → Subs K G (.ref a :: vs) (xs :: xss) (ds :: dss)
theorem subs_of : ∀ {ds : List D} {vs : List V} {yss : List (List D)}, Reps K G vs ds → allL ds = some yss → ∃ xss, Subs K G vs xss yss
  | [], _, _, h, e => by cases h; cases e; exact ⟨[], .nil⟩
  | .list i :: r, _, ns, h, e => by
    cases h with
    | cons h1 h2 =>
      obtain ⟨a, xs, rfl, h3, h4⟩ := h1.list_inv
      cases q : allL r with
      | none => rw [allL, q] at e; cases e
      | some l =>
        rw [allL, q] at e
        cases e
        obtain ⟨xss, hs⟩ := subs_of h2 q
        exact ⟨xs :: xss, .cons h3 h4 hs⟩
  | .none :: _, _, _, _, e => by cases e
  | .bool _ :: _, _, _, _, e => by cases e
  | .str _ :: _, _, _, _, e => by cases e
  | .int _ :: _, _, _, _, e => by cases e
  | .tuple _ :: _, _, _, _, e => by cases e
  | .dict _ :: _, _, _, _, e => by cases e
theorem Subs.reps {vs : List V} {xss : List (List V)} {yss : List (List D)} (h : Subs K G vs xss yss) : Reps K G xss.flatten yss.flatten := by
  induction h with
  | nil => exact .nil
  | cons _ h2 _ ih => rw [List.flatten_cons, List.flatten_cons]; exact h2.append ih
theorem Subs.len {vs : List V} {xss : List (List V)} {yss : List (List D)} (h : Subs K G vs xss yss) : vs.length = yss.length := by
  induction h with
  | nil => rfl
  | cons _ _ _ ih => rw [List.length_cons, List.length_cons, ih]
theorem joinTo_shift (val : Nat → List Value) (f : Nat → List Value) (hf : ∀ i, f (i + 1) = val i) : ∀ (k i : Nat), joinTo f (i + 1) k = joinTo val i k
  | 0, _ => rfl
  | k + 1, i => by
    show f (i + 1) ++ joinTo f (i + 1 + 1) k = val i ++ joinTo val (i + 1) k
    rw [hf, joinTo_shift val f hf k (i + 1)]
theorem subs_raw {X : Cx} {pins : List (Addr × Obj)} {σ : L2.St} {s : Shared} (I : L2.Inv X pins σ H s) (e : Ex G H) {vs : List V} {xss : List (List V)} {yss : List (List D)} (h : Subs X.K G vs xss yss) : ∀ {us : List Value}, Vals vs us →
    ∃ val : Nat → List Value, (∀ i v, us[i]? = some v → ∃ a, v = .ref a ∧ IsLst s.heap a (val i)) ∧ Vals xss.flatten (joinTo val 0 us.length) := by
  induction h with
  | nil => intro us r; cases r; exact ⟨fun _ => [], fun i v h => by simp at h, .nil⟩
  | @cons a vs xs xss ds dss h1 h2 h3 ih =>
    intro us r
    cases r with
    | @cons _ u _ us r1 r2 =>
      obtain ⟨val, p1, p2⟩ := ih r2
      obtain rfl : u = .ref a := r1
      obtain ⟨its, rv, ⟨o, n, ho, hc, hd, hs⟩, _⟩ := I.list (e.sl h1)
      refine ⟨fun i => match i with | 0 => its | i + 1 => val i, fun i v hv => ?_, ?_⟩
      · cases i with
        | zero =>
          obtain ⟨cls, dd', data, sl'⟩ := o
          obtain rfl : cls = _ := hc
          obtain rfl : data = _ := hs
          cases hv
          exact ⟨a, rfl, dd', n, sl', ho⟩
        | succ i => exact p1 i v (by simpa using hv)
      · rw [List.flatten_cons, List.length_cons]
        show Vals _ (its ++ joinTo _ (0 + 1) us.length)
        rw [joinTo_shift val _ (fun _ => rfl)]
        exact rv.append p2
end
section
variable {T : Tab}
theorem ca_sum2 : CaOk T (.builtin "sum") (b2 pSum2) := ⟨fun X W N k ev sc gd pins s σ H xs us Q I r ⟨G, ds, e, p, h⟩ => by
  obtain ⟨x, y, d, d2, rfl, rfl, px, py, h⟩ := b2_inv p h
  obtain ⟨u, u2, rfl, ru, ru2⟩ := vals2 r
  cases d with
  | list ds =>
    cases d2 with
    | list st =>
      obtain ⟨a, vs, rfl, h1, h2⟩ := px.list_inv e
      obtain ⟨b, ws, rfl, h3, h4⟩ := py.list_inv e
      obtain rfl : u = .ref a := ru
      obtain rfl : u2 = .ref b := ru2
      simp only [pSum2] at h
      cases q : allL ds with
      | none => rw [q] at h; exact False.elim h
      | some yss =>
        rw [q] at h
        simp only at h
        split at h
        · rename_i hz
          obtain ⟨xss, sb⟩ := subs_of h2 q
          obtain ⟨its, rv, hl, _⟩ := I.list h1
          obtain ⟨its2, rv2, ⟨o, n, ho, hc, hd, hs⟩, _⟩ := I.list h3
          obtain ⟨val, p1, p2⟩ := subs_raw I e sb rv
          have hne : 0 < its.length := by
            rw [← rv.length, sb.len]
            exact List.length_pos_iff.mpr hz.1
          have l1 := rv2.length
          have l2 := p2.length
          have l3 := sb.reps.length
          have l4 := h4.length
          have hlen : its2.length + (joinTo val 0 its.length).length ≤ sizeLine := by
            rw [sizeLine_eq]
            have := hz.2
            have hl : lim = 16777216 := rfl
            omega
          obtain ⟨cls, dd, data, sl⟩ := o
          obtain rfl : cls = _ := hc
          obtain rfl : data = _ := hs
          refine call_sumL (I.ok.hd gd.calm) hl.isList ⟨dd, n, sl, ho⟩ (by simpa using hne) (fun i v hv => p1 i v (by simpa using hv)) (by simpa using hlen) fun t' h' tk hsz hl' hk => ?_
          obtain ⟨c', hl'⟩ := hl'
          have hfr : H t' = none := I.hok.fresh hsz
          refine ⟨.ref t', _, I.laid (t' := tk) (a := t') (o := .lst (ws ++ xss.flatten)) hk hsz ⟨?_, its2 ++ joinTo val 0 its.length, c', rv2.append p2, ?_⟩, rfl, h.new e hfr (h4.append sb.reps)⟩
          · rw [List.length_append, rv2.length, p2.length]; exact hlen
          · exact hl'
        · exact False.elim h
    | _ => exact False.elim h
  | _ => exact False.elim h⟩
end
end PV

/-! PV23: dict comprehensions, keys of any kind. -/
namespace PV
open PySem L2 PySem.Spec PyProof.Rows

section
variable {X : Cx} {pins : List (Addr × Obj)} {σ : L2.St} {H : Hp} {s : Shared} {E : Value → Shared → Prop} {D : Addr} {y v : V} {u r : Value}
theorem d_dictSetP {H' : Hp} {Q : Unit → Shared → Prop} (hu : X.A.units + 1 < cLine) (I : L2.Inv X pins σ H s) (g : DPut H D y v H') (ry : RelV y u) (rv : RelV v r) (h : ∀ s', L2.Inv X pins σ H' s' → Q () s') :
    wpAny (model X.prog X.w) X.A (dictSet D u r) Q E s := by
  rcases g with ⟨kvs, k, e, ey, l, eH⟩ | ⟨kvs, k, b, e, ey, eb, l, eH⟩
  · subst ey eH
    exact d_dictSet I e l ry rv h
  · subst ey eH
    obtain rfl : u = .ref b := ry
    obtain ⟨z, hd, xs, rel, dd⟩ := dt_of I.hok e
    have lx : xs.length ≤ sizeLine := by rw [← Paired.length rel]; exact z
    have lp : (putK kvs k v).length ≤ sizeLine := by have := length_putK kvs k v; omega
    refine wpAny_dictSet_heap (hsz := lx) (knd := tupleKind (mixKind X.prog X.w)) (show X.A.units < cLine by omega) (key_of I.hok eb) dd fun h1 d1 sb => h _ ?_
    obtain ⟨q, es, ep, hq, p2, p3, p4, _, p5⟩ := d1
    refine d_write I (by rw [e]; exact True.intro) sb ⟨q, hq⟩ ⟨lp, hd, _, (rel.put k eb rv).keeps fun c ys ec => ?_, q, es, ep, hq, p2, p3, p4, p5⟩
    rw [upd_ne (ne_of ec e (fun z => nomatch z))]
    exact ec
theorem d_dictSetG {H' : Hp} {Q : Unit → Shared → Prop} (hu : X.A.units + 1 < cLine) (I : L2.Inv X pins σ H s) (g : DPt H D y v H') (ry : RelV y u) (rv : RelV v r) (h : ∀ s', L2.Inv X pins σ H' s' → Q () s') :
    wpAny (model X.prog X.w) X.A (dictSet D u r) Q E s := by
  rcases g with g | ⟨o1, o2, h1, q, g⟩
  · exact d_dictSetP hu I g ry rv h
  · exact d_dictSetP hu (Inv.fl I h1 q) g ry rv h
end
section
variable {X : Cx}
def tDcG (wi : TI) (g : TG) (tt : TT) (tk tv : TE) (vs : List Nat) : TE := fun σ H Q => wi σ H fun J Ha => ∀ D, Ha D = none → ∃ W : Nat → Nat → Hp → Prop, (∃ m, W 0 m (upd Ha D (.dK []))) ∧ ∀ i m Hb, W i m Hb →
  (J.stop i Hb ∧ Q (.ref D) Hb) ∨ (J.go i Hb ∧ ∃ Nx : Hp → Prop, (∀ Hc, Nx Hc → ∃ m', m' < m ∧ W (i + 1) m' Hc) ∧ ∀ x Hc, J.yld i Hb x Hc → g x (L2.wipe σ vs) Hc fun σ2 Hd => L2.wipe σ2 vs = L2.wipe σ vs ∧ tt σ2 Hd fun b He =>
    if b = true then tk σ2 He fun y Hf => tv σ2 Hf fun z Hg => ∃ u, DPt Hg D y z (upd Hg D u) ∧ Nx (upd Hg D u) else Nx He)
theorem dc_runG {kx vx tg iter : Expr} {ifs : List Expr} {scope : Scope} {own : List (Str × Nat)} {pos : Pos} {wi : TI} {g : TG} {tt : TT} {tk tv : TE} (hu : X.A.units + 1 < cLine) (hc : X.calm = true) (hN : X.N.Nodup) (hi : PI X tg iter wi) (ok : BlkOk X.N X.env.scope scope own)
    (hg : ∀ (s : Shared) (H : Hp) (C : Addr) (cl : List (Str × Addr)) (fp : List Addr), PG (X.blk s H scope (compEnvC scope cl C X.env) fp) tg g) (ht : ∀ (s : Shared) (H : Hp) (C : Addr) (cl : List (Str × Addr)) (fp : List Addr), PTs (X.blk s H scope (compEnvC scope cl C X.env) fp) ifs tt)
    (hk : ∀ (s : Shared) (H : Hp) (C : Addr) (cl : List (Str × Addr)) (fp : List Addr), PE (X.blk s H scope (compEnvC scope cl C X.env) fp) kx tk)
    (he : ∀ (s : Shared) (H : Hp) (C : Addr) (cl : List (Str × Addr)) (fp : List Addr), PE (X.blk s H scope (compEnvC scope cl C X.env) fp) vx tv) (hs : ∀ x, foldedSetIterable iter X.env x = pure x) :
    PE X (.DictComp kx vx [⟨tg, iter, ifs, 0⟩] scope pos) (tDcG wi g tt tk tv (own.map (·.2))) := by
  refine ⟨fun pins s σ H Q I h => ?_⟩
  rw [arm_eval_DictComp]
  have cellsThere : ∀ y ∈ scope.names, y.2 = .free → ∃ c, X.env.cells.lookup y.1 = some c := fun y hy e => (ok.free y hy e).elim (fun k => I.ok.has _ (.inl k)) fun k => I.ok.has _ (.inr k)
  refine wpAny_comprehension_free (use := none) rfl hs (closure_ok cellsThere) ok.kind (fun y hy e => by rw [ok.uniq y hy, e])
    (thn (hi.run pins s σ H _ I h) fun xv s1 hx => thn hx fun itv s2 h2 => ?_)
  obtain ⟨it, fp, tn, J, H2, e, I2, T, st2, f2, q⟩ := h2
  subst e
  refine wpAny_newObj_type (newEnv_comp ?_)
  generalize hD : s2.heap.objs.size = D
  obtain ⟨W, ⟨m0, w0⟩, turn⟩ := q D (I2.hok.fresh (Nat.le_of_eq hD))
  generalize hs3 : ({ s2 with heap := s2.heap.push { cls := .type "dict", data := .dict #[] } } : Shared) = s3
  have I3 : L2.Inv X pins σ (upd H2 D (.dK [])) s3 := by
    subst hs3
    refine I2.laid (t' := s2.toks) (fun b o e => Heap.get?_push_of_some _ e) (Nat.le_of_eq hD) ?_
    subst hD
    exact dk_empty s2.heap I2.big
  have p3 : s3.heap = s2.heap.push { cls := .type "dict", data := .dict #[] } := by subst hs3; rfl
  have f3 : ∀ b ∈ fp, FpOk X pins (upd H2 D (.dK [])) b ∧ b < s3.heap.objs.size := fun b hb => by
    obtain ⟨o, eo, _⟩ := T.obj _ _ st2 b hb
    have hlt := Heap.lt_size eo
    refine ⟨⟨?_, (f2 b hb).2⟩, by rw [p3, Heap.size_push]; exact Nat.lt_succ_of_lt hlt⟩
    rw [upd_ne (by rw [← hD]; exact Nat.ne_of_lt hlt)]
    exact (f2 b hb).1
  have st3 : tn 0 s3.heap := T.keep _ _ _ st2 fun b _ o e => by rw [p3]; exact Heap.get?_push_of_some _ e
  have I4 := block_start I3 ok hN f3
  have pg := hg s3 (upd H2 D (.dK [])) s3.heap.objs.size (cellsFrom (s3.heap.objs.size + 1) scope.names (cloFrom X.env.cells scope.names [])) fp
  have pt := ht s3 (upd H2 D (.dK [])) s3.heap.objs.size (cellsFrom (s3.heap.objs.size + 1) scope.names (cloFrom X.env.cells scope.names [])) fp
  have pk := hk s3 (upd H2 D (.dK [])) s3.heap.objs.size (cellsFrom (s3.heap.objs.size + 1) scope.names (cloFrom X.env.cells scope.names [])) fp
  have pe := he s3 (upd H2 D (.dK [])) s3.heap.objs.size (cellsFrom (s3.heap.objs.size + 1) scope.names (cloFrom X.env.cells scope.names [])) fp
  show codeAny _ _ (.compStart (.DictComp kx vx [⟨tg, iter, ifs, 0⟩] scope pos) 0 (.ref it) (.ref D) (compEnvC scope (cellsFrom (s3.heap.objs.size + 1) scope.names (cloFrom X.env.cells scope.names [])) s3.heap.objs.size X.env)) (compPost (model X.prog X.w) X.A X.xe none (EP X pins σ Q) (.ref D) s3.heap.objs.size) { s3 with heap := pushCells (s3.heap.push { cls := .type "dict", data := .dict #[] }) scope.names }
  have nfp : ∀ b ∈ fp, (upd H2 D (.dK [])) b = none := fun b hb => (f3 b hb).1.1
  generalize hce : compEnvC scope (cellsFrom (s3.heap.objs.size + 1) scope.names (cloFrom X.env.cells scope.names [])) s3.heap.objs.size X.env = ce at I4 pg pt pk pe ⊢
  have cL : ce.locals = s3.heap.objs.size := by subst hce; rfl
  generalize hH3 : upd H2 D (.dK []) = H3 at I3 I4 pg pt pk pe w0 nfp f3
  generalize hs4 : ({ s3 with heap := pushCells (s3.heap.push { cls := .type "dict", data := .dict #[] }) scope.names } : Shared) = s4 at I4 ⊢
  have st4 : tn 0 s4.heap := T.keep _ _ _ st3 fun b _ o e => by rw [← hs4]; exact pushCells_keeps _ _ _ _ (Heap.get?_push_of_some _ e)
  have stat : ∀ {σ' : L2.St} {H' : Hp} {s' : Shared}, L2.Inv (X.blk s3 H3 scope ce fp) [] σ' H' s' → (∀ b ∈ fp, H' b = none) → ∀ b ∈ fp, FpOk (X.blk s3 H3 scope ce fp) [] H' b := fun {σ' H' s'} I' hn b hb =>
    ⟨hn b hb, (I'.ok.exf b hb).1, I'.ok.exfs b hb, .inl hb, fun x c e => (I'.ok.exf b hb).2 x c e, fun p hp => absurd (show p ∈ ([] : List (Addr × Obj)) ++ [] from hp) (by simp)⟩
  have loop : codeAny (model X.prog X.w) X.A (.compLoop (.DictComp kx vx [⟨tg, iter, ifs, 0⟩] scope pos) 0 (.ref it) (.ref D) ce) (compPost (model X.prog X.w) X.A X.xe none (EP X pins σ Q) (.ref D) s3.heap.objs.size) s4 := by
    refine compLoop_anyD (fun n s' => ∃ i H', L2.Inv (X.blk s3 H3 scope ce fp) [] (L2.wipe σ (own.map (·.2))) H' s' ∧ tn i s'.heap ∧ (∀ b ∈ fp, H' b = none) ∧ W i n H') ?_ m0 ⟨0, H3, I4, st4, nfp, w0⟩
    rintro n s5 ⟨i, H5, I5, st5, n5, w5⟩
    rcases turn i n H5 w5 with ⟨stop, qq⟩ | ⟨go, Nx, hNx, step⟩
    · refine thnF (T.done (X.blk s3 H3 scope ce fp) rfl rfl rfl hc i [] s5 _ H5 (fun _ _ => False) I5 (stat I5 n5) st5 stop) fun r s6 ⟨hr, I6⟩ => ?_
      subst hr
      have I7 : L2.Inv X pins σ H5 s6 := I3.call' (ch := fp) I6.os I6.base I6.hok I6.bare fun b hb => ⟨(f3 b hb).1.2.2.2.1, (f3 b hb).1.2.1, (f3 b hb).1.2.2.2.2.1, (f3 b hb).1.2.2.2.2.2⟩
      have nC : H5 s3.heap.objs.size = none := by
        have z : H5 ce.locals = none := I6.free
        rw [cL] at z
        exact z
      obtain ⟨m, hn, _⟩ := I6.loc
      have hn : s6.heap.Ns ce.locals m := hn
      rw [cL] at hn
      obtain ⟨c0, c1, c2, c3, c4, c5⟩ := I3.fpOk (Nat.le_refl _) nC
      exact ⟨m, hn, fun h'' sb => ⟨.ref D, H5, I7.turned (t' := s6.toks) (fun b o hb e => (sb.2 b hb).trans e) nC c1 c3 c4 c5, rfl, qq⟩⟩
    · refine thnF (T.item (X.blk s3 H3 scope ce fp) rfl rfl rfl hc i [] s5 _ H5 (fun _ _ => False) I5 (stat I5 n5) st5 go) fun r s6 ⟨u, hr, h6⟩ => ?_
      subst hr
      refine thnF h6 fun _ s7 ⟨x, H7, I7, r7, y7, st7, n7⟩ => ?_
      refine thnF (pg.run _ s7 _ H7 x u _ (I7.pinned (stat I7 n7) (T.obj _ _ st7)) r7 (step x H7 y7)) fun _ s8 ⟨σ8, H8, I8, hw8, q8⟩ => ?_
      refine thnF (pt.run _ s8 σ8 H8 _ I8 q8) fun b s9 ⟨H9, I9, q9⟩ => ?_
      have fin : ∀ {s' : Shared} {H' : Hp}, L2.Inv (X.blk s3 H3 scope ce fp) ([] ++ pinsAt fp s7.heap) σ8 H' s' → Nx H' → ∃ m, m < n ∧ ∃ i H', L2.Inv (X.blk s3 H3 scope ce fp) [] (L2.wipe σ (own.map (·.2))) H' s' ∧ tn i s'.heap ∧ (∀ b ∈ fp, H' b = none) ∧ W i m H' := fun {s' H'} I' nx => by
        obtain ⟨m', hm, w'⟩ := hNx H' nx
        have pin' : ∀ b ∈ fp, ∀ o, s7.heap.get? b = some o → s'.heap.get? b = some o ∧ H' b = none := fun b hb o e =>
          let z := I'.pin (b, o) (List.mem_append_right _ (List.mem_append_right _ (mem_pinsAt hb e)))
          ⟨z.1, z.2.1⟩
        refine ⟨m', hm, i + 1, H', (I'.unpinned (pins := [])).weak (by rw [← hw8, wipe_length]) (fun j v e => ?_), T.keep _ _ _ st7 fun b hb o e => (pin' b hb o e).1, fun b hb => ?_, w'⟩
        · rw [← hw8] at e
          exact (wipe_some e).1
        · obtain ⟨o, e, _⟩ := T.obj _ _ st7 b hb
          exact (pin' b hb o e).2
      cases b with
      | false =>
        simp only [Bool.false_eq_true, if_false] at q9 ⊢
        exact fin I9 q9
      | true =>
        simp only [if_true] at q9 ⊢
        refine thnF (pk.run _ s9 σ8 H9 _ I9 q9) fun z sa ⟨yk, Ha, Ia, ra, qa⟩ => ?_
        refine thnF (pe.run _ sa σ8 Ha _ Ia qa) fun z2 sb ⟨yv, Hb, Ib, rb, u, hput, nx⟩ => ?_
        exact d_dictSetG (X := X.blk s3 H3 scope ce fp) hu Ib hput ra rb fun sc Ic => fin Ic nx
  exact codeAny_compStart_dict loop (T.self X.A 0 _ _ _ st4 loop)
end
/-! the plain words -/
def dcL (t : Tg) (c : Rho → R Bool) (fk fv : Rho → R D) (ρ : Rho) : List (D × D) → List D → R (List (D × D))
  | acc, [] => .ok acc
  | acc, d :: ds => match bindT t d ρ with
    | none => .bad
    | some ρ1 => (noX (c ρ1)).bind fun b => if b = true then (noX (fk ρ1)).bind fun y => (noX (fv ρ1)).bind fun z => if acc.length < lim ∧ keyOk acc y = true then dcL t c fk fv ρ (dPut acc y z) ds else .bad else dcL t c fk fv ρ acc ds
def eDc (vs : List Nat) (t : Tg) (it : FL) (c : FT) (fk fv : FE) : FE := fun ev ρ => (it ev ρ).bind fun ds => (dcL t (c ev) (fk ev) (fv ev) (wipeR ρ vs) [] ds).bind fun ys => .ok (.dict ys)
theorem dcL_noexc {t : Tg} {c : Rho → R Bool} {fk fv : Rho → R D} {ρ : Rho} : ∀ {ds : List D} {acc : List (D × D)} {k : Nat} {z : D}, dcL t c fk fv ρ acc ds ≠ .exc k z
  | [], _, _, _ => fun h => by cases h
  | d :: ds, acc, k, z => fun h => by
    unfold dcL at h
    cases q : bindT t d ρ with
    | none => rw [q] at h; cases h
    | some ρ1 =>
      rw [q] at h
      simp only at h
      cases q2 : c ρ1 with
      | exc _ _ => rw [q2] at h; cases h
      | bad => rw [q2] at h; cases h
      | ok b =>
        rw [q2] at h
        cases b with
        | false => exact dcL_noexc (ds := ds) h
        | true =>
          cases q3 : fk ρ1 with
          | exc _ _ => rw [q3] at h; cases h
          | bad => rw [q3] at h; cases h
          | ok y =>
            rw [q3] at h
            cases q4 : fv ρ1 with
            | exc _ _ => rw [q4] at h; cases h
            | bad => rw [q4] at h; cases h
            | ok z' =>
              rw [q4] at h
              simp only [noX, R.bind_ok, if_true] at h
              split at h
              · exact dcL_noexc (ds := ds) h
              · cases h
theorem dcL_turn {t : Tg} {c : Rho → R Bool} {fk fv : Rho → R D} {ρ : Rho} {d : D} {ds : List D} {acc ys : List (D × D)} (h : dcL t c fk fv ρ acc (d :: ds) = .ok ys) : ∃ ρ1, bindT t d ρ = some ρ1 ∧
    ((c ρ1 = .ok false ∧ dcL t c fk fv ρ acc ds = .ok ys) ∨ ∃ y z, c ρ1 = .ok true ∧ fk ρ1 = .ok y ∧ fv ρ1 = .ok z ∧ acc.length < lim ∧ keyOk acc y = true ∧ dcL t c fk fv ρ (dPut acc y z) ds = .ok ys) := by
  unfold dcL at h
  cases q : bindT t d ρ with
  | none => rw [q] at h; cases h
  | some ρ1 =>
    rw [q] at h
    refine ⟨ρ1, rfl, ?_⟩
    simp only at h
    cases q2 : c ρ1 with
    | exc _ _ => rw [q2] at h; cases h
    | bad => rw [q2] at h; cases h
    | ok b =>
      rw [q2] at h
      cases b with
      | false => exact .inl ⟨rfl, h⟩
      | true =>
        cases q3 : fk ρ1 with
        | exc _ _ => rw [q3] at h; cases h
        | bad => rw [q3] at h; cases h
        | ok y =>
          rw [q3] at h
          cases q4 : fv ρ1 with
          | exc _ _ => rw [q4] at h; cases h
          | bad => rw [q4] at h; cases h
          | ok z =>
            rw [q4] at h
            simp only [noX, R.bind_ok, if_true] at h
            split at h
            · rename_i hz
              exact .inr ⟨y, z, rfl, rfl, rfl, hz.1, hz.2, h⟩
            · cases h
section
variable {T : Tab} {N : List Str} {k : Nat} {ev : Ev} {sc sc2 : List (Str × NameKind)} {kx vx tgE iter : Expr} {ifs : List Expr} {scope : Scope} {own : List (Str × Nat)} {pos : Pos} {it : FL} {c : FT} {fk fv : FE} {t : Tg}
def DOb (K : PySem.W.Frag) (G : Hp) (u : HO) (acc : List (D × D)) : Prop := (∃ vs, u = .dK vs ∧ (vs.map (·.1)).Nodup ∧ RepK K G vs acc) ∨ ∃ vs, u = .dT vs ∧ (vs.map (·.1)).Nodup ∧ RepT K G vs acc
theorem DOb.up {K : PySem.W.Frag} {G G' : Hp} {u : HO} {acc : List (D × D)} (e : Ex G G') (h : DOb K G u acc) : DOb K G' u acc := by
  rcases h with ⟨vs, a, b, c⟩ | ⟨vs, a, b, c⟩
  · exact .inl ⟨vs, a, b, c.up e⟩
  · exact .inr ⟨vs, a, b, c.up e⟩
theorem DOb.notTup {K : PySem.W.Frag} {G : Hp} {u : HO} {acc : List (D × D)} (h : DOb K G u acc) {xs : List V} : u ≠ .tup xs := by
  rcases h with ⟨vs, a, _⟩ | ⟨vs, a, _⟩ <;> subst a <;> exact fun z => nomatch z
theorem rd_dc {X : Cx} {W : XK} {σ : L2.St} {H : Hp} {Q : VK} (hsub : ∀ i ∈ t.ix, i ∈ own.map (·.2)) (hh : rdF T X.K X.mg W (eDc (own.map (·.2)) t it c fk fv ev) σ H Q) :
    tDcG (rdI T X.K X.mg W (it ev)) (rdG X.K t) (rd T X.K X.mg (fun _ _ _ => False) (c ev) pT) (rd T X.K X.mg (fun _ _ _ => False) (fk ev) (pV X.K)) (rd T X.K X.mg (fun _ _ _ => False) (fv ev) (pV X.K)) (own.map (·.2)) σ H Q := by
  obtain ⟨G, ρ, e1, en, r⟩ := hh
  refine ⟨G, ρ, e1, en, r.seq T fun ds J G1 H1 s1 pJ r1 => fun Da hDa => ?_⟩
  cases qq : dcL t (c ev) (fk ev) (fv ev) (wipeR ρ (own.map (·.2))) [] ds with
  | exc k z => exact (dcL_noexc qq).elim
  | bad => rw [qq] at r1; exact False.elim r1
  | ok ys =>
    rw [qq] at r1
    have r1 : ResG T X.K X.mg W G1 H1 (.ok (.dict ys)) (pF X.K H) Q := r1
    have gDa : G1 Da = none := s1.in'.none hDa
    have enW := (en.up e1 s1).wipe (own.map (·.2))
    refine ⟨fun i m H2 => m = ds.length - i ∧ ∃ G2 u acc, Step G1 H1 G2 H2 ∧ H2 Da = some u ∧ G2 Da = none ∧ DOb X.K G2 u acc ∧ dcL t (c ev) (fk ev) (fv ev) (wipeR ρ (own.map (·.2))) acc (ds.drop i) = .ok ys,
      ⟨ds.length, rfl, G1, .dK [], [], Step.loose s1.in' hDa, upd_same, gDa, .inl ⟨[], rfl, .nil, .nil⟩, qq⟩, ?_⟩
    rintro i m H2 ⟨rfl, G2, u, acc, s2, h1, h2, h3, h4⟩
    obtain ⟨go, stop⟩ := pJ i G2 H2 s2.g s2.in'
    by_cases hl : i < ds.length
    · rw [List.drop_eq_getElem_cons hl] at h4
      obtain ⟨j1, j2⟩ := go ds[i] (List.getElem?_eq_getElem hl)
      obtain ⟨ρ1, hb, alt⟩ := dcL_turn h4
      refine .inr ⟨j1, fun H3 => ∃ G3 u acc, Step G1 H1 G3 H3 ∧ H3 Da = some u ∧ G3 Da = none ∧ DOb X.K G3 u acc ∧ dcL t (c ev) (fk ev) (fv ev) (wipeR ρ (own.map (·.2))) acc (ds.drop (i + 1)) = .ok ys,
        fun H' hN => ⟨ds.length - (i + 1), by omega, rfl, hN⟩, fun x H3 y => ?_⟩
      obtain ⟨G3, s3, p3⟩ := j2 x H3 y
      have keep : ∀ {G4 H4 : Hp}, Step G2 H2 G4 H4 → H4 Da = some u ∧ G4 Da = none := fun {G4 H4} s => by
        refine ⟨s.h _ _ h1, ?_⟩
        cases q : G4 Da with
        | none => rfl
        | some o =>
          rcases s.new Da (by rw [q]; exact fun z => nomatch z) with w | w | ⟨_, w⟩
          · exact absurd h2 w
          · rw [h1] at w; cases w
          · rw [h1] at w; exact (h3.notTup (Option.some.inj w)).elim
      have en3 := (enW.up s1.in' s2).up s2.in' s3
      refine ⟨G3, wipeR ρ (own.map (·.2)), ρ1, ds[i], s3.in', en3, p3, hb, fun σ2 en4 fr _ => ?_⟩
      have hlen : σ2.length = σ.length := by
        have a1 := en4.len
        have a2 := bindT_len hb
        have a3 := enW.len
        rw [L2.wipe_length] at a3
        omega
      refine ⟨wipe_same hlen fun j hj => fr j fun z => hj (hsub j z), ?_⟩
      refine ⟨G3, ρ1, s3.in', en4, ?_⟩
      rcases alt with ⟨c1, c2⟩ | ⟨y, w, c1, c2, c3, c4, c5, c6⟩
      · rw [c1]
        intro b G4 H4 s4 pb
        have pb : false = b := pb
        subst pb
        rw [if_neg Bool.false_ne_true]
        obtain ⟨k1, k2⟩ := keep (s3.trans s4)
        exact ⟨G4, u, acc, (s2.trans s3).trans s4, k1, k2, (h3.up s3.g).up s4.g, c2⟩
      · rw [c1]
        intro b G4 H4 s4 pb
        have pb : true = b := pb
        subst pb
        rw [if_pos rfl]
        refine ⟨G4, ρ1, s4.in', en4.up s3.in' s4, ?_⟩
        rw [c2]
        intro vy G5 H5 s5 py
        refine ⟨G5, ρ1, s5.in', (en4.up s3.in' s4).up s4.in' s5, ?_⟩
        rw [c3]
        intro vz G6 H6 s6 pz
        obtain ⟨k1, k2⟩ := keep (((s3.trans s4).trans s5).trans s6)
        have o6 := (((h3.up s3.g).up s4.g).up s5.g).up s6.g
        obtain ⟨u', d1, d2⟩ := dpt_of (H := H6) (a := Da) s6.in' c4 c5 (py.up s6.g) pz (by
          rcases o6 with ⟨vs, z1, z2, z3⟩ | ⟨vs, z1, z2, z3⟩
          · exact .inl ⟨vs, by rw [k1, z1], z2, z3⟩
          · exact .inr ⟨vs, by rw [k1, z1], z2, z3⟩)
        exact ⟨u', d1, G6, u', _, ((((s2.trans s3).trans s4).trans s5).trans s6).mut k2 hDa, upd_same, k2, d2, c6⟩
    · rw [List.drop_eq_nil_of_le (by omega)] at h4
      have : acc = ys := R.ok.inj h4
      subst this
      refine .inl ⟨stop (by omega), r1 _ G2 H2 s2 ⟨?_, fun a z => by cases z; exact s1.h.none hDa⟩⟩
      rcases h3 with ⟨vs, z1, z2, z3⟩ | ⟨vs, z1, z2, z3⟩
      · exact .dK (by rw [h1, z1]) h2 z2 z3
      · exact .dT (by rw [h1, z1]) h2 z2 z3
theorem sf_dc (hb : blkC N (scOf sc) scope own = true) (hr : relN scope.names sc = sc2) (hi : SI T N k ev sc tgE iter it) (hg : SG N sc2 (fun x => scope.names.lookup x == some .cell) tgE t) (hc : SC T N k ev sc2 ifs c)
    (hk : SV T N k ev sc2 kx fk) (he : SV T N k ev sc2 vx fv) (hsub : ∀ i ∈ t.ix, i ∈ own.map (·.2)) (hf : NoFold iter = true) : SF T N k ev sc (.DictComp kx vx [⟨tgE, iter, ifs, 0⟩] scope pos) (eDc (own.map (·.2)) t it c fk fv) := fun X W gd => by
  subst hr
  have ok := blk_of gd hb
  have hu : X.A.units + 1 < cLine := by have := gd.hu65; omega
  exact PE.mono (dc_runG (tk := rd T X.K X.mg (fun _ _ _ => False) (fk ev) (pV X.K)) (tv := rd T X.K X.mg (fun _ _ _ => False) (fv ev) (pV X.K)) (tt := rd T X.K X.mg (fun _ _ _ => False) (c ev) pT) (g := rdG X.K t) hu gd.calm (by rw [gd.hN]; exact gd.nd) (hi X W gd) ok (fun s H C cl fp => hg _ (gd.blkG s H C cl fp)) (fun s H C cl fp => hc.pts (gd.blk ok.kind s H C cl fp)) (fun s H C cl fp => hk _ _ (gd.blk ok.kind s H C cl fp)) (fun s H C cl fp => he _ _ (gd.blk ok.kind s H C cl fp)) (noFold hf _)) fun σ H Q hh => rd_dc hsub hh
end
end PV

/-! PV24: sets of tuples of ints and texts. -/
namespace PV
open PySem L2 PySem.Spec PyProof.Rows
abbrev thash (P : Program) (w : World) (k : List L2.Key) : Int := tupleKeyHash (mixKind P w) k
abbrev IsT (P : Program) (w : World) (h : Heap) (k : List L2.Key) (a : Addr) : Prop := IsTupleKey (mixKind P w) h k a
section
variable {P : Program} {w : World} {A : Around} {E : Value → Shared → Prop} {s : Shared}

/-! ### small questions asked of tuples -/
theorem items_key {k : List L2.Key} {vs : List Value} (h : ItemsAre (mixKind P w) k vs) : ∀ v ∈ vs, carriedByValue v = true := h.byValue
theorem ofAClass_val (n : Nat) {v : Value} (h : carriedByValue v = true) : ofAClassStatement n v = pure false := by
  cases v <;> first | (cases n <;> rfl) | (simp [carriedByValue] at h)
theorem hashBy_val (n : Nat) {v : Value} (h : carriedByValue v = true) : ∃ b, hashByValue n v = pure b := by
  cases v <;> first | (simp [carriedByValue] at h; done) | (cases n <;> exact ⟨_, rfl⟩)
theorem ofAClass_tup {k : List L2.Key} {b : Addr} {Q : Bool → Shared → Prop} (hk : IsT P w s.heap k b) (h : Q false s) : wpAny (model P w) A (ofAClassStatement 8 (.ref b)) Q E s := by
  have ty := hk.typeIs
  obtain ⟨ob, its, cn, hob, _, hdt, hits⟩ := hk
  unfold ofAClassStatement
  refine wpAny_bind (wpAny_typeOf ty ?_)
  dsimp only
  have eq : (("tuple" : String) == "tuple") = true := by decide
  simp only [eq, if_true, Bool.not_true, Bool.false_eq_true, if_false]
  try refine wpAny_bind (wpAny_pure ?_)
  try simp only [Bool.not_true, Bool.false_eq_true, if_false]
  show wpAny _ _ (seqItems? (.ref b) >>= fun _ => _) _ _ s
  refine wpAny_bind (wpAny_seqItems hob hdt ?_)
  dsimp only
  refine wpAny_bind ?_
  show wpAny _ _ (forIn its _ _) _ _ s
  rw [← Array.forIn_toList]
  refine wpAny_forIn_list _ (fun todo r s1 => r.1 = none ∧ s1 = s ∧ ∀ v ∈ todo, carriedByValue v = true) _ ?_ ?_ _ _ ⟨rfl, rfl, items_key hits⟩
  · rintro v todo r s1 ⟨_, rfl, al⟩
    rw [ofAClass_val _ (al v List.mem_cons_self)]
    refine wpAny_bind (wpAny_pure ?_)
    simp only [Bool.false_eq_true, if_false]
    exact wpAny_pure ⟨rfl, rfl, fun u iu => al u (List.mem_cons_of_mem _ iu)⟩
  · rintro ⟨ra, rb⟩ s1 ⟨hr, rfl, _⟩
    simp only at hr
    subst hr
    exact wpAny_pure h
theorem hashBy_tup {k : List L2.Key} {b : Addr} {Q : Bool → Shared → Prop} (hk : IsT P w s.heap k b) (h : ∀ r, Q r s) : wpAny (model P w) A (hashByValue 8 (.ref b)) Q E s := by
  have ty := hk.typeIs
  obtain ⟨ob, its, cn, hob, _, hdt, hits⟩ := hk
  unfold hashByValue
  refine wpAny_bind (wpAny_specialOf ty F.slot_tuple_hash.lookup ?_)
  show wpAny _ _ (seqItems? (.ref b) >>= fun _ => _) _ _ s
  refine wpAny_bind (wpAny_seqItems hob hdt ?_)
  refine wpAny_bind ?_
  show wpAny _ _ (forIn its _ _) _ _ s
  rw [← Array.forIn_toList]
  refine wpAny_forIn_list _ (fun todo r s1 => r.1 = none ∧ s1 = s ∧ ∀ v ∈ todo, carriedByValue v = true) _ ?_ ?_ _ _ ⟨rfl, rfl, items_key hits⟩
  · rintro v todo r s1 ⟨_, rfl, al⟩
    obtain ⟨b, eb⟩ := hashBy_val 7 (al v List.mem_cons_self)
    rw [eb]
    refine wpAny_bind (wpAny_pure ?_)
    cases b with
    | true =>
      simp only [Bool.not_true, Bool.false_eq_true, if_false]
      exact wpAny_pure ⟨rfl, rfl, fun u iu => al u (List.mem_cons_of_mem _ iu)⟩
    | false =>
      simp only [Bool.not_false, if_true]
      exact wpAny_pure (wpAny_pure (h _))
  · rintro ⟨ra, rb⟩ s1 ⟨hr, rfl, _⟩
    simp only at hr
    subst hr
    exact wpAny_pure (h _)
/-- a search among tuples shows nothing -/
theorem seen_tup {k : List L2.Key} {b : Addr} {Q : Bool → Shared → Prop} (hk : IsT P w s.heap k b) {ys : List Value} (hy : ∀ y ∈ ys, ∃ k' c, y = Value.ref c ∧ IsT P w s.heap k' c) (h : Q false s) :
    wpAny (model P w) A (searchCouldBeSeen (.ref b) ys) Q E s := by
  unfold searchCouldBeSeen
  refine wpAny_bind ?_
  refine wpAny_forIn_list _ (fun rest r s' => r.1 = none ∧ s' = s ∧ ∀ y ∈ rest, ∃ k' c, y = Value.ref c ∧ IsT P w s.heap k' c) _ ?_ ?_ _ _ ⟨rfl, rfl, hy⟩
  · rintro v rest r s' ⟨hr, rfl, hall⟩
    obtain ⟨k', c, rfl, hc⟩ := hall v List.mem_cons_self
    have rest' : ∀ y ∈ rest, ∃ k' c, y = Value.ref c ∧ IsT P w s'.heap k' c := fun u hu' => hall u (List.mem_cons_of_mem _ hu')
    dsimp only
    by_cases hv : (b == c || (carriedByValue (.ref b) && carriedByValue (.ref c))) = true
    · refine wp_if_pos hv ?_
      exact wpAny_pure ⟨rfl, rfl, rest'⟩
    · refine wp_if_neg hv ?_
      refine wpAny_bind (wpAny_eqIsQuiet_tuple hk ?_)
      simp only [Bool.not_true, Bool.false_eq_true, if_false]
      refine wpAny_bind (wpAny_eqIsQuiet_tuple hc ?_)
      simp only [Bool.not_true, Bool.false_eq_true, if_false]
      refine wpAny_bind (ofAClass_tup hk ?_)
      simp only [Bool.false_eq_true, if_false]
      refine wpAny_bind (ofAClass_tup hc ?_)
      simp only [Bool.false_eq_true, if_false]
      exact wpAny_pure ⟨rfl, rfl, rest'⟩
  · rintro ⟨r1, r2⟩ s' ⟨hr, rfl, _⟩
    simp only at hr
    subst hr
    exact wpAny_pure h

/-! ### the set of tuples -/
def rowsOf (P : Program) (w : World) (L : List (Addr × List L2.Key)) : List (Int × Value) := L.map fun p => (thash P w p.2, Value.ref p.1)
structure SetTR (P : Program) (w : World) (h : Heap) (a : Addr) (L : List (Addr × List L2.Key)) (es : Array (Int × Value)) (ep : Nat) (t : SetTable) : Prop where
  ob : ∃ o, h.get? a = some o ∧ o.ExactSet ∧ o.data = .set es ep t
  rows : es.toList = rowsOf P w L
  tab : TabOk t (L.map fun p => thash P w p.2)
  nd : (L.map (·.2)).Nodup
  tup : ∀ p ∈ L, IsT P w h p.2 p.1
  led : w.params.followText "set-order" = true ∨ t.led = true
  room : L.length * 5 < t.mask * 3
  few : L.length < 64
variable {a : Addr} {L : List (Addr × List L2.Key)} {es : Array (Int × Value)} {ep : Nat} {t : SetTable}
theorem SetTR.size (R : SetTR P w s.heap a L es ep t) : es.size = L.length := by
  have h := congrArg List.length R.rows
  unfold rowsOf at h
  rw [Array.length_toList, List.length_map] at h
  exact h
theorem SetTR.fits (R : SetTR P w s.heap a L es ep t) : t.fits es.size = true := by
  have h1 := R.tab.sz
  rw [List.length_map] at h1
  have h2 := R.size
  have h3 := R.room
  unfold SetTable.fits SetTable.fill
  rw [R.tab.dm, Bool.and_eq_true, beq_iff_eq, decide_eq_true_eq]
  show t.place.size = es.size ∧ t.place.size + 0 ≤ t.mask
  omega
theorem SetTR.entry (R : SetTR P w s.heap a L es ep t) {i : Nat} {p : Addr × List L2.Key} (h : L[i]? = some p) : es[i]? = some (thash P w p.2, Value.ref p.1) := by
  rw [← Array.getElem?_toList, R.rows]
  unfold rowsOf
  rw [List.getElem?_map, h] <;> rfl
theorem SetTR.gw (R : SetTR P w s.heap a L es ep t) : ¬ t.gaveWay = true := by
  unfold SetTable.gaveWay
  rw [mask_odd R.tab.mok]
  decide
theorem sameMem (t : SetTable) : t.sameMemory t.moves t.mask = some true := by
  unfold SetTable.sameMemory
  rw [if_pos (beq_self_eq_true _)]

/-- THE SEARCH: from the c-th step of the way on -/
theorem search_from (R : SetTR P w s.heap a L es ep t) {x : Addr} {k : List L2.Key} (hx : IsT P w s.heap k x) (hu : A.units < cLine) {K : Nat} (hKf : K < 10 * SetTable.turns t.mask)
    (hK : way t.mask (thash P w k) K ∉ t.place.toList) (hKb : ∀ c, c < K → way t.mask (thash P w k) c ∈ t.place.toList) {Q : SetFound → Shared → Prop}
    (hin : k ∈ L.map (·.2) → Q (.there none) s) (hout : k ∉ L.map (·.2) → Q (.free (way t.mask (thash P w k) K) false) s) :
    ∀ (f c : Nat) (stand : Option SetTable.Probe), stand.getD (t.probeStart (thash P w k)) = nth t.mask (runAt t.mask (SetTable.bits (thash P w k) % (t.mask + 1)) (SetTable.bits (thash P w k))) c → c ≤ K → K - c < f →
      (∀ (i : Nat) p, L[i]? = some p → p.2 = k → ∃ c', c ≤ c' ∧ c' < K ∧ t.place.toList[i]? = some (way t.mask (thash P w k) c')) →
      wpAny (model P w) A (setSearchFrom a (.ref x) (thash P w k) true f stand) Q E s
  | 0, c, stand, _, _, hf, _ => absurd hf (Nat.not_lt_zero _)
  | f + 1, c, stand, hst, hc, hf, hre => by
    obtain ⟨o, ho, hex, hd⟩ := R.ob
    rw [setSearchFrom_succ]
    refine wpAny_bind (wpAny_setState_of ho hd R.fits ?_)
    dsimp only
    refine wp_if_neg R.gw ?_
    try refine wpAny_bind (wpAny_pure ?_)
    have hnd : (nth t.mask (runAt t.mask (SetTable.bits (thash P w k) % (t.mask + 1)) (SetTable.bits (thash P w k))) c).dummy = none := by
      have key : ∀ (n : Nat) (p : SetTable.Probe), p.dummy = none → (nth t.mask p n).dummy = none := by
        intro n
        induction n with
        | zero => intro p h; exact h
        | succ n ih =>
          intro p h
          refine ih (adv t.mask p) ?_
          unfold adv
          split <;> exact h
      exact key c _ rfl
    have sh : ∀ q, nth t.mask (nth t.mask (runAt t.mask (SetTable.bits (thash P w k) % (t.mask + 1)) (SetTable.bits (thash P w k))) c) q = nth t.mask (runAt t.mask (SetTable.bits (thash P w k) % (t.mask + 1)) (SetTable.bits (thash P w k))) (c + q) := fun q => (nth_add t.mask c _ q).symm
    have e1 : ∀ q, (nth t.mask (nth t.mask (runAt t.mask (SetTable.bits (thash P w k) % (t.mask + 1)) (SetTable.bits (thash P w k))) c) q).j = way t.mask (thash P w k) (c + q) := fun q => congrArg SetTable.Probe.j (sh q)
    have spec := go_spec t R.tab.ris R.tab.dm (fun i => (es[i]?.map (·.1)).getD 0) (thash P w k) (10 * SetTable.turns t.mask) (K - c) _ hnd (by omega)
      (fun q hq => by rw [e1]; exact hKb (c + q) (by omega)) (by rw [e1, show c + (K - c) = K by omega]; exact hK)
    have hashAt : ∀ (i : Nat) p, L[i]? = some p → (fun i => (es[i]?.map (·.1)).getD 0) i = thash P w p.2 := fun i p hp => by
      show (es[i]?.map (·.1)).getD 0 = _
      rw [R.entry hp] <;> rfl
    rcases spec with ⟨q, i, hq, hi, hh, hno, hpr⟩ | ⟨hno, hpr⟩
    · -- a candidate
      have hpr' : t.probe (fun i => (es[i]?.map (·.1)).getD 0) (thash P w k) (stand.getD (t.probeStart (thash P w k))) = some (.candidate (way t.mask (thash P w k) (c + q)) i (nth t.mask (runAt t.mask (SetTable.bits (thash P w k) % (t.mask + 1)) (SetTable.bits (thash P w k))) (c + (q + 1)))) := by
        rw [hst, ← e1, ← sh]
        exact hpr
      rw [hpr']
      dsimp only
      rw [e1] at hi
      -- the entry
      have hil : i < L.length := by
        have h1 : i < t.place.toList.length := (List.getElem?_eq_some_iff.mp hi).1
        have h2 := R.tab.sz
        rw [List.length_map] at h2
        rw [Array.length_toList] at h1
        omega
      have hp : L[i]? = some L[i] := List.getElem?_eq_getElem hil
      generalize hpe : L[i] = p at hp
      have hmem : p ∈ L := List.mem_of_getElem? hp
      have hpt := R.tup p hmem
      have rest : wpAny (model P w) A (searchRest a (.ref x) (thash P w k) true f es t (way t.mask (thash P w k) (c + q)) i (nth t.mask (runAt t.mask (SetTable.bits (thash P w k) % (t.mask + 1)) (SetTable.bits (thash P w k))) (c + (q + 1)))) Q E s := by
        unfold searchRest
        rw [R.entry hp]
        dsimp only
        refine wpAny_bind (wpAny_holding (wpAny_eqBool_tuple hu hpt hx ?_))
        refine wpAny_bind (wpAny_setState_of ho hd R.fits ?_)
        dsimp only
        by_cases hkk : p.2 = k
        · refine wp_if_pos (by simp [hkk]) ?_
          refine wpAny_pure (hin ?_)
          exact List.mem_map.mpr ⟨p, hmem, hkk⟩
        · refine wp_if_neg (by simp [hkk]) ?_
          try refine wpAny_bind (wpAny_pure ?_)
          rw [sameMem]
          dsimp only
          have hsl : t.slot (way t.mask (thash P w k) (c + q)) = .live i := slot_live R.tab.ris hi
          simp only [if_true, hsl, R.entry hp]
          refine wpAny_bind (wpAny_isSame_ref_self (wpAny_bind (wpAny_pure ?_)))
          simp only [if_true]
          refine wp_if_neg (by simp [hkk]) ?_
          refine search_from R hx hu hKf hK hKb hin hout f (c + (q + 1)) _ rfl (by omega) (by omega) fun i0 p0 h0 hk0 => ?_
          obtain ⟨c', a1, a2, a3⟩ := hre i0 p0 h0 hk0
          refine ⟨c', ?_, a2, a3⟩
          -- it isn't passed
          rcases Nat.lt_or_ge c' (c + q) with z | z
          · exfalso
            refine hno (c' - c) i0 (by omega) (by rw [e1, show c + (c' - c) = c' by omega]; exact a3) ?_
            exact (hashAt i0 p0 h0).trans (congrArg (thash P w) hk0)
          · rcases Nat.lt_or_ge (c + q) c' with y | y
            · omega
            · exfalso
              have ec : c' = c + q := Nat.le_antisymm y z
              rw [ec] at a3
              have s0 := slot_live R.tab.ris a3
              rw [hsl] at s0
              injection s0 with s0
              rw [← s0, hp] at h0
              exact hkk ((congrArg Prod.snd (Option.some.inj h0)).trans hk0)
      by_cases hl : t.led = true
      · refine wp_if_neg (by simp [hl]) ?_
        try refine wpAny_bind (wpAny_pure ?_)
        exact rest
      · refine wp_if_pos (by simp [hl]) ?_
        refine wpAny_bind (seen_tup hx (fun y hy => ?_) ?_)
        · obtain ⟨e, he, ee⟩ := List.mem_map.mp hy
          have he1 : e ∈ es ∧ e.1 = thash P w k := by simpa using he
          have he2 : e ∈ es.toList := by simpa using he1.1
          rw [R.rows] at he2
          obtain ⟨p2, hp2, e2⟩ := List.mem_map.mp he2
          refine ⟨p2.2, p2.1, ?_, R.tup p2 hp2⟩
          rw [← ee, ← e2]
        · refine wp_if_neg (by decide) ?_
          try refine wpAny_bind (wpAny_pure ?_)
          exact rest
    · -- the empty slot
      have hpr' : t.probe (fun i => (es[i]?.map (·.1)).getD 0) (thash P w k) (stand.getD (t.probeStart (thash P w k))) = some (.empty (way t.mask (thash P w k) K) none) := by
        have e2 : way t.mask (thash P w k) K = (nth t.mask (nth t.mask (runAt t.mask (SetTable.bits (thash P w k) % (t.mask + 1)) (SetTable.bits (thash P w k))) c) (K - c)).j := by
          rw [e1, show c + (K - c) = K by omega]
        rw [hst, e2]
        exact hpr
      rw [hpr']
      dsimp only
      refine wpAny_pure (hout fun hm => ?_)
      obtain ⟨p0, h0, hk0⟩ := List.mem_map.mp hm
      obtain ⟨i0, hi0, e0⟩ := List.getElem_of_mem h0
      have h00 : L[i0]? = some p0 := by rw [List.getElem?_eq_getElem hi0, e0]
      obtain ⟨c', a1, a2, a3⟩ := hre i0 p0 h00 hk0
      refine hno (c' - c) i0 (by omega) (by rw [e1, show c + (c' - c) = c' by omega]; exact a3) ?_
      exact (hashAt i0 p0 h00).trans (congrArg (thash P w) hk0)

/-- the search as adding asks for it -/
theorem search_at (R : SetTR P w s.heap a L es ep t) {x : Addr} {k : List L2.Key} (hx : IsT P w s.heap k x) (hu : A.units < cLine) {Q : SetFound → Shared → Prop}
    (hin : k ∈ L.map (·.2) → Q (.there none) s)
    (hout : ∀ K, k ∉ L.map (·.2) → way t.mask (thash P w k) K ∉ t.place.toList → (∀ c, c < K → way t.mask (thash P w k) c ∈ t.place.toList) → Q (.free (way t.mask (thash P w k) K) false) s) :
    wpAny (model P w) A (setSearch a (.ref x) (thash P w k) true) Q E s := by
  have hroom := R.room
  obtain ⟨K, hKf, hK, hKb⟩ := R.tab.first (by rw [List.length_map]; omega) (thash P w k)
  have hbig : K < 100000 := by
    have : 10 * SetTable.turns t.mask ≤ 1420 := by
      unfold SetTable.turns
      rcases R.tab.mok with e | e | e <;> omega
    omega
  unfold setSearch
  refine search_from R hx hu hKf hK hKb hin (fun hn => hout K hn hK hKb) 100000 0 none rfl (Nat.zero_le _) (by omega) fun i p hp hk => ?_
  have hi : (L.map fun p => thash P w p.2)[i]? = some (thash P w k) := by rw [List.getElem?_map, hp, ← hk] <;> rfl
  have hil : i < t.place.toList.length := by
    have h1 : i < L.length := (List.getElem?_eq_some_iff.mp hp).1
    have h2 := R.tab.sz
    rw [List.length_map] at h2
    rw [Array.length_toList]
    omega
  have hj := List.getElem?_eq_getElem hil
  obtain ⟨c, hc, e⟩ := R.tab.before hK hi hj
  exact ⟨c, Nat.zero_le _, hc, by rw [hj, e]⟩
end
theorem setAddHashedIn_succ (a : Addr) (x : Value) (h : Int) (fuel : Nat) : setAddHashedIn a x h (fuel + 1) = (do
    let (es₀, _, t₀) ← setState a
    if byScan x es₀ then
      match ← setAddByScan a x h es₀ t₀ with
      | some added => return added
      | none => return ← setAddHashedIn a x h fuel
    let .free slot wasDummy ← setSearch a x h (adding := true) | return false
    let (es, _, t) ← setState a
    let (t, p) := t.put slot
    let byValue ← if t.plain then hashByValue 8 x else pure true
    let t := if byValue then t else { t with plain := false }
    storeSet a (SetTable.insertAt es p (h, x)) t
    if !wasDummy && t.tooFull then setRelay a (SetTable.grown (es.size + 1))
    return true) := by rfl
theorem setRelay_eq (a : Addr) (wanted : Nat) : setRelay a wanted = (do
    let (es, _, t) ← setState a
    if SetTable.sizeAbove wanted > sizeLine then unsupported "set:memory"
    let (es, t) ← (do
      let some (t, order) := t.relaid (es.map (·.1)) wanted | unsupported "internal:set-table-without-room"
      let es' := order.filterMap (es[·]?)
      if es'.size != es.size then unsupported "internal:set-table-lost-an-element"
      pure (es', t) : Sem (Array (Int × Value) × SetTable))
    storeSet a es t) := by rfl

section
variable {P : Program} {w : World} {A : Around} {E : Value → Shared → Prop} {s : Shared}
/-- a tuple isn't the set -/
theorem isT_same {h h' : Heap} {k : List L2.Key} {a b : Addr} {o : Obj} {es : Array (Int × Value)} {ep : Nat} {t : SetTable} (hb : IsT P w h k b) (ho : h.get? a = some o) (hd : o.data = .set es ep t) (hs : Heap.SameBut a h h') : IsT P w h' k b := by
  obtain ⟨o', items, n, ho', hc, hd', hi⟩ := hb
  have hne : b ≠ a := by
    rintro rfl
    obtain rfl : o' = o := Option.some.inj (ho'.symm.trans ho)
    rw [hd] at hd'
    exact nomatch hd'
  exact ⟨o', items, n, (hs.2 b hne).trans ho', hc, hd', hi⟩
theorem rows_put (L : List (Addr × List L2.Key)) (p : Nat) (x : Addr) (k : List L2.Key) : rowsOf P w (L.take p ++ (x, k) :: L.drop p) = (rowsOf P w L).take p ++ (thash P w k, Value.ref x) :: (rowsOf P w L).drop p := by
  unfold rowsOf
  rw [List.map_append, List.map_cons, List.map_take, List.map_drop]
theorem put_perm {α : Type} (L : List α) (p : Nat) (x : α) : (L.take p ++ x :: L.drop p).Perm (x :: L) := by
  have h : (L.take p ++ x :: L.drop p).Perm (x :: (L.take p ++ L.drop p)) := List.perm_middle
  rw [List.take_append_drop] at h
  exact h
theorem order_rows (L : List (Addr × List L2.Key)) (es : Array (Int × Value)) (order : Array Nat) (hr : es.toList = rowsOf P w L) (hp : order.toList.Perm (List.range L.length)) :
    ∃ L2, (order.filterMap (es[·]?)).toList = rowsOf P w L2 ∧ L2.Perm L ∧ (L2.map fun p => thash P w p.2) = order.toList.map fun i => (es.map (·.1)).getD i 0 := by
  have hsz : es.size = L.length := by
    have h := congrArg List.length hr
    unfold rowsOf at h
    rw [Array.length_toList, List.length_map] at h
    exact h
  have ent : ∀ i (h : i < L.length), es[i]? = some (thash P w (L[i]).2, Value.ref (L[i]).1) := fun i h => by
    rw [← Array.getElem?_toList, hr]
    unfold rowsOf
    rw [List.getElem?_map, List.getElem?_eq_getElem h] <;> rfl
  have key : ∀ l : List Nat, (∀ i ∈ l, i < L.length) → ∃ L2 : List (Addr × List L2.Key), l.filterMap (fun i => es[i]?) = rowsOf P w L2 ∧ L2 = l.filterMap (fun i => L[i]?) ∧ (L2.map fun p => thash P w p.2) = l.map fun i => (es.map (·.1)).getD i 0 := by
    intro l
    induction l with
    | nil => intro _; exact ⟨[], rfl, rfl, rfl⟩
    | cons i l ih =>
      intro hl
      have hi := hl i List.mem_cons_self
      obtain ⟨L2, e1, e2, e3⟩ := ih fun j hj => hl j (List.mem_cons_of_mem _ hj)
      refine ⟨L[i] :: L2, ?_, ?_, ?_⟩
      · rw [List.filterMap_cons_some (ent i hi), e1] <;> rfl
      · rw [List.filterMap_cons_some (List.getElem?_eq_getElem hi), e2]
      · rw [List.map_cons, List.map_cons, e3]
        have hi2 : i < (es.map (·.1)).size := by rw [Array.size_map, hsz]; exact hi
        have e4 : (es.map (·.1)).getD i 0 = thash P w (L[i]).2 := by
          have e5 : (es.map (·.1))[i]? = some (thash P w (L[i]).2) := by rw [Array.getElem?_map, ent i hi] <;> rfl
          simp [Array.getD_eq_getD_getElem?, e5]
        rw [e4]
  obtain ⟨L2, e1, e2, e3⟩ := key order.toList fun i hi => List.mem_range.mp (hp.mem_iff.mp hi)
  refine ⟨L2, by first | (rw [Array.toList_filterMap]; exact e1) | simpa using e1, ?_, e3⟩
  have h1 : L2.Perm ((List.range L.length).filterMap fun i => L[i]?) := by
    rw [e2]
    exact hp.filterMap _
  have h2 : (List.range L.length).filterMap (fun i => L[i]?) = L := by
    have key2 : ∀ n, n ≤ L.length → (List.range n).filterMap (fun i => L[i]?) = L.take n := by
      intro n
      induction n with
      | zero => intro _; rfl
      | succ n ih =>
        intro hn
        have hlt : n < L.length := hn
        rw [List.range_succ, List.filterMap_append, ih (Nat.le_of_lt hlt), List.take_succ, List.getElem?_eq_getElem hlt]
        rw [List.filterMap_cons_some (List.getElem?_eq_getElem hlt)] <;> rfl
    rw [key2 L.length (Nat.le_refl _), List.take_length]
  rw [h2] at h1
  exact h1

variable {a : Addr} {L : List (Addr × List L2.Key)} {es : Array (Int × Value)} {ep : Nat} {t : SetTable}
/-- the table laid anew, larger -/
theorem relay_at {o : Obj} (ho : s.heap.get? a = some o) (hex : o.ExactSet) (hd : o.data = .set es ep t) (hrows : es.toList = rowsOf P w L) (hsz : t.place.size = es.size) (hdm : t.dummies = #[]) (hfl : es.size ≤ t.mask)
    (nd : (L.map (·.2)).Nodup) (tup : ∀ p ∈ L, IsT P w s.heap p.2 p.1) (ld : w.params.followText "set-order" = true ∨ t.led = true) (few : L.length < 64) {wanted M : Nat}
    (hw : SetTable.sizeAbove wanted - 1 = M) (hM : MaskOk M) (hw2 : SetTable.sizeAbove wanted ≤ 128) (hn : L.length * 5 < M * 3) {Q : Unit → Shared → Prop}
    (hQ : ∀ h' L' es' ep' t', Heap.SameBut a s.heap h' → SetTR P w h' a L' es' ep' t' → L'.Perm L → Q () { s with heap := h' }) : wpAny (model P w) A (setRelay a wanted) Q E s := by
  have hsl : es.size = L.length := by
    have h := congrArg List.length hrows
    unfold rowsOf at h
    rw [Array.length_toList, List.length_map] at h
    exact h
  have hfits : t.fits es.size = true := by
    unfold SetTable.fits SetTable.fill
    rw [hdm, Bool.and_eq_true, beq_iff_eq, decide_eq_true_eq]
    show t.place.size = es.size ∧ t.place.size + 0 ≤ t.mask
    omega
  obtain ⟨t', order, e, hp, T, em, el, ep', ed⟩ := relaid_ok t (hs := es.map (·.1)) (wanted := wanted) hw hM (by rw [Array.size_map, hsl]; omega)
  rw [Array.size_map, hsl] at hp
  obtain ⟨L2, r1, r2, r3⟩ := order_rows L es order hrows hp
  rw [← r3] at T
  have hs2 : (order.filterMap (es[·]?)).size = es.size := by
    have h := congrArg List.length r1
    unfold rowsOf at h
    rw [Array.length_toList, List.length_map, r2.length_eq] at h
    rw [h, hsl]
  rw [setRelay_eq]
  refine wpAny_bind (wpAny_setState_of ho hd hfits ?_)
  dsimp only
  refine wp_if_neg (by rw [sizeLine_eq]; omega) ?_
  try refine wpAny_bind (wpAny_pure ?_)
  rw [e]
  dsimp only
  refine wpAny_bind ?_
  refine wp_if_neg (by rw [hs2]; simp) ?_
  try refine wpAny_bind (wpAny_pure ?_)
  refine wpAny_pure ?_
  dsimp only
  refine wpAny_storeSet_of ho hd ?_ (by rw [hs2, hsl, sizeLine_eq]; omega)
  have sb : Heap.SameBut a s.heap (s.heap.update a (Obj.putSet (order.filterMap (es[·]?)) t')) := Heap.SameBut.update ..
  refine hQ _ L2 (order.filterMap (es[·]?)) (ep + 1) t' sb ?_ r2
  refine ⟨⟨_, store_at ho hd, ⟨hex.1, hex.2.1, hex.2.2⟩, rfl⟩, r1, T, ?_, fun p hpm => isT_same (tup p (r2.mem_iff.mp hpm)) ho hd sb, by rw [el]; exact ld, ?_, by rw [r2.length_eq]; exact few⟩
  · exact (r2.map (·.2)).nodup_iff.mpr nd
  · rw [r2.length_eq, em]
    exact hn

/-- ADDING -/
theorem add_at (R : SetTR P w s.heap a L es ep t) {x : Addr} {k : List L2.Key} (hx : IsT P w s.heap k x) (hu : A.units < cLine) (hfew : L.length + 1 < 64) {Q : Bool → Shared → Prop}
    (hQ : ∀ b h' L' es' ep' t', Heap.SameBut a s.heap h' → SetTR P w h' a L' es' ep' t' → (k ∈ L.map (·.2) → L' = L) → (k ∉ L.map (·.2) → L'.Perm ((x, k) :: L)) → Q b { s with heap := h' }) :
    wpAny (model P w) A (setAddHashed a (.ref x) (thash P w k)) Q E s := by
  obtain ⟨o, ho, hex, hd⟩ := R.ob
  have hsl := R.size
  have hroom := R.room
  unfold setAddHashed
  refine wpAny_holding ?_
  rw [show (100000 : Nat) = 99999 + 1 from rfl, setAddHashedIn_succ]
  refine wpAny_bind (wpAny_setState_of ho hd R.fits ?_)
  dsimp only
  refine wp_if_neg (by simp [byScan, Value.scannable]) ?_
  try refine wpAny_bind (wpAny_pure ?_)
  refine wpAny_bind (search_at R hx hu (fun hm => ?_) fun K hm hK hb => ?_)
  · dsimp only
    exact wpAny_pure (hQ false s.heap L es ep t (Heap.SameBut.refl a s.heap) R (fun _ => rfl) fun z => absurd hm z)
  · dsimp only
    refine wpAny_bind (wpAny_setState_of ho hd R.fits ?_)
    dsimp only
    obtain ⟨q1, q2, q3, q4, q5, q6, q7, q8, q9⟩ := R.tab.put hK hb
    generalize hpt : t.put (way t.mask (thash P w k) K) = pt at q1 q3 q4 q5 q6 q7 q8 q9 ⊢
    obtain ⟨t1, p⟩ := pt
    dsimp only at q1 q3 q4 q5 q6 q7 q8 q9 ⊢
    subst q1
    have key : ∀ tb : SetTable, tb.place = t1.place → tb.dummies = t1.dummies → tb.mask = t1.mask → tb.led = t1.led → wpAny (model P w) A (do
          storeSet a (SetTable.insertAt es (SetTable.below t.place (way t.mask (thash P w k) K)) (thash P w k, Value.ref x)) tb
          if (!false && tb.tooFull) = true then do
              setRelay a (SetTable.grown (es.size + 1))
              pure true
            else pure true) Q E s := by
      intro tb w1 w2 w3 w4
      have z9 : tb.fill = (L.map fun p => thash P w p.2).length + 1 := by
        unfold SetTable.fill at q9 ⊢
        rw [w1, w2]; exact q9
      have z3 : TabOk tb ((L.map fun p => thash P w p.2).take (SetTable.below t.place (way t.mask (thash P w k) K)) ++ thash P w k :: (L.map fun p => thash P w p.2).drop (SetTable.below t.place (way t.mask (thash P w k) K))) :=
        ⟨by rw [w1]; exact q3.ris, by rw [w2]; exact q3.dm, by rw [w1]; exact q3.sz, by rw [w3]; exact q3.mok, by rw [w1, w3]; exact q3.bd, by rw [w1, w3]; exact q3.reach⟩
      have z4 : tb.mask = t.mask := w3.trans q4
      have z5 : tb.led = t.led := w4.trans q5
      have hin : (SetTable.insertAt es (SetTable.below t.place (way t.mask (thash P w k) K)) (thash P w k, Value.ref x)).toList = rowsOf P w (L.take (SetTable.below t.place (way t.mask (thash P w k) K)) ++ (x, k) :: L.drop (SetTable.below t.place (way t.mask (thash P w k) K))) := by
        rw [SetTable.toList_insertAt, rows_put, R.rows]
      generalize hpp : SetTable.below t.place (way t.mask (thash P w k) K) = p at q2 z3 hin ⊢
      have pm := put_perm L p (x, k)
      have hlen : (L.take p ++ (x, k) :: L.drop p).length = L.length + 1 := pm.length_eq
      have hhs : (L.take p ++ (x, k) :: L.drop p).map (fun p => thash P w p.2) = (L.map fun p => thash P w p.2).take p ++ thash P w k :: (L.map fun p => thash P w p.2).drop p := by
        rw [List.map_append, List.map_cons, List.map_take, List.map_drop]
      rw [← hhs] at z3
      have nd1 : ((L.take p ++ (x, k) :: L.drop p).map (·.2)).Nodup := by
        refine (pm.map (·.2)).nodup_iff.mpr ?_
        rw [List.map_cons]
        exact List.nodup_cons.mpr ⟨hm, R.nd⟩
      have hes : (SetTable.insertAt es p (thash P w k, Value.ref x)).size = L.length + 1 := by
        have h := congrArg List.length hin
        unfold rowsOf at h
        rw [Array.length_toList, List.length_map, hlen] at h
        exact h
      generalize SetTable.insertAt es p (thash P w k, Value.ref x) = es1 at hin hes ⊢
      generalize L.take p ++ (x, k) :: L.drop p = L1 at pm hlen z3 nd1 hin
      refine wpAny_bind (wpAny_storeSet_of ho hd ?_ (by rw [hes, sizeLine_eq]; omega))
      have sb : Heap.SameBut a s.heap (s.heap.update a (Obj.putSet es1 tb)) := Heap.SameBut.update ..
      have ho1 := store_at (es' := es1) (t' := tb) ho hd
      generalize s.heap.update a (Obj.putSet es1 tb) = h1 at sb ho1 ⊢
      have tup1 : ∀ p ∈ L1, IsT P w h1 p.2 p.1 := fun p hp => by
        rcases List.mem_cons.mp (pm.mem_iff.mp hp) with e | hp
        · rw [e]; exact isT_same hx ho hd sb
        · exact isT_same (R.tup p hp) ho hd sb
      have ld1 : w.params.followText "set-order" = true ∨ tb.led = true := by rw [z5]; exact R.led
      by_cases hf : tb.tooFull = true
      · first
          | (refine wpAny_bind ?_; refine wp_if_pos (by simp [hf]) ?_)
          | (refine wp_if_pos (by simp [hf]) ?_; refine wpAny_bind ?_)
        have hfull : (L.length + 1) * 5 ≥ tb.mask * 3 := by
          have h := hf
          unfold SetTable.tooFull at h
          rw [decide_eq_true_eq, z9, List.length_map] at h
          exact h
        rw [hsl]
        have hsz1 : tb.place.size = es1.size := by
          have h := z3.sz
          rw [List.length_map, hlen] at h
          rw [h, hes]
        have cases2 : (t.mask = 7 ∧ L.length = 4) ∨ (t.mask = 31 ∧ L.length = 18) := by
          rcases R.tab.mok with e | e | e
          · left; rw [z4, e] at hfull; rw [e] at hroom; exact ⟨e, by omega⟩
          · right; rw [z4, e] at hfull; rw [e] at hroom; exact ⟨e, by omega⟩
          · exfalso; rw [z4, e] at hfull; omega
        have go : ∀ M, SetTable.sizeAbove (SetTable.grown (L.length + 1)) - 1 = M → MaskOk M → SetTable.sizeAbove (SetTable.grown (L.length + 1)) ≤ 128 → (L.length + 1) * 5 < M * 3 →
            wpAny (model P w) A (setRelay a (SetTable.grown (L.length + 1))) (fun _ s' => wpAny (model P w) A (pure true) Q E s') E { s with heap := h1 } := fun M h1' h2' h3' h4' => by
          refine relay_at (s := { s with heap := h1 }) ho1 ⟨hex.1, hex.2.1, hex.2.2⟩ rfl hin hsz1 z3.dm (by rw [hes, z4]; rcases cases2 with ⟨e, e2⟩ | ⟨e, e2⟩ <;> omega) nd1 tup1 ld1 (by rw [hlen]; exact hfew) h1' h2' h3' (by rw [hlen]; exact h4') ?_
          intro h2 L2 es2 ep2 t2 sb2 R2 pm2
          refine wpAny_pure (hQ true h2 L2 es2 ep2 t2 (sb.trans sb2) R2 (fun z => absurd z hm) fun _ => pm2.trans pm)
        rcases cases2 with ⟨_, e2⟩ | ⟨_, e2⟩
        · refine go 31 (by rw [e2, size_20]) (.inr (.inl rfl)) (by rw [e2, size_20]; decide) (by omega)
        · refine go 127 (by rw [e2, size_76]) (.inr (.inr rfl)) (by rw [e2, size_76]; decide) (by omega)
      · first
          | refine wp_if_neg (by simp [hf]) ?_
          | (refine wpAny_bind ?_; refine wp_if_neg (by simp [hf]) ?_; refine wpAny_pure ?_)
        refine wpAny_pure (hQ true h1 L1 es1 (ep + 1) tb sb ⟨⟨_, ho1, ⟨hex.1, hex.2.1, hex.2.2⟩, rfl⟩, hin, z3, nd1, tup1, ld1, ?_, by rw [hlen]; exact hfew⟩ (fun z => absurd z hm) fun _ => pm)
        have h := hf
        unfold SetTable.tooFull at h
        rw [decide_eq_true_eq, z9, List.length_map] at h
        rw [hlen]
        omega

    by_cases hp : t1.plain = true
    · first
        | (refine wpAny_bind ?_; refine wp_if_pos hp ?_; refine hashBy_tup hx fun r => ?_)
        | refine wp_if_pos hp (wpAny_bind (hashBy_tup hx fun r => ?_))
      cases r with
      | true => exact key t1 rfl rfl rfl rfl
      | false => exact key { t1 with plain := false } rfl rfl rfl rfl
    · first
        | (refine wpAny_bind ?_; refine wp_if_neg hp ?_; refine wpAny_pure ?_)
        | refine wp_if_neg hp (wpAny_bind (wpAny_pure ?_))
      exact key t1 rfl rfl rfl rfl
end
end PV

/-! PV25: what a set is made of: ints and texts, or tuples of these. -/
namespace PV
open PySem L2 PySem.Spec PyProof.Rows

/-- what can stand in a set, and what the set then is -/
structure EK (P : Program) (w : World) (κ : Type) [DecidableEq κ] where
  elem : Heap → κ → Value → Prop
  core : Heap → Addr → List (Value × κ) → Prop
  enc : κ → D
  eKeep : ∀ {h h' : Heap} {k : κ} {v : Value}, elem h k v → (∀ c o, h.get? c = some o → h'.get? c = some o) → elem h' k v
  cKeep : ∀ {h h' : Heap} {a : Addr} {L : List (Value × κ)}, core h a L → (∀ o, h.get? a = some o → h'.get? a = some o) → core h' a L
  nodup : ∀ {h : Heap} {a : Addr} {L : List (Value × κ)}, core h a L → (L.map (·.2)).Nodup
  add : ∀ {A : Around} {E : Value → Shared → Prop} {s : Shared} {a : Addr} {L : List (Value × κ)} {v : Value} {k : κ} {Q : Bool → Shared → Prop}, A.units < cLine → core s.heap a L → (∀ p ∈ L, elem s.heap p.2 p.1) → elem s.heap k v → L.length + 1 < 64 →
    (∀ b h' L' tk, s.toks ≤ tk → Heap.SameBut a s.heap h' → core h' a L' → (k ∈ L.map (·.2) → L' = L) → (k ∉ L.map (·.2) → L'.Perm ((v, k) :: L)) → Q b { s with heap := h', toks := tk }) → wpAny (model P w) A (setAdd a v) Q E s
  fresh : ∀ {h : Heap} {a : Addr}, h.get? a = some { cls := .type "set", dict := none, data := .set #[] 0 (.fresh 0 0 (!w.params.followText "set-order")) } → core h a []
  walk : ∀ {h : Heap} {a : Addr} {L : List (Value × κ)}, core h a L → ∃ o es ep t, h.get? a = some o ∧ o.ExactSet ∧ o.data = .set es ep t ∧ (es.toList.map (·.2)).Perm (L.map (·.1)) ∧ t.fits es.size = true ∧ es.size < scanBound ∧ Ris t.place.toList ∧ (w.params.followText "set-order" = true ∨ t.led = true)
  reads : ∀ {h : Heap} {k : κ} {v : Value}, elem h k v → ∃ as, Reads h v (enc k) as ∧ ∀ a o, h.get? a = some o → o.cls = .type "list" → a ∉ as

section
variable {P : Program} {w : World} {A : Around} {E : Value → Shared → Prop} {s : Shared} {a : Addr}
/-! ints, texts -/
def rowF (w : World) (p : Value × L2.Key) : Int × Value := (keyH w p.2, p.1)
def SetF (w : World) (h : Heap) (a : Addr) (L : List (Value × L2.Key)) : Prop :=
  ∃ o es ep t, h.get? a = some o ∧ o.ExactSet ∧ o.data = .set es ep t ∧ es.toList.Perm (L.map (rowF w)) ∧ (∀ p ∈ L, keyIs p.2 p.1 = true) ∧ (L.map (·.2)).Nodup ∧ es.size < scanBound ∧ t.fits es.size = true ∧ Ris t.place.toList ∧ (w.params.followText "set-order" = true ∨ t.led = true)
theorem key_scan' {k : L2.Key} {v : Value} (h : keyIs k v = true) : v.scannable = true := by
  rcases keyIs_shape h with ⟨i, t, rfl, rfl⟩ | ⟨x, t, rfl, rfl⟩ <;> rfl
theorem elems_F {l : List (Int × Value)} {L : List (Value × L2.Key)} (pm : l.Perm (L.map (rowF w))) (g : ∀ p ∈ L, keyIs p.2 p.1 = true) : ElemsOf (mixKind P w) l := fun e he => by
  obtain ⟨p, hp, rfl⟩ := List.mem_map.mp (pm.mem_iff.mp he)
  exact ⟨⟨p.2, g p hp, rfl⟩, key_scan' (g p hp)⟩
theorem tail_F {g : Bool → Sem Unit} (hg : ∀ (b : Bool) (s₁ : Shared) (Q' : Unit → Shared → Prop), Q' () s₁ → wpAny (model P w) A (g b) Q' E s₁)
    {o : Obj} {es : Array (Int × Value)} {ep : Nat} {t : SetTable} (ho : s.heap.get? a = some o) (hex : o.ExactSet) (hd : o.data = .set es ep t)
    {ea : Array (Int × Value)} {ta : SetTable} {L : List (Value × L2.Key)} (pm : ea.toList.Perm (L.map (rowF w))) (gd : ∀ p ∈ L, keyIs p.2 p.1 = true) (nd : (L.map (·.2)).Nodup)
    (hb : ea.size < scanBound) (hf : ta.fits ea.size = true) (hr : Ris ta.place.toList) (hl : w.params.followText "set-order" = true ∨ ta.led = true) {wd : Bool} {R : Option Bool → Shared → Prop}
    (hR : ∀ h', Heap.SameBut a s.heap h' → SetF w h' a L → R (some true) { s with heap := h' }) :
    wpAny (model P w) A (do
        storeSet a ea ta
        if (!wd && ta.tooFull) = true then do
            g (relayAll ta ea (SetTable.grown ea.size)).2.2
            storeSet a (relayAll ta ea (SetTable.grown ea.size)).1 (relayAll ta ea (SetTable.grown ea.size)).2.1
            pure (some true)
          else pure (some true)) R E s := by
  refine wpAny_bind (wpAny_storeSet_of ho hd ?_ (fits_of_scanBound hb))
  have hoa := store_at (es' := ea) (t' := ta) ho hd
  have sba := Heap.SameBut.update s.heap a (Obj.putSet ea ta)
  split
  · have pma := relayAll_perm ta ea (SetTable.grown ea.size)
    have hfa := relayAll_fits ta ea (SetTable.grown ea.size)
    have hra := relayAll_ris ta ea (SetTable.grown ea.size)
    have hla := relayAll_led ta ea (SetTable.grown ea.size)
    generalize relayAll ta ea (SetTable.grown ea.size) = Z at pma hfa hra hla ⊢
    obtain ⟨eb, tb, gv⟩ := Z
    dsimp only at pma hfa hra hla ⊢
    have hbb : eb.size < scanBound := by rw [← Array.length_toList, pma.length_eq, Array.length_toList]; exact hb
    refine wpAny_bind (hg _ _ _ (wpAny_bind (wpAny_storeSet_of hoa rfl ?_ (fits_of_scanBound hbb))))
    have hob := store_at (es' := eb) (t' := tb) hoa rfl
    exact wpAny_pure (hR _ (sba.trans (Heap.SameBut.update _ a _)) ⟨_, eb, _, tb, hob, hex, rfl, pma.trans pm, gd, nd, hbb, hfa, hra, hl.imp id fun z => by rw [hla]; exact z⟩)
  · exact wpAny_pure (hR _ sba ⟨_, ea, _, ta, hoa, hex, rfl, pm, gd, nd, hb, hf, hr, hl⟩)
theorem add_F {L : List (Value × L2.Key)} {v : Value} {k : L2.Key} {Q : Bool → Shared → Prop} (R : SetF w s.heap a L) (hkey : keyIs k v = true) (room : L.length + 1 < 64)
    (hQ : ∀ b h' L', Heap.SameBut a s.heap h' → SetF w h' a L' → (k ∈ L.map (·.2) → L' = L) → (k ∉ L.map (·.2) → L' = (v, k) :: L) → Q b { s with heap := h' }) :
    wpAny (model P w) A (setAddHashed a v (keyH w k)) Q E s := by
  obtain ⟨o, es, ep, t, ho, hex, hd, pm, gd, nd, hb, hf, hr, hl⟩ := R
  have hsc := key_scan' hkey
  have hel : ElemsOf (mixKind P w) es.toList := elems_F pm gd
  have hkey' : (mixKind P w).is k v = true := hkey
  unfold setAddHashed setAddHashedIn
  refine wpAny_holding (wpAny_bind (wpAny_setState_of ho hd hf ?_))
  dsimp only
  rw [byScan_of hsc hb hel]
  simp only [↓reduceIte]
  unfold setAddByScan
  refine wpAny_bind (wpAny_bind (wpAny_rule (wpAny_bind (wpAny_setScan_of hkey' ho hd hf hel ?_))))
  cases hfi : List.findIdx? (fun e => (mixKind P w).is k e.2) es.toList with
  | some j =>
    dsimp only
    obtain ⟨hj, pj, _⟩ := List.findIdx?_eq_some_iff_getElem.mp hfi
    obtain ⟨p, hp, ep'⟩ := List.mem_map.mp (pm.mem_iff.mp (List.getElem_mem hj))
    rw [← ep'] at pj
    have hpk : p.2 = k := (mixKind P w).inj _ _ _ (gd p hp) pj
    have hm : k ∈ L.map (·.2) := List.mem_map.mpr ⟨p, hp, hpk⟩
    exact wpAny_pure (wpAny_pure (hQ false s.heap L (Heap.SameBut.refl a s.heap) ⟨o, es, ep, t, ho, hex, hd, pm, gd, nd, hb, hf, hr, hl⟩ (fun _ => rfl) fun z => absurd hm z))
  | none =>
    dsimp only
    have hnk : k ∉ L.map (·.2) := fun z => by
      obtain ⟨p, hp, e⟩ := List.mem_map.mp z
      have c := List.findIdx?_eq_none_iff.mp hfi (rowF w p) (pm.mem_iff.mpr (List.mem_map.mpr ⟨p, hp, rfl⟩))
      have c' : keyIs k p.1 = false := c
      rw [← e, gd p hp] at c'
      cases c'
    have hgw : ∀ (b : Bool) {s₁ : Shared} {Q' : Unit → Shared → Prop}, Q' () s₁ → wpAny (model P w) A (match b with | true => rule "set.scan.the-table-gave-way" | false => pure ()) Q' E s₁ :=
      fun b s₁ Q' q => by cases b <;> first | exact wpAny_pure q | exact wpAny_rule q
    have pma := layNew_perm t es (keyH w k) v
    have hfa := layNew_fits t es (keyH w k) v
    have hra := layNew_ris t es (keyH w k) v hr
    have hla := layNew_led t es (keyH w k) v
    show wpAny _ _ (match layNew t es (keyH w k) v with | (es, t, wasDummy, gave) => _) _ _ _
    generalize layNew t es (keyH w k) v = Z at pma hfa hra hla ⊢
    obtain ⟨ea, ta, wd, gv⟩ := Z
    dsimp only at pma hfa hra hla ⊢
    rw [Array.toList_push] at pma
    have pc : ea.toList.Perm (((v, k) :: L).map (rowF w)) := (pma.trans (List.perm_append_singleton _ _)).trans (pm.cons _)
    have gda : ∀ p ∈ (v, k) :: L, keyIs p.2 p.1 = true := fun p hp => by
      rcases List.mem_cons.mp hp with z | z
      · rw [z]; exact hkey
      · exact gd p z
    have nda : (((v, k) :: L).map (·.2)).Nodup := List.nodup_cons.mpr ⟨hnk, nd⟩
    have hba : ea.size < scanBound := by
      rw [← Array.length_toList, pc.length_eq, List.length_map, List.length_cons]
      unfold scanBound; omega
    have hled : w.params.followText "set-order" = true ∨ ta.led = true := hl.imp id fun z => by rw [hla]; exact z
    have fin : ∀ h', Heap.SameBut a s.heap h' → SetF w h' a ((v, k) :: L) → Q true { s with heap := h' } := fun h' sb r => hQ true h' _ sb r (fun z => absurd z hnk) fun _ => rfl
    refine wpAny_bind (hgw _ ?_)
    split
    · refine wpAny_bind ?_
      rw [hashByValue_scannable 8 hsc]
      refine wpAny_pure ?_
      refine tail_F ?_ ho hex hd pc gda nda hba ?_ ?_ ?_ ?_
      · intro b s₁ Q' q; cases b <;> first | exact wpAny_pure q | exact wpAny_rule q
      · first | (split <;> first | exact hfa | exact SetTable.fits_plain_off hfa) | exact hfa
      · first | (split <;> exact hra) | exact hra
      · first | (split <;> exact hled) | exact hled
      · intro h' sb r; dsimp only; exact wpAny_pure (fin h' sb r)
    · refine wpAny_bind (wpAny_pure ?_)
      simp only [↓reduceIte]
      refine tail_F ?_ ho hex hd pc gda nda hba hfa hra hled ?_
      · intro b s₁ Q' q; cases b <;> first | exact wpAny_pure q | exact wpAny_rule q
      · intro h' sb r; dsimp only; exact wpAny_pure (fin h' sb r)
end
def flatEK (P : Program) (w : World) : EK P w L2.Key where
  elem _ k v := keyIs k v = true
  core h a L := SetF w h a L
  enc := kD
  eKeep h _ := h
  cKeep h k := let ⟨o, es, ep, t, ho, r⟩ := h; ⟨o, es, ep, t, k o ho, r⟩
  nodup h := let ⟨_, _, _, _, _, _, _, _, _, nd, _⟩ := h; nd
  add := by
    intro A E s a L v k Q hu R _ hkey room hQ
    unfold setAdd
    refine wpAny_holding (wpAny_bind ((mixKind P w).pyHash hkey ?_))
    exact add_F (s := { s with toks := s.toks + 1 }) R hkey room fun b h' L' sb r c1 c2 => hQ b h' L' _ (Nat.le_succ _) sb r c1 fun z => by rw [c2 z]
  fresh ho := ⟨_, #[], 0, _, ho, ⟨rfl, rfl, rfl⟩, rfl, .nil, fun p hp => (by cases hp), .nil, by decide, rfl, List.Pairwise.nil, by
    show _ ∨ (!w.params.followText "set-order") = true
    cases w.params.followText "set-order"
    · exact .inr rfl
    · exact .inl rfl⟩
  walk h := by
    obtain ⟨o, es, ep, t, ho, hex, hd, pm, gd, nd, hb, hf, hr, hl⟩ := h
    refine ⟨o, es, ep, t, ho, hex, hd, ?_, hf, hb, hr, hl⟩
    have := pm.map (·.2)
    rw [List.map_map] at this
    exact this
  reads h := by
    rcases keyIs_shape h with ⟨i, t, rfl, rfl⟩ | ⟨x, t, rfl, rfl⟩
    · exact ⟨[], .int _ _, fun _ _ _ _ => List.not_mem_nil⟩
    · exact ⟨[], .str _ _, fun _ _ _ _ => List.not_mem_nil⟩
/-! tuples -/
structure SetT1 (P : Program) (w : World) (h : Heap) (a : Addr) (L : List (Addr × List L2.Key)) : Prop where
  ex : ∃ (es : Array (Int × Value)) (ep : Nat) (t : SetTable), (∃ o, h.get? a = some o ∧ o.ExactSet ∧ o.data = .set es ep t) ∧ es.toList = rowsOf P w L ∧ TabOk t (L.map fun p => thash P w p.2) ∧ (L.map (·.2)).Nodup ∧
    (w.params.followText "set-order" = true ∨ t.led = true) ∧ L.length * 5 < t.mask * 3 ∧ L.length < 64
section
variable {P : Program} {w : World} {h : Heap} {a : Addr} {L : List (Addr × List L2.Key)}
theorem SetTR.t1 {es : Array (Int × Value)} {ep : Nat} {t : SetTable} (R : SetTR P w h a L es ep t) : SetT1 P w h a L := ⟨es, ep, t, R.ob, R.rows, R.tab, R.nd, R.led, R.room, R.few⟩
theorem SetT1.full (R : SetT1 P w h a L) (ht : ∀ p ∈ L, IsT P w h p.2 p.1) : ∃ es ep t, SetTR P w h a L es ep t := by
  obtain ⟨es, ep, t, h1, h2, h3, h4, h6, h7, h8⟩ := R.ex
  exact ⟨es, ep, t, h1, h2, h3, h4, ht, h6, h7, h8⟩
end
theorem setTR_fresh' {P : Program} {w : World} {h : Heap} {a : Addr} (ho : h.get? a = some { cls := .type "set", dict := none, data := .set #[] 0 (.fresh 0 0 (!w.params.followText "set-order")) }) : SetT1 P w h a [] :=
  ⟨#[], 0, .fresh 0 0 (!w.params.followText "set-order"), ⟨_, ho, ⟨rfl, rfl, rfl⟩, rfl⟩, rfl, ⟨List.Pairwise.nil, rfl, rfl, .inl rfl, fun x hx => (by cases hx), fun i h j hi => (by simp at hi)⟩, List.nodup_nil, by
    show _ ∨ (!w.params.followText "set-order") = true
    cases w.params.followText "set-order"
    · exact .inr rfl
    · exact .inl rfl, by show 0 * 5 < 7 * 3; decide, by decide⟩
def upT (p : Addr × List L2.Key) : Value × List L2.Key := (.ref p.1, p.2)
theorem readsAll_keys {h : Heap} {P : Program} {w : World} : ∀ {ks : List L2.Key} {vs : List Value}, PySem.ItemsAre (mixKind P w) ks vs → ReadsAll h vs (ks.map kD) []
  | _, _, .nil => .nil
  | _, _, .cons h1 ht => by
    rename_i k v ks vs
    have ih := readsAll_keys (h := h) ht
    have h1 : keyIs k v = true := h1
    rcases keyIs_shape h1 with ⟨i, t, rfl, rfl⟩ | ⟨x, t, rfl, rfl⟩
    · exact ReadsAll.cons (.int i t) ih
    · exact ReadsAll.cons (.str x t) ih
def tupEK (P : Program) (w : World) (Kn : Addr → List L2.Key → Prop) : EK P w (List L2.Key) where
  elem h k v := ∃ b, v = .ref b ∧ IsT P w h k b ∧ Kn b k
  core h a L := ∃ M, L = M.map upT ∧ SetT1 P w h a M
  enc k := .tuple (k.map kD)
  eKeep h k := let ⟨b, e, ⟨o, items, n, ho, r⟩, kn⟩ := h; ⟨b, e, ⟨o, items, n, k _ _ ho, r⟩, kn⟩
  cKeep h k := by
    obtain ⟨M, e, es, ep, t, ⟨o, ho, r⟩, q⟩ := h
    exact ⟨M, e, es, ep, t, ⟨o, k o ho, r⟩, q⟩
  nodup h := by
    obtain ⟨M, rfl, es, ep, t, _, _, _, nd, _⟩ := h
    rw [List.map_map]
    exact nd
  add := by
    rintro A E s a L v k Q hu ⟨M, rfl, R0⟩ hel ⟨x, rfl, hx, _⟩ room hQ
    have mk2 : (M.map upT).map (·.2) = M.map (·.2) := by rw [List.map_map]; rfl
    obtain ⟨es, ep, t, R⟩ := R0.full fun p hp => by
      obtain ⟨b, e, z, _⟩ := hel (upT p) (List.mem_map.mpr ⟨p, hp, rfl⟩)
      cases e
      exact z
    unfold setAdd
    refine wpAny_holding (wpAny_bind (wpAny_pyHash_tuple hu hx ?_))
    refine add_at (s := { s with toks := s.toks + (k.length + 1) }) R hx hu (by rw [List.length_map] at room; exact room) fun b h' L' es' ep' t' sb R' c1 c2 => ?_
    refine hQ b h' (L'.map upT) _ (Nat.le_add_right _ _) sb ⟨L', rfl, R'.t1⟩ (fun z => ?_) fun z => ?_
    · rw [mk2] at z; rw [c1 z]
    · rw [mk2] at z; exact (c2 z).map upT
  fresh ho := ⟨[], rfl, (setTR_fresh' ho)⟩
  walk h := by
    obtain ⟨M, rfl, es, ep, t, ⟨o, ho, hex, hd⟩, rows, tab, nd, led, room, few⟩ := h
    have hsz : es.size = M.length := by
      have q := congrArg List.length rows
      unfold rowsOf at q
      rw [Array.length_toList, List.length_map] at q
      exact q
    refine ⟨o, es, ep, t, ho, hex, hd, ?_, ?_, ?_, tab.ris, led⟩
    · rw [rows]
      unfold rowsOf
      rw [List.map_map, List.map_map]
      exact .refl _
    · have q := tab.sz
      rw [List.length_map] at q
      unfold SetTable.fits SetTable.fill
      rw [tab.dm, Bool.and_eq_true, beq_iff_eq, decide_eq_true_eq]
      show t.place.size = es.size ∧ t.place.size + 0 ≤ t.mask
      omega
    · unfold scanBound; omega
  reads h := by
    obtain ⟨b, rfl, ⟨o, items, n, ho, hc, hd, hi⟩, _⟩ := h
    exact ⟨[], .tuple ho hc hd (readsAll_keys hi), fun _ _ _ _ => List.not_mem_nil⟩
end PV

/-! PV26: set(..) of a list, a tuple, a text; sorted, len of it. -/
namespace PV
open PySem L2 PySem.Spec PyProof.Rows

/-- x can be walked wherever h0's objects stand: n items, the i-th as Pv says -/
structure SrcOf (P : Program) (w : World) (h0 : Heap) (T : String) (x : Value) (n : Nat) (Pv : Nat → Value → Prop) : Prop where
  ty : ∀ s' : Shared, (∀ b o, h0.get? b = some o → s'.heap.get? b = some o) → s'.TypeIs x T
  it : ∀ {A' : Around} {E : Value → Shared → Prop} {s' : Shared} {Q : Value → Shared → Prop}, (∀ b o, h0.get? b = some o → s'.heap.get? b = some o) → (∀ (o : Obj) (fp : List Addr) (St : Nat → Heap → Prop), (∀ A2 : Around, A2.handled = none → Walks P w A2 s'.heap.objs.size fp [s'.heap.objs.size] n Pv St) →
    St 0 (s'.heap.push o) → (∀ b ∈ fp, b = s'.heap.objs.size ∨ b < h0.objs.size) → Q (.ref s'.heap.objs.size) { s' with heap := s'.heap.push o }) → wpAny (model P w) A' (pyIter x) Q E s'
  nset : isSubtype (.type T) (.type "set") = pure false
  nfro : isSubtype (.type T) (.type "frozenset") = pure false
  ndic : (Value.type T == Value.type "dict") = false
section
variable {P : Program} {w : World} {h : Heap}
theorem src_list {l : Addr} {items : Array Value} (hl : h.IsList l items) : SrcOf P w h "list" (.ref l) items.size (fun i v => items[i]? = some v) where
  ty s' k := by obtain ⟨o, ho, hc, _⟩ := hl; exact ⟨o, k _ _ ho, hc⟩
  it {A' E s' Q} k q := by
    obtain ⟨o, ho, hc, hd⟩ := hl
    have hl1 : s'.heap.IsList l items := ⟨o, k _ _ ho, hc, hd⟩
    have hlt := Heap.lt_size ho
    have hne : l ≠ s'.heap.objs.size := Nat.ne_of_lt (Heap.lt_size (k _ _ ho))
    refine wpAny_pyIter_list hl1 (q _ [s'.heap.objs.size, l] _ (fun A2 hh => Walks.list hh _ l hne items) ⟨⟨_, Heap.get?_push_size _ rfl, rfl, rfl⟩, hl1.push _⟩ fun b hb => ?_)
    rcases List.mem_cons.mp hb with z | z
    · exact .inl z
    · rw [List.mem_singleton.mp z]; exact .inr hlt
  nset := PySem.F.sub_list_set
  nfro := PySem.F.sub_list_frozenset
  ndic := by decide
theorem src_tuple {l : Addr} {items : Array Value} (hl : h.IsTuple l items) : SrcOf P w h "tuple" (.ref l) items.size (fun i v => items[i]? = some v) where
  ty s' k := by obtain ⟨o, ho, hc, _⟩ := hl; exact ⟨o, k _ _ ho, hc⟩
  it {A' E s' Q} k q := by
    obtain ⟨o, ho, hc, hd⟩ := hl
    have hl1 : s'.heap.IsTuple l items := ⟨o, k _ _ ho, hc, hd⟩
    have hlt := Heap.lt_size ho
    have hne : l ≠ s'.heap.objs.size := Nat.ne_of_lt (Heap.lt_size (k _ _ ho))
    refine wpAny_pyIter_tuple hl1 (q _ [s'.heap.objs.size, l] _ (fun A2 hh => Walks.tuple hh _ l hne items) ⟨⟨_, Heap.get?_push_size _ rfl, rfl, rfl⟩, hl1.push _⟩ fun b hb => ?_)
    rcases List.mem_cons.mp hb with z | z
    · exact .inl z
    · rw [List.mem_singleton.mp z]; exact .inr hlt
  nset := PySem.F.sub_tuple_set
  nfro := PySem.F.sub_tuple_frozenset
  ndic := by decide
theorem src_str {x : Str} {t : Tok} : SrcOf P w h "str" (.str x t) x.cps.size (SignAt x) where
  ty s' k := rfl
  it {A' E s' Q} k q := wpAny_pyIter_str fun o St W st => q o [s'.heap.objs.size] St W st fun b hb => .inl (List.mem_singleton.mp hb)
  nset := PySem.F.sub_str_set
  nfro := PySem.F.sub_str_frozenset
  ndic := by decide
end

section
variable {P : Program} {w : World} {A : Around} {E : Value → Shared → Prop} {s : Shared} {κ : Type} [DecidableEq κ] {e : EK P w κ}
/-- what has come into the set from the first i -/
structure Came (ks : List (Value × κ)) (i : Nat) (L : List (Value × κ)) : Prop where
  sub : ∀ p ∈ L, p ∈ ks.take i
  all : ∀ p ∈ ks.take i, p.2 ∈ L.map (·.2)
  len : L.length ≤ i
theorem took {α : Type} {l : List α} {i : Nat} {x : α} (h : l[i]? = some x) : l.take (i + 1) = l.take i ++ [x] := by rw [List.take_succ, h]; rfl
theorem Came.old {ks L : List (Value × κ)} {i : Nat} {x : Value × κ} (g : Came ks i L) (h : ks[i]? = some x) (hm : x.2 ∈ L.map (·.2)) : Came ks (i + 1) L :=
  ⟨fun p hp => by rw [took h]; exact List.mem_append_left _ (g.sub p hp), fun p hp => by
    rw [took h] at hp
    rcases List.mem_append.mp hp with z | z
    · exact g.all p z
    · rw [List.mem_singleton.mp z]; exact hm, Nat.le_succ_of_le g.len⟩
theorem Came.new {ks L M : List (Value × κ)} {i : Nat} {x : Value × κ} (g : Came ks i L) (h : ks[i]? = some x) (pm : M.Perm (x :: L)) : Came ks (i + 1) M :=
  ⟨fun p hp => by
    rw [took h]
    rcases List.mem_cons.mp (pm.mem_iff.mp hp) with z | z
    · rw [z]; exact List.mem_append_right _ (List.mem_singleton.mpr rfl)
    · exact List.mem_append_left _ (g.sub p z), fun p hp => by
    rw [(pm.map (·.2)).mem_iff, List.map_cons]
    rw [took h] at hp
    rcases List.mem_append.mp hp with z | z
    · exact List.mem_cons_of_mem _ (g.all p z)
    · rw [List.mem_singleton.mp z]; exact List.mem_cons_self, by
    rw [pm.length_eq, List.length_cons]; exact Nat.succ_le_succ g.len⟩
theorem upd_loop {I : Addr} {fp wr : List Addr} {G : Array GenState → Array GenState → Prop} {n : Nat} {Pv : Nat → Value → Prop} {St : Nat → Shared → Prop} {R : Result → Shared → Prop}
    (W : WalksS P w A.in1 I fp wr G n Pv St) (S : Addr) (hSf : S ∉ fp) (h0 : Heap) (ks : List κ) (hn : n = ks.length) (hfew : ks.length < 64) (hval : ∀ i v, Pv i v → ∃ k, ks[i]? = some k ∧ e.elem h0 k v)
    (hS0 : h0.get? S = none) (hw0 : ∀ b ∈ wr, h0.get? b = none) (hu : A.in1.units < cLine) :
    ∀ (m i : Nat) (s : Shared) (vs : List (Value × κ)), n - i = m → i ≤ n → St i s → (∀ b o, h0.get? b = some o → s.heap.get? b = some o) → vs.map (·.2) = ks.take i → (∀ p ∈ vs, e.elem h0 p.2 p.1) → (∃ L, e.core s.heap S L ∧ Came vs i L) →
      (∀ s' L vs, Moved (S :: wr) G s s' → e.core s'.heap S L → vs.map (·.2) = ks → (∀ p ∈ vs, e.elem h0 p.2 p.1) → Came vs n L → (∀ b o, h0.get? b = some o → s'.heap.get? b = some o) → R (.ok (.ret .none)) s') →
      codeAny (model P w) A (.builtin "set.update.loop" ⟨[.ref S, .ref I], []⟩) R s := by
  have hSw : S ∉ wr := fun h => hSf (W.sub _ h)
  have sub1 : ∀ b ∈ wr, b ∈ S :: wr := fun b hb => List.mem_cons_of_mem _ hb
  have keepM : ∀ {s s' : Shared}, Moved wr G s s' → (∀ b o, h0.get? b = some o → s.heap.get? b = some o) → ∀ b o, h0.get? b = some o → s'.heap.get? b = some o := fun hm hkp b o q =>
    hm.heap b o (fun hb => by rw [hw0 b hb] at q; cases q) (hkp b o q)
  intro m
  induction m with
  | zero =>
    intro i s vs hm0 hi hst hkp hvk hve ⟨L, hS, g⟩ hR
    obtain rfl : i = n := by omega
    refine codeAny_builtin PyProof.Rows.F.entry_set_update_loop ?_
    rw [Around.under_plainId PyProof.Rows.F.plain_set_update_loop _]
    show wpAny _ A.in1 (pyNext (.ref I) >>= fun _ => _) _ _ s
    refine wpAny_bind (W.done s _ _ hst fun s' hm => ?_)
    show wpAny _ A.in1 (ret Value.none) _ _ s'
    exact wpAny_pure (hR s' L vs (hm.mono sub1) (e.cKeep hS fun o q => hm.heap S o hSw q) (by rw [hvk, hn, List.take_length]) hve g (keepM hm hkp))
  | succ m ih =>
    intro i s vs hm0 hi hst hkp hvk hve ⟨L, hS, g⟩ hR
    have hlt : i < n := by omega
    refine codeAny_builtin PyProof.Rows.F.entry_set_update_loop ?_
    rw [Around.under_plainId PyProof.Rows.F.plain_set_update_loop _]
    show wpAny _ A.in1 (pyNext (.ref I) >>= fun _ => _) _ _ s
    refine wpAny_bind (W.item i s _ _ hlt hst fun v s' hP hst' hm => ?_)
    obtain ⟨k, hk, he⟩ := hval i v hP
    have hkp' := keepM hm hkp
    have hlen : vs.length = i := by
      have q := congrArg List.length hvk
      rw [List.length_map, List.length_take] at q
      omega
    have tk : (vs ++ [(v, k)]).take i = vs.take i := by rw [List.take_append_of_le_length (by omega)]
    have g' : Came (vs ++ [(v, k)]) i L := ⟨fun p hp => by rw [tk]; exact g.sub p hp, fun p hp => by rw [tk] at hp; exact g.all p hp, g.len⟩
    have hget : (vs ++ [(v, k)])[i]? = some (v, k) := by rw [List.getElem?_append_right (by omega), hlen, Nat.sub_self]; rfl
    have hvk' : (vs ++ [(v, k)]).map (·.2) = ks.take (i + 1) := by rw [List.map_append, hvk, took hk]; rfl
    have hve' : ∀ p ∈ vs ++ [(v, k)], e.elem h0 p.2 p.1 := fun p hp => by
      rcases List.mem_append.mp hp with z | z
      · exact hve p z
      · rw [List.mem_singleton.mp z]; exact he
    have inL : ∀ p ∈ L, e.elem s'.heap p.2 p.1 := fun p hp => e.eKeep (hve p (List.mem_of_mem_take (g.sub p hp))) hkp'
    show wpAny _ A.in1 (holding [v] (setAdd S v) >>= fun _ => _) _ _ s'
    refine wpAny_bind (wpAny_holding (e.add hu (e.cKeep hS fun o q => hm.heap S o hSw q) inL (e.eKeep he hkp') (by have := g.len; omega) fun b h' L' tk' htk hsb hS2 c1 c2 => ?_))
    have g2 : Came (vs ++ [(v, k)]) (i + 1) L' := by
      rcases Classical.em (k ∈ L.map (·.2)) with c | c
      · rw [c1 c]; exact g'.old hget c
      · exact g'.new hget (c2 c)
    have hkp2 : ∀ b o, h0.get? b = some o → h'.get? b = some o := fun b o q => (hsb.2 b (fun z => by rw [z, hS0] at q; cases q)).trans (hkp' b o q)
    refine wpAny_pure ⟨plainId_quiet PyProof.Rows.F.plain_set_update_loop _, ih (i + 1) _ _ (by omega) hlt (W.frame _ s' _ _ hst' htk fun b hb o q => ?_) hkp2 hvk' hve' ⟨L', hS2, g2⟩ fun s2 L2 vs2 hm2 h2 k2 e2 g3 kp2 => ?_⟩
    · rw [hsb.2 b (fun h : b = S => hSf (by rw [← h]; exact hb))]; exact q
    · refine hR s2 L2 vs2 (Moved.trans W.gtrans ((hm.mono sub1).then_heap htk fun b o hb q => ?_) hm2) h2 k2 e2 g3 kp2
      rw [hsb.2 b (fun h : b = S => hb (by rw [h]; exact List.mem_cons_self))]; exact q

theorem notSet {x : Value} {T : String} {Q : Bool → Shared → Prop} (hT : s.TypeIs x T) (h1 : isSubtype (.type T) (.type "set") = pure false) (h2 : isSubtype (.type T) (.type "frozenset") = pure false) (h : Q false s) : wpAny (model P w) A (Builtin.Frozenset.isAnySet x) Q E s := by
  unfold Builtin.Frozenset.isAnySet orM
  refine wpAny_bind (wpAny_isInstance hT h1 ?_)
  exact wpAny_isInstance hT h2 h
end
end PV

/-! PV27: the call of set; sorted, len of what it gives. -/
namespace PV
open PySem L2 PySem.Spec PyProof.Rows PySem.W

section
variable {P : Program} {w : World} {A : Around} {E : Value → Shared → Prop} {s : Shared} {κ : Type} [DecidableEq κ] {e : EK P w κ}
abbrev newSetO (w : World) : Obj := { cls := .type "set", dict := none, data := .set #[] 0 (.fresh 0 0 (!w.params.followText "set-order")) }
/-- what set(xs) leaves: xs read as ks -/
def SetMade (e : EK P w κ) (h0 : Heap) (ks : List κ) (h' : Heap) (S : Addr) : Prop := ∃ (L vs : List (Value × κ)), e.core h' S L ∧ (∀ p ∈ L, e.elem h0 p.2 p.1) ∧ (∀ k, k ∈ L.map (·.2) ↔ k ∈ ks)
theorem upd_from {x : Value} {T : String} {n : Nat} {Pv : Nat → Value → Prop} {S : Addr} {h0 : Heap} {ks : List κ} {Q : Unit → Shared → Prop} (hh : A.handled = none) (src : SrcOf P w h0 T x n Pv) (hn : n = ks.length) (hfew : ks.length < 64)
    (hval : ∀ i v, Pv i v → ∃ k, ks[i]? = some k ∧ e.elem h0 k v) (hSz : S = h0.objs.size) (hu : A.in1.units < cLine) (hk : ∀ b o, h0.get? b = some o → s.heap.get? b = some o) (hsz : s.heap.objs.size = h0.objs.size + 1) (hS : e.core s.heap S [])
    (h : ∀ h' tk, SetMade e h0 ks h' S → (∀ b o, h0.get? b = some o → h'.get? b = some o) → Q () { s with heap := h', toks := tk }) :
    wpAny (model P w) A (Builtin.Frozenset.updateFrom "set.__init__" S x) Q E s := by
  unfold Builtin.Frozenset.updateFrom
  have ty := src.ty s hk
  refine wpAny_bind (notSet ty src.nset src.nfro ?_)
  simp only [Bool.false_eq_true, if_false]
  try refine wpAny_bind (wpAny_pure ?_)
  refine wpAny_bind (wpAny_typeOf ty ?_)
  simp only [src.ndic, Bool.false_eq_true, if_false]
  try refine wpAny_bind (wpAny_pure ?_)
  refine wpAny_bind (src.it hk fun o fp St W st hfp => ?_)
  have none_of : ∀ b, h0.objs.size ≤ b → h0.get? b = none := fun b hb => by
    cases q : h0.get? b with
    | none => rfl
    | some o => exact absurd (Nat.lt_of_lt_of_le (Heap.lt_size q) hb) (Nat.lt_irrefl _)
  refine wpAny_bind (wpAny_runValue (upd_loop (e := e) (A := A) ((W A.in1 (by simp [hh])).toS) S (fun q => ?_) h0 ks hn hfew hval (none_of _ (Nat.le_of_eq hSz.symm)) (fun b hb => none_of b (by rw [List.mem_singleton.mp hb]; omega)) hu (n - 0) 0 { s with heap := s.heap.push o } [] (by omega) (Nat.zero_le _) st
    (fun b o q => Heap.get?_push_of_some _ (hk b o q)) rfl (fun p hp => (by cases hp)) ⟨[], e.cKeep hS fun o q => Heap.get?_push_of_some _ q, ⟨fun p hp => (by cases hp), fun p hp => (by simp at hp), Nat.le_refl _⟩⟩ fun s' L vs hm h1 h2 h3 g kp => ?_))
  · rcases hfp _ q with z | z
    · have z : S = s.heap.objs.size := z
      rw [hSz, hsz] at z
      exact Nat.succ_ne_self _ z.symm
    · have z : S < h0.objs.size := z
      rw [hSz] at z
      exact Nat.lt_irrefl _ z
  · have e1 : s' = { s with heap := s'.heap, toks := s'.toks } := by
      obtain ⟨hp, g, d, tk, os⟩ := s'
      have q1 : g = s.gens := hm.gens
      have q2 : d = s.drawn := hm.drawn
      have q3 : os = s.os := hm.os
      subst q1 q2 q3
      rfl
    rw [e1]
    refine wpAny_pure (h _ _ ⟨L, vs, h1, fun p hp => ?_, fun k => ⟨fun hk => ?_, fun hk => ?_⟩⟩ kp)
    · exact h3 p (List.mem_of_mem_take (g.sub p hp))
    · obtain ⟨p, hp, rfl⟩ := List.mem_map.mp hk
      rw [← h2]
      exact List.mem_map.mpr ⟨p, List.mem_of_mem_take (g.sub p hp), rfl⟩
    · rw [← h2] at hk
      obtain ⟨p, hp, rfl⟩ := List.mem_map.mp hk
      refine g.all p ?_
      have hl : vs.length = n := by
        have q := congrArg List.length h2
        rw [List.length_map] at q
        omega
      rw [← hl, List.take_length]
      exact hp
set_option maxHeartbeats 3200000 in
theorem call_set_of {x : Value} {T : String} {n : Nat} {Pv : Nat → Value → Prop} {ks : List κ} {Q : Value → Shared → Prop} (hh : A.handled = none) (src : SrcOf P w s.heap T x n Pv) (hn : n = ks.length) (hfew : ks.length < 64)
    (hval : ∀ i v, Pv i v → ∃ k, ks[i]? = some k ∧ e.elem s.heap k v) (hu : A.units + 6 < cLine)
    (h : ∀ h' tk, SetMade e s.heap ks h' s.heap.objs.size → (∀ b o, s.heap.get? b = some o → h'.get? b = some o) → Q (.ref s.heap.objs.size) { s with heap := h', toks := tk }) :
    wpAny (model P w) A (call (.type "set") [x]) Q E s := by
  obtain ⟨c, tl, hmro⟩ := PySem.F.called_set.mro
  have hmade := PySem.F.called_set.made
  have hsub := PySem.F.called_set.sub
  refine wpAny_call (codeAny_of_tree ?_)
  show wpAny _ _ (callAny (.type "set") _) _ _ _
  refine wpAny_pure ⟨Code.quiet_builtin _ (by decide +kernel), codeAny_builtin PySem.F.entry_type_call ?_⟩
  rw [Around.under_plain (weight_type_call_type "set" [x] []) rfl]
  have h1 := PySem.F.called_set.notType
  have h2 := PySem.F.called_set.canCreate
  have hct := PySem.F.typeCall_set_1 x
  repeat (any_goals (first | assumption | wp_step))
  refine codeAny_mono (code_set_led1 x (E := E) (Q₁ := fun ob sa => ob = .ref s.heap.objs.size ∧ sa = { s with heap := s.heap.push (newSetO w) }) ⟨rfl, rfl⟩) fun r sa hr => ?_
  cases r with
  | error er => exact hr
  | ok fl =>
    cases fl with
    | ret ob =>
      obtain ⟨rfl, rfl⟩ := hr
      have hS : (s.heap.push (newSetO w)).get? s.heap.objs.size = some (newSetO w) := Heap.get?_push_size _ rfl
      have hT : Shared.TypeIs { s with heap := s.heap.push (newSetO w) } (.ref s.heap.objs.size) "set" := ⟨_, hS, rfl⟩
      have hli := PySem.F.called_set.init.lookup
      have hbi := PySem.F.called_set.init.bind (.ref s.heap.objs.size)
      repeat (any_goals (first | assumption | wp_step))
      refine codeAny_mono (codeAny_call_builtin (R := wants (fun r s₂ => r = .none ∧ ∃ h' tk, s₂ = { s with heap := h', toks := tk } ∧ SetMade e s.heap ks h' s.heap.objs.size ∧ (∀ b o, s.heap.get? b = some o → h'.get? b = some o)) E) PySem.F.called_set.init.plain PySem.F.entry_set_init (check_set_init_1 hT ?_)) fun ra sb hrb => ?_
      · unfold Builtin.«set.__init__» noKeywords
        generalize hUF : Builtin.Frozenset.updateFrom = UF
        wp_walk
        subst hUF
        refine upd_from (s := { s with heap := s.heap.push (newSetO w) }) (e := e) ?_ src hn hfew hval rfl ?_ (fun b o q => Heap.get?_push_of_some _ q) (Heap.size_push ..) (e.fresh hS) fun h' tk hm hk => ?_
        · simp [hh]
        · simp; omega
        · wp_walk
          exact ⟨rfl, h', tk, rfl, hm, hk⟩
      · cases ra with
        | error er => exact hrb
        | ok flb =>
          cases flb with
          | ret r =>
            obtain ⟨rfl, h', tk, rfl, hm, hk⟩ := hrb
            repeat (any_goals (first | assumption | wp_step))
            exact h _ _ hm hk
          | _ => exact hrb.elim
    | _ => exact hr.elim
end
end PV

/-! PV28: sorted(set(..)), len(set(..)). -/
namespace PV
open PySem L2 PySem.Spec PyProof.Rows PySem.W

section
variable {κ : Type} [DecidableEq κ]
/-- each once -/
def dd : List κ → List κ
  | [] => []
  | x :: xs => if x ∈ dd xs then dd xs else x :: dd xs
theorem mem_dd {x : κ} : ∀ {l : List κ}, x ∈ dd l ↔ x ∈ l
  | [] => Iff.rfl
  | y :: l => by
    unfold dd
    split
    · rename_i h
      rw [mem_dd, List.mem_cons]
      exact ⟨.inr, fun z => z.elim (fun q => by rw [q]; exact mem_dd.mp h) id⟩
    · rw [List.mem_cons, List.mem_cons, mem_dd]
theorem nodup_dd : ∀ l : List κ, (dd l).Nodup
  | [] => .nil
  | x :: l => by
    unfold dd
    split
    · exact nodup_dd l
    · rename_i h
      exact List.nodup_cons.mpr ⟨h, nodup_dd l⟩
theorem dd_len_le : ∀ l : List κ, (dd l).length ≤ l.length
  | [] => Nat.le_refl _
  | x :: l => by
    unfold dd
    split
    · exact Nat.le_succ_of_le (dd_len_le l)
    · exact Nat.succ_le_succ (dd_len_le l)
/-- sorted, each once -/
def sortOf (enc : κ → D) (l : List κ) : List κ := (dd l).mergeSort (dataLe false enc)
theorem sort_perm {enc : κ → D} {l m : List κ} (inj : ∀ a b : κ, keyToks (enc a) = keyToks (enc b) → a = b) (p : l.Perm m) : l.mergeSort (dataLe false enc) = m.mergeSort (dataLe false enc) := by
  have tr := (sortLe_total (listOrd itemOrd) false fun b : κ => keyToks (enc b))
  refine List.Perm.eq_of_pairwise (le := fun a b => dataLe false enc a b = true) (fun a b _ _ h1 h2 => inj a b ?_) (List.pairwise_mergeSort tr.trans (fun a b => Bool.or_eq_true_iff.mpr (tr.total a b)) l) (List.pairwise_mergeSort tr.trans (fun a b => Bool.or_eq_true_iff.mpr (tr.total a b)) m) (((List.mergeSort_perm l _).trans p).trans (List.mergeSort_perm m _).symm)
  have h1 : (!(listOrd itemOrd).blt (keyToks (enc b)) (keyToks (enc a))) = true := h1
  have h2 : (!(listOrd itemOrd).blt (keyToks (enc a)) (keyToks (enc b))) = true := h2
  rw [Bool.not_eq_true'] at h1 h2
  exact (listOrd itemOrd).total _ _ h2 h1
theorem perm_of_map {α β : Type} (f : α → β) : ∀ {vs : List β} {l : List α}, vs.Perm (l.map f) → ∃ m : List α, m.Perm l ∧ m.map f = vs := by
  intro vs l h
  generalize hm : l.map f = us at h
  induction h generalizing l with
  | nil => exact ⟨l, .refl _, hm⟩
  | @cons x a b h ih =>
    cases l with
    | nil => cases hm
    | cons y l =>
      injection hm with e1 e2
      obtain ⟨m, p, q⟩ := ih e2
      exact ⟨y :: m, p.cons y, by rw [List.map_cons, e1, q]⟩
  | swap x y a =>
    match l, hm with
    | p :: q :: l, hm =>
      injection hm with e1 e2
      injection e2 with e2 e3
      exact ⟨q :: p :: l, .swap _ _ _, by rw [List.map_cons, List.map_cons, e1, e2, e3]⟩
  | trans h1 h2 ih1 ih2 =>
    obtain ⟨m, p, q⟩ := ih2 hm
    obtain ⟨m', p', q'⟩ := ih1 q
    exact ⟨m', p'.trans p, q'⟩
end
theorem kD_inj (a b : L2.Key) (h : keyToks (kD a) = keyToks (kD b)) : a = b := by
  cases a with
  | inl i => cases b with
    | inl j => simp only [kD, keyToks] at h; simpa using h
    | inr y => simp [kD, keyToks] at h
  | inr x => cases b with
    | inl j => simp [kD, keyToks] at h
    | inr y =>
      simp only [kD, keyToks] at h
      have h : x.cps.toList = y.cps.toList := by simpa using h
      cases x; cases y
      have : _ = _ := Array.toList_inj.mp h
      simp_all
theorem kD_one (a : L2.Key) : ∃ t, keyToks (kD a) = [t] := by
  cases a with
  | inl i => exact ⟨_, rfl⟩
  | inr x => exact ⟨_, rfl⟩
def tD (ks : List L2.Key) : D := .tuple (ks.map kD)
theorem tD_inj : ∀ (a b : List L2.Key), keyToks (tD a) = keyToks (tD b) → a = b := by
  have go : ∀ (a b : List L2.Key), keyToksAll (a.map kD) = keyToksAll (b.map kD) → a = b := by
    intro a
    induction a with
    | nil => intro b h; cases b with
      | nil => rfl
      | cons y b => simp [keyToksAll] at h
    | cons x a ih => intro b h; cases b with
      | nil => simp [keyToksAll] at h
      | cons y b =>
        obtain ⟨t, et⟩ := kD_one x
        obtain ⟨u, eu⟩ := kD_one y
        simp only [List.map_cons, keyToksAll, et, eu] at h
        have h : t = u ∧ keyToksAll (a.map kD) = keyToksAll (b.map kD) := by simpa using h
        rw [ih b h.2, kD_inj x y (by rw [et, eu, h.1])]
  exact go
section
variable {P : Program} {w : World} {A : Around} {E : Value → Shared → Prop} {s : Shared} {κ : Type} [DecidableEq κ] {e : EK P w κ}
theorem each_maps {α β : Type} {R : α → β → Prop} (f : (α × β) → α) (hf : f = Prod.fst) : ∀ {l : List (α × β)}, (∀ p ∈ l, R p.1 p.2) → EachIs R (l.map f) (l.map (·.2))
  | [], _ => .nil
  | p :: l, h => by subst hf; exact .cons (h p List.mem_cons_self) (each_maps _ rfl fun q hq => h q (List.mem_cons_of_mem _ hq))
/-- sorted(s), s a set -/
theorem sorted_setK {S : Addr} {h0 : Heap} {ks : List κ} {Q : Value → Shared → Prop} (hh : A.handled = none) (hm : SetMade e h0 ks s.heap S) (hk : ∀ b o, h0.get? b = some o → s.heap.get? b = some o) (inj : ∀ a b : κ, keyToks (e.enc a) = keyToks (e.enc b) → a = b)
    (hal : AllAlike (ks.map e.enc)) (hs : Sortable (ks.map e.enc)) (hu : ∀ k ∈ ks, A.units + 2 + (e.enc k).depth < cLine) (hlen : ks.length < 64)
    (hQ : ∀ s' p (out : List Value) (c : Nat), (∀ b o, s.heap.get? b = some o → s'.heap.get? b = some o) → s'.gens = s.gens → s'.os = s.os → s.heap.objs.size ≤ p → s'.heap.get? p = some (seqObj "list" out.toArray c) → EachIs (fun v k => e.elem h0 k v) out (sortOf e.enc ks) → Q (.ref p) s') :
    wpAny (model P w) A (call (.builtin "sorted") [.ref S]) Q E s := by
  obtain ⟨L, vs0, hc, hel, hmem⟩ := hm
  obtain ⟨o, es, ep, t, ho, hex, hd, pm, hf, hb, hr, hl⟩ := e.walk hc
  refine Calls.call_function_entry kind_sorted plain_sorted entry_sorted (args_sorted1 _) ?_
  unfold Builtin.«sorted»
  refine wpAny_bind (m := checkCount "sorted" 1 1 _) (wpAny_pure ?_)
  refine wpAny_bind (collect_set (A := A.in1) hh ⟨o, ho, hex.1, hd⟩ hf hb hr hl fun sa vs ka hz ga oa pv => ?_)
  obtain ⟨M, pM, eM⟩ := perm_of_map (fun p : Value × κ => p.1) (pv.trans pm)
  have memM : ∀ k, k ∈ M.map (·.2) ↔ k ∈ ks := fun k => ((pM.map (·.2)).mem_iff).trans (hmem k)
  have nM : (M.map (·.2)).Nodup := (pM.map (·.2)).nodup_iff.mpr (e.nodup hc)
  have lM : M.length ≤ ks.length := by
    have h1 : (M.map (·.2)).Perm (dd ks) := (List.perm_ext_iff_of_nodup nM (nodup_dd ks)).mpr fun k => (memM k).trans mem_dd.symm
    have h2 := h1.length_eq
    have h3 := dd_len_le ks
    rw [List.length_map] at h2
    omega
  have lv : vs.length = M.length := by rw [← eM, List.length_map]
  have keepA : ∀ b o, h0.get? b = some o → sa.heap.get? b = some o := fun b o q => ka b o (hk b o q)
  refine wpAny_bind (wpAny_newList ?_ (by rw [sizeLine_eq]; omega))
  have hoL : (sa.heap.push (seqObj "list" vs.toArray 0)).get? sa.heap.objs.size = some (seqObj "list" vs.toArray 0) := Heap.get?_push_size _ rfl
  have ev : EachIs (fun v k => e.elem h0 k v) vs (M.map (·.2)) := by
    rw [← eM]
    exact each_maps _ rfl fun p hp => hel p (pM.mem_iff.mp hp)
  have keepP : ∀ b o, h0.get? b = some o → (sa.heap.push (seqObj "list" vs.toArray 0)).get? b = some o := fun b o q => Heap.get?_push_of_some _ (keepA b o q)
  have er : EachIs (fun v k => ∃ as, Reads (sa.heap.push (seqObj "list" vs.toArray 0)) v (e.enc k) as ∧ sa.heap.objs.size ∉ as) vs (M.map (·.2)) := ev.mono fun v k q => by
    obtain ⟨as, r, n⟩ := e.reads (e.eKeep q keepP)
    exact ⟨as, r, n _ _ hoL rfl⟩
  have sub : ∀ k, k ∈ M.map (·.2) → k ∈ ks := fun k hk => (memM k).mp hk
  have hal' : AllAlike ((M.map (·.2)).map e.enc) := fun d hd d' hd' => by
    obtain ⟨k, q1, rfl⟩ := List.mem_map.mp hd
    obtain ⟨k', q2, rfl⟩ := List.mem_map.mp hd'
    exact hal _ (List.mem_map.mpr ⟨k, sub k q1, rfl⟩) _ (List.mem_map.mpr ⟨k', sub k' q2, rfl⟩)
  have hs' : Sortable ((M.map (·.2)).map e.enc) := by
    have mv : ∀ d, d ∈ (M.map (·.2)).map e.enc → d ∈ ks.map e.enc := fun d hd => by
      obtain ⟨k, q1, rfl⟩ := List.mem_map.mp hd
      exact List.mem_map.mpr ⟨k, sub k q1, rfl⟩
    exact hs.imp (fun z d hd => z d (mv d hd)) fun z d hd => z d (mv d hd)
  refine wpAny_bind (wpAny_holding (list_sort_data (s := { sa with heap := sa.heap.push (seqObj "list" vs.toArray 0) }) (A := A.in1) hoL ev er hal' hs' (by rw [List.length_map, sizeLine_eq]; omega) (fun k hk => by
    have := hu k (sub k hk)
    show A.units + 1 + 1 + (e.enc k).depth < cLine
    omega) fun out ho' eo => ?_))
  obtain ⟨c, hcell⟩ := sortedHeap_at (vs := vs) (out := out.toArray) hoL
  have same : (M.map (·.2)).mergeSort (dataLe false e.enc) = sortOf e.enc ks := sort_perm inj ((List.perm_ext_iff_of_nodup nM (nodup_dd ks)).mpr fun k => (memM k).trans mem_dd.symm)
  rw [same] at eo
  refine wpAny_pure ⟨_, rfl, hQ _ sa.heap.objs.size out c (fun b u q => ?_) ga oa hz hcell eo⟩
  have q1 := ka b u q
  have hlt := Heap.lt_size q1
  show (sortedHeap (sa.heap.push (seqObj "list" vs.toArray 0)) sa.heap.objs.size vs out.toArray).get? b = some u
  rw [sortedHeap_old (Nat.ne_of_lt hlt) (by rw [size_push']; exact Nat.lt_succ_of_lt hlt)]
  exact Heap.get?_push_of_some _ q1
theorem len_setK {S : Addr} {h0 : Heap} {ks : List κ} {Q : Value → Shared → Prop} (hm : SetMade e h0 ks s.heap S) (hlen : ks.length < 64) (hQ : ∀ tk t, Q (.int ((dd ks).length : Nat) t) { s with toks := tk }) :
    wpAny (model P w) A (call (.builtin "len") [.ref S]) Q E s := by
  obtain ⟨L, vs0, hc, hel, hmem⟩ := hm
  obtain ⟨o, es, ep, t, ho, hex, hd, pm, hf, hb, hr, hl⟩ := e.walk hc
  have e1 : es.size = (dd ks).length := by
    have h1 : (L.map (·.2)).Perm (dd ks) := (List.perm_ext_iff_of_nodup (e.nodup hc) (nodup_dd ks)).mpr fun k => (hmem k).trans mem_dd.symm
    have h2 := h1.length_eq
    have h3 := pm.length_eq
    rw [List.length_map] at h2
    rw [List.length_map, List.length_map, Array.length_toList] at h3
    omega
  refine call_len_set ho hex hd hf (by have := dd_len_le ks; rw [e1]; omega) ?_
  rw [e1]
  exact hQ _ _
end
end PV

/-! PV29: the rules of sorted(set(..)), len(set(..)), sorted(..). -/
namespace PV
open PySem L2 PySem.Spec PyProof.Rows PySem.W

def allK : List D → Option (List L2.Key)
  | [] => some []
  | .int i :: r => (allK r).map (Sum.inl i :: ·)
  | .str x :: r => (allK r).map (Sum.inr x :: ·)
  | _ => none
def allT : List D → Option (List (List L2.Key))
  | [] => some []
  | .tuple xs :: r => match allK xs with
    | some ks => (allT r).map (ks :: ·)
    | none => none
  | _ => none
theorem allK_eq : ∀ {ds : List D} {ks : List L2.Key}, allK ds = some ks → ds = ks.map kD
  | [], _, e => by cases e; rfl
  | .int i :: r, ns, e => by
    cases q : allK r with
    | none => rw [allK, q] at e; cases e
    | some l => rw [allK, q] at e; cases e; rw [allK_eq q]; rfl
  | .str i :: r, ns, e => by
    cases q : allK r with
    | none => rw [allK, q] at e; cases e
    | some l => rw [allK, q] at e; cases e; rw [allK_eq q]; rfl
  | .none :: _, _, e => by cases e
  | .bool _ :: _, _, e => by cases e
  | .list _ :: _, _, e => by cases e
  | .tuple _ :: _, _, e => by cases e
  | .dict _ :: _, _, e => by cases e
theorem allT_eq : ∀ {ds : List D} {ks : List (List L2.Key)}, allT ds = some ks → ds = ks.map tD
  | [], _, e => by cases e; rfl
  | .tuple xs :: r, ns, e => by
    unfold allT at e
    cases q : allK xs with
    | none => rw [q] at e; cases e
    | some ks =>
      rw [q] at e
      cases q2 : allT r with
      | none => simp only [q2] at e; cases e
      | some l => simp only [q2] at e; cases e; rw [allT_eq q2, allK_eq q]; rfl
  | .none :: _, _, e => by cases e
  | .bool _ :: _, _, e => by cases e
  | .list _ :: _, _, e => by cases e
  | .int _ :: _, _, e => by cases e
  | .str _ :: _, _, e => by cases e
  | .dict _ :: _, _, e => by cases e
def alikeB (ds : List D) : Bool := ds.all fun a => ds.all fun b => alike a b
theorem alikeB_of {ds : List D} (h : alikeB ds = true) : AllAlike ds := fun a ha b hb => List.all_eq_true.mp (List.all_eq_true.mp h a ha) b hb
/-- what can be walked to fill a set -/
def srcD : D → Option (List D)
  | .list ds => some ds
  | .tuple ds => some ds
  | .str x => some (strItems x)
  | _ => none
def sortL (ds : List D) : R D := match allK ds with
  | some ks => if ks.length < 64 ∧ alikeB (ks.map kD) = true then .ok (.list ((sortOf kD ks).map kD)) else .bad
  | none => match allT ds with
    | some kss => if kss.length < 64 ∧ (kss.all fun ks => !ks.isEmpty) = true ∧ alikeB (kss.map tD) = true then .ok (.list ((sortOf tD kss).map tD)) else .bad
    | none => .bad
def pSortSet (d : D) : R D := match srcD d with
  | some ds => sortL ds
  | none => .bad
def pLenSet (d : D) : R D := match srcD d with
  | some ds => (match allK ds with
    | some ks => if ks.length < 64 then .ok (.int ((dd ks).length : Nat)) else .bad
    | none => match allT ds with
      | some kss => if kss.length < 64 then .ok (.int ((dd kss).length : Nat)) else .bad
      | none => .bad)
  | none => .bad
section
variable {K : PySem.W.Frag} {G H : Hp} {X : Cx} {pins : List (Addr × Obj)} {σ : L2.St} {s : Shared}
theorem elems_K (I : L2.Inv X pins σ H s) : ∀ {ks : List L2.Key} {vs : List V} {us : List Value}, Reps X.K G vs (ks.map kD) → Vals vs us → us.length = ks.length ∧ ∀ (i : Nat) (v : Value), us[i]? = some v → ∃ k, ks[i]? = some k ∧ (flatEK X.prog X.w).elem s.heap k v
  | [], _, _, h, r => by cases h; cases r; exact ⟨rfl, fun i v q => by simp at q⟩
  | k :: ks, _, _, h, r => by
    rw [List.map_cons] at h
    cases h with
    | cons h1 h2 =>
      obtain ⟨rfl, _⟩ := h1.key
      cases r with
      | cons r1 r2 =>
        obtain ⟨l, f⟩ := elems_K I h2 r2
        refine ⟨by rw [List.length_cons, List.length_cons, l], fun i v q => ?_⟩
        cases i with
        | zero => cases q; exact ⟨k, rfl, kV_is (P := X.prog) (w := X.w) r1⟩
        | succ i => exact f i v (by simpa using q)
theorem elems_T (I : L2.Inv X pins σ H s) (e : Ex G H) : ∀ {ks : List (List L2.Key)} {vs : List V} {us : List Value}, Reps X.K G vs (ks.map tD) → Vals vs us → us.length = ks.length ∧ ∀ (i : Nat) (v : Value), us[i]? = some v → ∃ k, ks[i]? = some k ∧ (tupEK X.prog X.w (fun b k => G b = some (.tup (k.map kV)) ∧ ∀ y ∈ k, KOk y)).elem s.heap k v
  | [], _, _, h, r => by cases h; cases r; exact ⟨rfl, fun i v q => by simp at q⟩
  | k :: ks, _, _, h, r => by
    rw [List.map_cons] at h
    cases h with
    | cons h1 h2 =>
      obtain ⟨b, xs, rfl, hb, hr⟩ := h1.tuple_inv
      obtain ⟨rfl, hok⟩ := hr.keys
      cases r with
      | cons r1 r2 =>
        obtain ⟨l, f⟩ := elems_T I e h2 r2
        refine ⟨by rw [List.length_cons, List.length_cons, l], fun i v q => ?_⟩
        cases i with
        | zero =>
          cases q
          exact ⟨k, rfl, b, r1, key_of I.hok (e _ _ hb), hb, hok⟩
        | succ i => exact f i v (by simpa using q)
/-- a source of a set, its items ints, texts | tuples -/
theorem src_of (I : L2.Inv X pins σ H s) (e : Ex G H) {x : V} {d : D} {v : Value} {ds : List D} (p : RepH X.K G H x d) (hs : srcD d = some ds) (rv : RelV x v) : ∃ T n Pv, SrcOf X.prog X.w s.heap T v n Pv ∧
    (∀ ks : List L2.Key, ds = ks.map kD → n = ks.length ∧ ∀ i u, Pv i u → ∃ k, ks[i]? = some k ∧ (flatEK X.prog X.w).elem s.heap k u) ∧
    (∀ ks : List (List L2.Key), ds = ks.map tD → n = ks.length ∧ ∀ i u, Pv i u → ∃ k, ks[i]? = some k ∧ (tupEK X.prog X.w (fun b k => G b = some (.tup (k.map kV)) ∧ ∀ y ∈ k, KOk y)).elem s.heap k u) := by
  cases d with
  | list zs =>
    cases hs
    obtain ⟨a, vs, rfl, h1, h2⟩ := p.list_inv e
    obtain rfl : v = .ref a := rv
    obtain ⟨its, r, pl, _⟩ := I.list h1
    refine ⟨_, _, _, src_list pl.isList, fun ks ek => ?_, fun ks ek => ?_⟩
    · subst ek
      obtain ⟨l, f⟩ := elems_K I h2 r
      exact ⟨by simpa using l, fun i u q => f i u (by simpa using q)⟩
    · subst ek
      obtain ⟨l, f⟩ := elems_T I e h2 r
      exact ⟨by simpa using l, fun i u q => f i u (by simpa using q)⟩
  | tuple zs =>
    cases hs
    obtain ⟨a, vs, rfl, h1, h2⟩ := p.tuple_inv
    obtain rfl : v = .ref a := rv
    obtain ⟨its, r, pl, _⟩ := I.tuple (e.st h1)
    refine ⟨_, _, _, src_tuple pl, fun ks ek => ?_, fun ks ek => ?_⟩
    · subst ek
      obtain ⟨l, f⟩ := elems_K I h2 r
      exact ⟨by simpa using l, fun i u q => f i u (by simpa using q)⟩
    · subst ek
      obtain ⟨l, f⟩ := elems_T I e h2 r
      exact ⟨by simpa using l, fun i u q => f i u (by simpa using q)⟩
  | str z =>
    cases hs
    obtain ⟨rfl, _⟩ := p.str_inv
    obtain ⟨t, rfl⟩ := rv
    refine ⟨_, _, _, src_str, fun ks ek => ?_, fun ks ek => ?_⟩
    · have hl := congrArg List.length ek
      unfold strItems at hl ek
      rw [List.length_map, List.length_map, Array.length_toList] at hl
      refine ⟨hl, fun i u q => ?_⟩
      obtain ⟨c, tk, hc, rfl⟩ := q
      have e1 := congrArg (fun l => l[i]?) ek
      simp only [List.getElem?_map, Array.getElem?_toList, hc, Option.map_some] at e1
      cases hk : ks[i]? with
      | none => rw [hk] at e1; cases e1
      | some k =>
        rw [hk] at e1
        have e1 : PyData.str ⟨#[c]⟩ = kD k := Option.some.inj e1
        refine ⟨k, rfl, ?_⟩
        cases k with
        | inl j => cases e1
        | inr y =>
          injection e1 with e1
          subst e1
          exact kV_is (P := X.prog) (w := X.w) (k := .inr ⟨#[c]⟩) ⟨tk, rfl⟩
    · unfold strItems at ek
      cases hz : z.cps.toList with
      | nil =>
        rw [hz] at ek
        cases ks with
        | nil =>
          have hn : z.cps.size = 0 := by rw [← Array.length_toList, hz]; rfl
          refine ⟨hn, fun i u q => ?_⟩
          obtain ⟨c, tk, hc, _⟩ := q
          have := (Array.getElem?_eq_some_iff.mp hc).1
          omega
        | cons k ks => cases ek
      | cons c r =>
        rw [hz] at ek
        cases ks with
        | nil => cases ek
        | cons k ks => injection ek with e1 _; cases e1
  | _ => cases hs
end
section
variable {X : Cx} {a : Expr} {ta : TE} {p p2 q pos : Pos} {x : Str} {id : String}
/-- f(set(a)) -/
theorem pe_overSet {rel : V → Hp → VK → Prop} (hg : Gl X x) (hm : X.mg x = none) (hv : bootBuiltins x = some (.builtin id)) (hn : x ≠ "__name__") (hdb : (x == ("__debug__" : Str)) = false) (hg2 : Gl X "set") (hm2 : X.mg "set" = none) (ha : PE X a ta) (na : NotStar a = true)
    (hS : ∀ (pins : List (Addr × Obj)) (s : Shared) (σ : L2.St) (H : Hp) (y : V) (v : Value) (Q : VK), L2.Inv X pins σ H s → RelV y v → rel y H Q → wpAny (model X.prog X.w) X.A (call (.type "set") [v]) (fun r s2 => wpAny (model X.prog X.w) X.A (call (.builtin id) [r]) (EP X pins σ Q) X.xe s2) X.xe s) :
    PE X (.Call (.Name x p) [.Call (.Name "set" p2) [a] [] q] [] pos) (fun σ H Q => ta σ H fun y H1 => rel y H1 Q) := by
  refine ⟨fun pins s σ H Q I h => ?_⟩
  refine Call_ (ld_blt I hg hm hv ?_ hn hdb)
  refine PyProof.Rows.callWith_builtin1 (PyProof.Rows.args_cons ?_ rfl) rfl rfl
  refine Call_ (ld_blt I hg2 hm2 boot_set ?_)
  refine PyProof.Rows.callWith_type1 (PyProof.Rows.args_cons (thn (ha.run pins s σ H _ I h) fun v s1 ⟨y, H1, I1, r1, q1⟩ => PyProof.Rows.args_nil ?_) (notStar na _)) (notStar na _) rfl
  exact thn (hS pins s1 σ H1 y v Q I1 r1 q1) fun r s2 z => PyProof.Rows.args_nil z
end
section
variable {T : Tab} {N : List Str} {k : Nat} {ev : Ev} {sc : List (Str × NameKind)} {a : Expr} {f : FE} {p p2 q pos : Pos} {x y : Str}
theorem depth_kD (k : L2.Key) : (kD k).depth = 0 := by cases k <;> rfl
theorem depth_tD (ks : List L2.Key) : (tD ks).depth ≤ 1 := by
  have go : ∀ ks : List L2.Key, PyData.depthAll (ks.map kD) = 0 := by
    intro ks
    induction ks with
    | nil => rfl
    | cons k ks ih => rw [List.map_cons, PyData.depthAll, ih, depth_kD]; rfl
  unfold tD
  rw [PyData.depth, go]
  exact Nat.le_refl _
theorem sortable_K (ks : List L2.Key) : Sortable (ks.map kD) := .inr fun d hd => by
  obtain ⟨k, _, rfl⟩ := List.mem_map.mp hd
  cases k <;> exact ⟨fun z => (by cases z), fun xs z => (by cases z)⟩
theorem sortable_T (kss : List (List L2.Key)) (h : (kss.all fun ks => !ks.isEmpty) = true) : Sortable (kss.map tD) := .inl fun d hd => by
  obtain ⟨k, hk, rfl⟩ := List.mem_map.mp hd
  have := List.all_eq_true.mp h k hk
  cases k with
  | nil => cases this
  | cons z r => exact ⟨kD z, r.map kD, rfl⟩
/-- the sorted list, as it is known -/
theorem sorted_K {X : Cx} {pins : List (Addr × Obj)} {σ : L2.St} {H : Hp} {s : Shared} (I : L2.Inv X pins σ H s) {h0 : Heap} : ∀ {ks : List L2.Key} {out : List Value}, EachIs (fun v k => (flatEK X.prog X.w).elem h0 k v) out ks → Vals (ks.map kV) out
  | _, _, .nil => .nil
  | _, _, .cons h t => .cons (keyIs_rel h) (sorted_K I t)
theorem reps_kV {K : PySem.W.Frag} {G : Hp} : ∀ {ks : List L2.Key}, (∀ k ∈ ks, KOk k) → Reps K G (ks.map kV) (ks.map kD)
  | [], _ => .nil
  | .inl i :: ks, h => .cons (.int i) (reps_kV fun k hk => h k (List.mem_cons_of_mem _ hk))
  | .inr x :: ks, h => .cons (.str x (h _ List.mem_cons_self)) (reps_kV fun k hk => h k (List.mem_cons_of_mem _ hk))
end
end PV

/-! PV30: the rules of sorted(set(..)), len(set(..)). -/
namespace PV
open PySem L2 PySem.Spec PyProof.Rows PySem.W

section
variable {T : Tab} {N : List Str} {k : Nat} {ev : Ev} {sc : List (Str × NameKind)} {a : Expr} {f : FE} {p p2 q pos : Pos} {x y : Str}
abbrev KnG (G : Hp) (b : Addr) (k : List L2.Key) : Prop := G b = some (.tup (k.map kV)) ∧ ∀ y ∈ k, KOk y
def relSet (T : Tab) (K : PySem.W.Frag) (mg : Str → Option Value) (W : XK) (g : D → R D) (fr : Bool) (H0 : Hp) : V → Hp → VK → Prop := fun y H Q => ∃ G d, Ex G H ∧ RepH K G H y d ∧ (if fr = true then ResG T K mg W G H (g d) (pF K H0) Q ∧ ∀ b, H b = none → H0 b = none else ResG T K mg W G H (g d) (pV K) Q)
theorem koks {K : PySem.W.Frag} {G : Hp} : ∀ {ks : List L2.Key} {vs : List V}, Reps K G vs (ks.map kD) → ∀ k ∈ ks, KOk k := fun h => h.keys.2
/-- the heap behind a call that only adds -/
theorem Inv.addL {X : Cx} {pins : List (Addr × Obj)} {σ : L2.St} {H : Hp} {s s' : Shared} (I : L2.Inv X pins σ H s) {p : Addr} {xs : List V} {out : List Value} {c : Nat} (kp : ∀ b o, s.heap.get? b = some o → s'.heap.get? b = some o) (hg : s'.gens = s.gens) (ho : s'.os = s.os) (hp : s.heap.objs.size ≤ p)
    (hob : s'.heap.get? p = some (seqObj "list" out.toArray c)) (rv : Vals xs out) (hl : xs.length ≤ sizeLine) : L2.Inv X pins σ (upd H p (.lst xs)) s' := by
  have hn : H p = none := I.hok.fresh hp
  have J : L2.Inv X pins σ (upd H p (.lst xs)) { s with heap := s'.heap, gens := s'.gens, drawn := s'.drawn, toks := s'.toks } :=
    I.call (ch := []) (Un.laid kp hp hn) (I.hok.laid kp hp ⟨hl, out, c, rv, hob⟩) (by rw [hg]; exact I.bare) (fun _ z => nomatch z)
  have e : s' = { s with heap := s'.heap, gens := s'.gens, drawn := s'.drawn, toks := s'.toks } := by
    cases s'
    cases s
    cases ho
    rfl
  rw [e]
  exact J
theorem each_len {α β : Type} {R : α → β → Prop} {as : List α} {bs : List β} (h : EachIs R as bs) : as.length = bs.length := by
  induction h with
  | nil => rfl
  | cons _ _ ih => rw [List.length_cons, List.length_cons, ih]
theorem sortOf_len {κ : Type} [DecidableEq κ] (enc : κ → D) (ks : List κ) : (sortOf enc ks).length ≤ ks.length := by
  unfold sortOf
  rw [(List.mergeSort_perm _ _).length_eq]
  exact dd_len_le ks
theorem mem_sortOf {κ : Type} [DecidableEq κ] {enc : κ → D} {ks : List κ} {k : κ} : k ∈ sortOf enc ks ↔ k ∈ ks := by
  unfold sortOf
  rw [(List.mergeSort_perm _ _).mem_iff, mem_dd]
theorem out_T {X : Cx} {G : Hp} {h0 : Heap} : ∀ {kss : List (List L2.Key)} {out : List Value}, EachIs (fun v k => (tupEK X.prog X.w (KnG G)).elem h0 k v) out kss → ∃ bs : List Addr, Vals (bs.map V.ref) out ∧ Reps X.K G (bs.map V.ref) (kss.map tD)
  | _, _, .nil => ⟨[], .nil, .nil⟩
  | _, _, .cons h t => by
    obtain ⟨b, rfl, _, kn, ok⟩ := h
    obtain ⟨bs, h1, h2⟩ := out_T (X := X) t
    exact ⟨b :: bs, .cons rfl h1, .cons (.tup kn (reps_kV ok)) h2⟩
theorem ord_run {X : Cx} {W : XK} (gd : Gd T N k ev sc X W) {H0 : Hp} (pins : List (Addr × Obj)) (s : Shared) (σ : L2.St) (H : Hp) (z : V) (v : Value) (Q : VK) (I : L2.Inv X pins σ H s) (rv : RelV z v) (h : relSet T X.K X.mg W pSortSet true H0 z H Q) :
    wpAny (model X.prog X.w) X.A (call (.type "set") [v]) (fun r s2 => wpAny (model X.prog X.w) X.A (call (.builtin "sorted") [r]) (EP X pins σ Q) X.xe s2) X.xe s := by
  obtain ⟨G, d, e, px, h, hfr⟩ := h
  have hu := gd.hu65
  have hh := I.ok.hd gd.calm
  cases hd : srcD d with
  | none => simp only [pSortSet, hd] at h; exact False.elim h
  | some ds =>
    obtain ⟨Ty, n, Pv, src, sK, sT⟩ := src_of I e px hd rv
    simp only [pSortSet, hd, sortL] at h
    cases hk : allK ds with
    | some ks =>
      rw [hk] at h
      simp only at h
      split at h
      · rename_i hc
        have ed := allK_eq hk
        obtain ⟨hn, hval⟩ := sK ks ed
        have ok : ∀ k ∈ ks, KOk k := by
          subst ed
          cases d with
          | list zs => cases hd; obtain ⟨_, _, _, _, r⟩ := px.list_inv e; exact koks r
          | tuple zs => cases hd; obtain ⟨_, _, _, _, r⟩ := px.tuple_inv; exact koks r
          | str z' =>
            obtain ⟨_, hz⟩ := px.str_inv
            intro k hkm
            cases k with
            | inl i => trivial
            | inr y =>
              have hm : (PyData.str y) ∈ strItems z' := by
                have : kD (.inr y) ∈ ks.map kD := List.mem_map.mpr ⟨_, hkm, rfl⟩
                have hd' : strItems z' = ks.map kD := Option.some.inj hd
                rw [← hd'] at this
                exact this
              unfold strItems at hm
              obtain ⟨c, hcm, ec⟩ := List.mem_map.mp hm
              injection ec with ec
              subst ec
              obtain ⟨i, hi⟩ := List.mem_iff_getElem?.mp hcm
              exact strOkay_one hz hi
          | _ => cases hd
        refine call_set_of (e := flatEK X.prog X.w) hh src hn hc.1 hval (by omega) fun h' tk hm hkp => ?_
        have I2 : L2.Inv X pins σ H { s with heap := h', toks := tk } := I.kept hkp
        refine sorted_setK (s := { s with heap := h', toks := tk }) hh hm hkp kD_inj (alikeB_of hc.2) (sortable_K ks) (fun k _ => by show X.A.units + 2 + (kD k).depth < cLine; rw [depth_kD]; omega) hc.1 fun s' p out c kp hg ho hp hob eo => ?_
        have rvs := sorted_K I2 eo
        have hl : ((sortOf kD ks).map kV).length ≤ sizeLine := by rw [List.length_map, sizeLine_eq]; have := sortOf_len kD ks; omega
        exact ⟨.ref p, _, Inv.addL I2 kp hg ho hp hob rvs hl, rfl, h _ _ _ (Step.loose e (I2.hok.fresh hp)) ⟨.lst upd_same (e.none (I2.hok.fresh hp)) (reps_kV fun k hk => ok k (mem_sortOf.mp hk)), fun a z => by cases z; exact hfr _ (I2.hok.fresh hp)⟩⟩
      · exact h.elim
    | none =>
      rw [hk] at h
      simp only at h
      cases ht : allT ds with
      | none => rw [ht] at h; exact False.elim h
      | some kss =>
        rw [ht] at h
        simp only at h
        split at h
        · rename_i hc
          have ed := allT_eq ht
          obtain ⟨hn, hval⟩ := sT kss ed
          refine call_set_of (e := tupEK X.prog X.w (KnG G)) hh src hn hc.1 hval (by omega) fun h' tk hm hkp => ?_
          have I2 : L2.Inv X pins σ H { s with heap := h', toks := tk } := I.kept hkp
          refine sorted_setK (s := { s with heap := h', toks := tk }) hh hm hkp tD_inj (alikeB_of hc.2.2) (sortable_T kss hc.2.1) (fun k _ => by show X.A.units + 2 + (tD k).depth < cLine; have := depth_tD k; omega) hc.1 fun s' p out c kp hg ho hp hob eo => ?_
          obtain ⟨bs, rvs, reps⟩ := out_T (kss := sortOf tD kss) eo
          have hl : (bs.map V.ref).length ≤ sizeLine := by rw [reps.length, List.length_map, sizeLine_eq]; have := sortOf_len tD kss; omega
          exact ⟨.ref p, _, Inv.addL I2 kp hg ho hp hob rvs hl, rfl, h _ _ _ (Step.loose e (I2.hok.fresh hp)) ⟨.lst upd_same (e.none (I2.hok.fresh hp)) reps, fun a z => by cases z; exact hfr _ (I2.hok.fresh hp)⟩⟩
        · exact h.elim
theorem len_run {X : Cx} {W : XK} (gd : Gd T N k ev sc X W) {H0 : Hp} (pins : List (Addr × Obj)) (s : Shared) (σ : L2.St) (H : Hp) (z : V) (v : Value) (Q : VK) (I : L2.Inv X pins σ H s) (rv : RelV z v) (h : relSet T X.K X.mg W pLenSet false H0 z H Q) :
    wpAny (model X.prog X.w) X.A (call (.type "set") [v]) (fun r s2 => wpAny (model X.prog X.w) X.A (call (.builtin "len") [r]) (EP X pins σ Q) X.xe s2) X.xe s := by
  obtain ⟨G, d, e, px, h⟩ := h
  have h : ResG T X.K X.mg W G H (pLenSet d) (pV X.K) Q := h
  have hu := gd.hu65
  have hh := I.ok.hd gd.calm
  cases hd : srcD d with
  | none => simp only [pLenSet, hd] at h; exact False.elim h
  | some ds =>
    obtain ⟨Ty, n, Pv, src, sK, sT⟩ := src_of I e px hd rv
    simp only [pLenSet, hd] at h
    cases hk : allK ds with
    | some ks =>
      rw [hk] at h
      simp only at h
      split at h
      · rename_i hc
        obtain ⟨hn, hval⟩ := sK ks (allK_eq hk)
        refine call_set_of (e := flatEK X.prog X.w) hh src hn hc hval (by omega) fun h' tk hm hkp => ?_
        have I2 : L2.Inv X pins σ H { s with heap := h', toks := tk } := I.kept hkp
        exact len_setK (s := { s with heap := h', toks := tk }) hm hc fun tk' t => ⟨.int _, H, I2.tok _, ⟨t, rfl⟩, h.ok T e (.int _)⟩
      · exact h.elim
    | none =>
      rw [hk] at h
      simp only at h
      cases ht : allT ds with
      | none => rw [ht] at h; exact False.elim h
      | some kss =>
        rw [ht] at h
        simp only at h
        split at h
        · rename_i hc
          obtain ⟨hn, hval⟩ := sT kss (allT_eq ht)
          refine call_set_of (e := tupEK X.prog X.w (KnG G)) hh src hn hc hval (by omega) fun h' tk hm hkp => ?_
          have I2 : L2.Inv X pins σ H { s with heap := h', toks := tk } := I.kept hkp
          exact len_setK (s := { s with heap := h', toks := tk }) hm hc fun tk' t => ⟨.int _, H, I2.tok _, ⟨t, rfl⟩, h.ok T e (.int _)⟩
        · exact h.elim
theorem sf_sortedSet (hx : x = "sorted") (hy : y = "set") (hs : sc.lookup x = some .globalImplicit) (hb : x ∈ T.blt) (hs2 : sc.lookup y = some .globalImplicit) (hb2 : y ∈ T.blt) (ha : SB T N k ev sc a f) (hst : NotStar a = true) :
    SF T N k ev sc (.Call (.Name x p) [.Call (.Name y p2) [a] [] q] [] pos) (e1 pSortSet f) := fun X W gd => ⟨fun pins s σ H Q I ⟨G, ρ, e1, en, r⟩ => by
  subst hx hy
  refine (pe_overSet (rel := relSet T X.K X.mg W pSortSet true H) (gd.gl T hs) (gd.blt _ hb) bt_sorted (by decide) (by decide) (gd.gl T hs2) (gd.blt _ hb2) (ha X W gd) hst (ord_run gd)).run pins s σ H Q I ⟨G, ρ, e1, en, r.seq T fun d v G1 H1 s1 p1 r1 => ?_⟩
  exact ⟨G1, d, s1.in', p1, by rw [if_pos rfl]; exact ⟨r1, fun b hb => s1.h.none hb⟩⟩⟩
theorem sv_lenSet (hx : x = "len") (hy : y = "set") (hs : sc.lookup x = some .globalImplicit) (hb : x ∈ T.blt) (hs2 : sc.lookup y = some .globalImplicit) (hb2 : y ∈ T.blt) (ha : SB T N k ev sc a f) (hst : NotStar a = true) :
    SV T N k ev sc (.Call (.Name x p) [.Call (.Name y p2) [a] [] q] [] pos) (e1 pLenSet f) := fun X W gd => ⟨fun pins s σ H Q I ⟨G, ρ, e1, en, r⟩ => by
  subst hx hy
  refine (pe_overSet (rel := relSet T X.K X.mg W pLenSet false H) (gd.gl T hs) (gd.blt _ hb) bt_len (by decide) (by decide) (gd.gl T hs2) (gd.blt _ hb2) (ha X W gd) hst (len_run gd)).run pins s σ H Q I ⟨G, ρ, e1, en, r.seq T fun d v G1 H1 s1 p1 r1 => ?_⟩
  exact ⟨G1, d, s1.in', p1, by rw [if_neg Bool.false_ne_true]; exact r1⟩⟩
end
end PV

/-! PV31: sorted(..) of a list, of a dict's keys. -/
namespace PV
open PySem L2 PySem.Spec PyProof.Rows PySem.W

def sortM {κ : Type} (enc : κ → D) (l : List κ) : List κ := l.mergeSort (dataLe false enc)
def sortA (ds : List D) : R D := match allK ds with
  | some ks => if ks.length ≤ lim ∧ alikeB (ks.map kD) = true then .ok (.list ((sortM kD ks).map kD)) else .bad
  | none => match allT ds with
    | some kss => if kss.length ≤ lim ∧ (kss.all fun ks => !ks.isEmpty) = true ∧ alikeB (kss.map tD) = true then .ok (.list ((sortM tD kss).map tD)) else .bad
    | none => .bad
def pSorted : D → R D
  | .list ds => sortA ds
  | .dict kvs => sortA (kvs.map (·.1))
  | _ => .bad
theorem sortM_len {κ : Type} (enc : κ → D) (ks : List κ) : (sortM enc ks).length = ks.length := by
  unfold sortM
  exact (List.mergeSort_perm _ _).length_eq
theorem mem_sortM {κ : Type} {enc : κ → D} {ks : List κ} {k : κ} : k ∈ sortM enc ks ↔ k ∈ ks := by
  unfold sortM
  exact (List.mergeSort_perm _ _).mem_iff
section
variable {P : Program} {w : World} {A : Around} {E : Value → Shared → Prop} {s : Shared} {κ : Type} [DecidableEq κ] {e : EK P w κ}
theorem eachIs_of {α β : Type} {R : α → β → Prop} : ∀ {as : List α} {bs : List β}, as.length = bs.length → (∀ (i : Nat) (a : α), as[i]? = some a → ∃ b, bs[i]? = some b ∧ R a b) → EachIs R as bs
  | [], [], _, _ => .nil
  | [], _ :: _, h, _ => by cases h
  | _ :: _, [], h, _ => by cases h
  | a :: as, b :: bs, h, f => by
    obtain ⟨b', e1, r⟩ := f 0 a rfl
    cases e1
    exact .cons r (eachIs_of (by simpa using h) fun i a' q => f (i + 1) a' (by simpa using q))
/-- sorted(x), x collected as items that read as ks -/
theorem sorted_coll {x : Value} {ks : List κ} {h0 : Heap} {Q : Value → Shared → Prop} (hal : AllAlike (ks.map e.enc)) (hs : Sortable (ks.map e.enc)) (hu : ∀ k ∈ ks, A.units + 2 + (e.enc k).depth < cLine) (hlen : ks.length ≤ sizeLine) (h0k : ∀ b o, h0.get? b = some o → s.heap.get? b = some o)
    (hc : ∀ R : List Value → Shared → Prop, (∀ (h' : Heap) (tk : Nat) (vs : List Value), s.heap.objs.size ≤ h'.objs.size → (∀ b o, s.heap.get? b = some o → h'.get? b = some o) → EachIs (fun v k => e.elem h0 k v) vs ks → R vs { s with heap := h', toks := tk }) → wpAny (model P w) A.in1 (collect x) R E s)
    (hQ : ∀ h' tk p (out : List Value) (c : Nat), (∀ b o, s.heap.get? b = some o → h'.get? b = some o) → s.heap.objs.size ≤ p → h'.get? p = some (seqObj "list" out.toArray c) → EachIs (fun v k => e.elem h0 k v) out (sortM e.enc ks) → Q (.ref p) { s with heap := h', toks := tk }) :
    wpAny (model P w) A (call (.builtin "sorted") [x]) Q E s := by
  refine Calls.call_function_entry kind_sorted plain_sorted entry_sorted (args_sorted1 _) ?_
  unfold Builtin.«sorted»
  refine wpAny_bind (m := checkCount "sorted" 1 1 _) (wpAny_pure ?_)
  refine wpAny_bind (hc _ fun ha ta vs za ka ev => ?_)
  have lv : vs.length = ks.length := each_len ev
  refine wpAny_bind (wpAny_newList ?_ (by omega))
  have hoL : (ha.push (seqObj "list" vs.toArray 0)).get? ha.objs.size = some (seqObj "list" vs.toArray 0) := Heap.get?_push_size _ rfl
  have keepP : ∀ b o, h0.get? b = some o → (ha.push (seqObj "list" vs.toArray 0)).get? b = some o := fun b o q => Heap.get?_push_of_some _ (ka b o (h0k b o q))
  have er : EachIs (fun v k => ∃ as, Reads (ha.push (seqObj "list" vs.toArray 0)) v (e.enc k) as ∧ ha.objs.size ∉ as) vs ks := ev.mono fun v k q => by
    obtain ⟨as, r, n⟩ := e.reads (e.eKeep q keepP)
    exact ⟨as, r, n _ _ hoL rfl⟩
  refine wpAny_bind (wpAny_holding (list_sort_data (s := { s with heap := ha.push (seqObj "list" vs.toArray 0), toks := ta }) (A := A.in1) hoL ev er hal hs hlen (fun k hk => by
    have := hu k hk
    show A.units + 1 + 1 + (e.enc k).depth < cLine
    omega) fun out ho' eo => ?_))
  obtain ⟨c, hcell⟩ := sortedHeap_at (vs := vs) (out := out.toArray) hoL
  refine wpAny_pure ⟨_, rfl, hQ _ _ ha.objs.size out c (fun b u q => ?_) za hcell eo⟩
  have q1 := ka b u q
  have hlt := Heap.lt_size q1
  show (sortedHeap (ha.push (seqObj "list" vs.toArray 0)) ha.objs.size vs out.toArray).get? b = some u
  rw [sortedHeap_old (Nat.ne_of_lt hlt) (by rw [size_push']; exact Nat.lt_succ_of_lt hlt)]
  exact Heap.get?_push_of_some _ q1
theorem coll_dict {d : Addr} {o : Obj} {es : Array DictEntry} {ep : Nat} {R : List Value → Shared → Prop} (hh : A.handled = none) (lo : (d == sysModules) = false) (hx : o.ExactDict) (hd : o.data = .dict es ep) (ho : s.heap.get? d = some o) (hn : es.size ≤ sizeLine)
    (h : ∀ (h' : Heap) (tk : Nat) (acc : Array Value), s.heap.objs.size ≤ h'.objs.size → (∀ b o, s.heap.get? b = some o → h'.get? b = some o) → ItemsOf (fun i v => ∃ en : DictEntry, es[i]? = some en ∧ v = en.key) acc es.size → R acc.toList { s with heap := h', toks := tk }) :
    wpAny (model P w) A (collect (.ref d)) R E s := by
  have K : KdlSrc P w "dict" d d es.size (fun i v => ∃ en : DictEntry, es[i]? = some en ∧ v = en.key) (fun h => h.get? d = some o) := kdl_raw lo hx hd
  have there := K.there _ ho
  unfold collect
  refine wpAny_bind (wpAny_runValue (codeAny_builtin entry_proto_collect' ?_))
  rw [Around.under_plainId PySem.F.plain_proto_collect _]
  show wpAny _ A.in1 (newList [] >>= fun l => again (.builtin "list.__iadd__" ⟨[l, .ref d], []⟩)) _ _ s
  refine wpAny_bind (wpAny_newObj_type (wpAny_pure ⟨plainId_quiet PySem.F.plain_list_iadd _, codeAny_builtin entry_list_iadd' ?_⟩))
  rw [Around.under_plainId PySem.F.plain_list_iadd _]
  have hN : (s.heap.push { cls := .type "list", data := .seq ([] : List Value).toArray }).get? s.heap.objs.size = some { cls := .type "list", data := .seq #[] } := Heap.get?_push_size _ rfl
  show wpAny _ A.in1 (Builtin.List.listExtendWith (.ref s.heap.objs.size) (.ref d) (.ref s.heap.objs.size)) _ _ _
  have key := kdl_extend (A := A) (s := { s with heap := s.heap.push { cls := .type "list", data := .seq ([] : List Value).toArray } })
    (R := fun (q : Result) (sb : Shared) => ∃ (hb : Heap) (tb : Nat) (ab : Array Value) (cb : Nat), q = .ok (.ret (.ref s.heap.objs.size)) ∧ sb = { s with heap := hb, toks := tb } ∧
      (∀ b o, s.heap.get? b = some o → hb.get? b = some o) ∧ hb.get? s.heap.objs.size = some { cls := .type "list", dict := none, data := .seq ab cb, slots := #[] } ∧ ItemsOf (fun i v => ∃ en : DictEntry, es[i]? = some en ∧ v = en.key) ab es.size)
    K hh (K.keep _ _ ho fun b _ o e => Heap.get?_push_of_some _ e) s.heap.objs.size (Nat.ne_of_gt there.1) (Nat.ne_of_gt there.2) (.ref s.heap.objs.size) 0 hN
    (fun hb tb ab cb kb nb ib => ⟨hb, tb, ab, cb, rfl, rfl, fun b o e => kb b o (Nat.ne_of_lt (Heap.lt_size e)) (Heap.get?_push_of_some _ e), nb, ib⟩) hn
  refine wpAny_mono key (fun fin sb x => ?_) fun er sb x => ?_
  · cases fin with
    | done f =>
      obtain ⟨hb, tb, ab, cb, e, rfl, kb, nb, ib⟩ := x
      cases e
      show wpAny _ A (load s.heap.objs.size >>= fun _ => _) _ _ _
      exact wpAny_bind (wpAny_load nb (wpAny_pure (h hb tb ab (Nat.le_of_lt (Heap.lt_size nb)) kb ib)))
    | again c₁ =>
      refine ⟨x.1, codeAny_mono x.2 fun q sb y => ?_⟩
      obtain ⟨hb, tb, ab, cb, rfl, rfl, kb, nb, ib⟩ := y
      show wpAny _ A (load s.heap.objs.size >>= fun _ => _) _ _ _
      exact wpAny_bind (wpAny_load nb (wpAny_pure (h hb tb ab (Nat.le_of_lt (Heap.lt_size nb)) kb ib)))
  · obtain ⟨_, _, _, _, er', _⟩ := x
    cases er'
end
section
variable {T : Tab}
/-- what a dict with tuple keys stands for -/
theorem dict_T {X : Cx} {pins : List (Addr × Obj)} {σ : L2.St} {H G : Hp} {s : Shared} {d : Addr} {vs : List (List L2.Key × V)} {kvs : List (D × D)} (I : L2.Inv X pins σ H s) (e : Ex G H) (hd : H d = some (.dT vs)) (hr : RepT X.K G vs kvs) {kss : List (List L2.Key)} (hk : kvs.map (·.1) = kss.map tD) :
    ∃ (G2 : Hp) (o : Obj) (es : Array DictEntry) (ep : Nat), Step G H G2 H ∧ (d == sysModules) = false ∧ o.ExactDict ∧ o.data = .dict es ep ∧ s.heap.get? d = some o ∧ es.size = kss.length ∧ kss.length ≤ sizeLine ∧
      ∀ (i : Nat) (en : DictEntry), es[i]? = some en → ∃ k, kss[i]? = some k ∧ (tupEK X.prog X.w (KnG G2)).elem s.heap k en.key := by
  obtain ⟨z, hs, ks, pr, o, es, ep, ho, hx, hdt, he, hn⟩ := (show ObjOk X.prog X.w H s.heap d (.dT vs) from I.hok d _ hd)
  obtain ⟨G2, s2, _, r2⟩ := know_tups e (isKeys_of pr) hr
  have l1 : es.size = ks.length := size_of_entries he
  have l2 : vs.length = ks.length := Paired.length pr
  have l3 : kvs.length = kss.length := by have := congrArg List.length hk; simpa using this
  have l4 := RepT.length hr
  have vk : vs.map (·.1) = kss := by
    have go : ∀ (vs : List (List L2.Key × V)) (kvs : List (D × D)) (kss : List (List L2.Key)), RepT X.K G vs kvs → kvs.map (·.1) = kss.map tD → vs.map (·.1) = kss := by
      intro vs
      induction vs with
      | nil => intro kvs kss h1 h2; cases h1; cases kss with
        | nil => rfl
        | cons _ _ => cases h2
      | cons p vs ih =>
        intro kvs kss h1 h2
        cases h1 with
        | @cons k' _ _ _ ds hk hv ht =>
          cases kss with
          | nil => cases h2
          | cons ks kss =>
            injection h2 with e1 e2
            rw [List.map_cons, ih _ _ ht e2]
            have : k' = ks := tD_inj _ _ (congrArg keyToks e1)
            rw [← this]
    exact go vs kvs kss hr hk
  refine ⟨G2, o, es, ep, s2, hs, hx, hdt, ho, by omega, by omega, fun i en hen => ?_⟩
  have qe := entry_at he i
  rw [hen] at qe
  cases hb : ks[i]? with
  | none =>
    rw [hb] at qe
    exact nomatch (show some en = none from qe)
  | some b =>
    rw [hb] at qe
    have e2 : en = entryOfKey (tupleKind (mixKind X.prog X.w)) b := Option.some.inj qe
    have hmem := List.mem_of_getElem? hb
    have r3 : Reps X.K G2 ((ks.map fun x => x.2.1).map V.ref) (kss.map tD) := by rw [← hk]; exact r2
    have hi : (kss.map tD)[i]? = some (tD b.1) := by
      rw [List.getElem?_map]
      have e5 : (vs.map (·.1))[i]? = some b.1 := by
        have go : ∀ {l : List (List L2.Key × V)} {m : List (List L2.Key × Addr × Value)}, KT H l m → l.map (·.1) = m.map (·.1) := by
          intro l m q
          induction q with
          | nil => rfl
          | cons hq t ih => rw [List.map_cons, List.map_cons, ih, hq.1]
        rw [go pr, List.getElem?_map, hb]; rfl
      rw [← vk, e5]; rfl
    obtain ⟨u, hu1, hu2⟩ := r3.get hi
    rw [List.getElem?_map, List.getElem?_map, hb] at hu1
    have hu1 : V.ref b.2.1 = u := Option.some.inj hu1
    subst hu1
    obtain ⟨c, xs, ec, hc, hxs⟩ := hu2.tuple_inv
    cases ec
    obtain ⟨rfl, hok⟩ := hxs.keys
    refine ⟨b.1, ?_, b.2.1, by rw [e2]; rfl, key_of I.hok (s2.in' _ _ hc), hc, hok⟩
    rw [List.getElem?_map] at hi
    cases hz : kss[i]? with
    | none => rw [hz] at hi; cases hi
    | some k => rw [hz] at hi; rw [tD_inj _ _ (congrArg keyToks (Option.some.inj hi))]
theorem dict_K {X : Cx} {pins : List (Addr × Obj)} {σ : L2.St} {H G : Hp} {s : Shared} {d : Addr} {vs : List (L2.Key × V)} {kvs : List (D × D)} (I : L2.Inv X pins σ H s) (hd : H d = some (.dK vs)) (hr : RepK X.K G vs kvs) {ks : List L2.Key} (hk : kvs.map (·.1) = ks.map kD) :
    ∃ (o : Obj) (es : Array DictEntry) (ep : Nat), (d == sysModules) = false ∧ o.ExactDict ∧ o.data = .dict es ep ∧ s.heap.get? d = some o ∧ es.size = ks.length ∧ ks.length ≤ sizeLine ∧
      (∀ (i : Nat) (en : DictEntry), es[i]? = some en → ∃ k, ks[i]? = some k ∧ (flatEK X.prog X.w).elem s.heap k en.key) ∧ ∀ k ∈ ks, KOk k := by
  obtain ⟨z, hs, xs, pr, o, es, ep, ho, hx, hdt, hak, hp, hn⟩ := dk_of I.hok hd
  have l1 := hp.length
  have l2 : vs.length = xs.length := Paired.length pr
  have l3 := RepK.length hr
  have vk : vs.map (·.1) = ks ∧ ∀ k ∈ ks, KOk k := by
    have go : ∀ (vs : List (L2.Key × V)) (kvs : List (D × D)) (ks : List L2.Key), RepK X.K G vs kvs → kvs.map (·.1) = ks.map kD → vs.map (·.1) = ks ∧ ∀ k ∈ ks, KOk k := by
      intro vs
      induction vs with
      | nil => intro kvs ks h1 h2; cases h1; cases ks with
        | nil => exact ⟨rfl, fun k hk => (by cases hk)⟩
        | cons _ _ => cases h2
      | cons p vs ih =>
        intro kvs ks h1 h2
        cases h1 with
        | @cons k' _ _ _ ds hk hv ht =>
          cases ks with
          | nil => cases h2
          | cons k ks =>
            injection h2 with e1 e2
            obtain ⟨r1, r2⟩ := ih _ _ ht e2
            have : k' = k := kD_inj _ _ (congrArg keyToks e1)
            subst this
            refine ⟨by rw [List.map_cons, r1], fun y hy => ?_⟩
            rcases List.mem_cons.mp hy with q | q
            · rw [q]; exact hk
            · exact r2 y q
    exact go vs kvs ks hr hk
  have l5 : vs.length = ks.length := by rw [← vk.1, List.length_map]
  rw [Array.length_toList] at l1
  refine ⟨o, es, ep, hs, hx, hdt, ho, by omega, by omega, fun i en hen => ?_, vk.2⟩
  have hlt : i < xs.length := by
    have := (Array.getElem?_eq_some_iff.mp hen).1
    omega
  obtain ⟨k, v, hkv⟩ : ∃ k v, xs[i] = (k, v) := ⟨_, _, rfl⟩
  obtain ⟨hkey, _⟩ := hp.get? (i := i) (e := en) (k := k) (v := v) (by rw [Array.getElem?_toList]; exact hen) (by rw [List.getElem?_eq_getElem hlt, hkv])
  refine ⟨k, ?_, hkey⟩
  have e1 : (vs.map (·.1)) = xs.map (·.1) := KV.keys pr
  rw [← vk.1, e1, List.getElem?_map, List.getElem?_eq_getElem hlt, hkv]
  rfl
theorem cf_sorted : CfOk T (.builtin "sorted") (b1 pSorted) := ⟨fun X W N k ev sc gd pins s σ H xs us Q I r ⟨G, ds, e, p, hq⟩ => by
  obtain ⟨x, d, rfl, rfl, px, h⟩ := b1_inv p hq
  clear hq
  obtain ⟨u, rfl, ru⟩ := vals1 r
  have hu := gd.hu65
  have hh := I.ok.hd gd.calm
  have dK : ∀ (ks : List L2.Key), ∀ k ∈ ks, X.A.units + 2 + ((flatEK X.prog X.w).enc k).depth < cLine := fun ks k _ => by show X.A.units + 2 + (kD k).depth < cLine; rw [depth_kD]; omega
  have dT : ∀ (G' : Hp) (ks : List (List L2.Key)), ∀ k ∈ ks, X.A.units + 2 + ((tupEK X.prog X.w (KnG G')).enc k).depth < cLine := fun G' ks k _ => by show X.A.units + 2 + (tD k).depth < cLine; have := depth_tD k; omega
  cases d with
  | list ds =>
    obtain ⟨a, vs, rfl, h1, h2⟩ := px.list_inv e
    obtain rfl : u = .ref a := ru
    obtain ⟨its, rv, pl, hz⟩ := I.list h1
    have lv := rv.length
    have coll : ∀ {κ : Type} [DecidableEq κ] (ek : EK X.prog X.w κ) (ks : List κ), EachIs (fun v k => ek.elem s.heap k v) its ks → ∀ R : List Value → Shared → Prop, (∀ (h' : Heap) (tk : Nat) (vs : List Value), s.heap.objs.size ≤ h'.objs.size → (∀ b o, s.heap.get? b = some o → h'.get? b = some o) → EachIs (fun v k => ek.elem s.heap k v) vs ks → R vs { s with heap := h', toks := tk }) → wpAny (model X.prog X.w) X.A.in1 (collect (.ref a)) R X.xe s := fun ek ks ev R f => by
      refine collect_list pl.isList (f _ s.toks its ?_ (fun b o q => ?_) ev) (by rw [← lv]; exact hz)
      · rw [Heap.size_update, Heap.size_push]; exact Nat.le_succ _
      · rw [Heap.get?_update_other _ _ (Nat.ne_of_gt (Heap.lt_size q))]; exact Heap.get?_push_of_some _ q
    simp only [pSorted, sortA] at h
    cases hk : allK ds with
    | some ks =>
      rw [hk] at h
      simp only at h
      split at h
      · rename_i hc
        have ed := allK_eq hk
        subst ed
        obtain ⟨l, f⟩ := elems_K I h2 rv
        have ok := koks h2
        refine sorted_coll (e := flatEK X.prog X.w) (alikeB_of hc.2) (sortable_K ks) (dK ks) (by rw [sizeLine_eq]; exact hc.1) (fun _ _ q => q) (coll _ ks (eachIs_of l f)) fun h' tk p out c kp hp hob eo => ?_
        have rvs := sorted_K I eo
        have hl : ((sortM kD ks).map kV).length ≤ sizeLine := by rw [List.length_map, sortM_len, sizeLine_eq]; exact hc.1
        exact ⟨.ref p, _, Inv.addL (s' := { s with heap := h', toks := tk }) I kp rfl rfl hp hob rvs hl, rfl, h.newF0 e (I.hok.fresh hp) (reps_kV fun k hk => ok k (mem_sortM.mp hk))⟩
      · exact h.elim
    | none =>
      rw [hk] at h
      simp only at h
      cases ht : allT ds with
      | none => rw [ht] at h; exact False.elim h
      | some kss =>
        rw [ht] at h
        simp only at h
        split at h
        · rename_i hc
          have ed := allT_eq ht
          subst ed
          obtain ⟨l, f⟩ := elems_T I e h2 rv
          refine sorted_coll (e := tupEK X.prog X.w (KnG G)) (alikeB_of hc.2.2) (sortable_T kss hc.2.1) (dT G kss) (by rw [sizeLine_eq]; exact hc.1) (fun _ _ q => q) (coll _ kss (eachIs_of l f)) fun h' tk p out c kp hp hob eo => ?_
          obtain ⟨bs, rvs, reps⟩ := out_T (kss := sortM tD kss) eo
          have hl : (bs.map V.ref).length ≤ sizeLine := by rw [reps.length, List.length_map, sortM_len, sizeLine_eq]; exact hc.1
          exact ⟨.ref p, _, Inv.addL (s' := { s with heap := h', toks := tk }) I kp rfl rfl hp hob rvs hl, rfl, h.newF0 e (I.hok.fresh hp) reps⟩
        · exact h.elim
  | dict kvs =>
    obtain ⟨a, rfl, hd⟩ := dictH e px
    obtain rfl : u = .ref a := ru
    simp only [pSorted, sortA] at h
    cases hk : allK (kvs.map (·.1)) with
    | some ks =>
      rw [hk] at h
      simp only at h
      split at h
      · rename_i hc
        have ed := allK_eq hk
        rcases hd with ⟨vs, q1, q2, q3⟩ | ⟨vs, q1, q2, q3⟩
        · obtain ⟨o, es, ep, lo, hx, hdt, ho, le, lz, f, ok⟩ := dict_K I q1 q3 ed
          refine sorted_coll (e := flatEK X.prog X.w) (h0 := s.heap) (alikeB_of hc.2) (sortable_K ks) (dK ks) lz (fun _ _ q => q) (fun R g => ?_) fun h' tk p out c kp hp hob eo => ?_
          · refine coll_dict (A := X.A.in1) hh lo hx hdt ho (by omega) fun h' tk acc zz kp it => g h' tk acc.toList zz kp (eachIs_of (by rw [Array.length_toList, it.1, le]) fun i v hv => ?_)
            obtain ⟨en, he, rfl⟩ := it.2 i v (by rw [← Array.getElem?_toList]; exact hv)
            exact f i en he
          · have rvs := sorted_K I eo
            have hl : ((sortM kD ks).map kV).length ≤ sizeLine := by rw [List.length_map, sortM_len, sizeLine_eq]; exact hc.1
            exact ⟨.ref p, _, Inv.addL (s' := { s with heap := h', toks := tk }) I kp rfl rfl hp hob rvs hl, rfl, h.newF0 e (I.hok.fresh hp) (reps_kV fun k hk => ok k (mem_sortM.mp hk))⟩
        · cases q3 with
          | nil =>
            obtain rfl : ks = [] := by cases ks with
              | nil => rfl
              | cons _ _ => cases ed
            obtain ⟨G2, o, es, ep, s2, lo, hx, hdt, ho, le, lz, f⟩ := dict_T (kss := []) I e q1 .nil rfl
            refine sorted_coll (e := flatEK X.prog X.w) (h0 := s.heap) (ks := []) (alikeB_of hc.2) (sortable_K []) (dK []) lz (fun _ _ q => q) (fun R g => ?_) fun h' tk p out c kp hp hob eo => ?_
            · refine coll_dict (A := X.A.in1) hh lo hx hdt ho (by rw [le]; exact lz) fun h' tk acc zz kp it => g h' tk acc.toList zz kp (eachIs_of (by rw [Array.length_toList, it.1, le]; rfl) fun i v hv => ?_)
              obtain ⟨en, he, rfl⟩ := it.2 i v (by rw [← Array.getElem?_toList]; exact hv)
              obtain ⟨k, hk', _⟩ := f i en he
              simp at hk'
            · have rvs := sorted_K I eo
              exact ⟨.ref p, _, Inv.addL (s' := { s with heap := h', toks := tk }) I kp rfl rfl hp hob rvs (by rw [List.length_map, sortM_len]; exact Nat.zero_le _), rfl, h.newF0 e (I.hok.fresh hp) (reps_kV fun k hk => (by simp [sortM] at hk))⟩
          | @cons k' v' vs' d' ds' _ _ _ =>
            cases ks with
            | nil => cases ed
            | cons k2 ks =>
              injection ed with e1 _
              cases k2 <;> cases e1
      · exact h.elim
    | none =>
      rw [hk] at h
      simp only at h
      cases ht : allT (kvs.map (·.1)) with
      | none => rw [ht] at h; exact False.elim h
      | some kss =>
        rw [ht] at h
        simp only at h
        split at h
        · rename_i hc
          have ed := allT_eq ht
          rcases hd with ⟨vs, q1, q2, q3⟩ | ⟨vs, q1, q2, q3⟩
          · exfalso
            cases q3 with
            | nil => rw [show allK (List.map (·.1) ([] : List (D × D))) = some [] from rfl] at hk; cases hk
            | @cons k' v' vs' d' ds' _ _ _ =>
              cases kss with
              | nil => cases ed
              | cons ks kss => injection ed with e1 _; cases k' <;> cases e1
          · obtain ⟨G2, o, es, ep, s2, lo, hx, hdt, ho, le, lz, f⟩ := dict_T I e q1 q3 ed
            refine sorted_coll (e := tupEK X.prog X.w (KnG G2)) (h0 := s.heap) (alikeB_of hc.2.2) (sortable_T kss hc.2.1) (dT G2 kss) lz (fun _ _ q => q) (fun R g => ?_) fun h' tk p out c kp hp hob eo => ?_
            · refine coll_dict (A := X.A.in1) hh lo hx hdt ho (by omega) fun h' tk acc zz kp it => g h' tk acc.toList zz kp (eachIs_of (by rw [Array.length_toList, it.1, le]) fun i v hv => ?_)
              obtain ⟨en, he, rfl⟩ := it.2 i v (by rw [← Array.getElem?_toList]; exact hv)
              exact f i en he
            · obtain ⟨bs, rvs, reps⟩ := out_T (kss := sortM tD kss) eo
              have hl : (bs.map V.ref).length ≤ sizeLine := by rw [reps.length, List.length_map, sortM_len, sizeLine_eq]; exact hc.1
              exact ⟨.ref p, _, Inv.addL (s' := { s with heap := h', toks := tk }) I kp rfl rfl hp hob rvs hl, rfl, ResG.newF s2 (ResG.later T s2 h) (I.hok.fresh hp) reps⟩
        · exact h.elim
  | _ => exact False.elim h⟩
end
end PV

/-! PV32: == of dicts with tuple keys (alike ones). -/
namespace PV
open PySem L2 PySem.Spec PyProof.Rows PySem.W

abbrev EqT (prog : Program) (w : World) (A : Around) (s : Shared) (y x : Value) : Prop := ∀ (E : Value → Shared → Prop) (Q : Bool → Shared → Prop), Q true s → wpAny (model prog w) A (eqBool y x) Q E s
section
variable {prog : Program} {w : World} {K : Type} [DecidableEq K] {knd : HeapKind prog w K} {A : Around} {E : Value → Shared → Prop} {s : Shared} {a b : Addr} {xs ys : List (K × Addr × Value)}
theorem same_H {nm : String} {Q : Bool → Shared → Prop} (ha : (a == sysModules) = false) (hb : (b == sysModules) = false) (hu : knd.room A) (da : s.heap.DictOfH knd a xs) (db : s.heap.DictOfH knd b ys) (hl : xs.length = ys.length)
    (hits : ∀ x ∈ xs, ∃ p, atKey ys x.1 = some p ∧ EqT prog w A s x.2.2 p.2) (h : Q true s) : wpAny (model prog w) A (Builtin.Dict.samePairs nm a b) Q E s := by
  obtain ⟨oa, ea, na, hoa, _, hda, hea, hia, _⟩ := da
  obtain ⟨ob, eb, nb, hob, _, hdb, heb, hib, hnb⟩ := db
  have la := size_of_entries hea
  have lb := size_of_entries heb
  unfold Builtin.Dict.samePairs Builtin.Dict.showsAll
  rw [if_neg (show ¬ (a == sysModules) = true by rw [ha]; exact Bool.false_ne_true), if_neg (show ¬ (b == sysModules) = true by rw [hb]; exact Bool.false_ne_true)]
  refine wpAny_bind (wpAny_pure (wpAny_bind (wpAny_pure (wpAny_bind (wpAny_dictEntries hoa hda ?_)))))
  dsimp only
  refine wpAny_bind (wpAny_dictEntries hob hdb ?_)
  rw [if_neg (by rw [la, lb, hl]; simp)]
  refine wpAny_bind (wpAny_dictEpoch hoa hda (wpAny_bind ?_))
  rw [Std.Legacy.Range.forIn_eq_forIn_range']
  simp only [Std.Legacy.Range.size, Nat.sub_zero, Nat.add_sub_cancel, Nat.div_one]
  refine wpAny_forIn_list _ (fun todo q sa => sa = s ∧ q = (none, ()) ∧ ∃ i, todo = List.range' i (ea.size - i) ∧ i ≤ ea.size) _ ?_ ?_ _ _ ⟨rfl, rfl, 0, by simp, Nat.zero_le _⟩
  · rintro m todo q sa ⟨rfl, rfl, i, hr, hi⟩
    have hlt : i < ea.size := by
      rcases Nat.lt_or_ge i ea.size with z | z
      · exact z
      · rw [Nat.sub_eq_zero_of_le z] at hr; simp at hr
    obtain ⟨rfl, hrest⟩ : m = i ∧ todo = List.range' (i + 1) (ea.size - (i + 1)) := by
      rw [show ea.size - i = (ea.size - (i + 1)) + 1 by omega, List.range'_succ] at hr
      injection hr with h1 h2
      exact ⟨h1, h2⟩
    refine wpAny_bind (wpAny_dictEntries hoa hda ?_)
    have hx : m < xs.length := by rw [← la]; exact hlt
    obtain ⟨x, ex⟩ : ∃ x, xs[m]? = some x := ⟨_, List.getElem?_eq_getElem hx⟩
    have hen : ea[m]? = some (entryOfKey knd x) := by rw [entry_at hea m, ex]; rfl
    have hmem := List.mem_of_getElem? ex
    obtain ⟨p, hp, heq⟩ := hits x hmem
    rw [hen]
    show wpAny _ _ (holding [Value.ref x.2.1, x.2.2] _ >>= _) _ _ _
    refine wpAny_bind (wpAny_holding (wpAny_bind (wpAny_dictFind_heap hu (hia x hmem) hob hdb heb hib hnb (fun hno => ?_) fun j p' hj => ?_)))
    · rw [atKey_none_of_get hno] at hp; cases hp
    · rw [atKey_of_get hnb hj] at hp
      cases hp
      refine wpAny_bind (wpAny_dictEntries hob hdb ?_)
      rw [entry_at heb j, hj]
      refine wpAny_holding (heq _ _ ?_)
      show wpAny _ _ (if (!true) = true then _ else _) _ _ _
      rw [if_neg (by decide)]
      refine wpAny_bind (wpAny_dictEpoch hoa hda ?_)
      rw [if_neg (by simp)]
      exact wpAny_pure ⟨rfl, rfl, m + 1, hrest, hlt⟩
  · rintro q sa ⟨rfl, rfl, i, hr, hi⟩
    exact wpAny_pure h
theorem eq_H {Q : Value → Shared → Prop} (ha : (a == sysModules) = false) (hb : (b == sysModules) = false) (hr : knd.room A.in1) (hu : A.units < cLine) (da : s.heap.DictOfH knd a xs) (db : s.heap.DictOfH knd b ys) (hl : xs.length = ys.length)
    (hits : ∀ x ∈ xs, ∃ p, atKey ys x.1 = some p ∧ EqT prog w A.in1 s x.2.2 p.2) (h : Q (.bool true) s) : wpAny (model prog w) A (compareOp .Eq (.ref a) (.ref b)) Q E s := by
  refine wpAny_richCompare_same_room (op := .Eq) da.typeIs db.typeIs PySem.F.slot_dict_eq (wpAny_call_entry PySem.F.slot_dict_eq da.typeIs PySem.F.entry_dict_eq ?_ (PySem.F.args_dict_eq_2 _ _)) hu
  show wpAny _ _ (Builtin.Dict.dictSlotArgs "__eq__" ⟨[.ref a, .ref b], []⟩ >>= fun _ => _) _ _ s
  refine wpAny_bind ?_
  unfold Builtin.Dict.dictSlotArgs
  refine wpAny_bind (wpAny_notOrdered_dict da.typeIs ?_)
  show wpAny _ _ (pure (Value.ref a, Value.ref b)) _ _ s
  refine wpAny_pure (wpAny_bind (wpAny_isInstance (T := "dict") db.typeIs PySem.F.sub_dict_dict ?_))
  simp only [Bool.not_true, Bool.false_eq_true, if_false]
  refine wpAny_bind (wpAny_pure (wpAny_bind (wpAny_pure (wpAny_bind (same_H ha hb hr da db hl hits ?_)))))
  exact wpAny_pure ⟨_, rfl, ⟨fun x => (by cases x), by simpa using h⟩⟩
theorem ne_H {Q : Value → Shared → Prop} (ha : (a == sysModules) = false) (hb : (b == sysModules) = false) (hr : knd.room A.in1) (hu : A.units < cLine) (da : s.heap.DictOfH knd a xs) (db : s.heap.DictOfH knd b ys) (hl : xs.length = ys.length)
    (hits : ∀ x ∈ xs, ∃ p, atKey ys x.1 = some p ∧ EqT prog w A.in1 s x.2.2 p.2) (h : Q (.bool false) s) : wpAny (model prog w) A (compareOp .NotEq (.ref a) (.ref b)) Q E s := by
  refine wpAny_richCompare_same_room (op := .NotEq) da.typeIs db.typeIs PySem.F.slot_dict_ne (wpAny_call_entry PySem.F.slot_dict_ne da.typeIs PySem.F.entry_dict_ne ?_ (PySem.F.args_dict_ne_2 _ _)) hu
  show wpAny _ _ (Builtin.Dict.dictSlotArgs "__ne__" ⟨[.ref a, .ref b], []⟩ >>= fun _ => _) _ _ s
  refine wpAny_bind ?_
  unfold Builtin.Dict.dictSlotArgs
  refine wpAny_bind (wpAny_notOrdered_dict da.typeIs ?_)
  show wpAny _ _ (pure (Value.ref a, Value.ref b)) _ _ s
  refine wpAny_pure (wpAny_bind (wpAny_isInstance (T := "dict") db.typeIs PySem.F.sub_dict_dict ?_))
  simp only [Bool.not_true, Bool.false_eq_true, if_false]
  refine wpAny_bind (wpAny_pure (wpAny_bind (wpAny_pure (wpAny_bind (same_H ha hb hr da db hl hits ?_)))))
  exact wpAny_pure ⟨_, rfl, ⟨fun x => (by cases x), by simpa using h⟩⟩
end
/-! the words -/
def dEq (kvs lvs : List (D × D)) : Bool := !kvs.isEmpty && kvs.length == lvs.length && kvs.all fun p => isTup p.1 && (match dLook lvs p.1 with
  | some c => shp p.2 && shp c && PyData.eqv p.2 c
  | none => false)
def pEq2 (a b : D) : R D := match a, b with
  | .dict x, .dict y => if dEq x y = true then .ok (.bool true) else .bad
  | a, b => pEq a b
def pNe2 (a b : D) : R D := match a, b with
  | .dict x, .dict y => if dEq x y = true then .ok (.bool false) else .bad
  | a, b => pNe a b
section
variable {T : Tab} {X : Cx} {pins : List (Addr × Obj)} {σ : L2.St} {H G : Hp} {s : Shared}
theorem dEq_run (I : L2.Inv X pins σ H s) (e : Ex G H) (hu : X.A.in1.units + 64 < cLine) {x y : V} {v u : Value} {kvs lvs : List (D × D)} (px : RepH X.K G H x (.dict kvs)) (py : RepH X.K G H y (.dict lvs)) (rx : RelV x v) (ry : RelV y u) (hd : dEq kvs lvs = true) :
    ∃ (a b : Addr) (xs ys : List (List L2.Key × Addr × Value)), v = .ref a ∧ u = .ref b ∧ (a == sysModules) = false ∧ (b == sysModules) = false ∧ s.heap.DictOfH (tupleKind (mixKind X.prog X.w)) a xs ∧ s.heap.DictOfH (tupleKind (mixKind X.prog X.w)) b ys ∧ xs.length = ys.length ∧
      ∀ z ∈ xs, ∃ p, atKey ys z.1 = some p ∧ EqT X.prog X.w X.A.in1 s z.2.2 p.2 := by
  unfold dEq at hd
  rw [Bool.and_eq_true, Bool.and_eq_true, List.all_eq_true] at hd
  obtain ⟨⟨h1, h2⟩, h3⟩ := hd
  have h2 : kvs.length = lvs.length := eq_of_beq h2
  obtain ⟨a, rfl, qx⟩ := dictH e px
  obtain ⟨b, rfl, qy⟩ := dictH e py
  obtain rfl : v = .ref a := rx
  obtain rfl : u = .ref b := ry
  cases kvs with
  | nil => cases h1
  | cons p0 kvs0 =>
    have hT : isTup p0.1 = true := by
      have := h3 p0 List.mem_cons_self
      rw [Bool.and_eq_true] at this
      exact this.1
    rcases qx with ⟨vs, q1, q2, q3⟩ | ⟨vs, q1, q2, q3⟩
    · cases q3 with
      | @cons k' _ _ _ _ _ _ _ => cases k' <;> cases hT
    · rcases qy with ⟨ws, r1, r2, r3⟩ | ⟨ws, r1, r2, r3⟩
      · cases r3 with
        | nil => cases h2
        | @cons k' v' vs' d' ds' kk hv ht =>
          exfalso
          have h4 := h3 p0 List.mem_cons_self
          rw [Bool.and_eq_true] at h4
          obtain ⟨_, h4⟩ := h4
          obtain ⟨ks, ek⟩ := tup_key hT
          rw [ek, RepK.noT (ks.map kD) (RepK.cons kk hv ht)] at h4
          cases h4
      · obtain ⟨za, hsa, xs, rela, da⟩ := dt_of I.hok q1
        obtain ⟨zb, hsb, ys, relb, db⟩ := dt_of I.hok r1
        have l1 := Paired.length rela
        have l2 := Paired.length relb
        have l3 := RepT.length q3
        have l4 := RepT.length r3
        refine ⟨a, b, xs, ys, rfl, rfl, hsa, hsb, da, db, by omega, fun z hz => ?_⟩
        have find : ∀ {vs : List (List L2.Key × V)} {xs : List (List L2.Key × Addr × Value)} {kvs : List (D × D)}, KT H vs xs → RepT X.K G vs kvs → ∀ z ∈ xs, ∃ vv d, (tD z.1, d) ∈ kvs ∧ Rep X.K G vv d ∧ RelV vv z.2.2 := by
          intro vs xs kvs h
          induction h generalizing kvs with
          | nil => intro _ z hz; cases hz
          | @cons p q ps qs hq t ih =>
            intro hr z hz
            cases hr with
            | @cons k0 v0 _ d0 ds0 hk hv ht =>
              rcases List.mem_cons.mp hz with e1 | e1
              · subst e1
                refine ⟨v0, d0, ?_, hv, hq.2.2⟩
                rw [← hq.1]
                exact List.mem_cons_self
              · obtain ⟨vv, d, m1, m2, m3⟩ := ih ht z e1
                exact ⟨vv, d, List.mem_cons_of_mem _ m1, m2, m3⟩
        obtain ⟨vv, d, m1, m2, m3⟩ := find rela q3 z hz
        have h4 := h3 _ m1
        rw [Bool.and_eq_true] at h4
        obtain ⟨_, h4⟩ := h4
        have lk := RepT.look z.1 r3
        have hval := KT.val relb z.1
        have h4 : (match dLook lvs (.tuple (z.1.map kD)) with | some c => shp d && shp c && PyData.eqv d c | none => false) = true := h4
        cases hc : dLook lvs (.tuple (z.1.map kD)) with
        | none => rw [hc] at h4; cases h4
        | some c =>
          rw [hc] at h4 lk
          cases hv : valV ws z.1 with
          | none => rw [hv] at lk; exact lk.elim
          | some v2 =>
            rw [hv] at lk hval
            obtain ⟨u2, e2, ru2⟩ := RelO.some_of (v := v2) hval
            cases hp : atKey ys z.1 with
            | none => rw [hp] at e2; cases e2
            | some p =>
              rw [hp] at e2
              have e2 : p.2 = u2 := Option.some.inj e2
              subst e2
              have h4 : (shp d && shp c && PyData.eqv d c) = true := h4
              rw [Bool.and_eq_true, Bool.and_eq_true] at h4
              obtain ⟨⟨s1, s2⟩, s3⟩ := h4
              obtain ⟨as, ra⟩ := Dp.reads I d vv z.2.2 (Rep.dp e d vv (shp_iff.mp s1).1 m2) m3
              obtain ⟨bs, rb⟩ := Dp.reads I c v2 p.2 (Rep.dp e c v2 (shp_iff.mp s2).1 lk) ru2
              have := keq_at (A := X.A) ra rb (shp_shaped s1) (shp_shaped s2) hu
              rw [s3] at this
              exact ⟨p, rfl, fun E Q h => this X.prog X.w E Q h⟩
end
section
variable {T : Tab}
theorem ok_eq2 : OpOk T (compareOp .Eq) pEq2 := ⟨fun X W N k ev sc gd pins s σ H x y v u Q I rx ry ⟨G, dx, dy, e, hx, hy, r⟩ => by
  have hu := gd.hu65
  have old : ResG T X.K X.mg W G H (pEq dx dy) (pV X.K) Q → wpAny (model X.prog X.w) X.A (compareOp .Eq v u) (EP X pins σ Q) X.xe s := fun r => (ok_eq.ok X W N k ev sc gd) pins s σ H x y v u Q I rx ry ⟨G, dx, dy, e, hx, hy, r⟩
  cases dx with
  | dict kvs =>
    cases dy with
    | dict lvs =>
      simp only [pEq2] at r
      split at r
      · rename_i hd
        obtain ⟨a, b, xs, ys, rfl, rfl, h1, h2, h3, h4, h5, h6⟩ := dEq_run I e (by show X.A.units + 1 + 64 < cLine; omega) hx hy rx ry hd
        exact eq_H h1 h2 (show X.A.units + 1 < cLine by omega) (by omega) h3 h4 h5 h6 ⟨.bl true, H, I, rfl, r.ok T e (.bl _)⟩
      · exact r.elim
    | _ => exact old r
  | _ => exact old r⟩
theorem ok_ne2 : OpOk T (compareOp .NotEq) pNe2 := ⟨fun X W N k ev sc gd pins s σ H x y v u Q I rx ry ⟨G, dx, dy, e, hx, hy, r⟩ => by
  have hu := gd.hu65
  have old : ResG T X.K X.mg W G H (pNe dx dy) (pV X.K) Q → wpAny (model X.prog X.w) X.A (compareOp .NotEq v u) (EP X pins σ Q) X.xe s := fun r => (ok_ne.ok X W N k ev sc gd) pins s σ H x y v u Q I rx ry ⟨G, dx, dy, e, hx, hy, r⟩
  cases dx with
  | dict kvs =>
    cases dy with
    | dict lvs =>
      simp only [pNe2] at r
      split at r
      · rename_i hd
        obtain ⟨a, b, xs, ys, rfl, rfl, h1, h2, h3, h4, h5, h6⟩ := dEq_run I e (by show X.A.units + 1 + 64 < cLine; omega) hx hy rx ry hd
        exact ne_H h1 h2 (show X.A.units + 1 < cLine by omega) (by omega) h3 h4 h5 h6 ⟨.bl false, H, I, rfl, r.ok T e (.bl _)⟩
      · exact r.elim
    | _ => exact old r
  | _ => exact old r⟩
end
end PV

/-! PV33: two names at once. -/
namespace PV
open PySem L2

abbrev envS (sc : List (Str × NameKind)) : Env := { (default : Env) with scope := scOf sc }
theorem swp_of {sc : List (Str × NameKind)} {ts : List Expr} {v : Expr} {o : Option (List Str)} (h : swappedStores ts v (envS sc) = pure o) {env : Env} (hn : env.scope.names = sc) (hk : env.scope.kind = .function) : swappedStores ts v env = pure o := by
  have e1 : swappedStores ts v env = swappedStores ts v (envS sc) := by
    have a1 : env.blockKind = (envS sc).blockKind := by unfold Env.blockKind; rw [hk]
    have a2 : env.kindOf = (envS sc).kindOf := by funext x; unfold Env.kindOf; rw [hn]
    unfold swappedStores
    simp only [a1, a2]
  rw [e1, h]
section
variable {T : Tab} {N : List Str} {k : Nat} {ev : Ev} {sc : List (Str × NameKind)} {a b : Expr} {f g : FE} {x y : Str} {i j : Nat} {px py pt pt2 pos : Pos} {kt k2 : Nat}
theorem noTs {ts : List Expr} {t2 : Expr} {l : Nat} {env : Env} {k2 : Nat} {p2 : Pos} : swapsWithSole [t2] (.Tuple ts k2 p2) l env = pure false := rfl
theorem ss_par2 (hi : N[i]? = some x) (hj : N[j]? = some y) (hij : i ≠ j) (hx : sc.lookup x = some .local) (hy : sc.lookup y = some .local) (hw : swappedStores [.Tuple [.Name x px, .Name y py] kt pt] (.Tuple [a, b] k2 pt2) (envS sc) = pure (some [x, y]))
    (ha : SV T N k ev sc a f) (hb : SV T N k ev sc b g) (sa : NotStar a = true) (sb : NotStar b = true) : SS T N k ev sc (.Assign [.Tuple [.Name x px, .Name y py] kt pt] (.Tuple [a, b] k2 pt2) pos) (sPar i j (nV f) (nV g)) := fun X W gs => by
  have h2 : SA T N k ev sc [a, b] (aCons f (aCons g aNil)) := sa_cons ha (sa_cons hb sa_nil sb) sa
  refine PS.mono (ps_par gs.toGd.calm (by rw [gs.toGd.hN]; exact gs.toGd.nd) (by rw [gs.toGd.hN]; exact hi) (by rw [gs.toGd.hN]; exact hj) hij (by rw [gs.toGd.names]; exact hx) (by rw [gs.toGd.names]; exact hy) (h2 X W gs.toGd) (swp_of hw gs.toGd.names gs.toGd.kind) noTs) fun D σ H ⟨G0, H0, G, ρ, s0, en, on, r⟩ => ?_
  refine ⟨G, ρ, s0.in', en, ?_⟩
  have r : ResS T X.K X.mg W G0 H0 G D (RS.ofR (aCons f (aCons g aNil) ev ρ) fun ds => match ds with | [d, e] => .next ((ρ.set i (.fz d)).set j (.fz e)) | _ => .bad) := by
    have q : RS.ofR (aCons f (aCons g aNil) ev ρ) (fun ds => match ds with | [d, e] => RS.next ((ρ.set i (.fz d)).set j (.fz e)) | _ => .bad) = sPar i j (nV f) (nV g) ev ρ := by
      unfold sPar nV aCons aNil
      cases f ev ρ with
      | exc _ _ => rfl
      | bad => rfl
      | ok d => cases g ev ρ <;> rfl
    rw [q]; exact r
  refine ResS.expr s0 r fun ds vs G' H' eq s1 p r1 => ?_
  obtain ⟨d, e, rfl⟩ : ∃ d e, ds = [d, e] := by
    unfold aCons aNil at eq
    cases h1 : f ev ρ with
    | exc _ _ => rw [h1] at eq; cases eq
    | bad => rw [h1] at eq; cases eq
    | ok d =>
      rw [h1] at eq
      cases h2 : g ev ρ with
      | exc _ _ => rw [h2] at eq; cases eq
      | bad => rw [h2] at eq; cases eq
      | ok e => rw [h2] at eq; cases eq; exact ⟨d, e, rfl⟩
  obtain ⟨v, w, rfl, p1, p2⟩ := Reps.two p
  exact ⟨v, w, rfl, r1 _ G' H' (s0.trans s1) (Ex.refl _) (((en.up s0.in' s1).set p1).set p2) (on.set.set)⟩
end
end PV

/-! PV34: the module's head. -/
namespace PV
open PySem L2 PySem.W PyProof.Rows

/-- a def of the module, as it stands -/
structure FnAt (K : PySem.W.Frag) (name : Str) (st : Stmt) : Prop where
  ex : ∃ (f : Addr) (oc kV dc pm cd ct : Value) (od an : Option Addr) (sl : Array (Option Value)), nsIn K mainGlobals name = some (some (.ref f)) ∧
    K.lookup f = some ⟨oc, od, .func (fnOf name name (defArgs st) (defBody st) (defScope st) .none kV dc pm an cd ct), sl⟩ ∧ codeIn K cd name = true ∧ keepIn K (.ref f) = true
theorem fnAt_mk {K : PySem.W.Frag} {name : Str} {st : Stmt} {f : Addr} {oc kV dc pm cd ct : Value} {od an : Option Addr} {sl : Array (Option Value)} (a : nsIn K mainGlobals name = some (some (.ref f)))
    (l : K.lookup f = some ⟨oc, od, .func (fnOf name name (defArgs st) (defBody st) (defScope st) .none kV dc pm an cd ct), sl⟩) (c : codeIn K cd name = true) (k : keepIn K (.ref f) = true) : FnAt K name st := ⟨⟨f, oc, kV, dc, pm, cd, ct, od, an, sl, a, l, c, k⟩⟩
/-- how a def's arguments bind -/
def BindsSo (fi : FnI) (st : Stmt) : Prop := ∀ (kV doc pm : Value) (an : Option Addr) (cdv ct : Value) (us : List Value), us.length = fi.ps.length → bindArgs (fnOf fi.name fi.name (defArgs st) (defBody st) (defScope st) .none kV doc pm an cdv ct) ⟨us, []⟩ = pure (fi.ps.zip us)
theorem stands_of {T : Tab} {K : PySem.W.Frag} {h : Heap} {mg : Str → Option Value} (X : K.In h) (G : h.Ns mainGlobals mg) {rows : List (FS × Nat × Nat)} {j : Nat} {fi : FnI} {st : Stmt} {row : FS × Nat × Nat} (F : FnAt K fi.name st) (B : BindsSo fi st) (hr : rows[j]? = some row) (hb : Body T fi row (defBody st) (defScope st)) : Stands T K mg rows j fi := by
  obtain ⟨f, oc, kV, dc, pm, cd, ct, od, an, sl, a, l, c, k⟩ := F.ex
  exact ⟨{ f := f, qual := fi.name, params := defArgs st, body := defBody st, scope := defScope st, dV := .none, kV := kV, doc := dc, pm := pm, cdv := cd, ct := ct, oc := oc, an := an, od := od, osl := sl, lk := l, hcd := c, gm := mg_of X G a, kp := k, bd := fun us hl => B kV dc pm an cd ct us hl }, row, hr, hb⟩
/-- an error class -/
structure ClsP (K : PySem.W.Frag) (fI D : Addr) (x : Str) (C : Addr) : Prop where
  a : nsIn K mainGlobals x = some (some (.ref C))
  err : PErrC K D C
  ini : findIn K (.ref C) "__init__" = some (some (.ref fI))
  xf : XfC K C
theorem pErrC_mk {K : PySem.W.Frag} {D C : Addr} {nm q : Str} {N : Addr} {bs bm : List Value} {sn : List Str} {sub : List Value} {ab : Bool} {col : Option Bool} {dd : Option Addr} {k0 k1 k2 k3 k5 : Option Value}
    (h1 : K.lookup C = some (excClassObj nm q C N bs bm true sn sub ab col dd k0 k1 k2 k3 k5 "ValueError.__new__")) (h2 : PySem.HandSPX.refsVE bm = true) (h3 : findIn K (.ref C) "__setattr__" = some (some (.builtin "object.__setattr__"))) (h4 : subIn K (.ref C) (.type "BaseException") = some true)
    (h5 : typeIn K (.ref C) = some (.type "type")) (h6 : keepIn K (.ref C) = true) (h7 : ks_superIn K C D "__init__" = some (some (.builtin "ValueError.__init__"))) (h8 : mroIn K C (.ref D) = some true) (h9 : subIn K (.ref C) (.type "ValueError") = some true) (h10 : findIn K (.ref C) "at" = some none) : PErrC K D C :=
  ⟨⟨⟨nm, q, N, bs, bm, sn, sub, ab, col, dd, k0, k1, k2, k3, k5, h1, h2⟩, h3, h4, h5, h6⟩, h7, h8, h9, h10⟩
/-- no error of the list is of another's class -/
def difB (K : PySem.W.Frag) (L : List Addr) : Bool := (List.range L.length).all fun i => (List.range L.length).all fun j => exmOne K (.ref (L.getD i 0)) (.ref (L.getD j 0)) == some (decide (i = j))
theorem errs_of {T : Tab} {P : Program} {K : PySem.W.Frag} {h : Heap} {mg : Str → Option Value} (X : K.In h) (G : h.Ns mainGlobals mg) {fI D : Addr} (E : Nonempty (PErr P K fI D)) (tI : typeIn K (.ref fI) = some (.type "function")) (hs : mg "super" = none) (L : List Addr)
    (hL : ∀ (c : Nat) (x : Str), T.cls[c]? = some x → ∃ C, L[c]? = some C ∧ ClsP K fI D x C) (hlen : T.cls.length = L.length) (dif : difB K L = true) : Errs T P K mg where
  base := ⟨fI, D, E, hs, tI, fun c x hc => by
    obtain ⟨C, _, p⟩ := hL c x hc
    exact ⟨C, mg_of X G p.a, p.err, p.ini, p.xf⟩⟩
  dif := fun c c' C C' h1 h2 => by
    obtain ⟨x, e1, m1⟩ := h1
    obtain ⟨y, e2, m2⟩ := h2
    obtain ⟨D1, l1, p1⟩ := hL c x e1
    obtain ⟨D2, l2, p2⟩ := hL c' y e2
    rw [mg_of X G p1.a] at m1
    rw [mg_of X G p2.a] at m2
    cases m1
    cases m2
    have a1 : c < L.length := (List.getElem?_eq_some_iff.mp l1).1
    have a2 : c' < L.length := (List.getElem?_eq_some_iff.mp l2).1
    unfold difB at dif
    have d1 := List.all_eq_true.mp dif c (List.mem_range.mpr a1)
    have d2 := List.all_eq_true.mp d1 c' (List.mem_range.mpr a2)
    rw [List.getD_eq_getElem?_getD, List.getD_eq_getElem?_getD, l1, l2] at d2
    exact eq_of_beq d2
theorem cx_no {P : Program} {w : World} {H : Hp} {s : Shared} {e : Value} {s' : Shared} (h : L2.CX P w [] H s (fun _ _ _ => False) e s') : False := by
  obtain ⟨a, B, H', cls, d, _, _, _, _, _, _, _, h⟩ := h
  exact h
theorem pErr_mk {P : Program} {K : PySem.W.Frag} {fI D : Addr} {name qual : Str} {params : Arguments} {body : List Stmt} {scope : Scope} {dV kV doc pm ct oc ccl cl : Value} {an od cdd cld : Option Addr} {osl ccs csl : Array (Option Value)} {cc cda : Addr} {vs : Array Value} {file : Str} {tf : Tok} {cdD : ClassData} {ar : Arg}
    {p0 p1 p2 p3 p4 p5 q1 q2 q3 q4 : Pos} {pl : Env → Sem Bool} (hf : K.lookup fI = some ⟨oc, od, .func (ksFn name qual params body scope dV kV doc pm an (.ref cda) ct cc), osl⟩) (hcd : codeIn K (.ref cda) qual = true) (hcode : K.lookup cda = some ⟨ccl, cdd, .fields vs, ccs⟩)
    (hvs : vs[2]? = some (.str file tf)) (hfile : ((P.main.file : Str) == file) = true) (hcell : K.lookup cc = some ⟨cl, cld, .cell (some (.ref D)), csl⟩) (hD : clsIn K D = some cdD)
    (hbody : body = [.Expr (.Call (.Attribute (.Call (.Name "super" p0) [] [] p1) "__init__" p2) [.Name "at" p3] [] p4) p5, .Assign [.Attribute (.Name "self" q1) "at" q2] (.Name "at" q3) q4])
    (hcall : ∀ env : Env, eval (.Call (.Attribute (.Call (.Name "super" p0) [] [] p1) "__init__" p2) [.Name "at" p3] [] p4) env = (do
      let ov ← attributeBase (.Call (.Name "super" p0) [] [] p1) "__init__" env (eval (.Call (.Name "super" p0) [] [] p1) env)
      standAt p2.atName
      let (f, first) ← holding [ov] (getMethod ov "__init__" (pl env))
      callWith p4 f first (backTo p4 (starEach [.Name "at" p3] env)) []))
    (har : (params.posonlyargs ++ params.args).head? = some ar) (hself : ar.arg = "self") (hbind : ∀ a b : Value, bindArgs (ksFn name qual params body scope dV kV doc pm an (.ref cda) ct cc) ⟨[a, b], []⟩ = pure [(("self" : Str), a), (("at" : Str), b)])
    (hks : scope.names.lookup ("super" : Str) = some .globalImplicit) (hkc : scope.names.lookup ("__class__" : Str) = some .free) (hka : scope.names.lookup ("self" : Str) = some .local) (hkb : scope.names.lookup ("at" : Str) = some .local)
    (hk : scope.kind = .function) (hco : scope.isCoroutine = false) (hgen : scope.isGenerator = false) (hnoc : ∀ x ∈ scope.names, x.2 ≠ .cell) (htop : (P.main.scope.names.lookup ("super" : Str)).isSome = false) (hany : nsIn K cStatics "thirdparty.any" = some none) : Nonempty (PErr P K fI D) :=
  ⟨{ name := name, qual := qual, params := params, body := body, scope := scope, dV := dV, kV := kV, doc := doc, pm := pm, ct := ct, oc := oc, ccl := ccl, cl := cl, an := an, od := od, cdd := cdd, cld := cld, osl := osl, ccs := ccs, csl := csl, cc := cc, cda := cda, vs := vs, file := file, tf := tf, cdD := cdD, ar := ar, p0 := p0, p1 := p1, p2 := p2, p3 := p3, p4 := p4, p5 := p5, q1 := q1, q2 := q2, q3 := q3, q4 := q4,
      hf := hf, hcd := hcd, hcode := hcode, hvs := hvs, hfile := hfile, hcell := hcell, hD := hD, hbody := hbody, pl := pl, hcall := hcall, har := har, hself := hself, hbind := hbind, hks := hks, hkc := hkc, hka := hka, hkb := hkb, hk := hk, hco := hco, hgen := hgen, hnoc := hnoc, htop := htop, hany := hany }⟩
end PV

/-! PV35: typed values; what the plain functions over data give, told by typed functions. -/
namespace PV
open PySem

@[irreducible] def LIM : Nat := 16777216
theorem LIM_eq : LIM = lim := by unfold LIM; rfl
theorem LIM_ge : 16000000 ≤ LIM := by unfold LIM; decide
@[irreducible] def BIG : Int := 4611686018427387904
theorem BIG_eq : BIG = 2 ^ 62 := by unfold BIG; rfl
theorem BIG_ge : 1000000000000000000 ≤ BIG := by unfold BIG; decide

def RF {δ α : Type} (φ : α → δ) (x : R δ) (r : R α) : Prop := match r with
  | .ok a => x = .ok (φ a)
  | .exc c z => x = .exc c z
  | .bad => True
def gd {α : Type} (c : Prop) [Decidable c] (a : α) : R α := if c then .ok a else .bad
def nx {α : Type} (r : R α) : R α := match r with
  | .ok a => .ok a
  | _ => .bad
section
variable {δ ε ζ α β γ : Type} {φ : α → δ} {ψ : β → ε} {x : R δ} {r : R α}
theorem RF.okk {d : δ} {a : α} (h : d = φ a) : RF φ (.ok d) (.ok a) := by subst h; rfl
theorem RF.bd : RF φ x .bad := trivial
theorem RF.bind {f : δ → R ε} {g : α → R β} (h : RF φ x r) (k : ∀ a, RF ψ (f (φ a)) (g a)) : RF ψ (x.bind f) (r.bind g) := by
  cases r with
  | ok a => have h : x = .ok (φ a) := h; subst h; exact k a
  | exc c z => have h : x = .exc c z := h; subst h; rfl
  | bad => trivial
theorem RF.nx (h : RF φ x r) : RF φ (noX x) (nx r) := by
  cases r with
  | ok a => have h : x = .ok (φ a) := h; subst h; rfl
  | exc c z => trivial
  | bad => trivial
theorem RF.gd {c c' : Prop} [Decidable c] [Decidable c'] {a : α} (h : c' → c) : RF φ (if c then .ok (φ a) else .bad) (gd c' a) := by
  unfold PV.gd
  by_cases k : c'
  · rw [if_pos k, if_pos (h k)]; rfl
  · rw [if_neg k]; trivial
theorem RF.eq_ok {a : α} (h : RF φ x r) (e : r = .ok a) : x = .ok (φ a) := by subst e; exact h
end
theorem gd_pos {α : Type} {c : Prop} [Decidable c] {a : α} (h : c) : gd c a = .ok a := if_pos h

/-! ### letters and texts -/
structure Ch where
  v : Nat
  ok : v < 1114112
deriving DecidableEq
instance : LT Ch := ⟨fun a b => a.v < b.v⟩
instance : LE Ch := ⟨fun a b => a.v ≤ b.v⟩
instance (a b : Ch) : Decidable (a < b) := inferInstanceAs (Decidable (a.v < b.v))
instance (a b : Ch) : Decidable (a ≤ b) := inferInstanceAs (Decidable (a.v ≤ b.v))
theorem Ch.ext {a b : Ch} (h : a.v = b.v) : a = b := by cases a; cases b; cases h; rfl
abbrev Tx := List Ch
def vs (t : Tx) : List Nat := t.map Ch.v
def st (t : Tx) : Str := ⟨(vs t).toArray⟩
def deC : List Nat → Option Tx
  | [] => some []
  | n :: r => if h : n < 1114112 then (deC r).map (⟨n, h⟩ :: ·) else none
def cs (l : List Nat) : Tx := (deC l).getD []
theorem vs_inj : ∀ {a b : Tx}, vs a = vs b → a = b
  | [], [], _ => rfl
  | [], _ :: _, h => by cases h
  | _ :: _, [], h => by cases h
  | x :: a, y :: b, h => by
    unfold vs at h
    rw [List.map_cons, List.map_cons, List.cons.injEq] at h
    rw [Ch.ext h.1, vs_inj (a := a) (b := b) h.2]
theorem deC_vs : ∀ t : Tx, deC (vs t) = some t
  | [] => rfl
  | c :: t => by
    show (if h : c.v < 1114112 then (deC (vs t)).map (⟨c.v, h⟩ :: ·) else none) = _
    rw [dif_pos c.ok, deC_vs t]; rfl
theorem vs_deC : ∀ {l : List Nat} {t : Tx}, deC l = some t → l = vs t
  | [], t, h => by cases h; rfl
  | n :: l, t, h => by
    unfold deC at h
    by_cases k : n < 1114112
    · rw [dif_pos k] at h
      cases e : deC l with
      | none => rw [e] at h; cases h
      | some u =>
        rw [e] at h
        cases h
        rw [vs_deC e]; rfl
    · rw [dif_neg k] at h; cases h
theorem st_inj {a b : Tx} (h : st a = st b) : a = b := by
  unfold st at h
  rw [Str.mk.injEq] at h
  have := congrArg Array.toList h
  exact vs_inj (by simpa using this)
@[simp] theorem st_size (t : Tx) : (st t).cps.size = t.length := by unfold st vs; simp
@[simp] theorem st_list (t : Tx) : (st t).cps.toList = vs t := by unfold st; simp

/-! ### values -/
class En (α : Type) where
  en : α → D
  de : D → Option α
  de_en : ∀ a, de (en a) = some a
  en_de : ∀ {d a}, de d = some a → d = en a
open En (en de)
/-- not None -/
class NN (α : Type) [En α] : Prop where
  nn : ∀ a : α, (match en a with | .none => false | _ => true) = true
theorem en_inj {α : Type} [En α] {a b : α} (h : en a = en b) : a = b := by
  have := En.de_en a
  rw [h, En.de_en] at this
  cases this; rfl
abbrev RE {α : Type} [En α] (x : R D) (r : R α) : Prop := RF en x r
abbrev RL {α : Type} [En α] (x : R (List D)) (r : R (List α)) : Prop := RF (List.map en) x r
abbrev RB (x : R Bool) (r : R Bool) : Prop := RF id x r
instance : En D := ⟨id, some, fun _ => rfl, fun h => by cases h; rfl⟩
instance : En Int := ⟨.int, fun | .int i => some i | _ => none, fun _ => rfl, fun {d a} h => by cases d <;> first | (cases h; rfl) | cases h⟩
instance : En Bool := ⟨.bool, fun | .bool i => some i | _ => none, fun _ => rfl, fun {d a} h => by cases d <;> first | (cases h; rfl) | cases h⟩
instance : En Unit := ⟨fun _ => .none, fun | .none => some () | _ => none, fun _ => rfl, fun {d a} h => by cases d <;> first | rfl | cases h⟩
instance : En Tx := ⟨fun t => .str (st t), fun | .str x => deC x.cps.toList | _ => none, fun t => by show deC (st t).cps.toList = _; rw [st_list]; exact deC_vs t, fun {d a} h => by
  cases d with
  | str x =>
    have h : deC x.cps.toList = some a := h
    have := vs_deC h
    show PyData.str x = .str (st a)
    congr 1
    cases x with
    | mk c => unfold st; rw [← this]
  | _ => cases h⟩
instance : NN Int := ⟨fun _ => rfl⟩
instance : NN Bool := ⟨fun _ => rfl⟩
instance : NN Tx := ⟨fun _ => rfl⟩
section
variable {α β γ δ : Type} [En α] [En β] [En γ] [En δ]
def deL {α : Type} (f : D → Option α) : List D → Option (List α)
  | [] => some []
  | d :: ds => match f d, deL f ds with
    | some a, some l => some (a :: l)
    | _, _ => none
theorem deL_en : ∀ l : List α, deL de (l.map en) = some l
  | [] => rfl
  | a :: l => by rw [List.map_cons, deL, En.de_en, deL_en l]
theorem en_deL : ∀ {ds : List D} {l : List α}, deL de ds = some l → ds = l.map en
  | [], l, h => by cases h; rfl
  | d :: ds, l, h => by
    unfold deL at h
    split at h
    · rename_i a m h1 h2
      cases h
      rw [En.en_de h1, en_deL h2]; rfl
    · cases h
instance instEnList : En (List α) := ⟨fun l => .list (l.map en), fun | .list ds => deL de ds | _ => none, fun l => deL_en l, fun {d a} h => by
  cases d with
  | list ds =>
    show PyData.list ds = .list (a.map en)
    rw [en_deL (show deL de ds = some a from h)]
  | _ => cases h⟩
instance : NN (List α) := ⟨fun _ => rfl⟩
/-- a tuple of any length -/
structure Tu (α : Type) where
  l : List α
deriving DecidableEq
instance : En (Tu α) := ⟨fun t => .tuple (t.l.map en), fun | .tuple ds => (deL de ds).map Tu.mk | _ => none, fun t => by show (deL de (t.l.map en)).map Tu.mk = _; rw [deL_en]; rfl, fun {d a} h => by
  cases d with
  | tuple ds =>
    have h : (deL de ds).map Tu.mk = some a := h
    cases e : deL (α := α) de ds with
    | none => rw [e] at h; cases h
    | some l => rw [e] at h; cases h; show PyData.tuple ds = .tuple (l.map en); rw [en_deL e]
  | _ => cases h⟩
instance : NN (Tu α) := ⟨fun _ => rfl⟩
instance : En (α × β) := ⟨fun p => .tuple [en p.1, en p.2], fun | .tuple [d, e] => (match de d, de e with | some a, some b => some (a, b) | _, _ => none) | _ => none, fun p => by simp only [En.de_en], fun {d a} h => by
  split at h
  · split at h
    · rename_i h1 h2; cases h; rw [En.en_de h1, En.en_de h2]
    · cases h
  · cases h⟩
instance : NN (α × β) := ⟨fun _ => rfl⟩
structure T3 (α β γ : Type) where
  a : α
  b : β
  c : γ
deriving DecidableEq
instance : En (T3 α β γ) := ⟨fun p => .tuple [en p.a, en p.b, en p.c], fun | .tuple [d, e, f] => (match de d, de e, de f with | some a, some b, some c => some ⟨a, b, c⟩ | _, _, _ => none) | _ => none, fun p => by simp only [En.de_en], fun {d a} h => by
  split at h
  · split at h
    · rename_i h1 h2 h3; cases h; rw [En.en_de h1, En.en_de h2, En.en_de h3]
    · cases h
  · cases h⟩
instance : NN (T3 α β γ) := ⟨fun _ => rfl⟩
def enO : Option α → D
  | none => .none
  | some a => en a
instance instEnOpt [NN α] : En (Option α) := ⟨enO, fun d => match d with | .none => some none | d => (de d).map some, fun o => by
  cases o with
  | none => rfl
  | some a =>
    have h := NN.nn a
    show (match en a with | .none => some none | d => (de d).map some) = _
    split at h
    · cases h
    · rw [En.de_en]; rfl, fun {d a} h => by
  split at h
  · cases h; rfl
  · cases e : de (α := α) d with
    | none => rw [e] at h; cases h
    | some b => rw [e] at h; cases h; exact En.en_de e⟩
structure Dc (κ ν : Type) where
  l : List (κ × ν)
deriving DecidableEq
def enKV (p : α × β) : D × D := (en p.1, en p.2)
def deKV : List (D × D) → Option (List (α × β))
  | [] => some []
  | p :: ds => match de p.1, de p.2, deKV ds with
    | some a, some b, some l => some ((a, b) :: l)
    | _, _, _ => none
theorem deKV_en : ∀ l : List (α × β), deKV (l.map enKV) = some l
  | [] => rfl
  | a :: l => by rw [List.map_cons, deKV, deKV_en l]; unfold enKV; rw [En.de_en, En.de_en]
theorem en_deKV : ∀ {ds : List (D × D)} {l : List (α × β)}, deKV ds = some l → ds = l.map enKV
  | [], l, h => by cases h; rfl
  | d :: ds, l, h => by
    unfold deKV at h
    split at h
    · rename_i a b m h1 h2 h3
      cases h
      rw [en_deKV h3, List.map_cons]
      unfold enKV
      rw [← En.en_de h1, ← En.en_de h2]
    · cases h
instance : En (Dc α β) := ⟨fun t => .dict (t.l.map enKV), fun | .dict ds => (deKV ds).map Dc.mk | _ => none, fun t => by show (deKV (t.l.map enKV)).map Dc.mk = _; rw [deKV_en]; rfl, fun {d a} h => by
  cases d with
  | dict ds =>
    have h : (deKV ds).map Dc.mk = some a := h
    cases e : deKV (α := α) (β := β) ds with
    | none => rw [e] at h; cases h
    | some l => rw [e] at h; cases h; show PyData.dict ds = .dict (l.map enKV); rw [en_deKV e]
  | _ => cases h⟩
instance : NN (Dc α β) := ⟨fun _ => rfl⟩

/-! ### equality -/
class EqD (α : Type) [En α] [DecidableEq α] where
  dp : Nat
  lay : ∀ a : α, (en a).canLay0 = true
  dep : ∀ a : α, (en a).depth ≤ dp
  eqv : ∀ a b : α, PyData.eqv (en a) (en b) = decide (a = b)
instance : EqD Int := ⟨0, fun _ => rfl, fun _ => Nat.le_refl _, fun a b => by show (a == b) = _; by_cases h : a = b <;> simp [h]⟩
instance : EqD Bool := ⟨0, fun _ => rfl, fun _ => Nat.le_refl _, fun a b => by show (a == b) = _; by_cases h : a = b <;> simp [h]⟩
instance : EqD Tx := ⟨0, fun t => by
  show (st t).cps.all (fun n => decide (n < 0x110000)) = true
  rw [← Array.all_toList, st_list, List.all_eq_true]
  intro n hn
  obtain ⟨c, _, rfl⟩ := List.mem_map.mp hn
  exact decide_eq_true c.ok, fun _ => Nat.le_refl _, fun a b => by
  show (st a == st b) = _
  by_cases h : a = b
  · subst h; simp
  · have : ¬ st a = st b := fun e => h (st_inj e)
    simp [h, this]⟩
section
variable [DecidableEq α] [DecidableEq β] [DecidableEq γ] [EqD α] [EqD β] [EqD γ]
theorem layL : ∀ l : List α, PyData.canLayAll0 (l.map en) = true
  | [] => rfl
  | a :: l => by rw [List.map_cons, PyData.canLayAll0, EqD.lay, layL l]; rfl
theorem depL : ∀ l : List α, PyData.depthAll (l.map en) ≤ EqD.dp α
  | [] => Nat.zero_le _
  | a :: l => by
    have h1 := EqD.dep a
    have h2 := depL l
    rw [List.map_cons, PyData.depthAll]
    omega
theorem eqvL : ∀ l m : List α, PyData.eqvAll (l.map en) (m.map en) = decide (l = m)
  | [], [] => by simp [PyData.eqvAll]
  | [], _ :: _ => by simp [PyData.eqvAll]
  | _ :: _, [] => by simp [PyData.eqvAll]
  | a :: l, b :: m => by
    rw [List.map_cons, List.map_cons, PyData.eqvAll, EqD.eqv, eqvL l m]
    by_cases h : a = b <;> by_cases k : l = m <;> simp [h, k]
instance : EqD (List α) := ⟨EqD.dp α + 1, fun l => by show PyData.canLayAll0 (l.map en) = true; exact layL l, fun l => by show PyData.depthAll (l.map en) + 1 ≤ _; have := depL l; omega, fun l m => by show PyData.eqvAll (l.map en) (m.map en) = _; exact eqvL l m⟩
instance : EqD (Tu α) := ⟨EqD.dp α + 1, fun l => by show PyData.canLayAll0 (l.l.map en) = true; exact layL l.l, fun l => by show PyData.depthAll (l.l.map en) + 1 ≤ _; have := depL l.l; omega, fun l m => by
  show PyData.eqvAll (l.l.map en) (m.l.map en) = _
  rw [eqvL]
  cases l; cases m
  simp⟩
instance : EqD (α × β) := ⟨max (EqD.dp α) (EqD.dp β) + 1, fun p => by
  show (PyData.canLay0 (en p.1) && (PyData.canLay0 (en p.2) && true)) = true
  rw [EqD.lay, EqD.lay]; rfl, fun p => by
  show max (PyData.depth (en p.1)) (max (PyData.depth (en p.2)) 0) + 1 ≤ _
  have h1 := EqD.dep p.1
  have h2 := EqD.dep p.2
  omega, fun p q => by
  show (PyData.eqv (en p.1) (en q.1) && (PyData.eqv (en p.2) (en q.2) && true)) = _
  rw [EqD.eqv, EqD.eqv]
  obtain ⟨a, b⟩ := p
  obtain ⟨c, d⟩ := q
  by_cases h : a = c <;> by_cases k : b = d <;> simp [h, k]⟩
instance : EqD (T3 α β γ) := ⟨max (max (EqD.dp α) (EqD.dp β)) (EqD.dp γ) + 1, fun p => by
  show (PyData.canLay0 (en p.a) && (PyData.canLay0 (en p.b) && (PyData.canLay0 (en p.c) && true))) = true
  rw [EqD.lay, EqD.lay, EqD.lay]; rfl, fun p => by
  show max (PyData.depth (en p.a)) (max (PyData.depth (en p.b)) (max (PyData.depth (en p.c)) 0)) + 1 ≤ _
  have h1 := EqD.dep p.a
  have h2 := EqD.dep p.b
  have h3 := EqD.dep p.c
  omega, fun p q => by
  show (PyData.eqv (en p.a) (en q.a) && (PyData.eqv (en p.b) (en q.b) && (PyData.eqv (en p.c) (en q.c) && true))) = _
  rw [EqD.eqv, EqD.eqv, EqD.eqv]
  obtain ⟨a, b, e⟩ := p
  obtain ⟨c, d, f⟩ := q
  by_cases h : a = c <;> by_cases k : b = d <;> by_cases l : e = f <;> simp [h, k, l]⟩
end
theorem eqv_none_en [NN α] (a : α) : PyData.eqv .none (en a) = false ∧ PyData.eqv (en a) .none = false := by
  have := NN.nn a
  cases h : en a <;> rw [h] at this <;> first | exact ⟨rfl, rfl⟩ | cases this
instance [NN α] [DecidableEq α] [EqD α] : EqD (Option α) := ⟨EqD.dp α, fun o => by
  cases o with
  | none => rfl
  | some a => exact EqD.lay a, fun o => by
  cases o with
  | none => exact Nat.zero_le _
  | some a => exact EqD.dep a, fun o p => by
  cases o with
  | none => cases p with
    | none => rfl
    | some b => exact (eqv_none_en b).1.trans (by simp)
  | some a => cases p with
    | none => exact (eqv_none_en a).2.trans (by simp)
    | some b => exact (EqD.eqv a b).trans (by simp)⟩
theorem shp_en [DecidableEq α] [EqD α] (h : EqD.dp α ≤ 64) (a : α) : shp (en a) = true := by
  unfold shp
  rw [EqD.lay, decide_eq_true (Nat.le_trans (EqD.dep a) h)]; rfl
end
end PV

/-! PV36: typed expressions: a rule for each combinator. -/
namespace PV
open PySem
open En (en de)
section
variable {α β γ δ ε : Type} [En α] [En β] [En γ] [En δ] [En ε] {ev : Ev} {ρ : Rho}
/-! ### names, constants, operators -/
theorem r_var {i : Nat} {a : α} (h : ρ[i]? = some (.fz (en a))) : RE (eVar i ev ρ) (.ok a) := by
  show eVar i ev ρ = .ok (en a)
  unfold eVar
  rw [h]
theorem r_bor {i : Nat} {a : α} (h : ρ[i]? = some (.fz (en a))) : RE (eBor i ev ρ) (.ok a) := by
  show eBor i ev ρ = .ok (en a)
  unfold eBor
  rw [h]
theorem r_borL {i : Nat} {a : List α} (h : ρ[i]? = some (.ol (a.map en))) : RE (eBor i ev ρ) (.ok a) := by
  show eBor i ev ρ = .ok (en a)
  unfold eBor
  rw [h]; rfl
theorem r_borD {i : Nat} {a : Dc α β} (h : ρ[i]? = some (.od (a.l.map enKV))) : RE (eBor i ev ρ) (.ok a) := by
  show eBor i ev ρ = .ok (en a)
  unfold eBor
  rw [h]; rfl
theorem r_c {d : D} {a : α} (h : d = en a) : RE (eC d ev ρ) (.ok a) := by
  show R.ok d = .ok (en a)
  rw [h]
theorem r_dyn {f : FE} {r : R α} (h : RE (f ev ρ) r) : RE (α := D) (f ev ρ) (r.bind fun a => .ok (en a)) := by
  have : f ev ρ = (f ev ρ).bind .ok := by cases f ev ρ <;> rfl
  rw [this]
  exact RF.bind h fun a => RF.okk rfl
def dc [En α] (d : D) : R α := match de d with
  | some a => .ok a
  | none => .bad
theorem r_dec {f : FE} {r : R D} (h : RE (f ev ρ) r) : RE (α := α) (f ev ρ) (r.bind dc) := by
  have : f ev ρ = (f ev ρ).bind .ok := by cases f ev ρ <;> rfl
  rw [this]
  refine RF.bind h fun d => ?_
  unfold dc
  cases e : de (α := α) d with
  | none => trivial
  | some a => exact RF.okk (En.en_de e)
@[simp] theorem dc_en (a : α) : dc (en a) = (.ok a : R α) := by unfold dc; rw [En.de_en]
theorem r_some [NN α] {x : R D} {r : R α} (h : RE x r) : RE (α := Option α) x (r.bind fun a => .ok (some a)) := by
  have : x = x.bind .ok := by cases x <;> rfl
  rw [this]
  exact RF.bind h fun a => RF.okk rfl
theorem r_e1 {op : D → R D} {o : α → R β} {f : FE} {r : R α} (ho : ∀ a, RE (op (en a)) (o a)) (h : RE (f ev ρ) r) : RE (e1 op f ev ρ) (r.bind o) := RF.bind h ho
theorem r_e2 {op : D → D → R D} {o : α → β → R γ} {f g : FE} {r : R α} {q : R β} (ho : ∀ a b, RE (op (en a) (en b)) (o a b)) (h : RE (f ev ρ) r) (k : RE (g ev ρ) q) : RE (e2 op f g ev ρ) (r.bind fun a => q.bind fun b => o a b) := RF.bind h fun a => RF.bind k fun b => ho a b
/-! ### tests -/
class Tr (α : Type) [En α] where
  tr : α → Bool
  ok : ∀ a, truth (en a) = .ok (tr a)
instance : Tr Bool := ⟨fun b => b, fun _ => rfl⟩
instance : Tr Int := ⟨fun i => i != 0, fun _ => rfl⟩
instance : Tr Tx := ⟨fun t => !t.isEmpty, fun t => by
  show R.ok ((st t).cps.size != 0) = _
  rw [st_size]
  cases t <;> simp⟩
instance instTrL : Tr (List α) := ⟨fun t => !t.isEmpty, fun t => by
  show R.ok (!(t.map en).isEmpty) = _
  cases t <;> rfl⟩
instance : Tr (Tu α) := ⟨fun t => !t.l.isEmpty, fun t => by
  show R.ok (!(t.l.map en).isEmpty) = _
  cases t.l <;> rfl⟩
theorem r_T [Tr α] {f : FE} {r : R α} (h : RE (f ev ρ) r) : RB (eT f ev ρ) (r.bind fun a => .ok (Tr.tr a)) := RF.bind h fun a => by show truth (en a) = _; rw [Tr.ok]; rfl
theorem r_TB {f : FE} {r : R Bool} (h : RE (f ev ρ) r) : RB (eTB f ev ρ) (r.bind fun a => .ok a) := RF.bind h fun a => rfl
theorem r_TAnd {f g : FT} {r q : R Bool} (h : RB (f ev ρ) r) (k : RB (g ev ρ) q) : RB (eTAnd f g ev ρ) (r.bind fun b => if b = true then q else .ok false) := RF.bind h fun b => by
  show RF id (if b = true then g ev ρ else .ok false) _
  cases b
  · exact RF.okk rfl
  · exact k
theorem r_TOr {f g : FT} {r q : R Bool} (h : RB (f ev ρ) r) (k : RB (g ev ρ) q) : RB (eTOr f g ev ρ) (r.bind fun b => if b = true then .ok true else q) := RF.bind h fun b => by
  show RF id (if b = true then .ok true else g ev ρ) _
  cases b
  · exact k
  · exact RF.okk rfl
theorem r_TNot {f : FT} {r : R Bool} (h : RB (f ev ρ) r) : RB (eTNot f ev ρ) (r.bind fun b => .ok (!b)) := RF.bind h fun b => RF.okk rfl
theorem r_yes : RB (tYesF ev ρ) (.ok true) := rfl
theorem r_And [Tr α] {f g : FE} {r q : R α} (h : RE (f ev ρ) r) (k : RE (g ev ρ) q) : RE (eAnd f g ev ρ) (r.bind fun a => if Tr.tr a = true then q else .ok a) := RF.bind h fun a => by
  show RF en ((truth (en a)).bind _) _
  rw [Tr.ok, R.bind_ok]
  cases Tr.tr a
  · exact RF.okk rfl
  · exact k
theorem r_Or [Tr α] {f g : FE} {r q : R α} (h : RE (f ev ρ) r) (k : RE (g ev ρ) q) : RE (eOr f g ev ρ) (r.bind fun a => if Tr.tr a = true then .ok a else q) := RF.bind h fun a => by
  show RF en ((truth (en a)).bind _) _
  rw [Tr.ok, R.bind_ok]
  cases Tr.tr a
  · exact k
  · exact RF.okk rfl
theorem r_Not [Tr α] {f : FE} {r : R α} (h : RE (f ev ρ) r) : RE (eNot f ev ρ) (r.bind fun a => .ok (!Tr.tr a)) := RF.bind h fun a => by
  show RF en ((truth (en a)).bind _) _
  rw [Tr.ok, R.bind_ok]
  exact RF.okk rfl
theorem r_If {c : FT} {f g : FE} {p : R Bool} {r q : R α} (hc : RB (c ev ρ) p) (h : RE (f ev ρ) r) (k : RE (g ev ρ) q) : RE (eIf c f g ev ρ) (p.bind fun b => if b = true then r else q) := RF.bind hc fun b => by
  show RF en (if b = true then _ else _) _
  cases b
  · exact k
  · exact h
theorem r_Chain {op op' : D → D → R D} {o : α → β → R Bool} {o' : β → γ → R Bool} {f g h : FE} {r : R α} {q : R β} {p : R γ} (ho : ∀ a b, RE (op (en a) (en b)) (o a b)) (ho' : ∀ a b, RE (op' (en a) (en b)) (o' a b)) (hf : RE (f ev ρ) r) (hg : RE (g ev ρ) q) (hh : RE (h ev ρ) p) :
    RE (eChain op op' f g h ev ρ) (r.bind fun a => q.bind fun b => (o a b).bind fun t => if t = true then p.bind fun c => o' b c else .ok false) := RF.bind hf fun a => RF.bind hg fun b => RF.bind (ho a b) fun t => by
  show RF en (if t = true then _ else _) _
  cases t
  · exact RF.okk rfl
  · exact RF.bind hh fun c => ho' b c
/-! ### rows of arguments -/
theorem r_nil : RL (α := α) (aNil ev ρ) (.ok []) := rfl
theorem r_cons {f : FE} {g : FL} {r : R α} {q : R (List α)} (h : RE (f ev ρ) r) (k : RL (g ev ρ) q) : RL (aCons f g ev ρ) (r.bind fun a => q.bind fun l => .ok (a :: l)) := RF.bind h fun a => RF.bind k fun l => RF.okk rfl
theorem r_starL {f : FE} {g : FL} {r q : R (List α)} (h : RE (f ev ρ) r) (k : RL (g ev ρ) q) : RL (aStar f g ev ρ) (r.bind fun a => q.bind fun l => .ok (a ++ l)) := RF.bind h fun a => by
  show RF _ ((pItems (.list (a.map en))).bind _) _
  rw [show pItems (.list (a.map en)) = .ok (a.map en) from rfl, R.bind_ok]
  exact RF.bind k fun l => RF.okk (by rw [List.map_append])
theorem r_starT {f : FE} {g : FL} {r : R (Tu α)} {q : R (List α)} (h : RE (f ev ρ) r) (k : RL (g ev ρ) q) : RL (aStar f g ev ρ) (r.bind fun a => q.bind fun l => .ok (a.l ++ l)) := RF.bind h fun a => by
  show RF _ ((pItems (.tuple (a.l.map en))).bind _) _
  rw [show pItems (.tuple (a.l.map en)) = .ok (a.l.map en) from rfl, R.bind_ok]
  exact RF.bind k fun l => RF.okk (by rw [List.map_append])
theorem r_Lst {g : FL} {q : R (List α)} (k : RL (g ev ρ) q) : RE (eLst g ev ρ) (q.bind fun l => gd (l.length ≤ LIM) l) := RF.bind k fun l => RF.gd fun h => by rw [List.length_map, ← LIM_eq]; exact h
theorem r_Tup {g : FL} {q : R (List α)} (k : RL (g ev ρ) q) : RE (eTup g ev ρ) (q.bind fun l => gd (l.length ≤ LIM) (Tu.mk l)) := RF.bind k fun l => RF.gd (φ := en) (a := Tu.mk l) fun h => by rw [List.length_map, ← LIM_eq]; exact h
theorem r_Tup2 {f g : FE} {r : R α} {q : R β} (h : RE (f ev ρ) r) (k : RE (g ev ρ) q) : RE (eTup (aCons f (aCons g aNil)) ev ρ) (r.bind fun a => q.bind fun b => .ok (a, b)) := by
  have e : eTup (aCons f (aCons g aNil)) ev ρ = (f ev ρ).bind fun d => (g ev ρ).bind fun d2 => .ok (.tuple [d, d2]) := by
    show (((f ev ρ).bind fun d => ((g ev ρ).bind fun d2 => .ok [d2]).bind fun ds => .ok (d :: ds))).bind _ = _
    cases f ev ρ <;> cases g ev ρ <;> rfl
  rw [e]
  exact RF.bind h fun a => RF.bind k fun b => RF.okk rfl
theorem r_Tup3 {f g h : FE} {r : R α} {q : R β} {p : R γ} (h1 : RE (f ev ρ) r) (h2 : RE (g ev ρ) q) (h3 : RE (h ev ρ) p) : RE (eTup (aCons f (aCons g (aCons h aNil))) ev ρ) (r.bind fun a => q.bind fun b => p.bind fun c => .ok (T3.mk a b c)) := by
  have e : eTup (aCons f (aCons g (aCons h aNil))) ev ρ = (f ev ρ).bind fun d => (g ev ρ).bind fun d2 => (h ev ρ).bind fun d3 => .ok (.tuple [d, d2, d3]) := by
    show (((f ev ρ).bind fun d => ((g ev ρ).bind fun d2 => ((h ev ρ).bind fun d3 => .ok [d3]).bind fun ds => .ok (d2 :: ds)).bind fun ds => .ok (d :: ds))).bind _ = _
    cases f ev ρ <;> cases g ev ρ <;> cases h ev ρ <;> rfl
  rw [e]
  exact RF.bind h1 fun a => RF.bind h2 fun b => RF.bind h3 fun c => RF.okk rfl
/-! ### calls -/
theorem r_call0 {j : Nat} {m : R β} (hm : RE (ev j []) m) : RE (eCall j aNil ev ρ) m := hm
theorem r_call1 {j : Nat} {f : FE} {r : R α} {m : α → R β} (hm : ∀ a, RE (ev j [en a]) (m a)) (h : RE (f ev ρ) r) : RE (eCall j (aCons f aNil) ev ρ) (r.bind m) := by
  have e : eCall j (aCons f aNil) ev ρ = (f ev ρ).bind fun d => ev j [d] := by
    show ((f ev ρ).bind fun d => .ok [d]).bind _ = _
    cases f ev ρ <;> rfl
  rw [e]; exact RF.bind h hm
theorem r_call2 {j : Nat} {f g : FE} {r : R α} {q : R β} {m : α → β → R γ} (hm : ∀ a b, RE (ev j [en a, en b]) (m a b)) (h : RE (f ev ρ) r) (k : RE (g ev ρ) q) : RE (eCall j (aCons f (aCons g aNil)) ev ρ) (r.bind fun a => q.bind fun b => m a b) := by
  have e : eCall j (aCons f (aCons g aNil)) ev ρ = (f ev ρ).bind fun d => (g ev ρ).bind fun d2 => ev j [d, d2] := by
    show (((f ev ρ).bind fun d => ((g ev ρ).bind fun d2 => .ok [d2]).bind fun ds => .ok (d :: ds))).bind _ = _
    cases f ev ρ <;> cases g ev ρ <;> rfl
  rw [e]; exact RF.bind h fun a => RF.bind k fun b => hm a b
theorem r_call3 {j : Nat} {f g h : FE} {r : R α} {q : R β} {p : R γ} {m : α → β → γ → R δ} (hm : ∀ a b c, RE (ev j [en a, en b, en c]) (m a b c)) (h1 : RE (f ev ρ) r) (h2 : RE (g ev ρ) q) (h3 : RE (h ev ρ) p) : RE (eCall j (aCons f (aCons g (aCons h aNil))) ev ρ) (r.bind fun a => q.bind fun b => p.bind fun c => m a b c) := by
  have e : eCall j (aCons f (aCons g (aCons h aNil))) ev ρ = (f ev ρ).bind fun d => (g ev ρ).bind fun d2 => (h ev ρ).bind fun d3 => ev j [d, d2, d3] := by
    show (((f ev ρ).bind fun d => ((g ev ρ).bind fun d2 => ((h ev ρ).bind fun d3 => .ok [d3]).bind fun ds => .ok (d2 :: ds)).bind fun ds => .ok (d :: ds))).bind _ = _
    cases f ev ρ <;> cases g ev ρ <;> cases h ev ρ <;> rfl
  rw [e]; exact RF.bind h1 fun a => RF.bind h2 fun b => RF.bind h3 fun c => hm a b c
theorem r_call4 {j : Nat} {f g h i : FE} {r : R α} {q : R β} {p : R γ} {s : R δ} {m : α → β → γ → δ → R ε} (hm : ∀ a b c d, RE (ev j [en a, en b, en c, en d]) (m a b c d)) (h1 : RE (f ev ρ) r) (h2 : RE (g ev ρ) q) (h3 : RE (h ev ρ) p) (h4 : RE (i ev ρ) s) :
    RE (eCall j (aCons f (aCons g (aCons h (aCons i aNil)))) ev ρ) (r.bind fun a => q.bind fun b => p.bind fun c => s.bind fun d => m a b c d) := by
  have e : eCall j (aCons f (aCons g (aCons h (aCons i aNil)))) ev ρ = (f ev ρ).bind fun d => (g ev ρ).bind fun d2 => (h ev ρ).bind fun d3 => (i ev ρ).bind fun d4 => ev j [d, d2, d3, d4] := by
    show (((f ev ρ).bind fun d => ((g ev ρ).bind fun d2 => ((h ev ρ).bind fun d3 => ((i ev ρ).bind fun d4 => .ok [d4]).bind fun ds => .ok (d3 :: ds)).bind fun ds => .ok (d2 :: ds)).bind fun ds => .ok (d :: ds))).bind _ = _
    cases f ev ρ <;> cases g ev ρ <;> cases h ev ρ <;> cases i ev ρ <;> rfl
  rw [e]; exact RF.bind h1 fun a => RF.bind h2 fun b => RF.bind h3 fun c => RF.bind h4 fun d => hm a b c d
theorem r_call5 {ζ : Type} [En ζ] {j : Nat} {f g h i l : FE} {r : R α} {q : R β} {p : R γ} {s : R δ} {t : R ε} {m : α → β → γ → δ → ε → R ζ} (hm : ∀ a b c d e, RE (ev j [en a, en b, en c, en d, en e]) (m a b c d e)) (h1 : RE (f ev ρ) r) (h2 : RE (g ev ρ) q) (h3 : RE (h ev ρ) p) (h4 : RE (i ev ρ) s) (h5 : RE (l ev ρ) t) :
    RE (eCall j (aCons f (aCons g (aCons h (aCons i (aCons l aNil))))) ev ρ) (r.bind fun a => q.bind fun b => p.bind fun c => s.bind fun d => t.bind fun e => m a b c d e) := by
  have e : eCall j (aCons f (aCons g (aCons h (aCons i (aCons l aNil))))) ev ρ = (f ev ρ).bind fun d => (g ev ρ).bind fun d2 => (h ev ρ).bind fun d3 => (i ev ρ).bind fun d4 => (l ev ρ).bind fun d5 => ev j [d, d2, d3, d4, d5] := by
    show (((f ev ρ).bind fun d => ((g ev ρ).bind fun d2 => ((h ev ρ).bind fun d3 => ((i ev ρ).bind fun d4 => ((l ev ρ).bind fun d5 => .ok [d5]).bind fun ds => .ok (d4 :: ds)).bind fun ds => .ok (d3 :: ds)).bind fun ds => .ok (d2 :: ds)).bind fun ds => .ok (d :: ds))).bind _ = _
    cases f ev ρ <;> cases g ev ρ <;> cases h ev ρ <;> cases i ev ρ <;> cases l ev ρ <;> rfl
  rw [e]; exact RF.bind h1 fun a => RF.bind h2 fun b => RF.bind h3 fun c => RF.bind h4 fun d => RF.bind h5 fun e => hm a b c d e
theorem r_B1 {op : D → R D} {o : α → R β} {f : FE} {r : R α} (ho : ∀ a, RE (op (en a)) (o a)) (h : RE (f ev ρ) r) : RE (eB (b1 op) (aCons f aNil) ev ρ) (r.bind o) := by
  have e : eB (b1 op) (aCons f aNil) ev ρ = (f ev ρ).bind op := by
    show ((f ev ρ).bind fun d => .ok [d]).bind _ = _
    cases f ev ρ <;> rfl
  rw [e]; exact RF.bind h ho
theorem r_B2 {op : D → D → R D} {o : α → β → R γ} {f g : FE} {r : R α} {q : R β} (ho : ∀ a b, RE (op (en a) (en b)) (o a b)) (h : RE (f ev ρ) r) (k : RE (g ev ρ) q) : RE (eB (b2 op) (aCons f (aCons g aNil)) ev ρ) (r.bind fun a => q.bind fun b => o a b) := by
  have e : eB (b2 op) (aCons f (aCons g aNil)) ev ρ = (f ev ρ).bind fun d => (g ev ρ).bind fun d2 => op d d2 := by
    show (((f ev ρ).bind fun d => ((g ev ρ).bind fun d2 => .ok [d2]).bind fun ds => .ok (d :: ds))).bind _ = _
    cases f ev ρ <;> cases g ev ρ <;> rfl
  rw [e]; exact RF.bind h fun a => RF.bind k fun b => ho a b
/-- a method of one argument -/
theorem r_M1 {isT : D → Bool} {m : D → List D → R D} {o : α → β → R γ} {f g : FE} {r : R α} {q : R β} (ht : ∀ a : α, isT (en a) = true) (ho : ∀ a b, RE (m (en a) [en b]) (o a b)) (h : RE (f ev ρ) r) (k : RE (g ev ρ) q) : RE (eM isT m f (aCons g aNil) ev ρ) (r.bind fun a => q.bind fun b => o a b) := RF.bind h fun a => by
  show RF en (if isT (en a) = true then (((g ev ρ).bind fun d => .ok [d]).bind fun ds => m (en a) ds) else .bad) _
  rw [if_pos (ht a)]
  have e : (((g ev ρ).bind fun d => .ok [d]).bind fun ds => m (en a) ds) = (g ev ρ).bind fun d => m (en a) [d] := by cases g ev ρ <;> rfl
  rw [e]
  exact RF.bind k fun b => ho a b
theorem r_M2 {isT : D → Bool} {m : D → List D → R D} {o : α → β → γ → R δ} {f g g' : FE} {r : R α} {q : R β} {q' : R γ} (ht : ∀ a : α, isT (en a) = true) (ho : ∀ a b c, RE (m (en a) [en b, en c]) (o a b c)) (h : RE (f ev ρ) r) (k : RE (g ev ρ) q) (k' : RE (g' ev ρ) q') : RE (eM isT m f (aCons g (aCons g' aNil)) ev ρ) (r.bind fun a => q.bind fun b => q'.bind fun c => o a b c) := RF.bind h fun a => by
  show RF en (if isT (en a) = true then (((g ev ρ).bind fun d => ((g' ev ρ).bind fun d2 => .ok [d2]).bind fun ds => .ok (d :: ds)).bind fun ds => m (en a) ds) else .bad) _
  rw [if_pos (ht a)]
  have e : (((g ev ρ).bind fun d => ((g' ev ρ).bind fun d2 => .ok [d2]).bind fun ds => .ok (d :: ds)).bind fun ds => m (en a) ds) = (g ev ρ).bind fun d => (g' ev ρ).bind fun d2 => m (en a) [d, d2] := by cases g ev ρ <;> cases g' ev ρ <;> rfl
  rw [e]
  exact RF.bind k fun b => RF.bind k' fun c => ho a b c
/-- a method of one argument of a thing of two kinds: the first, the second -/
theorem r_MA {isA isB : D → Bool} {fa fb : D → List D → R D} {o : α → β → R γ} {f g : FE} {r : R α} {q : R β} (ht : ∀ a : α, isA (en a) = true) (ho : ∀ a b, RE (fa (en a) [en b]) (o a b)) (h : RE (f ev ρ) r) (k : RE (g ev ρ) q) : RE (eM2 isA fa isB fb f (aCons g aNil) ev ρ) (r.bind fun a => q.bind fun b => o a b) := RF.bind h fun a => by
  show RF en (if isA (en a) = true then (((g ev ρ).bind fun d => .ok [d]).bind fun ds => fa (en a) ds) else _) _
  rw [if_pos (ht a)]
  have e : (((g ev ρ).bind fun d => .ok [d]).bind fun ds => fa (en a) ds) = (g ev ρ).bind fun d => fa (en a) [d] := by cases g ev ρ <;> rfl
  rw [e]
  exact RF.bind k fun b => ho a b
theorem r_MB {isA isB : D → Bool} {fa fb : D → List D → R D} {o : α → β → R γ} {f g : FE} {r : R α} {q : R β} (ht : ∀ a : α, isA (en a) = false ∧ isB (en a) = true) (ho : ∀ a b, RE (fb (en a) [en b]) (o a b)) (h : RE (f ev ρ) r) (k : RE (g ev ρ) q) : RE (eM2 isA fa isB fb f (aCons g aNil) ev ρ) (r.bind fun a => q.bind fun b => o a b) := RF.bind h fun a => by
  show RF en (if isA (en a) = true then _ else if isB (en a) = true then (((g ev ρ).bind fun d => .ok [d]).bind fun ds => fb (en a) ds) else .bad) _
  rw [if_neg (by rw [(ht a).1]; decide), if_pos (ht a).2]
  have e : (((g ev ρ).bind fun d => .ok [d]).bind fun ds => fb (en a) ds) = (g ev ρ).bind fun d => fb (en a) [d] := by cases g ev ρ <;> rfl
  rw [e]
  exact RF.bind k fun b => ho a b
theorem r_Cut {lo hi : FO} {f : FE} {r : R α} {p q : R (Option Int)} {o : Option Int → Option Int → α → R β} (ho : ∀ i j a, RE (pCut i j (en a)) (o i j a)) (h : RE (f ev ρ) r) (h1 : RF id (lo ev ρ) p) (h2 : RF id (hi ev ρ) q) : RE (eCut f lo hi ev ρ) (r.bind fun a => p.bind fun i => q.bind fun j => o i j a) := RF.bind h fun a => RF.bind h1 fun i => RF.bind h2 fun j => ho i j a
theorem r_oN : RF id (oN ev ρ) (.ok none) := rfl
theorem r_oS {f : FE} {r : R Int} (h : RE (f ev ρ) r) : RF id (oS f ev ρ) (r.bind fun i => .ok (some i)) := RF.bind h fun i => rfl
theorem r_LRng1 {f : FE} {r : R Int} {o : Int → R (List Int)} (ho : ∀ i, RE (pLRng [.int i]) (o i)) (h : RE (f ev ρ) r) : RE (eLRng (aCons f aNil) ev ρ) (r.bind o) := by
  have e : eLRng (aCons f aNil) ev ρ = (f ev ρ).bind fun d => pLRng [d] := by
    show ((f ev ρ).bind fun d => .ok [d]).bind _ = _
    cases f ev ρ <;> rfl
  rw [e]; exact RF.bind h ho
/-! ### what is walked -/
theorem r_iVal {f : FE} {r : R α} {o : α → R (List β)} (ho : ∀ a, RL (pIter (en a)) (o a)) (h : RE (f ev ρ) r) : RL (iVal f ev ρ) (r.bind o) := RF.bind h ho
theorem r_i1 {op : D → R (List D)} {o : α → R (List β)} {f : FE} {r : R α} (ho : ∀ a, RL (op (en a)) (o a)) (h : RE (f ev ρ) r) : RL (iB (q1 op) (aCons f aNil) ev ρ) (r.bind o) := by
  have e : iB (q1 op) (aCons f aNil) ev ρ = (f ev ρ).bind op := by
    show ((f ev ρ).bind fun d => .ok [d]).bind _ = _
    cases f ev ρ <;> rfl
  rw [e]; exact RF.bind h ho
theorem r_i2 {op : D → D → R (List D)} {o : α → β → R (List γ)} {f g : FE} {r : R α} {q : R β} (ho : ∀ a b, RL (op (en a) (en b)) (o a b)) (h : RE (f ev ρ) r) (k : RE (g ev ρ) q) : RL (iB (q2 op) (aCons f (aCons g aNil)) ev ρ) (r.bind fun a => q.bind fun b => o a b) := by
  have e : iB (q2 op) (aCons f (aCons g aNil)) ev ρ = (f ev ρ).bind fun d => (g ev ρ).bind fun d2 => op d d2 := by
    show (((f ev ρ).bind fun d => ((g ev ρ).bind fun d2 => .ok [d2]).bind fun ds => .ok (d :: ds))).bind _ = _
    cases f ev ρ <;> cases g ev ρ <;> rfl
  rw [e]; exact RF.bind h fun a => RF.bind k fun b => ho a b
theorem r_i3 {op : D → D → D → R (List D)} {o : α → β → γ → R (List δ)} {f g h : FE} {r : R α} {q : R β} {p : R γ} (ho : ∀ a b c, RL (op (en a) (en b) (en c)) (o a b c)) (h1 : RE (f ev ρ) r) (h2 : RE (g ev ρ) q) (h3 : RE (h ev ρ) p) : RL (iB (q3 op) (aCons f (aCons g (aCons h aNil))) ev ρ) (r.bind fun a => q.bind fun b => p.bind fun c => o a b c) := by
  have e : iB (q3 op) (aCons f (aCons g (aCons h aNil))) ev ρ = (f ev ρ).bind fun d => (g ev ρ).bind fun d2 => (h ev ρ).bind fun d3 => op d d2 d3 := by
    show (((f ev ρ).bind fun d => ((g ev ρ).bind fun d2 => ((h ev ρ).bind fun d3 => .ok [d3]).bind fun ds => .ok (d2 :: ds)).bind fun ds => .ok (d :: ds))).bind _ = _
    cases f ev ρ <;> cases g ev ρ <;> cases h ev ρ <;> rfl
  rw [e]; exact RF.bind h1 fun a => RF.bind h2 fun b => RF.bind h3 fun c => ho a b c
/-! ### comprehensions -/
/-- [g x for x in l if p x] -/
def lcR {α β : Type} (p : α → R Bool) (g : α → R β) : List α → R (List β)
  | [] => .ok []
  | a :: l => (nx (p a)).bind fun b => if b = true then (nx (g a)).bind fun y => (lcR p g l).bind fun ys => .ok (y :: ys) else lcR p g l
def mapR {α β : Type} (g : α → R β) : List α → R (List β)
  | [] => .ok []
  | a :: l => (nx (g a)).bind fun y => (mapR g l).bind fun ys => .ok (y :: ys)
theorem lcL_R {t : Tg} {c : Rho → R Bool} {f : Rho → R D} {p : α → R Bool} {g : α → R β} (h : ∀ a, ∃ ρ1, bindT t (en a) ρ = some ρ1 ∧ RB (c ρ1) (p a) ∧ RE (f ρ1) (g a)) : ∀ l : List α, RL (lcL t c f ρ (l.map en)) (lcR p g l)
  | [] => rfl
  | a :: l => by
    obtain ⟨ρ1, h1, h2, h3⟩ := h a
    rw [List.map_cons]
    unfold lcL lcR
    rw [h1]
    refine RF.bind (RF.nx h2) fun b => ?_
    show RF _ (if b = true then _ else _) (if b = true then _ else _)
    cases b
    · exact lcL_R h l
    · exact RF.bind (RF.nx h3) fun y => RF.bind (lcL_R h l) fun ys => RF.okk rfl
theorem r_Lc {vs : List Nat} {t : Tg} {it : FL} {c : FT} {f : FE} {q : R (List α)} {p : α → R Bool} {g : α → R β} (hi : RL (it ev ρ) q) (h : ∀ a, ∃ ρ1, bindT t (en a) (wipeR ρ vs) = some ρ1 ∧ RB (c ev ρ1) (p a) ∧ RE (f ev ρ1) (g a)) :
    RE (eLc vs t it c f ev ρ) (q.bind fun l => if l.length ≤ LIM then lcR p g l else .bad) := RF.bind hi fun l => by
  show RF en (if (l.map en).length ≤ lim then _ else .bad) _
  rw [List.length_map]
  by_cases k : l.length ≤ LIM
  · rw [if_pos k, if_pos (by rw [← LIM_eq]; exact k)]
    have := lcL_R (t := t) (c := c ev) (f := f ev) h l
    have e : ∀ x : R (List β), x = x.bind .ok := fun x => by cases x <;> rfl
    rw [e (lcR p g l)]
    exact RF.bind this fun ys => RF.okk rfl
  · rw [if_neg k]; trivial
theorem mapR_eq {p : α → R Bool} (hp : ∀ a, p a = .ok true) (g : α → R β) : ∀ l : List α, lcR p g l = mapR g l
  | [] => rfl
  | a :: l => by
    unfold lcR mapR
    rw [hp a, mapR_eq hp g l]
    rfl
theorem r_LcM {vs : List Nat} {t : Tg} {it : FL} {f : FE} {q : R (List α)} {g : α → R β} (hi : RL (it ev ρ) q) (h : ∀ a, ∃ ρ1, bindT t (en a) (wipeR ρ vs) = some ρ1 ∧ RE (f ev ρ1) (g a)) :
    RE (eLc vs t it tYesF f ev ρ) (q.bind fun l => if l.length ≤ LIM then mapR g l else .bad) := by
  have := r_Lc (vs := vs) (t := t) (c := tYesF) (f := f) (p := fun _ => .ok true) (g := g) hi fun a => let ⟨ρ1, h1, h2⟩ := h a; ⟨ρ1, h1, rfl, h2⟩
  have e : lcR (fun _ : α => .ok true) g = mapR g := funext fun l => mapR_eq (fun _ => rfl) g l
  rw [e] at this
  exact this
end
end PV

/-! PV37: typed statements. -/
namespace PV
open PySem
open En (en de)
/-- what a block leads to: on, with a state, or out with a value -/
inductive Fl (σ β : Type) where
  | on (s : σ)
  | out (b : β)
def Rg {τ : Type} (x : RS) (r : R τ) (I : τ → RS → Prop) : Prop := match r with
  | .ok t => I t x
  | .exc c z => x = .exc c z
  | .bad => True
/-- the end of a def -/
def IB {β : Type} [En β] (b : β) (x : RS) : Prop := x = .ret (en b) ∨ (en b = .none ∧ ∃ ρ, x = .next ρ)
def IS {σ : Type} (P : σ → Rho → Prop) (s : σ) (x : RS) : Prop := ∃ ρ, x = .next ρ ∧ P s ρ
def IF {σ β : Type} [En β] (P : σ → Rho → Prop) : Fl σ β → RS → Prop
  | .on s, x => IS P s x
  | .out b, x => x = .ret (en b)
def Fl.el {σ β τ : Type} (k : σ → R τ) (o : β → R τ) : Fl σ β → R τ
  | .on s => k s
  | .out b => o b
theorem RS.seq_next (x : RS) : x.seq RS.next = x := by cases x <;> rfl
theorem RS.seq_seq (x : RS) (f g : Rho → RS) : (x.seq f).seq g = x.seq fun ρ => (f ρ).seq g := by cases x <;> rfl
theorem runF_of {β : Type} [En β] {f : FS} {n : Nat} {ev : Ev} {ds : List D} {r : R β} (h : Rg ((f ev (entry n ds)).seq .next) r IB) : RE (runF f n ev ds) r := by
  rw [RS.seq_next] at h
  unfold runF
  cases r with
  | ok b =>
    show _ = _
    rcases h with h | ⟨h, ρ, h2⟩
    · rw [h]
    · rw [h2, h]
  | exc c z => have h : f ev (entry n ds) = .exc c z := h; rw [h]; rfl
  | bad => trivial
theorem evT {rows : List (FS × Nat × Nat)} {β : Type} [En β] {k j n m : Nat} {f : FS} {ds : List D} {r : R β} (hk : 1 ≤ k) (h : rows[j]? = some (f, n, m)) (hl : ds.length = m) (hf : Rg ((f (evN rows (k - 1)) (entry n ds)).seq .next) r IB) : RE (evN rows k j ds) r := by
  obtain ⟨k, rfl⟩ : ∃ i, k = i + 1 := ⟨k - 1, by omega⟩
  have e : evN rows (k + 1) j ds = runF f n (evN rows k) ds := by
    show (match rows[j]? with
      | some (f, n, m) => if ds.length = m then runF f n (evN rows k) ds else .bad
      | none => .bad) = _
    rw [h]
    exact if_pos hl
  rw [e]
  exact runF_of hf
section
variable {α β γ δ σ τ ζ : Type} {ev : Ev} {ρ : Rho} {K : Rho → RS} {I : τ → RS → Prop}
theorem k_ofR {φ : α → ζ} {x : R ζ} {r : R α} {f : ζ → RS} {k : α → R τ} (h : RF φ x r) (c : ∀ a, Rg ((f (φ a)).seq K) (k a) I) : Rg ((RS.ofR x f).seq K) (r.bind k) I := by
  cases r with
  | ok a => have h : x = .ok (φ a) := h; subst h; exact c a
  | exc e z => have h : x = .exc e z := h; subst h; exact rfl
  | bad => exact trivial
theorem k_seq {f g : FS} {r : R τ} (h : Rg ((f ev ρ).seq fun ρ' => (g ev ρ').seq K) r I) : Rg ((sSeq f g ev ρ).seq K) r I := by
  show Rg (((f ev ρ).seq (g ev)).seq K) r I
  rw [RS.seq_seq]; exact h
theorem k_nil {r : R τ} (h : Rg (K ρ) r I) : Rg ((sNil ev ρ).seq K) r I := h
theorem k_end {t : τ} (h : I t (.next ρ)) : Rg (RS.next ρ) (.ok t) I := h
theorem k_frz {f : FS} {is : List Nat} {r : R τ} (h : Rg ((f ev (frzAt is ρ)).seq K) r I) : Rg ((sFrz is f ev ρ).seq K) r I := h
theorem k_if {c : FT} {f g : FS} {p : R Bool} {r q : R τ} (hc : RB (c ev ρ) p) (h : Rg ((f ev ρ).seq K) r I) (k : Rg ((g ev ρ).seq K) q I) : Rg ((sIf c f g ev ρ).seq K) (p.bind fun b => if b = true then r else q) I := k_ofR hc fun b => by
  cases b
  · exact k
  · exact h
theorem k_merge {f : FS} {P : σ → Rho → Prop} {r : R σ} {k : σ → R τ} (h : Rg ((f ev ρ).seq .next) r (IS P)) (c : ∀ s ρ', P s ρ' → Rg (K ρ') (k s) I) : Rg ((f ev ρ).seq K) (r.bind k) I := by
  rw [RS.seq_next] at h
  cases r with
  | ok s =>
    obtain ⟨ρ', h1, h2⟩ := (show ∃ ρ', _ ∧ _ from h)
    rw [h1]
    exact c s ρ' h2
  | exc e z => have h : f ev ρ = .exc e z := h; rw [h]; exact rfl
  | bad => exact trivial
theorem k_mergeF [En β] {f : FS} {P : σ → Rho → Prop} {r : R (Fl σ β)} {k : σ → R τ} {o : β → R τ} (h : Rg ((f ev ρ).seq .next) r (IF P)) (c : ∀ s ρ', P s ρ' → Rg (K ρ') (k s) I) (d : ∀ b, Rg (.ret (en b)) (o b) I) : Rg ((f ev ρ).seq K) (r.bind (Fl.el k o)) I := by
  rw [RS.seq_next] at h
  cases r with
  | ok s =>
    cases s with
    | on s =>
      obtain ⟨ρ', h1, h2⟩ := (show ∃ ρ', _ ∧ _ from h)
      rw [h1]
      exact c s ρ' h2
    | out b =>
      have h : f ev ρ = .ret (en b) := h
      rw [h]
      exact d b
  | exc e z => have h : f ev ρ = .exc e z := h; rw [h]; exact rfl
  | bad => exact trivial
theorem k_expr [En α] {f : FE} {r : R α} {k : R τ} (h : RE (f ev ρ) r) (c : Rg (K ρ) k I) : Rg ((sExpr f ev ρ).seq K) (r.bind fun _ => k) I := k_ofR h fun _ => c
theorem k_ret [En α] {f : FE} {r : R α} {t : α → τ} (h : RE (f ev ρ) r) (c : ∀ a, I (t a) (.ret (en a))) : Rg ((sRet f ev ρ).seq K) (r.bind fun a => .ok (t a)) I := k_ofR h c
theorem k_raise [En α] {f : FE} {c : Nat} {r : R α} (h : RE (f ev ρ) r) : Rg ((sRaise c f ev ρ).seq K) (r.bind fun a => (.exc c (en a) : R τ)) I := k_ofR h fun a => rfl
theorem k_set {i : Nat} {f : FN} {φ : α → Ent} {r : R α} {k : α → R τ} (h : RF φ (f ev ρ) r) (c : ∀ a, Rg (K (ρ.set i (φ a))) (k a) I) : Rg ((sSet i f ev ρ).seq K) (r.bind k) I := k_ofR h c
def fzE [En α] (a : α) : Ent := .fz (en a)
def olE [En α] (a : List α) : Ent := .ol (a.map en)
def odE [En α] [En β] (a : Dc α β) : Ent := .od (a.l.map enKV)
theorem n_V [En α] {f : FE} {r : R α} (h : RE (f ev ρ) r) : RF (fun a : α => Ent.fz (en a)) (nV f ev ρ) r := by
  have : r = r.bind .ok := by cases r <;> rfl
  rw [this]
  exact RF.bind h fun a => rfl
theorem n_L [En α] {f : FE} {r : R (List α)} (h : RE (f ev ρ) r) : RF (fun a : List α => Ent.ol (a.map en)) (nF f ev ρ) r := by
  have : r = r.bind .ok := by cases r <;> rfl
  rw [this]
  exact RF.bind h fun a => rfl
theorem n_D [En α] [En β] {f : FE} {r : R (Dc α β)} (h : RE (f ev ρ) r) : RF (fun a : Dc α β => Ent.od (a.l.map enKV)) (nF f ev ρ) r := by
  have : r = r.bind .ok := by cases r <;> rfl
  rw [this]
  exact RF.bind h fun a => rfl
theorem k_tgt [En α] {t : Tg} {f : FE} {r : R α} {ρ1 : α → Rho} {k : α → R τ} (h : RE (f ev ρ) r) (hb : ∀ a, bindT t (en a) ρ = some (ρ1 a)) (c : ∀ a, Rg (K (ρ1 a)) (k a) I) : Rg ((sTgt t f ev ρ).seq K) (r.bind k) I := k_ofR h fun a => by
  show Rg ((match bindT t (en a) ρ with | some ρ' => RS.next ρ' | none => .bad).seq K) _ I
  rw [hb a]
  exact c a
theorem k_par {i j : Nat} {f g : FN} {φ : α → Ent} {ψ : β → Ent} {r : R α} {q : R β} {k : α → β → R τ} (h : RF φ (f ev ρ) r) (h2 : RF ψ (g ev ρ) q) (c : ∀ a b, Rg (K ((ρ.set i (φ a)).set j (ψ b))) (k a b) I) : Rg ((sPar i j f g ev ρ).seq K) (r.bind fun a => q.bind fun b => k a b) I := k_ofR h fun a => k_ofR h2 fun b => c a b
def tPush (l : List α) (a : α) : R (List α) := gd (l.length < LIM) (l ++ [a])
theorem k_app [En α] {i : Nat} {f : FE} {l : List α} {r : R α} {k : List α → R τ} (hi : ρ[i]? = some (.ol (l.map en))) (h : RE (f ev ρ) r) (c : ∀ l' : List α, Rg (K (ρ.set i (.ol (l'.map en)))) (k l') I) : Rg ((sApp i f ev ρ).seq K) (r.bind fun a => (tPush l a).bind k) I := by
  have e : sApp i f ev ρ = RS.ofR (f ev ρ) fun d => if (l.map en).length < lim then .next (ρ.set i (.ol (l.map en ++ [d]))) else .bad := by
    unfold sApp
    rw [hi]
  rw [e]
  refine k_ofR h fun a => ?_
  unfold tPush gd
  by_cases q : l.length < LIM
  · rw [if_pos q, if_pos (by rw [List.length_map, ← LIM_eq]; exact q)]
    have := c (l ++ [a])
    rw [List.map_append] at this
    exact this
  · rw [if_neg q]; exact trivial
/-! ### dicts -/
class Ky (α : Type) [En α] : Prop where
  ky : (∀ a : α, isFlat (en a) = true) ∨ (∀ a : α, isTup (en a) = true)
theorem ky_ok [En α] [Ky α] [En β] (l : List (α × β)) (a : α) : keyOk (l.map enKV) (en a) = true := by
  unfold keyOk
  cases l with
  | nil =>
    show (isFlat (en a) || isTup (en a)) = true
    rcases (Ky.ky (α := α)) with h | h
    · rw [h a]; rfl
    · rw [h a, Bool.or_true]
  | cons p l =>
    show ((isFlat (en p.1) && isFlat (en a)) || (isTup (en p.1) && isTup (en a))) = true
    rcases (Ky.ky (α := α)) with h | h
    · rw [h a, h p.1]; rfl
    · rw [h a, h p.1, Bool.and_self, Bool.or_true]
def dlk [DecidableEq α] : List (α × β) → α → Option β
  | [], _ => none
  | (k, v) :: r, y => if k = y then some v else dlk r y
def dpt [DecidableEq α] : List (α × β) → α → β → List (α × β)
  | [], y, v => [(y, v)]
  | (k, u) :: r, y, v => if k = y then (k, v) :: r else (k, u) :: dpt r y v
theorem dLook_en [En α] [En β] [DecidableEq α] [EqD α] (y : α) : ∀ l : List (α × β), dLook (l.map enKV) (en y) = (dlk l y).map en
  | [] => rfl
  | (k, v) :: r => by
    rw [List.map_cons]
    show (if PyData.eqv (en k) (en y) = true then some (en v) else dLook (r.map enKV) (en y)) = ((if k = y then some v else dlk r y)).map en
    rw [EqD.eqv]
    by_cases h : k = y
    · simp [h]
    · simp [h, dLook_en y r]
theorem dPut_en [En α] [En β] [DecidableEq α] [EqD α] (y : α) (v : β) : ∀ l : List (α × β), dPut (l.map enKV) (en y) (en v) = (dpt l y v).map enKV
  | [] => rfl
  | (k, u) :: r => by
    rw [List.map_cons]
    show (if PyData.eqv (en k) (en y) = true then (en k, en v) :: r.map enKV else (en k, en u) :: dPut (r.map enKV) (en y) (en v)) = ((if k = y then (k, v) :: r else (k, u) :: dpt r y v)).map enKV
    rw [EqD.eqv]
    by_cases h : k = y
    · simp [h, enKV]
    · simp [h, dPut_en y v r, enKV]
def tPut [DecidableEq α] (d : Dc α β) (y : α) (v : β) : R (Dc α β) := gd (d.l.length < LIM) ⟨dpt d.l y v⟩
theorem k_put [En α] [En β] [DecidableEq α] [EqD α] [Ky α] {i : Nat} {fk fv : FE} {d : Dc α β} {r : R β} {q : R α} {k : Dc α β → R τ} (hi : ρ[i]? = some (.od (d.l.map enKV))) (hk : RE (fk ev ρ) q) (hv : RE (fv ev ρ) r) (c : ∀ d' : Dc α β, Rg (K (ρ.set i (.od (d'.l.map enKV)))) (k d') I) :
    Rg ((sPut i fk fv ev ρ).seq K) (r.bind fun v => q.bind fun y => (tPut d y v).bind k) I := by
  have e : sPut i fk fv ev ρ = RS.ofR (fv ev ρ) fun dv => RS.ofR (fk ev ρ) fun cv => if keyOk (d.l.map enKV) cv = true ∧ (d.l.map enKV).length < lim then .next (ρ.set i (.od (dPut (d.l.map enKV) cv dv))) else .bad := by
    unfold sPut
    rw [hi]
  rw [e]
  refine k_ofR hv fun v => k_ofR hk fun y => ?_
  unfold tPut gd
  by_cases z : d.l.length < LIM
  · rw [if_pos z, if_pos ⟨ky_ok d.l y, by rw [List.length_map, ← LIM_eq]; exact z⟩, dPut_en]
    exact c ⟨dpt d.l y v⟩
  · rw [if_neg z]; exact trivial
/-! ### loops -/
def forR (f : σ → α → R σ) : List α → σ → R σ
  | [], s => .ok s
  | a :: l, s => (f s a).bind (forR f l)
def forF (f : σ → α → R (Fl σ β)) : List α → σ → R (Fl σ β)
  | [], s => .ok (.on s)
  | a :: l, s => (f s a).bind fun
    | .on s => forF f l s
    | .out b => .ok (.out b)
theorem forL_R [En α] {t : Tg} {body : Rho → RS} {P : σ → Rho → Prop} {f : σ → α → R σ} (h : ∀ a s ρ, P s ρ → ∃ ρ1, bindT t (en a) ρ = some ρ1 ∧ Rg ((body ρ1).seq .next) (f s a) (IS P)) : ∀ (l : List α) (s : σ) (ρ : Rho), P s ρ → Rg ((forL t body (l.map en) ρ).seq .next) (forR f l s) (IS P)
  | [], s, ρ, p => ⟨ρ, rfl, p⟩
  | a :: l, s, ρ, p => by
    obtain ⟨ρ1, h1, h2⟩ := h a s ρ p
    rw [RS.seq_next] at h2 ⊢
    rw [List.map_cons]
    unfold forL forR
    rw [h1]
    show Rg ((body ρ1).seq _) _ _
    cases hr : f s a with
    | ok s' =>
      rw [hr] at h2
      obtain ⟨ρ', h3, h4⟩ := (show ∃ ρ', _ ∧ _ from h2)
      rw [h3]
      have := forL_R h l s' ρ' h4
      rw [RS.seq_next] at this
      exact this
    | exc e z => rw [hr] at h2; have h2 : body ρ1 = .exc e z := h2; rw [h2]; exact rfl
    | bad => exact trivial
theorem forL_F [En α] [En β] {t : Tg} {body : Rho → RS} {P : σ → Rho → Prop} {f : σ → α → R (Fl σ β)} (h : ∀ a s ρ, P s ρ → ∃ ρ1, bindT t (en a) ρ = some ρ1 ∧ Rg ((body ρ1).seq .next) (f s a) (IF P)) : ∀ (l : List α) (s : σ) (ρ : Rho), P s ρ → Rg ((forL t body (l.map en) ρ).seq .next) (forF f l s) (IF P)
  | [], s, ρ, p => ⟨ρ, rfl, p⟩
  | a :: l, s, ρ, p => by
    obtain ⟨ρ1, h1, h2⟩ := h a s ρ p
    rw [RS.seq_next] at h2 ⊢
    rw [List.map_cons]
    unfold forL forF
    rw [h1]
    show Rg ((body ρ1).seq _) _ _
    cases hr : f s a with
    | ok s' =>
      rw [hr] at h2
      cases s' with
      | on s' =>
        obtain ⟨ρ', h3, h4⟩ := (show ∃ ρ', _ ∧ _ from h2)
        rw [h3]
        have := forL_F h l s' ρ' h4
        rw [RS.seq_next] at this
        exact this
      | out b =>
        have h2 : body ρ1 = .ret (en b) := h2
        rw [h2]
        exact rfl
    | exc e z => rw [hr] at h2; have h2 : body ρ1 = .exc e z := h2; rw [h2]; exact rfl
    | bad => exact trivial
theorem k_for [En α] {t : Tg} {it : FL} {g : FS} {q : R (List α)} (P : σ → Rho → Prop) {f : σ → α → R σ} {s0 : σ} {k : σ → R τ} (hi : RL (it ev ρ) q) (p0 : P s0 ρ) (h : ∀ a s ρ', P s ρ' → ∃ ρ1, bindT t (en a) ρ' = some ρ1 ∧ Rg ((g ev ρ1).seq .next) (f s a) (IS P)) (c : ∀ s ρ', P s ρ' → Rg (K ρ') (k s) I) :
    Rg ((sFor t it g ev ρ).seq K) (q.bind fun l => (forR f l s0).bind k) I := k_ofR hi fun l => k_merge (f := fun _ _ => forL t (g ev) (l.map en) ρ) (ev := ev) (ρ := ρ) (forL_R h l s0 ρ p0) c
theorem k_forF [En α] [En β] {t : Tg} {it : FL} {g : FS} {q : R (List α)} (P : σ → Rho → Prop) {f : σ → α → R (Fl σ β)} {s0 : σ} {k : σ → R τ} {o : β → R τ} (hi : RL (it ev ρ) q) (p0 : P s0 ρ) (h : ∀ a s ρ', P s ρ' → ∃ ρ1, bindT t (en a) ρ' = some ρ1 ∧ Rg ((g ev ρ1).seq .next) (f s a) (IF P)) (c : ∀ s ρ', P s ρ' → Rg (K ρ') (k s) I) (d : ∀ b, Rg (.ret (en b)) (o b) I) :
    Rg ((sFor t it g ev ρ).seq K) (q.bind fun l => (forF f l s0).bind (Fl.el k o)) I := k_ofR hi fun l => k_mergeF (f := fun _ _ => forL t (g ev) (l.map en) ρ) (ev := ev) (ρ := ρ) (forL_F h l s0 ρ p0) c d
def whR (c : σ → R Bool) (f : σ → R σ) : Nat → σ → R σ
  | 0, _ => .bad
  | n + 1, s => (c s).bind fun b => if b = true then (f s).bind (whR c f n) else .ok s
theorem whileL_R {c : Rho → R Bool} {body : Rho → RS} {P : σ → Rho → Prop} {cc : σ → R Bool} {f : σ → R σ} (h : ∀ s ρ, P s ρ → RB (c ρ) (cc s) ∧ Rg ((body ρ).seq .next) (f s) (IS P)) : ∀ (n : Nat) (s : σ) (ρ : Rho), P s ρ → Rg ((whileL c body n ρ).seq .next) (whR cc f n s) (IS P)
  | 0, _, _, _ => trivial
  | n + 1, s, ρ, p => by
    obtain ⟨h1, h2⟩ := h s ρ p
    unfold whileL whR
    refine k_ofR h1 fun b => ?_
    cases b
    · exact ⟨ρ, rfl, p⟩
    · show Rg (((body ρ).seq _).seq _) ((f s).bind (whR cc f n)) _
      rw [RS.seq_next]
      exact k_merge (f := fun _ _ => body ρ) (ev := fun _ _ => .bad) (ρ := ρ) h2 fun s' ρ' p' => by
        have := whileL_R h n s' ρ' p'
        rw [RS.seq_next] at this
        exact this
theorem k_while {c : FT} {g : FS} (P : σ → Rho → Prop) {cc : σ → R Bool} {f : σ → R σ} {s0 : σ} {k : σ → R τ} (p0 : P s0 ρ) (h : ∀ s ρ', P s ρ' → RB (c ev ρ') (cc s) ∧ Rg ((g ev ρ').seq .next) (f s) (IS P)) (d : ∀ s ρ', P s ρ' → Rg (K ρ') (k s) I) :
    Rg ((sWhile c g ev ρ).seq K) ((whR cc f fuel s0).bind k) I := k_merge (f := sWhile c g) (whileL_R h fuel s0 ρ p0) d
/-! ### try -/
def tryR [En β] (hs : List (Nat × Str)) (r : R σ) (k : σ → R τ) (o : β → R τ) : R τ := match r with
  | .ok s => k s
  | .exc c z => (match hFind hs c with
    | some x => (match de (.tuple [.str x, z]) with
      | some b => o b
      | none => .bad)
    | none => .exc c z)
  | .bad => .bad
theorem k_try [En β] {hs : List (Nat × Str)} {f : FS} {P : σ → Rho → Prop} {r : R σ} {k : σ → R τ} {o : β → R τ} (hn : ρ.any Ent.own = false) (h : Rg ((f ev ρ).seq .next) r (IS P)) (c : ∀ s ρ', P s ρ' → Rg (K ρ') (k s) I) (d : ∀ b : β, Rg (.ret (en b)) (o b) I) : Rg ((sTry hs f ev ρ).seq K) (tryR hs r k o) I := by
  rw [RS.seq_next] at h
  unfold sTry
  rw [if_neg (by rw [hn]; decide)]
  cases r with
  | ok s =>
    obtain ⟨ρ', h1, h2⟩ := (show ∃ ρ', _ ∧ _ from h)
    rw [h1]
    exact c s ρ' h2
  | exc e z =>
    have h : f ev ρ = .exc e z := h
    rw [h]
    unfold tryR
    show Rg (RS.seq (match hFind hs e with | some x => .ret (.tuple [.str x, z]) | none => .exc e z) K) (match hFind hs e with | some x => _ | none => _) I
    cases hFind hs e with
    | none => exact rfl
    | some x =>
      show Rg (RS.ret (.tuple [.str x, z])) (match de (.tuple [.str x, z]) with | some b => o b | none => .bad) I
      cases q : de (α := β) (.tuple [.str x, z]) with
      | none => exact trivial
      | some b =>
        rw [En.en_de q]
        exact d b
  | bad => exact trivial
end
end PV

/-! PV38: typed operators. -/
namespace PV
open PySem
open En (en de)
@[irreducible] def W64 : Int := 18446744073709551616
theorem W64_eq : W64 = 2 ^ 64 := by unfold W64; rfl
theorem W64_ge : 18000000000000000000 ≤ W64 := by unfold W64; decide
section
variable {α β γ δ : Type} [En α] [En β] [En γ] [En δ]
theorem RE.okk {d : D} {a : α} (h : d = en a) : RE (.ok d) (.ok a) := RF.okk h
/-! numbers -/
theorem o_add_i (a b : Int) : RE (pAdd (en a) (en b)) (.ok (a + b)) := rfl
theorem o_sub_i (a b : Int) : RE (pSub (en a) (en b)) (.ok (a - b)) := rfl
theorem o_neg_i (a : Int) : RE (pNeg (en a)) (.ok (-a)) := rfl
def tMul (a b : Int) : R Int := gd ((-W64 < a ∧ a < W64) ∨ (-W64 < b ∧ b < W64)) (a * b)
theorem o_mul_i (a b : Int) : RE (pMul (en a) (en b)) (tMul a b) := RF.gd (φ := en) (a := a * b) fun h => by rw [W64_eq] at h; exact h
def tFdiv (a b : Int) : R Int := gd (b ≠ 0 ∧ b.natAbs < 1073741824) (a.fdiv b)
theorem o_fdiv_i (a b : Int) : RE (pFdiv (en a) (en b)) (tFdiv a b) := RF.gd (φ := en) (a := a.fdiv b) fun h => h
def tMod (a b : Int) : R Int := gd (b ≠ 0) (a.fmod b)
theorem o_mod_i (a b : Int) : RE (pMod (en a) (en b)) (tMod a b) := RF.gd (φ := en) (a := a.fmod b) fun h => h
def tPow (a b : Int) : R Int := gd (0 ≤ b ∧ b ≤ 1000000 ∧ (a.natAbs : Int) < W64) (a ^ b.toNat)
theorem o_pow_i (a b : Int) : RE (pPow (en a) (en b)) (tPow a b) := RF.gd (φ := en) (a := a ^ b.toNat) fun h => by
  rw [W64_eq] at h
  exact ⟨h.1, h.2.1, by have := h.2.2; omega⟩
def tAbs (a : Int) : Int := if a < 0 then -a else a
theorem o_abs_i (a : Int) : RE (pAbs (en a)) (.ok (tAbs a)) := rfl
theorem o_int_i (a : Int) : RE (pInt (en a)) (.ok a) := rfl
theorem o_int_b (a : Bool) : RE (pInt (en a)) (.ok (b2i a)) := rfl
theorem imax_eq (i j : Int) : (if j > i then j else i) = max i j := by omega
theorem imin_eq (i j : Int) : (if j < i then j else i) = min i j := by omega
theorem o_max2_i (a b : Int) : RE (pMax2 (en a) (en b)) (.ok (max a b)) := by
  show R.ok (PyData.int (if b > a then b else a)) = _
  rw [imax_eq]; rfl
theorem o_min2_i (a b : Int) : RE (pMin2 (en a) (en b)) (.ok (min a b)) := by
  show R.ok (PyData.int (if b < a then b else a)) = _
  rw [imin_eq]; rfl
theorem o_lt_i (a b : Int) : RE (pLt (en a) (en b)) (.ok (decide (a < b))) := rfl
theorem o_gt_i (a b : Int) : RE (pGt (en a) (en b)) (.ok (decide (b < a))) := rfl
theorem o_le_i (a b : Int) : RE (pLe (en a) (en b)) (.ok (decide (a ≤ b))) := rfl
theorem o_ge_i (a b : Int) : RE (pGe (en a) (en b)) (.ok (decide (b ≤ a))) := rfl
theorem vs_lt : ∀ a b : Tx, (vs a < vs b) ↔ a < b
  | [], [] => by constructor <;> (intro h; cases h)
  | [], _ :: _ => ⟨fun _ => .nil, fun _ => .nil⟩
  | _ :: _, [] => by constructor <;> (intro h; cases h)
  | x :: a, y :: b => by
    show (x.v :: vs a < y.v :: vs b) ↔ _
    rw [List.cons_lt_cons_iff, List.cons_lt_cons_iff, vs_lt a b]
    constructor
    · rintro (h | ⟨h, k⟩)
      · exact .inl h
      · exact .inr ⟨Ch.ext h, k⟩
    · rintro (h | ⟨h, k⟩)
      · exact .inl h
      · exact .inr ⟨congrArg Ch.v h, k⟩
theorem o_lt_s (a b : Tx) : RE (pLt (en a) (en b)) (.ok (decide (a < b))) := RE.okk (by
  show PyData.bool (decide ((st a).cps.toList < (st b).cps.toList)) = .bool _
  rw [st_list, st_list, decide_eq_decide.mpr (vs_lt a b)])
theorem o_gt_s (a b : Tx) : RE (pGt (en a) (en b)) (.ok (decide (b < a))) := o_lt_s b a
theorem o_le_s (a b : Tx) : RE (pLe (en a) (en b)) (.ok (!decide (b < a))) := RE.okk (by
  show PyData.bool (!decide ((st b).cps.toList < (st a).cps.toList)) = .bool _
  rw [st_list, st_list, decide_eq_decide.mpr (vs_lt b a)])
theorem o_ge_s (a b : Tx) : RE (pGe (en a) (en b)) (.ok (!decide (a < b))) := o_le_s b a
/-! equality -/
section
variable [DecidableEq α] [EqD α] [DecidableEq β] [EqD β]
theorem pEq2_en (a b : α) : pEq2 (en a) (en b) = pEq (en a) (en b) := by
  have := EqD.lay a
  cases h : en a with
  | dict k => rw [h] at this; cases this
  | _ => rfl
theorem pNe2_en (a b : α) : pNe2 (en a) (en b) = pNe (en a) (en b) := by
  have := EqD.lay a
  cases h : en a with
  | dict k => rw [h] at this; cases this
  | _ => rfl
theorem o_eq (h : EqD.dp α ≤ 64) (a b : α) : RE (pEq2 (en a) (en b)) (.ok (decide (a = b))) := by
  rw [pEq2_en]
  unfold pEq
  rw [shp_en h, shp_en h, Bool.and_self, if_pos rfl, EqD.eqv]
  exact RE.okk rfl
theorem o_ne (h : EqD.dp α ≤ 64) (a b : α) : RE (pNe2 (en a) (en b)) (.ok (!decide (a = b))) := by
  rw [pNe2_en]
  unfold pNe
  rw [shp_en h, shp_en h, Bool.and_self, if_pos rfl, EqD.eqv]
  exact RE.okk rfl
theorem any_en (x : α) : ∀ l : List α, (l.map en).any (fun z => PyData.eqv z (en x)) = decide (x ∈ l)
  | [] => by simp
  | a :: l => by
    rw [List.map_cons, List.any_cons, any_en x l, EqD.eqv]
    by_cases h : a = x
    · subst h; simp
    · have h' : ¬ x = a := fun z => h z.symm
      simp [h, h']
theorem o_in_l (h : EqD.dp α < 64) (x : α) (l : List α) : RE (pIn (en x) (en l)) (.ok (decide (x ∈ l))) := by
  have e : pIn (en x) (en l) = if shp (en x) && shp (en l) then .ok (.bool ((l.map en).any fun z => PyData.eqv z (en x))) else .bad := by cases en x <;> rfl
  rw [e, shp_en (by omega) x, shp_en (α := List α) (by show EqD.dp α + 1 ≤ 64; omega) l, Bool.and_self, if_pos rfl, any_en]
  exact RE.okk rfl
theorem o_in_t (h : EqD.dp α < 64) (x : α) (l : Tu α) : RE (pIn (en x) (en l)) (.ok (decide (x ∈ l.l))) := by
  have e : pIn (en x) (en l) = if shp (en x) && shp (en l) then .ok (.bool ((l.l.map en).any fun z => PyData.eqv z (en x))) else .bad := by cases en x <;> rfl
  rw [e, shp_en (by omega) x, shp_en (α := Tu α) (by show EqD.dp α + 1 ≤ 64; omega) l, Bool.and_self, if_pos rfl, any_en]
  exact RE.okk rfl
def tInS (x y : Tx) : Bool := !(Builtin.Str.occurrences (st y) (st x) 0 y.length 1).isEmpty
theorem o_in_s (x y : Tx) : RE (pIn (en x) (en y)) (.ok (tInS x y)) := RE.okk (by
  show PyData.bool (!(Builtin.Str.occurrences (st y) (st x) 0 (st y).cps.size 1).isEmpty) = .bool _
  rw [st_size]; rfl)
theorem o_in_d [Ky α] (x : α) (d : Dc α γ) : RE (pIn (en x) (en d)) (.ok (dlk d.l x).isSome) := by
  have e : pIn (en x) (en d) = if keyOk (d.l.map enKV) (en x) then .ok (.bool (dLook (d.l.map enKV) (en x)).isSome) else .bad := by cases en x <;> rfl
  rw [e, ky_ok, if_pos rfl, dLook_en, Option.isSome_map]
  exact RE.okk rfl
end
theorem o_notin {x y : D} {b : Bool} (h : RE (pIn x y) (.ok b)) : RE (pNotIn x y) (.ok (!b)) := by
  have h : pIn x y = .ok (.bool b) := h
  unfold pNotIn
  rw [h]; rfl
theorem o_dynEq (a b : D) : RE (α := Bool) (pEq2 (en a) (en b)) ((pEq2 a b).bind dc) := r_dec (f := fun _ _ => pEq2 a b) (ev := fun _ _ => .bad) (ρ := []) (by show RF id _ _; cases pEq2 a b <;> first | rfl | trivial)
theorem o_dynNe (a b : D) : RE (α := Bool) (pNe2 (en a) (en b)) ((pNe2 a b).bind dc) := r_dec (f := fun _ _ => pNe2 a b) (ev := fun _ _ => .bad) (ρ := []) (by show RF id _ _; cases pNe2 a b <;> first | rfl | trivial)
theorem en_isNone [NN α] (a : Option α) : isNoneD (en a) = a.isNone := by
  cases a with
  | none => rfl
  | some a =>
    have := NN.nn a
    show isNoneD (en a) = false
    cases h : en a <;> rw [h] at this <;> first | rfl | cases this
theorem o_isN [NN α] (a : Option α) (u : Unit) : RE (pIs (en a) (en u)) (.ok a.isNone) := RE.okk (by
  show PyData.bool (isNoneD (en a)) = _
  rw [en_isNone]; rfl)
theorem o_isNotN [NN α] (a : Option α) (u : Unit) : RE (pIsNot (en a) (en u)) (.ok (!a.isNone)) := RE.okk (by
  show PyData.bool (!isNoneD (en a)) = _
  rw [en_isNone]; rfl)
theorem o_isB (a b : Bool) : RE (pIs (en a) (en b)) (.ok (a == b)) := rfl
theorem o_isNotB (a b : Bool) : RE (pIsNot (en a) (en b)) (.ok (!(a == b))) := rfl
/-! texts, lists, tuples -/
def tCat (a b : Tx) : R Tx := gd (a.length + b.length ≤ LIM) (a ++ b)
theorem st_append (a b : Tx) : st (a ++ b) = ⟨(st a).cps ++ (st b).cps⟩ := by unfold st vs; simp
theorem o_add_s (a b : Tx) : RE (pAdd (en a) (en b)) (tCat a b) := by
  show RF en (if (st a).cps.size + (st b).cps.size ≤ lim then R.ok (PyData.str ⟨(st a).cps ++ (st b).cps⟩) else .bad) _
  rw [← st_append, st_size, st_size]
  exact RF.gd (φ := en) (a := a ++ b) fun h => by rw [← LIM_eq]; exact h
def tApp (a b : List α) : R (List α) := gd (a.length + b.length ≤ LIM) (a ++ b)
theorem o_add_l (a b : List α) : RE (pAdd (en a) (en b)) (tApp a b) := by
  show RF en (if (a.map en).length + (b.map en).length ≤ lim then R.ok (PyData.list (a.map en ++ b.map en)) else .bad) _
  rw [← List.map_append, List.length_map, List.length_map]
  exact RF.gd (φ := en) (a := a ++ b) fun h => by rw [← LIM_eq]; exact h
theorem o_addL (a b : List α) : RE (pAddL (en a) (en b)) (tApp a b) := o_add_l a b
def tAppT (a b : Tu α) : R (Tu α) := gd (a.l.length + b.l.length ≤ LIM) ⟨a.l ++ b.l⟩
theorem o_add_t (a b : Tu α) : RE (pAdd (en a) (en b)) (tAppT a b) := by
  show RF en (if (a.l.map en).length + (b.l.map en).length ≤ lim then R.ok (PyData.tuple (a.l.map en ++ b.l.map en)) else .bad) _
  rw [← List.map_append, List.length_map, List.length_map]
  exact RF.gd (φ := en) (a := Tu.mk (a.l ++ b.l)) fun h => by rw [← LIM_eq]; exact h
def tRep (a : List α) (k : Int) : R (List α) := gd (k ≤ LIM ∧ -LIM ≤ k ∧ a.length * k.toNat ≤ LIM) (List.replicate k.toNat a).flatten
theorem o_mul_l (a : List α) (k : Int) : RE (pMul (en a) (en k)) (tRep a k) := by
  show RF en (if k ≤ lim ∧ -lim ≤ k ∧ (a.map en).length * k.toNat ≤ lim then R.ok (PyData.list (List.replicate k.toNat (a.map en)).flatten) else .bad) _
  have e : (List.replicate k.toNat (a.map en)).flatten = ((List.replicate k.toNat a).flatten).map en := by rw [List.map_flatten, List.map_replicate]
  rw [e, List.length_map]
  exact RF.gd (φ := en) (a := (List.replicate k.toNat a).flatten) fun h => by rw [LIM_eq] at h; exact h
def tIx {α : Type} (l : List α) (i : Int) : R α := match (ixAt l.length i).bind fun j => l[j]? with
  | some a => .ok a
  | none => .bad
theorem o_ix_l (l : List α) (i : Int) : RE (pIdx (en l) (en i)) (tIx l i) := by
  show RF en (match (ixAt (l.map en).length i).bind fun j => (l.map en)[j]? with | some d => R.ok d | none => .bad) _
  rw [List.length_map]
  unfold tIx
  cases ixAt l.length i with
  | none => trivial
  | some j =>
    show RF en (match (l.map en)[j]? with | some d => R.ok d | none => .bad) (match l[j]? with | some d => R.ok d | none => .bad)
    rw [List.getElem?_map]
    cases l[j]? with
    | none => trivial
    | some a => rfl
theorem o_ix_t (l : Tu α) (i : Int) : RE (pIdx (en l) (en i)) (tIx l.l i) := by
  show RF en (match (ixAt (l.l.map en).length i).bind fun j => (l.l.map en)[j]? with | some d => R.ok d | none => .bad) _
  rw [List.length_map]
  unfold tIx
  cases ixAt l.l.length i with
  | none => trivial
  | some j =>
    show RF en (match (l.l.map en)[j]? with | some d => R.ok d | none => .bad) (match l.l[j]? with | some d => R.ok d | none => .bad)
    rw [List.getElem?_map]
    cases l.l[j]? with
    | none => trivial
    | some a => rfl
theorem o_ix_s (t : Tx) (i : Int) : RE (pIdx (en t) (en i)) ((tIx t i).bind fun c => .ok [c]) := by
  show RF en (match (ixAt (st t).cps.size i).bind fun j => (st t).cps.toList[j]? with | some c => R.ok (PyData.str ⟨#[c]⟩) | none => .bad) _
  rw [st_size, st_list]
  unfold tIx
  cases ixAt t.length i with
  | none => trivial
  | some j =>
    simp only [Option.bind_some]
    unfold vs
    rw [List.getElem?_map]
    cases t[j]? with
    | none => trivial
    | some a => rfl
def tGet [DecidableEq α] (d : Dc α β) (k : α) : R β := match dlk d.l k with
  | some v => .ok v
  | none => .bad
theorem o_ix_d [DecidableEq α] [EqD α] [Ky α] (d : Dc α β) (k : α) : RE (pIdx (en d) (en k)) (tGet d k) := by
  have e : pIdx (en d) (en k) = if keyOk (d.l.map enKV) (en k) then (match dLook (d.l.map enKV) (en k) with | some d => .ok d | none => .bad) else .bad := by cases en k <;> rfl
  rw [e, ky_ok, if_pos rfl, dLook_en]
  unfold tGet
  cases dlk d.l k with
  | none => trivial
  | some v => rfl
theorem r_p1 {ev : Ev} {ρ : Rho} {f : FE} {r : R (α × β)} (h : RE (f ev ρ) r) : RE (e2 pIdx f (eC (.int 0)) ev ρ) (r.bind fun p => .ok p.1) := RF.bind h fun p => rfl
theorem r_p2 {ev : Ev} {ρ : Rho} {f : FE} {r : R (α × β)} (h : RE (f ev ρ) r) : RE (e2 pIdx f (eC (.int 1)) ev ρ) (r.bind fun p => .ok p.2) := RF.bind h fun p => rfl
theorem r_q1 {ev : Ev} {ρ : Rho} {f : FE} {r : R (T3 α β γ)} (h : RE (f ev ρ) r) : RE (e2 pIdx f (eC (.int 0)) ev ρ) (r.bind fun p => .ok p.a) := RF.bind h fun p => rfl
theorem r_q2 {ev : Ev} {ρ : Rho} {f : FE} {r : R (T3 α β γ)} (h : RE (f ev ρ) r) : RE (e2 pIdx f (eC (.int 1)) ev ρ) (r.bind fun p => .ok p.b) := RF.bind h fun p => rfl
theorem r_q3 {ev : Ev} {ρ : Rho} {f : FE} {r : R (T3 α β γ)} (h : RE (f ev ρ) r) : RE (e2 pIdx f (eC (.int 2)) ev ρ) (r.bind fun p => .ok p.c) := RF.bind h fun p => rfl
theorem cutL_map {α β : Type} (f : α → β) (lo hi : Option Int) (l : List α) : cutL (l.map f) lo hi = (cutL l lo hi).map f := by unfold cutL; rw [List.length_map, List.map_take, List.map_drop]
theorem o_cut_l (i j : Option Int) (l : List α) : RE (pCut i j (en l)) (.ok (cutL l i j)) := RE.okk (by
  show PyData.list (cutL (l.map en) i j) = .list ((cutL l i j).map en)
  rw [cutL_map])
theorem o_cut_t (i j : Option Int) (l : Tu α) : RE (pCut i j (en l)) (.ok (Tu.mk (cutL l.l i j))) := RE.okk (by
  show PyData.tuple (cutL (l.l.map en) i j) = .tuple ((cutL l.l i j).map en)
  rw [cutL_map])
theorem o_cut_s (i j : Option Int) (t : Tx) : RE (pCut i j (en t)) (.ok (cutL t i j)) := RE.okk (by
  show PyData.str ⟨(cutL (st t).cps.toList i j).toArray⟩ = .str ⟨(vs (cutL t i j)).toArray⟩
  rw [st_list]
  unfold vs
  rw [cutL_map])
theorem o_rv_l (l : List α) : RE (pRv (en l)) (.ok l.reverse) := RE.okk (by
  show PyData.list (l.map en).reverse = .list (l.reverse.map en)
  rw [List.map_reverse])
theorem o_rv_t (l : Tu α) : RE (pRv (en l)) (.ok (Tu.mk l.l.reverse)) := RE.okk (by
  show PyData.tuple (l.l.map en).reverse = .tuple (l.l.reverse.map en)
  rw [List.map_reverse])
theorem o_len_l (l : List α) : RE (pLen (en l)) (.ok (l.length : Int)) := RE.okk (by show PyData.int ((l.map en).length : Nat) = _; rw [List.length_map]; rfl)
theorem o_len_t (l : Tu α) : RE (pLen (en l)) (.ok (l.l.length : Int)) := RE.okk (by show PyData.int ((l.l.map en).length : Nat) = _; rw [List.length_map]; rfl)
theorem o_len_s (l : Tx) : RE (pLen (en l)) (.ok (l.length : Int)) := RE.okk (by show PyData.int ((st l).cps.size : Nat) = _; rw [st_size]; rfl)
theorem o_len_d (l : Dc α β) : RE (pLen (en l)) (.ok (l.l.length : Int)) := RE.okk (by show PyData.int ((l.l.map enKV).length : Nat) = _; rw [List.length_map]; rfl)
theorem allI_en : ∀ l : List Int, allI (l.map en) = some l
  | [] => rfl
  | a :: l => by rw [List.map_cons]; show (allI (l.map en)).map (a :: ·) = _; rw [allI_en l]; rfl
theorem allB_en : ∀ l : List Bool, allB (l.map en) = some l
  | [] => rfl
  | a :: l => by rw [List.map_cons]; show (allB (l.map en)).map (a :: ·) = _; rw [allB_en l]; rfl
theorem allS_en : ∀ l : List Tx, allS (l.map en) = some (l.map st)
  | [] => rfl
  | a :: l => by rw [List.map_cons]; show (allS (l.map en)).map (st a :: ·) = _; rw [allS_en l]; rfl
theorem allL_en : ∀ l : List (List α), allL (l.map en) = some (l.map (List.map en))
  | [] => rfl
  | a :: l => by rw [List.map_cons]; show (allL (l.map en)).map (a.map en :: ·) = _; rw [allL_en l]; rfl
def ofO {α : Type} : Option α → R α
  | some a => .ok a
  | none => .bad
theorem o_max_l (l : List Int) : RE (pMax (en l)) (ofO (lMax l)) := by
  show RF en (match (allI (l.map en)).bind lMax with | some m => R.ok (PyData.int m) | none => .bad) _
  rw [allI_en, Option.bind_some]
  cases lMax l <;> first | rfl | trivial
theorem o_max_t (l : Tu Int) : RE (pMax (en l)) (ofO (lMax l.l)) := by
  show RF en (match (allI (l.l.map en)).bind lMax with | some m => R.ok (PyData.int m) | none => .bad) _
  rw [allI_en, Option.bind_some]
  cases lMax l.l <;> first | rfl | trivial
theorem o_min_l (l : List Int) : RE (pMin (en l)) (ofO (lMin l)) := by
  show RF en (match (allI (l.map en)).bind lMin with | some m => R.ok (PyData.int m) | none => .bad) _
  rw [allI_en, Option.bind_some]
  cases lMin l <;> first | rfl | trivial
theorem o_min_t (l : Tu Int) : RE (pMin (en l)) (ofO (lMin l.l)) := by
  show RF en (match (allI (l.l.map en)).bind lMin with | some m => R.ok (PyData.int m) | none => .bad) _
  rw [allI_en, Option.bind_some]
  cases lMin l.l <;> first | rfl | trivial
theorem o_sum_i (l : List Int) : RE (pSum1 (en l)) (.ok l.sum) := by
  show RF en (match allI (l.map en) with | some ns => R.ok (PyData.int ns.sum) | none => .bad) _
  rw [allI_en]; rfl
def tSum2 (yss : List (List α)) (s : List α) : R (List α) := gd (yss ≠ [] ∧ s.length + yss.flatten.length ≤ LIM) (s ++ yss.flatten)
theorem o_sum2 (yss : List (List α)) (s : List α) : RE (pSum2 (en yss) (en s)) (tSum2 yss s) := by
  show RF en (match allL (yss.map en) with | some zss => if zss ≠ [] ∧ (s.map en).length + zss.flatten.length ≤ lim then R.ok (PyData.list (s.map en ++ zss.flatten)) else .bad | none => .bad) _
  rw [allL_en]
  show RF en (if yss.map (List.map en) ≠ [] ∧ (s.map en).length + (yss.map (List.map en)).flatten.length ≤ lim then R.ok (PyData.list (s.map en ++ (yss.map (List.map en)).flatten)) else .bad) _
  have e : (yss.map (List.map (en : α → D))).flatten = yss.flatten.map en := (List.map_flatten).symm
  rw [e, ← List.map_append, List.length_map, List.length_map]
  exact RF.gd (φ := en) (a := s ++ yss.flatten) fun h => ⟨fun z => h.1 (List.map_eq_nil_iff.mp z), by rw [← LIM_eq]; exact h.2⟩
theorem o_any (l : List Bool) : RE (pAny (en l)) (.ok (l.any id)) := by
  show RF en (match allB (l.map en) with | some ns => R.ok (PyData.bool (ns.any id)) | none => .bad) _
  rw [allB_en]; rfl
theorem o_all (l : List Bool) : RE (pAll (en l)) (.ok (l.all id)) := by
  show RF en (match allB (l.map en) with | some ns => R.ok (PyData.bool (ns.all id)) | none => .bad) _
  rw [allB_en]; rfl
theorem o_list_l (l : List α) : RE (pList (en l)) (.ok l) := rfl
theorem o_list_t (l : Tu α) : RE (pList (en l)) (.ok l.l) := rfl
theorem o_list_d (l : Dc α β) : RE (pList (en l)) (.ok (l.l.map (·.1))) := RE.okk (by
  show PyData.list ((l.l.map enKV).map (·.1)) = .list ((l.l.map (·.1)).map en)
  rw [List.map_map, List.map_map]; rfl)
theorem o_tuple (l : List α) : RE (pTuple (en l)) (.ok (Tu.mk l)) := rfl
/-! methods -/
def tIndex {α : Type} [DecidableEq α] (l : List α) (a : α) : R Int := match l.findIdx? (fun z => decide (z = a)) with
  | some j => .ok (j : Int)
  | none => .bad
theorem isL_en (l : List α) : isL (en l) = true := rfl
theorem isS_en (l : Tx) : isS (en l) = true := rfl
theorem isLS_en (l : Tx) : isL (en l) = false ∧ isS (en l) = true := ⟨rfl, rfl⟩
theorem isDc_en (l : Dc α β) : isDc (en l) = true := rfl
theorem findIdx_en [DecidableEq α] [EqD α] (a : α) (l : List α) : (l.map en).findIdx? (fun z => PyData.eqv z (en a)) = l.findIdx? fun z => decide (z = a) := by
  rw [List.findIdx?_map]
  congr 1
  funext z
  exact EqD.eqv z a
theorem o_index_l [DecidableEq α] [EqD α] (h : EqD.dp α < 64) (l : List α) (a : α) : RE (mIndexL (en l) [en a]) (tIndex l a) := by
  show RF en (if shp (en l) && shp (en a) then (match placeOf (l.map en) (en a) with | some j => R.ok (PyData.int (j : Nat)) | none => .bad) else .bad) _
  rw [shp_en (α := List α) (by show EqD.dp α + 1 ≤ 64; omega) l, shp_en (by omega) a, Bool.and_self, if_pos rfl]
  unfold placeOf tIndex
  rw [findIdx_en]
  cases l.findIdx? _ <;> first | rfl | trivial
def tIndexS (x y : Tx) : R Int := match Builtin.Str.occurrences (st x) (st y) 0 x.length 1 with
  | i :: _ => .ok (i : Int)
  | [] => .bad
theorem o_index_s (x y : Tx) : RE (mIndexS (en x) [en y]) (tIndexS x y) := by
  show RF en (match Builtin.Str.occurrences (st x) (st y) 0 (st x).cps.size 1 with | i :: _ => R.ok (PyData.int (i : Nat)) | [] => .bad) _
  rw [st_size]
  unfold tIndexS
  cases Builtin.Str.occurrences (st x) (st y) 0 x.length 1 <;> first | rfl | trivial
def jn (sep : Tx) : List Tx → Tx
  | [] => []
  | [x] => x
  | x :: y :: r => x ++ sep ++ jn sep (y :: r)
theorem st_jn (sep : Tx) : ∀ l : List Tx, Str.join (st sep) (l.map st) = st (jn sep l)
  | [] => rfl
  | [x] => rfl
  | x :: y :: r => by
    have ih := st_jn sep (y :: r)
    show st x ++ st sep ++ Str.join (st sep) ((y :: r).map st) = st (x ++ sep ++ jn sep (y :: r))
    rw [ih]
    have e : ∀ a b : Tx, (st a ++ st b : Str) = st (a ++ b) := fun a b => (st_append a b).symm
    rw [e, e]
def tJoin (x : Tx) (l : List Tx) : R Tx := gd ((l.map List.length).sum + l.length * x.length ≤ LIM) (jn x l)
theorem o_join (x : Tx) (l : List Tx) : RE (mJoin (en x) [en l]) (tJoin x l) := by
  show RF en (match allS (l.map en) with | some ys => if (ys.map (·.cps.size)).sum + ys.length * (st x).cps.size ≤ lim then R.ok (PyData.str (Str.join (st x) ys)) else .bad | none => .bad) _
  rw [allS_en]
  show RF en (if ((l.map st).map (·.cps.size)).sum + (l.map st).length * (st x).cps.size ≤ lim then R.ok (PyData.str (Str.join (st x) (l.map st))) else .bad) _
  have e : (l.map st).map (·.cps.size) = l.map List.length := by
    rw [List.map_map]
    exact List.map_congr_left fun a _ => st_size a
  rw [e, st_jn, List.length_map, st_size]
  exact RF.gd (φ := en) (a := jn x l) fun h => by rw [← LIM_eq]; exact h
def tCount (x y : Tx) : Int := Txt.count (st x) (st y)
theorem o_count (x y : Tx) : RE (mCountS (en x) [en y]) (.ok (tCount x y)) := rfl
theorem o_get1 [DecidableEq α] [EqD α] [Ky α] [NN β] (d : Dc α β) (k : α) : RE (mGet (en d) [en k]) (.ok (dlk d.l k)) := by
  have e : mGet (en d) [en k] = if keyOk (d.l.map enKV) (en k) then .ok ((dLook (d.l.map enKV) (en k)).getD .none) else .bad := rfl
  rw [e, ky_ok, if_pos rfl, dLook_en]
  cases dlk d.l k <;> rfl
theorem o_get2 [DecidableEq α] [EqD α] [Ky α] (d : Dc α β) (k : α) (v : β) : RE (mGet (en d) [en k, en v]) (.ok ((dlk d.l k).getD v)) := by
  have e : mGet (en d) [en k, en v] = if keyOk (d.l.map enKV) (en k) then .ok ((dLook (d.l.map enKV) (en k)).getD (en v)) else .bad := rfl
  rw [e, ky_ok, if_pos rfl, dLook_en]
  cases dlk d.l k <;> rfl
/-! ranges, walks -/
def rg (lo : Int) (n : Nat) : List Int := (List.range n).map fun i => lo + (i : Nat)
def tRng1 (j : Int) : R (List Int) := gd (-BIG ≤ j ∧ j < BIG) (rg 0 j.toNat)
theorem rng_en (lo : Int) (n : Nat) : rng lo n = (rg lo n).map en := by unfold rng rg; rw [List.map_map]; rfl
theorem o_rng1 (j : Int) : RL (pRng1 (en j)) (tRng1 j) := by
  show RF _ (if -(2 ^ 62) ≤ j ∧ j < 2 ^ 62 then R.ok (rng 0 j.toNat) else .bad) _
  rw [rng_en]
  exact RF.gd (φ := List.map en) (a := rg 0 j.toNat) fun h => by rw [BIG_eq] at h; exact h
def tRng2 (i j : Int) : R (List Int) := gd (-BIG ≤ i ∧ i < BIG ∧ -BIG ≤ j ∧ j < BIG) (rg i (j - i).toNat)
theorem o_rng2 (i j : Int) : RL (pRng2 (en i) (en j)) (tRng2 i j) := by
  show RF _ (if -(2 ^ 62) ≤ i ∧ i < 2 ^ 62 ∧ -(2 ^ 62) ≤ j ∧ j < 2 ^ 62 then R.ok (rng i (j - i).toNat) else .bad) _
  rw [rng_en]
  exact RF.gd (φ := List.map en) (a := rg i (j - i).toNat) fun h => by rw [BIG_eq] at h; exact h
def tRng3 (i j c : Int) : R (List Int) := gd (c = -1 ∧ -BIG ≤ i ∧ i < BIG ∧ -BIG ≤ j ∧ j < BIG) ((List.range (i - j).toNat).map fun k => i + ((k : Nat) : Int) * -1)
theorem o_rng3 (i j c : Int) : RL (pRng3 (en i) (en j) (en c)) (tRng3 i j c) := by
  show RF _ (if c = -1 ∧ -(2 ^ 62) ≤ i ∧ i < 2 ^ 62 ∧ -(2 ^ 62) ≤ j ∧ j < 2 ^ 62 then R.ok (rngC i (-1) (i - j).toNat) else .bad) _
  have e : rngC i (-1) (i - j).toNat = ((List.range (i - j).toNat).map fun k => i + ((k : Nat) : Int) * -1).map en := by unfold rngC; rw [List.map_map]; rfl
  rw [e]
  exact RF.gd (φ := List.map en) (a := (List.range (i - j).toNat).map fun k => i + ((k : Nat) : Int) * -1) fun h => by rw [BIG_eq] at h; exact h
def tLRng (j : Int) : R (List Int) := gd (-BIG ≤ j ∧ j < BIG ∧ j.toNat ≤ LIM) (rg 0 j.toNat)
theorem o_lrng (j : Int) : RE (pLRng [.int j]) (tLRng j) := by
  show RF _ (if -(2 ^ 62) ≤ j ∧ j < 2 ^ 62 ∧ j.toNat ≤ 2 ^ 24 then R.ok (PyData.list (rgD 0 j)) else .bad) _
  have e : rgD 0 j = (rg 0 j.toNat).map en := by unfold rgD rg; rw [List.map_map, Int.sub_zero]; rfl
  rw [e]
  exact RF.gd (φ := en) (a := rg 0 j.toNat) fun h => by rw [BIG_eq, LIM_eq] at h; exact h
def enu {α : Type} : Nat → List α → List (Int × α)
  | _, [] => []
  | i, a :: l => ((i : Int), a) :: enu (i + 1) l
theorem enu_en : ∀ (l : List α) (i : Nat), (List.range' i (l.map en).length).zipWith (fun (i : Nat) d => PyData.tuple [.int (i : Nat), d]) (l.map en) = (enu i l).map en
  | [], _ => rfl
  | a :: l, i => by
    rw [List.map_cons, List.length_cons, List.range'_succ, List.zipWith_cons_cons, enu_en l (i + 1)]
    rfl
theorem enumL_en (l : List α) : enumL (l.map en) = (enu 0 l).map en := by
  unfold enumL
  rw [List.range_eq_range']
  exact enu_en l 0
theorem o_enum_l (l : List α) : RL (pEnum (en l)) (.ok (enu 0 l)) := RF.okk (enumL_en l)
theorem o_enum_t (l : Tu α) : RL (pEnum (en l)) (.ok (enu 0 l.l)) := RF.okk (enumL_en l.l)
def lts (t : Tx) : List Tx := t.map fun c => [c]
theorem strItems_en (t : Tx) : strItems (st t) = (lts t).map en := by
  unfold strItems lts
  rw [st_list, List.map_map]
  unfold vs
  rw [List.map_map]; rfl
theorem o_enum_s (t : Tx) : RL (pEnum (en t)) (.ok (enu 0 (lts t))) := RF.okk (by show enumL (strItems (st t)) = _; rw [strItems_en, enumL_en])
theorem o_iter_l (l : List α) : RL (pIter (en l)) (.ok l) := rfl
theorem o_iter_t (l : Tu α) : RL (pIter (en l)) (.ok l.l) := rfl
theorem o_iter_s (t : Tx) : RL (pIter (en t)) (.ok (lts t)) := RF.okk (strItems_en t)
theorem zipL_en : ∀ (l : List α) (m : List β), zipL (l.map en) (m.map en) = (l.zip m).map en
  | [], _ => rfl
  | _ :: _, [] => rfl
  | a :: l, b :: m => by
    show PyData.tuple [en a, en b] :: zipL (l.map en) (m.map en) = _
    rw [zipL_en l m]; rfl
theorem o_zip_l (l : List α) (m : List β) : RL (pZip (en l) (en m)) (.ok (l.zip m)) := RF.okk (zipL_en l m)
theorem o_zip_t (l : Tu α) (m : Tu β) : RL (pZip (en l) (en m)) (.ok (l.l.zip m.l)) := RF.okk (zipL_en l.l m.l)
/-! keys -/
instance : Ky Int := ⟨.inl fun _ => rfl⟩
instance : Ky Tx := ⟨.inl fun _ => rfl⟩
instance : Ky (Tu Int) := ⟨.inr fun t => by
  show (t.l.map en).all isFlat = true
  rw [List.all_map, List.all_eq_true]; exact fun _ _ => rfl⟩
instance : Ky (Tu Tx) := ⟨.inr fun t => by
  show (t.l.map en).all isFlat = true
  rw [List.all_map, List.all_eq_true]; exact fun _ _ => rfl⟩
class Fl1 (α : Type) [En α] : Prop where
  fl : ∀ a : α, isFlat (en a) = true
instance : Fl1 Int := ⟨fun _ => rfl⟩
instance : Fl1 Tx := ⟨fun _ => rfl⟩
instance [Fl1 α] [Fl1 β] : Ky (α × β) := ⟨.inr fun p => by
  show (isFlat (en p.1) && (isFlat (en p.2) && true)) = true
  rw [Fl1.fl, Fl1.fl]; rfl⟩
instance [Fl1 α] [Fl1 β] [Fl1 γ] : Ky (T3 α β γ) := ⟨.inr fun p => by
  show (isFlat (en p.a) && (isFlat (en p.b) && (isFlat (en p.c) && true))) = true
  rw [Fl1.fl, Fl1.fl, Fl1.fl]; rfl⟩
/-! dict comprehensions -/
def dcR {α β γ : Type} [DecidableEq β] (p : α → R Bool) (fk : α → R β) (fv : α → R γ) : List (β × γ) → List α → R (List (β × γ))
  | acc, [] => .ok acc
  | acc, a :: l => (nx (p a)).bind fun b => if b = true then (nx (fk a)).bind fun y => (nx (fv a)).bind fun z => if acc.length < LIM then dcR p fk fv (dpt acc y z) l else .bad else dcR p fk fv acc l
theorem dcL_R [DecidableEq β] [EqD β] [Ky β] {t : Tg} {c : Rho → R Bool} {fk fv : Rho → R D} {ρ : Rho} {p : α → R Bool} {gk : α → R β} {gv : α → R γ} (h : ∀ a, ∃ ρ1, bindT t (en a) ρ = some ρ1 ∧ RB (c ρ1) (p a) ∧ RE (fk ρ1) (gk a) ∧ RE (fv ρ1) (gv a)) :
    ∀ (l : List α) (acc : List (β × γ)), RF (List.map enKV) (dcL t c fk fv ρ (acc.map enKV) (l.map en)) (dcR p gk gv acc l)
  | [], acc => rfl
  | a :: l, acc => by
    obtain ⟨ρ1, h1, h2, h3, h4⟩ := h a
    rw [List.map_cons]
    unfold dcL dcR
    rw [h1]
    refine RF.bind (RF.nx h2) fun b => ?_
    show RF _ (if b = true then _ else _) (if b = true then _ else _)
    cases b
    · exact dcL_R h l acc
    · refine RF.bind (RF.nx h3) fun y => RF.bind (RF.nx h4) fun z => ?_
      by_cases q : acc.length < LIM
      · rw [if_pos q, if_pos ⟨by rw [List.length_map, ← LIM_eq]; exact q, ky_ok acc y⟩, dPut_en]
        exact dcL_R h l (dpt acc y z)
      · rw [if_neg q]; trivial
theorem r_Dc [DecidableEq β] [EqD β] [Ky β] {ev : Ev} {ρ : Rho} {vs : List Nat} {t : Tg} {it : FL} {c : FT} {fk fv : FE} {q : R (List α)} {p : α → R Bool} {gk : α → R β} {gv : α → R γ} (hi : RL (it ev ρ) q) (h : ∀ a, ∃ ρ1, bindT t (en a) (wipeR ρ vs) = some ρ1 ∧ RB (c ev ρ1) (p a) ∧ RE (fk ev ρ1) (gk a) ∧ RE (fv ev ρ1) (gv a)) :
    RE (eDc vs t it c fk fv ev ρ) (q.bind fun l => (dcR p gk gv [] l).bind fun ys => .ok (Dc.mk ys)) := RF.bind hi fun l => RF.bind (dcL_R (acc := []) h l) fun ys => RF.okk rfl
end
end PV

/-! PV39: typed sorted(..), sets. -/
namespace PV
open PySem PySem.W PyProof.Rows
open En (en de)
class Srt (α : Type) [En α] where
  lt : α → α → Bool
  lt_ok : ∀ a b : α, dataLt (en a) (en b) = lt a b
  al : ∀ a b : α, alike (en a) (en b) = true
  ne : α → Bool
  kx : (∃ kf : α → L2.Key, ∀ a, kD (kf a) = en a) ∨ (∃ kt : α → List L2.Key, ∀ a, tD (kt a) = en a ∧ (ne a = true → kt a ≠ []))
section
variable {α β γ : Type} [En α] [En β] [En γ]
def sle [Srt α] (a b : α) : Bool := !Srt.lt b a
instance : Srt Int := ⟨fun a b => decide (a < b), fun a b => dataLt_int a b, fun _ _ => rfl, fun _ => true, .inl ⟨fun a => .inl a, fun _ => rfl⟩⟩
instance : Srt Tx := ⟨fun a b => decide (a < b), fun a b => by
  show dataLt (.str (st a)) (.str (st b)) = _
  rw [dataLt_str, st_list, st_list, decide_eq_decide.mpr (vs_lt a b)], fun _ _ => rfl, fun _ => true, .inl ⟨fun a => .inr (st a), fun _ => rfl⟩⟩
/-- one sign -/
class At (α : Type) [En α] extends Srt α where
  tok : α → Int ⊕ List Nat
  tk : ∀ a : α, keyToks (en a) = [tok a]
  key : α → L2.Key
  kk : ∀ a : α, kD (key a) = en a
instance : At Int := { (inferInstance : Srt Int) with tok := .inl, tk := fun _ => by show keyToks (.int _) = _; simp only [keyToks], key := .inl, kk := fun _ => rfl }
instance : At Tx := { (inferInstance : Srt Tx) with tok := fun t => .inr (vs t), tk := fun t => by show keyToks (.str (st t)) = _; simp only [keyToks, st_list], key := fun t => .inr (st t), kk := fun _ => rfl }
theorem at_lt [At α] (a b : α) : itemOrd.blt (At.tok a) (At.tok b) = Srt.lt a b := by
  have := Srt.lt_ok a b
  unfold dataLt at this
  rw [At.tk, At.tk, lex_cons] at this
  have e : lexLt itemOrd [] [] = false := rfl
  rw [e, Bool.and_false, Bool.or_false] at this
  exact this
def lexB {α : Type} (lt : α → α → Bool) : List α → List α → Bool
  | [], [] => false
  | [], _ :: _ => true
  | _ :: _, [] => false
  | x :: r, y :: t => lt x y || (!lt y x && lexB lt r t)
theorem toks_cons [At α] (x : α) (l : List D) : keyToksAll (en x :: l) = .inl 1 :: At.tok x :: keyToksAll l := by
  rw [keyToksAll, At.tk]; rfl
theorem lex_toks [At α] : ∀ a b : List α, lexLt itemOrd (keyToksAll (a.map en)) (keyToksAll (b.map en)) = lexB Srt.lt a b
  | [], [] => by simp only [List.map_nil, keyToksAll]; rfl
  | [], y :: b => by rw [List.map_cons, toks_cons]; simp only [List.map_nil, keyToksAll]; rfl
  | x :: a, [] => by rw [List.map_cons, toks_cons]; simp only [List.map_nil, keyToksAll]; rfl
  | x :: a, y :: b => by
    rw [List.map_cons, List.map_cons, toks_cons, toks_cons]
    have h := lex_self (O := itemOrd) (.inl 1) (At.tok x :: keyToksAll (a.map en)) (At.tok y :: keyToksAll (b.map en))
    refine h.trans ?_
    have h2 := lex_cons (O := itemOrd) (At.tok x) (At.tok y) (keyToksAll (a.map en)) (keyToksAll (b.map en))
    refine h2.trans ?_
    rw [lex_toks a b, at_lt, at_lt]; rfl
theorem alikeAll_at [At α] : ∀ a b : List α, alikeAll (a.map en) (b.map en) = true
  | [], _ => by simp only [List.map_nil, alikeAll]
  | _ :: _, [] => by simp only [List.map_nil, List.map_cons, alikeAll]
  | x :: a, y :: b => by rw [List.map_cons, List.map_cons, alikeAll, Srt.al, alikeAll_at a b]; rfl
instance [At α] : Srt (Tu α) := ⟨fun a b => lexB Srt.lt a.l b.l, fun a b => by
  show dataLt (.tuple (a.l.map en)) (.tuple (b.l.map en)) = _
  rw [dataLt_tuple, lex_toks], fun a b => by
  show alike (.tuple (a.l.map en)) (.tuple (b.l.map en)) = true
  rw [alike, alikeAll_at], fun a => !a.l.isEmpty, .inr ⟨fun a => a.l.map At.key, fun a => ⟨by
    show PyData.tuple ((a.l.map At.key).map kD) = .tuple (a.l.map en)
    rw [List.map_map]
    congr 1
    exact List.map_congr_left fun x _ => At.kk x, fun h e => by
    rw [List.map_eq_nil_iff] at e
    rw [e] at h
    cases h⟩⟩⟩
instance [At α] [At β] : Srt (α × β) := ⟨fun a b => Srt.lt a.1 b.1 || (!Srt.lt b.1 a.1 && Srt.lt a.2 b.2), fun a b => by
  show dataLt (.tuple [en a.1, en a.2]) (.tuple [en b.1, en b.2]) = _
  rw [dataLt_tuple, toks_cons, toks_cons, toks_cons, toks_cons]
  have h := lex_self (O := itemOrd) (.inl 1) (At.tok a.1 :: .inl 1 :: At.tok a.2 :: keyToksAll []) (At.tok b.1 :: .inl 1 :: At.tok b.2 :: keyToksAll [])
  refine h.trans ?_
  have h2 := lex_cons (O := itemOrd) (At.tok a.1) (At.tok b.1) (.inl 1 :: At.tok a.2 :: keyToksAll []) (.inl 1 :: At.tok b.2 :: keyToksAll [])
  refine h2.trans ?_
  have h3 := lex_self (O := itemOrd) (.inl 1) (At.tok a.2 :: keyToksAll []) (At.tok b.2 :: keyToksAll [])
  have h4 := lex_cons (O := itemOrd) (At.tok a.2) (At.tok b.2) (keyToksAll []) (keyToksAll [])
  have h5 : lexLt itemOrd (keyToksAll []) (keyToksAll []) = false := lex_irrefl (O := itemOrd) _
  rw [h3, h4, h5, at_lt, at_lt, at_lt, at_lt, Bool.and_false, Bool.or_false], fun a b => by
  show alike (.tuple [en a.1, en a.2]) (.tuple [en b.1, en b.2]) = true
  rw [alike, alikeAll, Srt.al, alikeAll, Srt.al, alikeAll]; rfl, fun _ => true, .inr ⟨fun a => [At.key a.1, At.key a.2], fun a => ⟨by
    show PyData.tuple [kD (At.key a.1), kD (At.key a.2)] = _
    rw [At.kk, At.kk]; rfl, fun _ e => by cases e⟩⟩⟩
instance [At α] [At β] [At γ] : Srt (T3 α β γ) := ⟨fun a b => Srt.lt a.a b.a || (!Srt.lt b.a a.a && (Srt.lt a.b b.b || (!Srt.lt b.b a.b && Srt.lt a.c b.c))), fun a b => by
  show dataLt (.tuple [en a.a, en a.b, en a.c]) (.tuple [en b.a, en b.b, en b.c]) = _
  rw [dataLt_tuple, toks_cons, toks_cons, toks_cons, toks_cons, toks_cons, toks_cons]
  have s := fun (x y : List (Int ⊕ List Nat)) => lex_self (O := itemOrd) (.inl 1) x y
  have c := fun (p q : Int ⊕ List Nat) (x y : List (Int ⊕ List Nat)) => lex_cons (O := itemOrd) p q x y
  have h5 : lexLt itemOrd (keyToksAll []) (keyToksAll []) = false := lex_irrefl (O := itemOrd) _
  refine (s _ _).trans ((c _ _ _ _).trans ?_)
  rw [s, c, s, c, h5, at_lt, at_lt, at_lt, at_lt, at_lt, at_lt, Bool.and_false, Bool.or_false], fun a b => by
  show alike (.tuple [en a.a, en a.b, en a.c]) (.tuple [en b.a, en b.b, en b.c]) = true
  rw [alike, alikeAll, Srt.al, alikeAll, Srt.al, alikeAll, Srt.al, alikeAll]; rfl, fun _ => true, .inr ⟨fun a => [At.key a.a, At.key a.b, At.key a.c], fun a => ⟨by
    show PyData.tuple [kD (At.key a.a), kD (At.key a.b), kD (At.key a.c)] = _
    rw [At.kk, At.kk, At.kk]; rfl, fun _ e => by cases e⟩⟩⟩
/-! ### sorted(list) -/
theorem allK_kD : ∀ ks : List L2.Key, allK (ks.map kD) = some ks
  | [] => rfl
  | .inl i :: ks => by rw [List.map_cons]; show (allK (ks.map kD)).map _ = _; rw [allK_kD ks]; rfl
  | .inr i :: ks => by rw [List.map_cons]; show (allK (ks.map kD)).map _ = _; rw [allK_kD ks]; rfl
theorem allT_tD : ∀ ks : List (List L2.Key), allT (ks.map tD) = some ks
  | [] => rfl
  | k :: ks => by
    rw [List.map_cons]
    show (match allK (k.map kD) with | some k2 => (allT (ks.map tD)).map (k2 :: ·) | none => none) = _
    rw [allK_kD, allT_tD ks]; rfl
theorem map_en_of {κ : Type} {f : α → κ} {enc : κ → D} (h : ∀ a, enc (f a) = en a) (l : List α) : l.map en = (l.map f).map enc := by
  rw [List.map_map]; exact List.map_congr_left fun a _ => (h a).symm
theorem sort_maps' [Srt α] {κ : Type} {f : α → κ} {enc : κ → D} (h : ∀ a, enc (f a) = en a) (l : List α) : ((l.map f).mergeSort (dataLe false enc)).map enc = (l.mergeSort sle).map en := by
  have e : (l.mergeSort sle).map f = (l.map f).mergeSort (dataLe false enc) := List.map_mergeSort fun a _ b _ => by
    show (!Srt.lt b a) = !dataLt (enc (f b)) (enc (f a))
    rw [h, h, Srt.lt_ok]
  rw [← e, List.map_map]
  exact List.map_congr_left fun a _ => h a
theorem alikeB_en [Srt α] (l : List α) : alikeB (l.map en) = true := by
  unfold alikeB
  rw [List.all_eq_true]
  intro x hx
  rw [List.all_eq_true]
  intro y hy
  obtain ⟨a, _, rfl⟩ := List.mem_map.mp hx
  obtain ⟨b, _, rfl⟩ := List.mem_map.mp hy
  exact Srt.al a b
def tSort [Srt α] (l : List α) : R (List α) := gd (l.length ≤ LIM ∧ l.all Srt.ne = true) (l.mergeSort sle)
theorem sortA_en [Srt α] (l : List α) : RE (sortA (l.map en)) (tSort l) := by
  unfold tSort gd
  by_cases c : l.length ≤ LIM ∧ l.all Srt.ne = true
  · rw [if_pos c]
    rw [LIM_eq] at c
    refine RE.okk' ?_
    rcases Srt.kx (α := α) with ⟨f, h⟩ | ⟨f, h⟩
    · have e := map_en_of h l
      unfold sortA
      rw [e, allK_kD]
      show (if (l.map f).length ≤ lim ∧ alikeB ((l.map f).map kD) = true then R.ok (PyData.list ((sortM kD (l.map f)).map kD)) else .bad) = _
      rw [← e, if_pos ⟨by rw [List.length_map]; exact c.1, alikeB_en l⟩]
      unfold sortM
      rw [sort_maps' h]; rfl
    · have e := map_en_of (fun a => (h a).1) l
      cases l with
      | nil =>
        rw [List.mergeSort_nil]
        show sortA [] = R.ok (PyData.list [])
        simp [sortA, allK, alikeB, sortM]
      | cons a l =>
        unfold sortA
        have n : allK ((a :: l).map en) = none := by rw [List.map_cons, ← (h a).1]; rfl
        rw [n, e, allT_tD]
        have hne : (((a :: l).map f).all fun ks => !ks.isEmpty) = true := by
          rw [List.all_eq_true]
          intro k hk
          obtain ⟨b, hb, rfl⟩ := List.mem_map.mp hk
          have := (h b).2 (List.all_eq_true.mp c.2 b hb)
          cases q : f b with
          | nil => exact absurd q this
          | cons _ _ => rfl
        show (if ((a :: l).map f).length ≤ lim ∧ (((a :: l).map f).all fun ks => !ks.isEmpty) = true ∧ alikeB (((a :: l).map f).map tD) = true then R.ok (PyData.list ((sortM tD ((a :: l).map f)).map tD)) else .bad) = _
        rw [← e, if_pos ⟨by rw [List.length_map]; exact c.1, hne, alikeB_en (a :: l)⟩]
        unfold sortM
        rw [sort_maps' fun a => (h a).1]; rfl
  · rw [if_neg c]; trivial
where RE.okk' {x : R D} {a : List α} (h : x = .ok (en a)) : RE x (.ok a) := h
theorem o_sorted_l [Srt α] (l : List α) : RE (pSorted (en l)) (tSort l) := sortA_en l
theorem o_sorted_d [Srt α] (d : Dc α β) : RE (pSorted (en d)) (tSort (d.l.map (·.1))) := by
  show RE (sortA ((d.l.map enKV).map (·.1))) _
  rw [show (d.l.map enKV).map (·.1) = (d.l.map (·.1)).map en by rw [List.map_map, List.map_map]; rfl]
  exact sortA_en _
/-! ### sorted(set(..)), len(set(..)) -/
theorem dd_map {κ : Type} [DecidableEq α] [DecidableEq κ] {f : α → κ} (inj : ∀ a b, f a = f b → a = b) : ∀ l : List α, dd (l.map f) = (dd l).map f
  | [] => rfl
  | a :: l => by
    have ih := dd_map inj l
    rw [List.map_cons]
    show (if f a ∈ dd (l.map f) then dd (l.map f) else f a :: dd (l.map f)) = (if a ∈ dd l then dd l else a :: dd l).map f
    rw [ih]
    have e : (f a ∈ (dd l).map f) ↔ a ∈ dd l := ⟨fun h => by
      obtain ⟨b, hb, q⟩ := List.mem_map.mp h
      rw [← inj b a q]; exact hb, fun h => List.mem_map.mpr ⟨a, h, rfl⟩⟩
    by_cases c : a ∈ dd l
    · rw [if_pos c, if_pos (e.mpr c)]
    · rw [if_neg c, if_neg (fun z => c (e.mp z))]; rfl
def tSortSet [DecidableEq α] [Srt α] (l : List α) : R (List α) := gd (l.length < 64 ∧ l.all Srt.ne = true) ((dd l).mergeSort sle)
def tLenSet [DecidableEq α] (l : List α) : R Int := gd (l.length < 64) ((dd l).length : Int)
theorem sortL_en [DecidableEq α] [Srt α] (l : List α) : RE (sortL (l.map en)) (tSortSet l) := by
  unfold tSortSet gd
  by_cases c : l.length < 64 ∧ l.all Srt.ne = true
  · rw [if_pos c]
    show _ = _
    rcases Srt.kx (α := α) with ⟨f, h⟩ | ⟨f, h⟩
    · have e := map_en_of h l
      have inj : ∀ a b, f a = f b → a = b := fun a b q => en_inj (by rw [← h, ← h, q])
      unfold sortL
      rw [e, allK_kD]
      show (if (l.map f).length < 64 ∧ alikeB ((l.map f).map kD) = true then R.ok (PyData.list ((sortOf kD (l.map f)).map kD)) else .bad) = _
      rw [← e, if_pos ⟨by rw [List.length_map]; exact c.1, alikeB_en l⟩]
      unfold sortOf
      rw [dd_map inj, sort_maps' h]; rfl
    · have e := map_en_of (fun a => (h a).1) l
      have inj : ∀ a b, f a = f b → a = b := fun a b q => en_inj (by rw [← (h a).1, ← (h b).1, q])
      cases l with
      | nil =>
        rw [show dd ([] : List α) = [] from rfl, List.mergeSort_nil]
        show sortL [] = R.ok (PyData.list [])
        simp [sortL, allK, alikeB, sortOf, dd]
      | cons a l =>
        unfold sortL
        have n : allK ((a :: l).map en) = none := by rw [List.map_cons, ← (h a).1]; rfl
        rw [n, e, allT_tD]
        have hne : (((a :: l).map f).all fun ks => !ks.isEmpty) = true := by
          rw [List.all_eq_true]
          intro k hk
          obtain ⟨b, hb, rfl⟩ := List.mem_map.mp hk
          have := (h b).2 (List.all_eq_true.mp c.2 b hb)
          cases q : f b with
          | nil => exact absurd q this
          | cons _ _ => rfl
        show (if ((a :: l).map f).length < 64 ∧ (((a :: l).map f).all fun ks => !ks.isEmpty) = true ∧ alikeB (((a :: l).map f).map tD) = true then R.ok (PyData.list ((sortOf tD ((a :: l).map f)).map tD)) else .bad) = _
        rw [← e, if_pos ⟨by rw [List.length_map]; exact c.1, hne, alikeB_en (a :: l)⟩]
        unfold sortOf
        rw [dd_map inj, sort_maps' fun a => (h a).1]; rfl
  · rw [if_neg c]; trivial
theorem o_sortset_l [DecidableEq α] [Srt α] (l : List α) : RE (pSortSet (en l)) (tSortSet l) := sortL_en l
theorem o_sortset_t [DecidableEq α] [Srt α] (l : Tu α) : RE (pSortSet (en l)) (tSortSet l.l) := sortL_en l.l
theorem o_sortset_s (t : Tx) : RE (pSortSet (en t)) (tSortSet (lts t)) := by
  show RE (sortL (strItems (st t))) _
  rw [strItems_en]
  exact sortL_en _
def lenL (ds : List D) : R D := match allK ds with
  | some ks => if ks.length < 64 then .ok (.int ((dd ks).length : Nat)) else .bad
  | none => match allT ds with
    | some kss => if kss.length < 64 then .ok (.int ((dd kss).length : Nat)) else .bad
    | none => .bad
theorem lenL_en [DecidableEq α] [Srt α] (l : List α) : RE (lenL (l.map en)) (tLenSet l) := by
  unfold tLenSet gd
  by_cases c : l.length < 64
  · rw [if_pos c]
    show _ = _
    rcases Srt.kx (α := α) with ⟨f, h⟩ | ⟨f, h⟩
    · have e := map_en_of h l
      have inj : ∀ a b, f a = f b → a = b := fun a b q => en_inj (by rw [← h, ← h, q])
      unfold lenL
      rw [e, allK_kD]
      show (if (l.map f).length < 64 then R.ok (PyData.int ((dd (l.map f)).length : Nat)) else .bad) = _
      rw [if_pos (by rw [List.length_map]; exact c), dd_map inj, List.length_map]; rfl
    · have e := map_en_of (fun a => (h a).1) l
      have inj : ∀ a b, f a = f b → a = b := fun a b q => en_inj (by rw [← (h a).1, ← (h b).1, q])
      cases l with
      | nil => rfl
      | cons a l =>
        unfold lenL
        have n : allK ((a :: l).map en) = none := by rw [List.map_cons, ← (h a).1]; rfl
        rw [n, e, allT_tD]
        show (if ((a :: l).map f).length < 64 then R.ok (PyData.int ((dd ((a :: l).map f)).length : Nat)) else .bad) = _
        rw [if_pos (by rw [List.length_map]; exact c), dd_map inj, List.length_map]; rfl
  · rw [if_neg c]; trivial
theorem o_lenset_l [DecidableEq α] [Srt α] (l : List α) : RE (pLenSet (en l)) (tLenSet l) := lenL_en l
theorem o_lenset_t [DecidableEq α] [Srt α] (l : Tu α) : RE (pLenSet (en l)) (tLenSet l.l) := lenL_en l.l
theorem o_lenset_s (t : Tx) : RE (pLenSet (en t)) (tLenSet (lts t)) := by
  show RE (lenL (strItems (st t))) _
  rw [strItems_en]
  exact lenL_en _
end
end PV

/-! PV40: typed: more of the kind. -/
namespace PV
open PySem
open En (en de)
section
variable {α β γ δ : Type} [En α] [En β] [En γ] [En δ]
theorem R.bind_self {α : Type} (x : R α) : x.bind .ok = x := by cases x <;> rfl
theorem r_refl {x : R D} : RE x x := by cases x <;> first | rfl | trivial
theorem r_dynx {x : R D} {r : R α} (h : RE x r) : RE (α := D) x (r.bind fun a => .ok (en a)) := by
  rw [← R.bind_self x]
  exact RF.bind h fun a => RF.okk rfl
theorem r_decx {x : R D} {r : R D} (h : RE x r) : RE (α := α) x (r.bind dc) := by
  rw [← R.bind_self x]
  refine RF.bind h fun d => ?_
  unfold dc
  cases e : de (α := α) d with
  | none => trivial
  | some a => exact RF.okk (En.en_de e)
theorem r_opq {x : R D} : RE (α := α) x (x.bind dc) := r_decx r_refl
theorem r_someL [NN α] {x : R D} {r : R (List α)} (h : RE x r) : RE (α := List (Option α)) x (r.bind fun y => .ok (y.map some)) := by
  rw [← R.bind_self x]
  refine RF.bind h fun a => RF.okk ?_
  show PyData.list (a.map en) = .list ((a.map some).map en)
  rw [List.map_map]; rfl
def tLeS (a b : Tx) : Bool := !decide (b < a)
def tGeS (a b : Tx) : Bool := !decide (a < b)
def tInD [DecidableEq α] (x : α) (d : Dc α β) : Bool := (dlk d.l x).isSome
def tIsN (a : Option α) (_ : Unit) : R Bool := .ok a.isNone
def tIsNotN (a : Option α) (_ : Unit) : R Bool := .ok (!a.isNone)
def tIsX (_ : α) (_ : Unit) : R Bool := .ok false
def tIsNotX (_ : α) (_ : Unit) : R Bool := .ok true
def tIsU (_ _ : Unit) : R Bool := .ok true
def tIsNotU (_ _ : Unit) : R Bool := .ok false
theorem isNoneD_en [NN α] (a : α) : isNoneD (en a) = false := by
  have := NN.nn a
  cases h : en a <;> rw [h] at this <;> first | rfl | cases this
theorem o_isX [NN α] (a : α) (u : Unit) : RE (pIs (en a) (en u)) (tIsX a u) := RE.okk (by
  show PyData.bool (isNoneD (en a)) = _
  rw [isNoneD_en]; rfl)
theorem o_isNotX [NN α] (a : α) (u : Unit) : RE (pIsNot (en a) (en u)) (tIsNotX a u) := RE.okk (by
  show PyData.bool (!isNoneD (en a)) = _
  rw [isNoneD_en]; rfl)
theorem o_isU (a u : Unit) : RE (pIs (en a) (en u)) (tIsU a u) := rfl
theorem o_isNotU (a u : Unit) : RE (pIsNot (en a) (en u)) (tIsNotU a u) := rfl
/-! dicts with tuples as keys: equal -/
class TupK (α : Type) [En α] : Prop where
  tk : ∀ a : α, isTup (en a) = true
instance : TupK (Tu Int) := ⟨fun t => by
  show (t.l.map en).all isFlat = true
  rw [List.all_map, List.all_eq_true]; exact fun _ _ => rfl⟩
instance : TupK (Tu Tx) := ⟨fun t => by
  show (t.l.map en).all isFlat = true
  rw [List.all_map, List.all_eq_true]; exact fun _ _ => rfl⟩
section
variable [DecidableEq α] [EqD α] [TupK α] [DecidableEq β] [EqD β]
def dEqT (d e : Dc α β) : Bool := !d.l.isEmpty && d.l.length == e.l.length && d.l.all fun p => decide (dlk e.l p.1 = some p.2)
def tEqd (d e : Dc α β) : R Bool := if dEqT d e = true then .ok true else .bad
def tNed (d e : Dc α β) : R Bool := if dEqT d e = true then .ok false else .bad
theorem dEq_en (h : EqD.dp β ≤ 64) (d e : Dc α β) (q : dEqT d e = true) : dEq (d.l.map enKV) (e.l.map enKV) = true := by
  unfold dEqT at q
  rw [Bool.and_eq_true, Bool.and_eq_true] at q
  unfold dEq
  rw [List.length_map, List.length_map, q.1.2]
  have e1 : (!(d.l.map enKV).isEmpty) = true := by
    have := q.1.1
    cases hd : d.l with
    | nil => rw [hd] at this; cases this
    | cons _ _ => rfl
  rw [e1, Bool.and_self, Bool.true_and, List.all_map, List.all_eq_true]
  intro p hp
  have := of_decide_eq_true (List.all_eq_true.mp q.2 p hp)
  show (isTup (en p.1) && (match dLook (e.l.map enKV) (en p.1) with | some c => shp (en p.2) && shp c && PyData.eqv (en p.2) c | none => false)) = true
  rw [TupK.tk, dLook_en, this]
  show (true && (shp (en p.2) && shp (en p.2) && PyData.eqv (en p.2) (en p.2))) = true
  rw [shp_en h, EqD.eqv]
  simp
theorem o_eqd (h : EqD.dp β ≤ 64) (d e : Dc α β) : RE (pEq2 (en d) (en e)) (tEqd d e) := by
  unfold tEqd
  by_cases q : dEqT d e = true
  · rw [if_pos q]
    show (if dEq (d.l.map enKV) (e.l.map enKV) = true then R.ok (PyData.bool true) else .bad) = _
    rw [if_pos (dEq_en h d e q)]; rfl
  · rw [if_neg q]; trivial
theorem o_ned (h : EqD.dp β ≤ 64) (d e : Dc α β) : RE (pNe2 (en d) (en e)) (tNed d e) := by
  unfold tNed
  by_cases q : dEqT d e = true
  · rw [if_pos q]
    show (if dEq (d.l.map enKV) (e.l.map enKV) = true then R.ok (PyData.bool false) else .bad) = _
    rw [if_pos (dEq_en h d e q)]; rfl
  · rw [if_neg q]; trivial
end
end
end PV

/-! PV41: typed: told operands, comprehensions of pure things. -/
namespace PV
open PySem
open En (en de)
section
variable {α β γ δ σ τ : Type} [En α] [En β] [En γ] [En δ] {ev : Ev} {ρ : Rho}
theorem cv {x : RS} {r r' : R τ} {I : τ → RS → Prop} (h : Rg x r I) (e : r = r') : Rg x r' I := e ▸ h
theorem cvF {ζ ε : Type} {φ : ζ → ε} {x : R ε} {r r' : R ζ} (h : RF φ x r) (e : r = r') : RF φ x r' := e ▸ h
theorem r_e2a {op : D → D → R D} {a : α} {q : R β} {o : β → R γ} {f g : FE} (hf : RE (f ev ρ) (.ok a)) (hg : RE (g ev ρ) q) (ho : ∀ b, RE (op (en a) (en b)) (o b)) : RE (e2 op f g ev ρ) (q.bind o) := by
  have hf : f ev ρ = .ok (en a) := hf
  show RF en ((f ev ρ).bind fun x => (g ev ρ).bind fun y => op x y) _
  rw [hf, R.bind_ok]
  exact RF.bind hg ho
theorem r_e2b {op : D → D → R D} {b : β} {r : R α} {o : α → R γ} {f g : FE} (hf : RE (f ev ρ) r) (hg : RE (g ev ρ) (.ok b)) (ho : ∀ a, RE (op (en a) (en b)) (o a)) : RE (e2 op f g ev ρ) (r.bind o) := by
  have hg : g ev ρ = .ok (en b) := hg
  show RF en ((f ev ρ).bind fun x => (g ev ρ).bind fun y => op x y) _
  rw [hg]
  exact RF.bind (f := fun x => R.bind (.ok (en b)) fun y => op x y) hf ho
theorem r_e2ab {op : D → D → R D} {a : α} {b : β} {c : γ} {f g : FE} (hf : RE (f ev ρ) (.ok a)) (hg : RE (g ev ρ) (.ok b)) (ho : RE (op (en a) (en b)) (.ok c)) : RE (e2 op f g ev ρ) (.ok c) := by
  have hf : f ev ρ = .ok (en a) := hf
  have hg : g ev ρ = .ok (en b) := hg
  show RF en ((f ev ρ).bind fun x => (g ev ρ).bind fun y => op x y) _
  rw [hf, hg]
  exact ho
theorem o_mul_c1 {c : Int} (h : -9223372036854775808 ≤ c ∧ c ≤ 9223372036854775808) (b : Int) : RE (pMul (en c) (en b)) (.ok (c * b)) := by
  show RF en (if _ then R.ok (PyData.int (c * b)) else .bad) _
  rw [if_pos (.inl (by omega))]
  exact RF.okk rfl
theorem o_mul_c2 {c : Int} (h : -9223372036854775808 ≤ c ∧ c ≤ 9223372036854775808) (a : Int) : RE (pMul (en a) (en c)) (.ok (a * c)) := by
  show RF en (if _ then R.ok (PyData.int (a * c)) else .bad) _
  rw [if_pos (.inr (by omega))]
  exact RF.okk rfl
theorem o_mod_c {c : Int} (h : c ≠ 0) (a : Int) : RE (pMod (en a) (en c)) (.ok (a.fmod c)) := by
  show RF en (if _ then R.ok (PyData.int (a.fmod c)) else .bad) _
  rw [if_pos h]
  exact RF.okk rfl
theorem o_fdiv_c {c : Int} (h : c ≠ 0 ∧ c.natAbs < 1073741824) (a : Int) : RE (pFdiv (en a) (en c)) (.ok (a.fdiv c)) := by
  show RF en (if _ then R.ok (PyData.int (a.fdiv c)) else .bad) _
  rw [if_pos h]
  exact RF.okk rfl
theorem o_pow_c {a b c : Int} (h : 0 ≤ b ∧ b ≤ 1000000 ∧ a.natAbs < 2 ^ 64) (e : a ^ b.toNat = c) : RE (pPow (en a) (en b)) (.ok c) := by
  show RF en (if _ then R.ok (PyData.int (a ^ b.toNat)) else .bad) _
  rw [if_pos h, e]
  exact RF.okk rfl
theorem pRng1_nat (n : Nat) (h : n < 1000000000000000) : pRng1 (.int (n : Int)) = .ok ((rg 0 n).map en) := by
  have e : pRng1 (.int (n : Int)) = if -(2 ^ 62) ≤ (n : Int) ∧ (n : Int) < 2 ^ 62 then .ok (rng 0 (n : Int).toNat) else .bad := by simp only [pRng1]
  rw [e, if_pos (by omega), rng_en, Int.toNat_natCast]
theorem r_i1c {c : Int} (n : Nat) {f : FE} (h : RE (f ev ρ) (.ok c)) (hc : c = (n : Int) ∧ n < 1000000000000000) : RL (iB (q1 pRng1) (aCons f aNil) ev ρ) (.ok (rg 0 n)) := by
  obtain ⟨rfl, hc⟩ := hc
  have h : f ev ρ = .ok (en (n : Int)) := h
  have e : iB (q1 pRng1) (aCons f aNil) ev ρ = (f ev ρ).bind pRng1 := by
    show ((f ev ρ).bind fun d => .ok [d]).bind _ = _
    cases f ev ρ <;> rfl
  rw [e, h, R.bind_ok]
  exact pRng1_nat n hc
/-! rows of a told length -/
def Len {α : Type} (q : R (List α)) (n : Nat) : Prop := match q with
  | .ok l => l.length = n
  | _ => True
theorem len_nil {α : Type} : Len (.ok ([] : List α)) 0 := rfl
theorem len_cons {α : Type} {r : R α} {q : R (List α)} {n : Nat} (h : Len q n) : Len (r.bind fun a => q.bind fun l => .ok (a :: l)) (n + 1) := by
  cases r with
  | ok a => cases q with
    | ok l => exact congrArg (· + 1) h
    | _ => trivial
  | _ => trivial
theorem r_LstQ {g : FL} {q : R (List α)} {n : Nat} (k : RL (g ev ρ) q) (h : Len q n) (hn : n ≤ 1000000) : RE (eLst g ev ρ) q := by
  unfold eLst
  cases q with
  | ok l =>
    have k : g ev ρ = .ok (l.map en) := k
    have h : l.length = n := h
    rw [k, R.bind_ok, List.length_map, if_pos (Nat.le_trans (by omega) (show 1000000 ≤ lim by decide))]
    exact RF.okk rfl
  | exc c z => have k : g ev ρ = .exc c z := k; rw [k]; rfl
  | bad => trivial
theorem r_TupQ {g : FL} {q : R (List α)} {n : Nat} (k : RL (g ev ρ) q) (h : Len q n) (hn : n ≤ 1000000) : RE (eTup g ev ρ) (q.bind fun l => .ok (Tu.mk l)) := by
  unfold eTup
  cases q with
  | ok l =>
    have k : g ev ρ = .ok (l.map en) := k
    have h : l.length = n := h
    rw [k, R.bind_ok, List.length_map, if_pos (Nat.le_trans (by omega) (show 1000000 ≤ lim by decide))]
    exact RF.okk rfl
  | exc c z => have k : g ev ρ = .exc c z := k; rw [k]; rfl
  | bad => trivial
/-! comprehensions -/
def tMap {α β : Type} (g : α → β) (l : List α) : R (List β) := if l.length ≤ LIM then .ok (l.map g) else .bad
def tMapR {α β : Type} (g : α → R β) (l : List α) : R (List β) := if l.length ≤ LIM then mapR g l else .bad
def tFM {α β : Type} (p : α → Bool) (g : α → β) (l : List α) : R (List β) := if l.length ≤ LIM then .ok ((l.filter p).map g) else .bad
def tLcR {α β : Type} (p : α → R Bool) (g : α → R β) (l : List α) : R (List β) := if l.length ≤ LIM then lcR p g l else .bad
theorem mapR_pure {α β : Type} (g : α → β) : ∀ l : List α, mapR (fun a => .ok (g a)) l = .ok (l.map g)
  | [] => rfl
  | a :: l => by unfold mapR; rw [mapR_pure g l]; rfl
theorem lcR_pure {α β : Type} (p : α → Bool) (g : α → β) : ∀ l : List α, lcR (fun a => .ok (p a)) (fun a => .ok (g a)) l = .ok ((l.filter p).map g)
  | [] => rfl
  | a :: l => by
    unfold lcR
    rw [lcR_pure p g l]
    show (if p a = true then _ else _) = _
    by_cases h : p a = true
    · rw [if_pos h, List.filter_cons_of_pos h]; rfl
    · rw [if_neg h, List.filter_cons_of_neg h]
theorem r_LcM2 {vs : List Nat} {t : Tg} {it : FL} {f : FE} {q : R (List α)} {g : α → R β} (hi : RL (it ev ρ) q) (h : ∀ a, ∃ ρ1, bindT t (en a) (wipeR ρ vs) = some ρ1 ∧ RE (f ev ρ1) (g a)) : RE (eLc vs t it tYesF f ev ρ) (q.bind (tMapR g)) := r_LcM hi h
theorem r_LcP {vs : List Nat} {t : Tg} {it : FL} {f : FE} {q : R (List α)} {g : α → β} (hi : RL (it ev ρ) q) (h : ∀ a, ∃ ρ1, bindT t (en a) (wipeR ρ vs) = some ρ1 ∧ RE (f ev ρ1) (.ok (g a))) : RE (eLc vs t it tYesF f ev ρ) (q.bind (tMap g)) := by
  have := r_LcM (vs := vs) (t := t) (f := f) (g := fun a => .ok (g a)) hi h
  have e : (fun l => if l.length ≤ LIM then mapR (fun a => .ok (g a)) l else .bad) = tMap g := by
    funext l
    unfold tMap
    rw [mapR_pure]
  rw [e] at this
  exact this
theorem r_Lc2 {vs : List Nat} {t : Tg} {it : FL} {c : FT} {f : FE} {q : R (List α)} {p : α → R Bool} {g : α → R β} (hi : RL (it ev ρ) q) (h : ∀ a, ∃ ρ1, bindT t (en a) (wipeR ρ vs) = some ρ1 ∧ RB (c ev ρ1) (p a) ∧ RE (f ev ρ1) (g a)) : RE (eLc vs t it c f ev ρ) (q.bind (tLcR p g)) := r_Lc hi h
theorem r_LcQ {vs : List Nat} {t : Tg} {it : FL} {c : FT} {f : FE} {q : R (List α)} {p : α → Bool} {g : α → β} (hi : RL (it ev ρ) q) (h : ∀ a, ∃ ρ1, bindT t (en a) (wipeR ρ vs) = some ρ1 ∧ RB (c ev ρ1) (.ok (p a)) ∧ RE (f ev ρ1) (.ok (g a))) : RE (eLc vs t it c f ev ρ) (q.bind (tFM p g)) := by
  have := r_Lc (vs := vs) (t := t) (c := c) (f := f) (p := fun a => .ok (p a)) (g := fun a => .ok (g a)) hi h
  have e : (fun l => if l.length ≤ LIM then lcR (fun a => .ok (p a)) (fun a => .ok (g a)) l else .bad) = tFM p g := by
    funext l
    unfold tFM
    rw [lcR_pure]
  rw [e] at this
  exact this
end
end PV
namespace PV
open PySem
open En (en de)
section
variable {α β σ τ : Type} {ev : Ev} {ρ : Rho} {K : Rho → RS} {I : τ → RS → Prop}
theorem k_retM [En τ] {f : FE} {r : R τ} (h : RE (f ev ρ) r) (c : ∀ a, I a (.ret (en a))) : Rg ((sRet f ev ρ).seq K) r I := by
  rw [← R.bind_self r]
  exact k_ofR h c
def tPop {α : Type} (l : List α) : R (List α × α) := match l.getLast? with
  | some a => .ok (l.dropLast, a)
  | none => .bad
theorem k_pop [En α] {t : Tg} {i : Nat} {l : List α} {ρ1 : List α → α → Rho} {k : List α × α → R τ} (hi : ρ[i]? = some (.ol (l.map en))) (hb : ∀ (m : List α) (a : α), bindT t (en a) (ρ.set i (.ol (m.map en))) = some (ρ1 m a)) (c : ∀ (m : List α) (a : α), Rg (K (ρ1 m a)) (k (m, a)) I) : Rg ((sPop t i ev ρ).seq K) ((tPop l).bind k) I := by
  unfold sPop tPop
  rw [hi]
  show Rg (RS.seq (match (l.map en).getLast? with | some d => _ | none => _) K) _ I
  rw [List.getLast?_map]
  cases h : l.getLast? with
  | none => exact trivial
  | some a =>
    show Rg (RS.seq (match bindT t (en a) (ρ.set i (.ol (l.map en).dropLast)) with | some ρ' => RS.next ρ' | none => .bad) K) (k (l.dropLast, a)) I
    rw [← List.map_dropLast, hb]
    exact c l.dropLast a
end
end PV
namespace PV
theorem R.bind_okf {α : Type} (x : R α) : (x.bind fun a => .ok a) = x := by cases x <;> rfl
theorem R.bind_okg {α : Type} (x : R α) : x.bind R.ok = x := by cases x <;> rfl
end PV
namespace PV
theorem R.bok {α β : Type} (a : α) (f : α → R β) : (R.ok a).bind f = f a := Eq.trans (R.bind_ok a f) (Eq.refl _)
end PV

/-! PV42: typed: running loops; the draws of the laws. -/
namespace PV
open PySem
open En (en de)
section
variable {α β γ σ τ : Type}
/-! ### running -/
theorem mapR_ok {g : α → R β} {h : α → β} : ∀ {l : List α}, (∀ a ∈ l, g a = .ok (h a)) → mapR g l = .ok (l.map h)
  | [], _ => rfl
  | a :: l, k => by
    unfold mapR
    rw [k a List.mem_cons_self, mapR_ok fun b hb => k b (List.mem_cons_of_mem _ hb)]; rfl
theorem tMap_ok {g : α → β} {l : List α} (h : l.length ≤ LIM) : tMap g l = .ok (l.map g) := if_pos h
theorem tMapR_ok {g : α → R β} {h : α → β} {l : List α} (hl : l.length ≤ LIM) (k : ∀ a ∈ l, g a = .ok (h a)) : tMapR g l = .ok (l.map h) := by
  unfold tMapR
  rw [if_pos hl, mapR_ok k]
theorem tFM_ok {p : α → Bool} {g : α → β} {l : List α} (h : l.length ≤ LIM) : tFM p g l = .ok ((l.filter p).map g) := if_pos h
theorem lcR_ok {p : α → R Bool} {q : α → Bool} {g : α → R β} {h : α → β} : ∀ {l : List α}, (∀ a ∈ l, p a = .ok (q a)) → (∀ a ∈ l, q a = true → g a = .ok (h a)) → lcR p g l = .ok ((l.filter q).map h)
  | [], _, _ => rfl
  | a :: l, k1, k2 => by
    unfold lcR
    rw [k1 a List.mem_cons_self, lcR_ok (fun b hb => k1 b (List.mem_cons_of_mem _ hb)) fun b hb => k2 b (List.mem_cons_of_mem _ hb)]
    show (if q a = true then _ else _) = _
    by_cases c : q a = true
    · rw [if_pos c, k2 a List.mem_cons_self c, List.filter_cons_of_pos c]; rfl
    · rw [if_neg c, List.filter_cons_of_neg c]
theorem tLcR_ok {p : α → R Bool} {q : α → Bool} {g : α → R β} {h : α → β} {l : List α} (hl : l.length ≤ LIM) (k1 : ∀ a ∈ l, p a = .ok (q a)) (k2 : ∀ a ∈ l, q a = true → g a = .ok (h a)) : tLcR p g l = .ok ((l.filter q).map h) := by
  unfold tLcR
  rw [if_pos hl, lcR_ok k1 k2]
theorem forR_nil {f : σ → α → R σ} {s : σ} : forR f [] s = .ok s := rfl
theorem forR_cons {f : σ → α → R σ} {a : α} {l : List α} {s : σ} : forR f (a :: l) s = (f s a).bind (forR f l) := rfl
/-- a loop whose turns are told, with what holds between them -/
theorem forR_inv {f : σ → α → R σ} (I : List α → σ → Prop) {l : List α} {s : σ} (h0 : I [] s) (h : ∀ (pre : List α) (a : α) (post : List α) (s : σ), l = pre ++ a :: post → I pre s → ∃ s', f s a = .ok s' ∧ I (pre ++ [a]) s') : ∃ s', forR f l s = .ok s' ∧ I l s' := by
  have go : ∀ (post pre : List α) (s : σ), l = pre ++ post → I pre s → ∃ s', forR f post s = .ok s' ∧ I l s' := by
    intro post
    induction post with
    | nil => intro pre s e i; rw [List.append_nil] at e; exact ⟨s, rfl, e ▸ i⟩
    | cons a post ih =>
      intro pre s e i
      obtain ⟨s1, h1, h2⟩ := h pre a post s e i
      obtain ⟨s2, h3, h4⟩ := ih (pre ++ [a]) s1 (by rw [e, List.append_assoc]; rfl) h2
      refine ⟨s2, ?_, h4⟩
      rw [forR_cons, h1]; exact h3
  exact go l [] s rfl h0
theorem forR_fold {f : σ → α → R σ} {g : σ → α → σ} {l : List α} (s : σ) (h : ∀ a ∈ l, ∀ s, f s a = .ok (g s a)) : forR f l s = .ok (l.foldl g s) := by
  induction l generalizing s with
  | nil => rfl
  | cons a l ih =>
    rw [forR_cons, h a List.mem_cons_self]
    exact ih (g s a) fun b hb => h b (List.mem_cons_of_mem _ hb)
theorem forF_nil {f : σ → α → R (Fl σ β)} {s : σ} : forF f [] s = .ok (.on s) := rfl
theorem forF_cons_on {f : σ → α → R (Fl σ β)} {a : α} {l : List α} {s s' : σ} (h : f s a = .ok (.on s')) : forF f (a :: l) s = forF f l s' := by
  show (f s a).bind _ = _
  rw [h]; rfl
theorem forF_cons_out {f : σ → α → R (Fl σ β)} {a : α} {l : List α} {s : σ} {b : β} (h : f s a = .ok (.out b)) : forF f (a :: l) s = .ok (.out b) := by
  show (f s a).bind _ = _
  rw [h]; rfl
theorem forF_on {f : Unit → α → R (Fl Unit β)} {l : List α} (h : ∀ a ∈ l, f () a = .ok (.on ())) : forF f l () = .ok (.on ()) := by
  induction l with
  | nil => rfl
  | cons a l ih => rw [forF_cons_on (h a List.mem_cons_self)]; exact ih fun b hb => h b (List.mem_cons_of_mem _ hb)
theorem tPush_ok {l : List α} {a : α} (h : l.length < LIM) : tPush l a = .ok (l ++ [a]) := if_pos h
theorem tApp_ok {a b : List α} (h : a.length + b.length ≤ LIM) : tApp a b = .ok (a ++ b) := if_pos h
theorem tAppT_ok {a b : Tu α} (h : a.l.length + b.l.length ≤ LIM) : tAppT a b = .ok ⟨a.l ++ b.l⟩ := if_pos h
theorem tCat_ok {a b : Tx} (h : a.length + b.length ≤ LIM) : tCat a b = .ok (a ++ b) := if_pos h
theorem tMod_ok {a b : Int} (h : b ≠ 0) : tMod a b = .ok (a.fmod b) := if_pos h
theorem tIx_nat {l : List α} {n : Nat} {a : α} (h : l[n]? = some a) : tIx l (n : Int) = .ok a := by
  have hl := (List.getElem?_eq_some_iff.mp h).1
  unfold tIx ixAt
  rw [if_pos (by omega), if_pos (by omega)]
  show (match l[(n : Int).toNat]? with | some a => R.ok a | none => .bad) = _
  rw [Int.toNat_natCast, h]
theorem tIx_get {l : List α} {i : Int} (h0 : 0 ≤ i) (h1 : i < l.length) : tIx l i = .ok (l[i.toNat]'(by omega)) := by
  obtain ⟨n, rfl⟩ : ∃ n : Nat, i = n := ⟨i.toNat, by omega⟩
  exact tIx_nat (List.getElem?_eq_getElem (by omega))
theorem tIx_mem {l : List α} {i : Int} (h0 : 0 ≤ i) (h1 : i < l.length) : ∃ a ∈ l, tIx l i = .ok a := ⟨_, List.getElem_mem _, tIx_get h0 h1⟩
theorem tIx_last {l : List α} {a : α} (h : l.getLast? = some a) : tIx l (-1) = .ok a := by
  have hl : 0 < l.length := by cases l with | nil => cases h | cons _ _ => exact Nat.succ_pos _
  unfold tIx ixAt
  rw [if_neg (by omega), if_pos (by omega)]
  show (match l[((l.length : Int) + -1).toNat]? with | some a => R.ok a | none => .bad) = _
  rw [show ((l.length : Int) + -1).toNat = l.length - 1 by omega, ← List.getLast?_eq_getElem?, h]
theorem rg_nil (lo : Int) : rg lo 0 = [] := rfl
theorem rg_length (lo : Int) (n : Nat) : (rg lo n).length = n := by unfold rg; rw [List.length_map, List.length_range]
theorem mem_rg {lo : Int} {n : Nat} {x : Int} : x ∈ rg lo n ↔ lo ≤ x ∧ x < lo + n := by
  unfold rg
  rw [List.mem_map]
  constructor
  · rintro ⟨i, h, rfl⟩
    have := List.mem_range.mp h
    omega
  · rintro ⟨h1, h2⟩
    exact ⟨(x - lo).toNat, List.mem_range.mpr (by omega), by omega⟩
theorem rg_nats (n : Nat) : rg 0 n = (List.range n).map fun (i : Nat) => (i : Int) := by
  unfold rg
  exact List.map_congr_left fun i _ => Int.zero_add _
theorem tRng1_ok {j : Int} (h : -1000000000000000000 ≤ j ∧ j < 1000000000000000000) : tRng1 j = .ok (rg 0 j.toNat) := by
  have := BIG_ge
  exact if_pos ⟨by omega, by omega⟩
theorem tRng1_nat {n : Nat} (h : n < 1000000000000000000) : tRng1 (n : Int) = .ok (rg 0 n) := by
  rw [tRng1_ok ⟨by omega, by omega⟩, Int.toNat_natCast]
theorem tLRng_nat {n : Nat} (h : n ≤ 16000000) : tLRng (n : Int) = .ok (rg 0 n) := by
  have h1 := BIG_ge
  have h2 := LIM_ge
  have : tLRng (n : Int) = .ok (rg 0 (n : Int).toNat) := if_pos ⟨by omega, by omega, by rw [Int.toNat_natCast]; omega⟩
  rw [this, Int.toNat_natCast]
theorem lim_of {n : Nat} (h : n ≤ 16000000) : n ≤ LIM := Nat.le_trans h LIM_ge
theorem lim_lt {n : Nat} (h : n < 16000000) : n < LIM := Nat.lt_of_lt_of_le h LIM_ge
/-! ### the draws -/
def gD2 (s : List Int × Int) (_ : Int) : R (List Int × Int) :=
  if (decide (s.2 > (0 : Int))) = true then
    (tPush s.1 (Int.fmod s.2 (65536 : Int))).bind fun (d : List Int) =>
    let r : Int := Int.fdiv s.2 (65536 : Int)
    R.ok (d, r)
  else R.ok (s.1, s.2)
def gD1 (script : List Int) (s : List Int) (k : Int) : R (List Int) :=
  ((tIx script k).bind fun (x : Int) => R.ok (tAbs x)).bind fun (rest : Int) =>
  if (decide (rest ≥ (1000000000000000000 : Int))) = true then
    ((forR gD2 (rg 0 60) (s, rest)).bind fun (s38 : List Int × Int) => R.ok (s38.1))
  else
    (let stirred42 : Int := Int.fmod (((rest * (48271 : Int)) + ((k + (1 : Int)) * (69621 : Int)))) (2147483647 : Int)
    let stirred43 : Int := Int.fmod ((((stirred42 * (16807 : Int)) + ((11 : Int) * k)) + (5 : Int))) (2147483629 : Int)
    (tPush s (Int.fmod stirred43 (65536 : Int))).bind fun (draws44 : List Int) =>
    (tPush draws44 (Int.fmod (Int.fdiv stirred43 (65536 : Int)) (32768 : Int))).bind fun (draws45 : List Int) =>
    R.ok draws45)
def gDraws (script : List Int) : R (List Int) :=
  let draws25 : List Int := []
  (tRng1 (min (63 : Int) ((List.length script : Nat) : Int))).bind fun (l : List Int) => (forR (gD1 script) l draws25).bind fun (s : List Int) => R.ok s
def DrawsOk (ds : List Int) : Prop := (∀ d ∈ ds, 0 ≤ d ∧ d < 65536) ∧ ds.length ≤ 3780
theorem fmod_rng (a : Int) {b : Int} (hb : 0 < b) : 0 ≤ a.fmod b ∧ a.fmod b < b := ⟨Int.fmod_nonneg_of_pos a hb, Int.fmod_lt_of_pos a hb⟩
theorem gDraws_ok (script : List Int) (hs : script.length ≤ 63) : ∃ ds, gDraws script = .ok ds ∧ DrawsOk ds := by
  unfold gDraws
  have hL := LIM_ge
  rw [show min (63 : Int) ((List.length script : Nat) : Int) = ((script.length : Nat) : Int) by omega, tRng1_nat (by omega), R.bok]
  obtain ⟨ds, h1, h2, h3⟩ := forR_inv (f := gD1 script) (l := rg 0 script.length) (s := []) (fun pre s => (∀ d ∈ s, 0 ≤ d ∧ d < 65536) ∧ s.length ≤ 60 * pre.length) ⟨fun d hd => (by cases hd), Nat.zero_le _⟩ fun pre a post s e ⟨i1, i2⟩ => by
    have hlen : pre.length + 1 + post.length = script.length := by
      have := congrArg List.length e
      rw [rg_length, List.length_append, List.length_cons] at this
      omega
    have ha : a ∈ rg 0 script.length := by rw [e]; simp
    have ha := mem_rg.mp ha
    unfold gD1
    rw [tIx_get (l := script) (i := a) (by omega) (by omega), R.bok, R.bok]
    generalize tAbs _ = rest
    split
    · obtain ⟨p, q1, q2, q3⟩ := forR_inv (f := gD2) (l := rg 0 60) (s := (s, rest)) (fun pre2 p => (∀ d ∈ p.1, 0 ≤ d ∧ d < 65536) ∧ p.1.length ≤ s.length + pre2.length) ⟨i1, by simp⟩ fun pre2 b post2 p e2 ⟨j1, j2⟩ => by
        have hl2 : pre2.length + 1 + post2.length = 60 := by
          have := congrArg List.length e2
          rw [rg_length, List.length_append, List.length_cons] at this
          omega
        unfold gD2
        split
        · rw [tPush_ok (by omega), R.bok]
          refine ⟨_, rfl, fun d hd => ?_, ?_⟩
          · rcases List.mem_append.mp hd with h | h
            · exact j1 d h
            · rw [List.mem_singleton.mp h]; exact fmod_rng _ (by decide)
          · simp only [List.length_append, List.length_cons, List.length_nil]; omega
        · exact ⟨_, rfl, j1, by simp only [List.length_append, List.length_cons, List.length_nil]; omega⟩
      rw [q1, R.bok]
      rw [rg_length] at q3
      exact ⟨_, rfl, q2, by rw [List.length_append, List.length_singleton]; omega⟩
    · simp only []
      rw [tPush_ok (by omega), R.bok, tPush_ok (by rw [List.length_append, List.length_singleton]; omega), R.bok]
      refine ⟨_, rfl, fun d hd => ?_, ?_⟩
      · rcases List.mem_append.mp hd with h | h
        · rcases List.mem_append.mp h with h | h
          · exact i1 d h
          · rw [List.mem_singleton.mp h]; exact fmod_rng _ (by decide)
        · rw [List.mem_singleton.mp h]
          have := fmod_rng (Int.fdiv (Int.fmod ((((Int.fmod (((rest * (48271 : Int)) + ((a + (1 : Int)) * (69621 : Int)))) (2147483647 : Int)) * (16807 : Int)) + ((11 : Int) * a)) + (5 : Int)) (2147483629 : Int)) (65536 : Int)) (b := 32768) (by decide)
          exact ⟨this.1, by omega⟩
      · simp only [List.length_append, List.length_cons, List.length_nil]; omega
  rw [rg_length] at h3
  exact ⟨ds, by rw [h1]; rfl, h2, by omega⟩
def gMix (draws : List Int) (k : Int) (many : Int) : R Int :=
  let cell73 : Int := (0 : Int)
  ((if (decide (((List.length draws : Nat) : Int) > (0 : Int))) = true then
    (((tMod k ((List.length draws : Nat) : Int)).bind fun (x75 : Int) => tIx draws x75).bind fun (cell76 : Int) => R.ok cell76)
  else (R.ok cell73)) : R Int).bind fun (s77 : Int) =>
  if (decide (k < ((List.length draws : Nat) : Int))) = true then (tMod s77 many)
  else (tMod (Int.fdiv ((s77 * (7919 : Int)) + (k * (104729 : Int))) (3 : Int)) many)
/-- the drawn number -/
def mixv (draws : List Int) (k : Int) (many : Int) : Int := match gMix draws k many with
  | .ok v => v
  | _ => 0
theorem gMix_ok (draws : List Int) (k : Int) {many : Int} (hm : 0 < many) : gMix draws k many = .ok (mixv draws k many) ∧ 0 ≤ mixv draws k many ∧ mixv draws k many < many := by
  suffices h : ∃ v, gMix draws k many = .ok v ∧ 0 ≤ v ∧ v < many by
    obtain ⟨v, h1, h2, h3⟩ := h
    unfold mixv
    rw [h1]
    exact ⟨rfl, h2, h3⟩
  unfold gMix
  simp only []
  have hc : ∃ c, ((if (decide (((List.length draws : Nat) : Int) > (0 : Int))) = true then
    (((tMod k ((List.length draws : Nat) : Int)).bind fun (x75 : Int) => tIx draws x75).bind fun (cell76 : Int) => R.ok cell76)
  else (R.ok (0 : Int))) : R Int) = .ok c := by
    split
    · rename_i h
      have h := of_decide_eq_true h
      rw [tMod_ok (by omega), R.bok]
      have := fmod_rng k h
      rw [tIx_get (l := draws) this.1 this.2]
      exact ⟨_, rfl⟩
    · exact ⟨_, rfl⟩
  obtain ⟨c, hc⟩ := hc
  rw [hc, R.bok]
  split
  · exact ⟨_, tMod_ok (by omega), fmod_rng _ hm⟩
  · exact ⟨_, tMod_ok (by omega), fmod_rng _ hm⟩
def gText (draws : List Int) (k : Int) (size : Int) (signs : Tx) : R Tx :=
  ((tRng1 size).bind fun (l : List Int) => tMapR (fun (t : Int) => ((gMix draws (k + t) ((List.length signs : Nat) : Int)).bind fun (x : Int) => (tIx signs x).bind fun c => R.ok [c] : R Tx)) l).bind fun (x : List Tx) => tJoin (cs []) x
theorem jn_nil_flat : ∀ l : List Tx, jn [] l = l.flatten
  | [] => rfl
  | [x] => by simp [jn]
  | x :: y :: r => by
    rw [jn, jn_nil_flat (y :: r)]
    simp
theorem cs_nil : cs [] = [] := rfl
theorem jn_lts (t : Tx) : jn [] (t.map fun c => [c]) = t := by
  rw [jn_nil_flat]
  induction t with
  | nil => rfl
  | cons c t ih => rw [List.map_cons, List.flatten_cons, ih]; rfl
theorem tJoin_lts {t : Tx} (h : t.length ≤ 16000000) : tJoin [] (t.map fun c => [c]) = .ok t := by
  unfold tJoin
  rw [gd_pos, jn_lts]
  have e : ((t.map fun c => [c]).map List.length).sum = t.length := by
    rw [List.map_map]
    clear h
    induction t with
    | nil => rfl
    | cons c t ih => rw [List.map_cons, List.sum_cons, ih]; simp; omega
  rw [e]
  exact lim_of (by simpa using h)
theorem gText_ok (draws : List Int) (k : Int) {n : Nat} {signs : Tx} (hn : n ≤ 1000000) (hs : signs ≠ []) : ∃ t : Tx, gText draws k (n : Int) signs = .ok t ∧ t.length = n ∧ ∀ c ∈ t, c ∈ signs := by
  have hpos : 0 < ((List.length signs : Nat) : Int) := by
    have := List.length_pos_iff.mpr hs
    omega
  have hd : ∀ i : Int, ∃ c ∈ signs, ((gMix draws (k + i) ((List.length signs : Nat) : Int)).bind fun (x : Int) => (tIx signs x).bind fun c => R.ok [c] : R Tx) = .ok [c] := fun i => by
    obtain ⟨h1, h2, h3⟩ := gMix_ok draws (k + i) hpos
    obtain ⟨c, hc, e⟩ := tIx_mem (l := signs) h2 h3
    exact ⟨c, hc, by rw [h1, R.bok, e, R.bok]⟩
  have ⟨f, hf⟩ := Classical.axiomOfChoice hd
  refine ⟨(rg 0 n).map f, ?_, by rw [List.length_map, rg_length], fun c hc => ?_⟩
  · unfold gText
    rw [tRng1_nat (by omega), R.bok, tMapR_ok (h := fun t => [f t]) (by rw [rg_length]; exact lim_of (by omega)) fun t _ => (hf t).2, R.bok]
    have e : (rg 0 n).map (fun t => [f t]) = ((rg 0 n).map f).map fun c => [c] := by rw [List.map_map]; rfl
    rw [e]
    exact tJoin_lts (by rw [List.length_map, rg_length]; omega)
  · obtain ⟨i, _, rfl⟩ := List.mem_map.mp hc
    exact (hf i).1
end
end PV

/-! PV43: typed: sorted sets; the drawn lists of words. -/
namespace PV
open PySem PySem.W PyProof.Rows
open En (en de)
section
variable {α β : Type} [En α] [Srt α]
theorem slt_irrefl (a : α) : Srt.lt a a = false := by rw [← Srt.lt_ok]; exact lex_irrefl (O := itemOrd) _
theorem slt_trans {a b c : α} (h : Srt.lt a b = true) (k : Srt.lt b c = true) : Srt.lt a c = true := by
  rw [← Srt.lt_ok] at h k ⊢
  exact lex_trans (O := itemOrd) _ _ _ h k
theorem slt_total {a b : α} (h : Srt.lt a b = false) (k : Srt.lt b a = false) : a = b := by
  rw [← Srt.lt_ok] at h k
  have e := lex_total (O := itemOrd) _ _ h k
  rcases Srt.kx (α := α) with ⟨f, hf⟩ | ⟨f, hf⟩
  · rw [← hf, ← hf] at e
    have := kD_inj _ _ e
    exact en_inj (by rw [← hf, ← hf, this])
  · rw [← (hf a).1, ← (hf b).1] at e
    have := tD_inj _ _ e
    exact en_inj (by rw [← (hf a).1, ← (hf b).1, this])
theorem slt_asymm {a b : α} (h : Srt.lt a b = true) : Srt.lt b a = false := by
  cases k : Srt.lt b a with
  | false => rfl
  | true => have := slt_trans h k; rw [slt_irrefl] at this; cases this
theorem sle_total (a b : α) : (sle a b || sle b a) = true := by
  unfold sle
  cases h : Srt.lt b a with
  | false => rfl
  | true => rw [slt_asymm h]; rfl
theorem sle_trans {a b c : α} (h : sle a b = true) (k : sle b c = true) : sle a c = true := by
  unfold sle at *
  rw [Bool.not_eq_true'] at *
  cases q : Srt.lt c a with
  | false => rfl
  | true =>
    cases r : Srt.lt b c with
    | true => have := slt_trans r q; rw [h] at this; cases this
    | false => have e := slt_total r k; subst e; rw [h] at q; cases q
theorem sle_ne {a b : α} (h : sle a b = true) (n : a ≠ b) : Srt.lt a b = true := by
  unfold sle at h
  rw [Bool.not_eq_true'] at h
  cases q : Srt.lt a b with
  | true => rfl
  | false => exact absurd (slt_total q h) n
/-- sorted -/
def ssort (l : List α) : List α := l.mergeSort sle
theorem ssort_perm (l : List α) : (ssort l).Perm l := List.mergeSort_perm _ _
theorem ssort_pw (l : List α) : (ssort l).Pairwise (fun a b => sle a b = true) := List.pairwise_mergeSort (le := sle) (fun _ _ _ h k => sle_trans h k) sle_total l
theorem tSort_ok {l : List α} (h : l.length ≤ 16000000) (hn : ∀ a ∈ l, Srt.ne a = true) : tSort l = .ok (ssort l) := if_pos ⟨lim_of h, List.all_eq_true.mpr hn⟩
/-- two lists in strict order with the same members are one -/
theorem sorted_ext : ∀ {l m : List α}, l.Pairwise (fun a b => Srt.lt a b = true) → m.Pairwise (fun a b => Srt.lt a b = true) → (∀ x, x ∈ l ↔ x ∈ m) → l = m
  | [], [], _, _, _ => rfl
  | [], y :: m, _, _, h => absurd ((h y).mpr List.mem_cons_self) List.not_mem_nil
  | x :: l, [], _, _, h => absurd ((h x).mp List.mem_cons_self) List.not_mem_nil
  | x :: l, y :: m, hl, hm, h => by
    have h1 := List.pairwise_cons.mp hl
    have h2 := List.pairwise_cons.mp hm
    have e : x = y := by
      rcases List.mem_cons.mp ((h x).mp List.mem_cons_self) with e | e
      · exact e
      · rcases List.mem_cons.mp ((h y).mpr List.mem_cons_self) with e2 | e2
        · exact e2.symm
        · have a1 := h1.1 y e2
          have a2 := h2.1 x e
          rw [slt_asymm a1] at a2; cases a2
    subst e
    congr 1
    refine sorted_ext h1.2 h2.2 fun z => ⟨fun hz => ?_, fun hz => ?_⟩
    · rcases List.mem_cons.mp ((h z).mp (List.mem_cons_of_mem _ hz)) with e | e
      · subst e
        have := h1.1 z hz
        rw [slt_irrefl] at this; cases this
      · exact e
    · rcases List.mem_cons.mp ((h z).mpr (List.mem_cons_of_mem _ hz)) with e | e
      · subst e
        have := h2.1 z hz
        rw [slt_irrefl] at this; cases this
      · exact e
theorem ssort_strict {l : List α} (h : l.Nodup) : (ssort l).Pairwise (fun a b => Srt.lt a b = true) := by
  have n : (ssort l).Nodup := (ssort_perm l).nodup_iff.mpr h
  have p := ssort_pw l
  exact (p.and n).imp fun h => sle_ne h.1 h.2
theorem ssort_id {l : List α} (h : l.Pairwise (fun a b => Srt.lt a b = true)) : ssort l = l := by
  refine sorted_ext (ssort_strict ?_) h fun x => (ssort_perm l).mem_iff
  refine h.imp fun {a b} q e => ?_
  subst e
  rw [slt_irrefl] at q; cases q
variable [DecidableEq α]
/-- sorted(set(..)) -/
def sset (l : List α) : List α := ssort (dd l)
theorem mem_sset {l : List α} {x : α} : x ∈ sset l ↔ x ∈ l := by unfold sset; rw [(ssort_perm _).mem_iff, mem_dd]
theorem sset_strict (l : List α) : (sset l).Pairwise (fun a b => Srt.lt a b = true) := ssort_strict (nodup_dd l)
theorem strict_nodup {l : List α} (h : l.Pairwise (fun a b => Srt.lt a b = true)) : l.Nodup := h.imp fun {a b} q e => by
  subst e
  rw [slt_irrefl] at q; cases q
theorem sset_nodup (l : List α) : (sset l).Nodup := strict_nodup (sset_strict l)
theorem tSortSet_ok {l : List α} (h : l.length < 64) (hn : ∀ a ∈ l, Srt.ne a = true) : tSortSet l = .ok (sset l) := if_pos ⟨h, List.all_eq_true.mpr hn⟩
theorem sset_len_le (l : List α) : (sset l).length ≤ l.length := by
  unfold sset
  rw [(ssort_perm _).length_eq]
  exact dd_len_le l
end
theorem slt_tx {a b : Tx} : Srt.lt a b = true ↔ a < b := by
  show decide (a < b) = true ↔ _
  exact decide_eq_true_iff
/-! ### slices -/
section
variable {α : Type}
theorem cutL_to (l : List α) (n : Nat) : cutL l none (some (n : Int)) = l.take n := by
  unfold cutL cutIx
  show (l.drop 0).take ((if (n : Int) < 0 then _ else min (n : Int).toNat l.length) - 0) = _
  rw [if_neg (by omega), Int.toNat_natCast, List.drop_zero, Nat.sub_zero]
  by_cases h : n ≤ l.length
  · rw [Nat.min_eq_left h]
  · rw [Nat.min_eq_right (by omega), List.take_of_length_le (by omega), List.take_of_length_le (by omega)]
theorem cutL_from (l : List α) (n : Nat) : cutL l (some (n : Int)) none = l.drop n := by
  unfold cutL cutIx
  show (l.drop (if (n : Int) < 0 then _ else min (n : Int).toNat l.length)).take (l.length - (if (n : Int) < 0 then _ else min (n : Int).toNat l.length)) = _
  rw [if_neg (by omega), Int.toNat_natCast]
  by_cases h : n ≤ l.length
  · rw [Nat.min_eq_left h, List.take_of_length_le (by rw [List.length_drop]; omega)]
  · rw [Nat.min_eq_right (by omega), List.drop_eq_nil_of_le (Nat.le_refl _), List.drop_eq_nil_of_le (by omega), List.take_nil]
theorem cutL_mid (l : List α) (m n : Nat) : cutL l (some (m : Int)) (some (n : Int)) = (l.drop m).take (n - m) := by
  unfold cutL cutIx
  show (l.drop (if (m : Int) < 0 then _ else min (m : Int).toNat l.length)).take ((if (n : Int) < 0 then _ else min (n : Int).toNat l.length) - (if (m : Int) < 0 then _ else min (m : Int).toNat l.length)) = _
  rw [if_neg (by omega), if_neg (by omega), Int.toNat_natCast, Int.toNat_natCast]
  by_cases h : m ≤ l.length
  · rw [Nat.min_eq_left h]
    by_cases k : n ≤ l.length
    · rw [Nat.min_eq_left k]
    · rw [Nat.min_eq_right (by omega), List.take_of_length_le (by rw [List.length_drop]; omega), List.take_of_length_le (by rw [List.length_drop]; omega)]
  · have e1 : l.drop m = [] := List.drop_eq_nil_of_le (by omega)
    rw [Nat.min_eq_right (a := m) (by omega), e1, List.drop_eq_nil_of_le (Nat.le_refl l.length), List.take_nil, List.take_nil]
end
/-! ### the drawn lists -/
def gL1 (draws : List Int) (k : Int) (sizes : List Int) (signs : Tx) (s : List Tx) (t : Int) : R (List Tx) :=
  let at_98 : Int := k + ((11 : Int) * t)
  (((gMix draws (at_98 + (8 : Int)) ((List.length sizes : Nat) : Int)).bind fun (x99 : Int) => tIx sizes x99).bind fun (x100 : Int) => gText draws at_98 x100 signs).bind fun (text101 : Tx) =>
  (((if ((!decide (s = ([] : List Tx)))) = true then (gMix draws (at_98 + (9 : Int)) (2 : Int)).bind fun (x103 : Int) => R.ok (decide (x103 = (0 : Int))) else R.ok false)).bind fun (b115 : Bool) => (if b115 = true then
    (((gMix draws (at_98 + (10 : Int)) ((List.length s : Nat) : Int)).bind fun (x105 : Int) => tIx s x105).bind fun (old106 : Tx) =>
    (((gMix draws (at_98 + (9 : Int)) ((List.length old106 : Nat) : Int)).bind fun (x107 : Int) => R.ok (x107 :: (((List.length old106 : Nat) : Int) - (1 : Int)) :: ([] : List Int))).bind fun (x108 : List Int) => (gMix draws (at_98 + (10 : Int)) (2 : Int)).bind fun (x109 : Int) => tIx x108 x109).bind fun (spot110 : Int) =>
    ((((gMix draws (at_98 + (8 : Int)) ((List.length signs : Nat) : Int)).bind fun (x111 : Int) => (tIx signs x111).bind fun c => R.ok [c]).bind fun (x112 : Tx) => tCat (cutL old106 none (some spot110)) x112).bind fun (x113 : Tx) => tCat x113 (cutL old106 (some (spot110 + (1 : Int))) none)).bind fun (text114 : Tx) =>
    R.ok text114)
  else (R.ok text101)) : R Tx).bind fun (s116 : Tx) =>
  (tPush s s116).bind fun (found119 : List Tx) =>
  R.ok found119
def gList (draws : List Int) (k : Int) (many : Int) (sizes : List Int) (signs : Tx) : R (List Tx) :=
  let found91 : List Tx := []
  (tRng1 many).bind fun (l149 : List Int) => (forR (gL1 draws k sizes signs) l149 found91).bind fun (s142 : List Tx) =>
  tSortSet s142
structure WordsOk (sizes : List Int) (signs : Tx) (many : Nat) (told : List Tx) : Prop where
  ne : told ≠ []
  few : told.length ≤ many
  sorted : told.Pairwise (fun a b => a < b)
  size : ∀ w ∈ told, (w.length : Int) ∈ sizes
  let_ : ∀ w ∈ told, ∀ c ∈ w, c ∈ signs
theorem gL1_ok {draws : List Int} {k : Int} {sizes : List Int} {signs : Tx} {s : List Tx} {t : Int} (hs : signs ≠ []) (hz : sizes ≠ []) (hz1 : ∀ z ∈ sizes, 1 ≤ z ∧ z ≤ 1000) (hlen : s.length < 1000) (h1 : ∀ w ∈ s, (w.length : Int) ∈ sizes) (h2 : ∀ w ∈ s, ∀ c ∈ w, c ∈ signs) :
    ∃ w : Tx, gL1 draws k sizes signs s t = .ok (s ++ [w]) ∧ (w.length : Int) ∈ sizes ∧ ∀ c ∈ w, c ∈ signs := by
  have hpos : 0 < ((List.length signs : Nat) : Int) := by
    have := List.length_pos_iff.mpr hs
    omega
  have hpz : 0 < ((List.length sizes : Nat) : Int) := by
    have := List.length_pos_iff.mpr hz
    omega
  unfold gL1
  simp only []
  obtain ⟨a1, a2, a3⟩ := gMix_ok draws (k + 11 * t + 8) hpz
  obtain ⟨z, zm, ze⟩ := tIx_mem (l := sizes) a2 a3
  have zb := hz1 z zm
  obtain ⟨w, we, wl, wc⟩ := gText_ok draws (k + 11 * t) (n := z.toNat) (signs := signs) (by omega) hs
  rw [show ((z.toNat : Nat) : Int) = z by omega] at we
  rw [a1, R.bok, ze, R.bok, we, R.bok]
  have push : ∀ v : Tx, (tPush s v).bind (fun (found119 : List Tx) => R.ok found119) = .ok (s ++ [v]) := fun v => by
    rw [tPush_ok (lim_lt (by omega)), R.bok]
  have plain : ∃ w' : Tx, (R.ok w : R Tx).bind (fun (s116 : Tx) => (tPush s s116).bind fun (found119 : List Tx) => R.ok found119) = .ok (s ++ [w']) ∧ (w'.length : Int) ∈ sizes ∧ ∀ c ∈ w', c ∈ signs := by
    refine ⟨w, ?_, ?_, wc⟩
    · rw [R.bok, push]
    · rw [wl, show ((z.toNat : Nat) : Int) = z by omega]; exact zm
  by_cases hne : s = []
  · rw [if_neg (by simp [hne]), R.bok, if_neg (by decide)]
    exact plain
  · rw [if_pos (by simp [hne])]
    obtain ⟨b1, b2, b3⟩ := gMix_ok draws (k + 11 * t + 9) (many := 2) (by decide)
    rw [b1, R.bok, R.bok]
    by_cases hd : mixv draws (k + 11 * t + 9) 2 = 0
    · rw [if_pos (by simp [hd])]
      have hps : 0 < ((List.length s : Nat) : Int) := by
        have := List.length_pos_iff.mpr hne
        omega
      obtain ⟨c1, c2, c3⟩ := gMix_ok draws (k + 11 * t + 10) hps
      obtain ⟨old, om, oe⟩ := tIx_mem (l := s) c2 c3
      rw [c1, R.bok, oe, R.bok]
      have osz := hz1 _ (h1 old om)
      obtain ⟨d1, d2, d3⟩ := gMix_ok draws (k + 11 * t + 9) (many := ((List.length old : Nat) : Int)) (by omega)
      rw [d1, R.bok, R.bok]
      obtain ⟨e1, e2, e3⟩ := gMix_ok draws (k + 11 * t + 10) (many := 2) (by decide)
      rw [e1, R.bok]
      obtain ⟨sp, spm, spe⟩ := tIx_mem (l := [mixv draws (k + 11 * t + 9) ((List.length old : Nat) : Int), ((List.length old : Nat) : Int) - 1]) e2 (by simp only [List.length_cons, List.length_nil]; omega)
      rw [spe, R.bok]
      have spb : 0 ≤ sp ∧ sp < ((List.length old : Nat) : Int) := by
        rcases List.mem_cons.mp spm with h | h
        · rw [h]; exact ⟨d2, d3⟩
        · rw [List.mem_singleton.mp h]; omega
      obtain ⟨f1, f2, f3⟩ := gMix_ok draws (k + 11 * t + 8) hpos
      obtain ⟨c, cm, ce⟩ := tIx_mem (l := signs) f2 f3
      obtain ⟨n, rfl⟩ : ∃ n : Nat, sp = n := ⟨sp.toNat, by omega⟩
      rw [f1, R.bok, ce, R.bok, R.bok, cutL_to, tCat_ok (lim_of (by simp only [List.length_take, List.length_cons, List.length_nil]; omega)), R.bok]
      rw [show ((n : Int) + 1) = ((n + 1 : Nat) : Int) by omega, cutL_from, tCat_ok (lim_of (by simp only [List.length_append, List.length_take, List.length_drop, List.length_cons, List.length_nil]; omega)), R.bok, R.bok, push]
      refine ⟨_, rfl, ?_, fun x hx => ?_⟩
      · have : (old.take n ++ [c] ++ old.drop (n + 1)).length = old.length := by
          simp only [List.length_append, List.length_take, List.length_drop, List.length_cons, List.length_nil]; omega
        rw [this]
        exact h1 old om
      · rcases List.mem_append.mp hx with h | h
        · rcases List.mem_append.mp h with h | h
          · exact h2 old om x (List.mem_of_mem_take h)
          · rw [List.mem_singleton.mp h]; exact cm
        · exact h2 old om x (List.mem_of_mem_drop h)
    · rw [if_neg (by simp [hd])]
      exact plain
theorem gList_ok (draws : List Int) (k : Int) {n : Nat} {sizes : List Int} {signs : Tx} (hn : 1 ≤ n) (hn2 : n < 64) (hs : signs ≠ []) (hz : sizes ≠ []) (hz1 : ∀ z ∈ sizes, 1 ≤ z ∧ z ≤ 1000) : ∃ told, gList draws k (n : Int) sizes signs = .ok told ∧ WordsOk sizes signs n told := by
  unfold gList
  simp only []
  rw [tRng1_nat (by omega), R.bok]
  obtain ⟨s, h1, h2, h3, h4⟩ := forR_inv (f := gL1 draws k sizes signs) (l := rg 0 n) (s := []) (fun pre s => s.length = pre.length ∧ (∀ w ∈ s, (w.length : Int) ∈ sizes) ∧ ∀ w ∈ s, ∀ c ∈ w, c ∈ signs) ⟨rfl, fun w hw => (by cases hw), fun w hw => (by cases hw)⟩ fun pre a post s e ⟨i1, i2, i3⟩ => by
    have hl : pre.length + 1 + post.length = n := by
      have := congrArg List.length e
      rw [rg_length, List.length_append, List.length_cons] at this
      omega
    obtain ⟨w, w1, w2, w3⟩ := gL1_ok (draws := draws) (k := k) (t := a) hs hz hz1 (by omega) i2 i3
    refine ⟨_, w1, by simp [i1], fun v hv => ?_, fun v hv => ?_⟩
    · rcases List.mem_append.mp hv with h | h
      · exact i2 v h
      · rw [List.mem_singleton.mp h]; exact w2
    · rcases List.mem_append.mp hv with h | h
      · exact i3 v h
      · rw [List.mem_singleton.mp h]; exact w3
  rw [rg_length] at h2
  rw [h1, R.bok, tSortSet_ok (by omega) fun _ _ => rfl]
  refine ⟨_, rfl, ?_, ?_, ?_, fun w hw => h3 w (mem_sset.mp hw), fun w hw => h4 w (mem_sset.mp hw)⟩
  · intro e
    cases hs2 : s with
    | nil => rw [hs2] at h2; simp at h2; omega
    | cons x r =>
      have : x ∈ sset s := mem_sset.mpr (by rw [hs2]; exact List.mem_cons_self)
      rw [e] at this
      cases this
  · rw [← h2]; exact sset_len_le s
  · exact (sset_strict s).imp fun h => slt_tx.mp h
end PV

/-! PV44: typed: more runs; letters in texts. -/
namespace PV
open PySem
open En (en de)
section
variable {α β γ σ τ : Type}
theorem forR_push {f : List β → α → R (List β)} {g : α → β} : ∀ {l : List α} (s : List β), (∀ a ∈ l, ∀ s : List β, s.length < 16000000 → f s a = .ok (s ++ [g a])) → s.length + l.length ≤ 16000000 → forR f l s = .ok (s ++ l.map g)
  | [], s, _, _ => by rw [List.map_nil, List.append_nil]; rfl
  | a :: l, s, h, hl => by
    rw [List.length_cons] at hl
    rw [forR_cons, h a List.mem_cons_self s (by omega), R.bok, forR_push _ (fun b hb => h b (List.mem_cons_of_mem _ hb)) (by rw [List.length_append, List.length_singleton]; omega), List.map_cons, List.append_assoc]
    rfl
theorem forR_congr {f g : σ → α → R σ} : ∀ {l : List α} (s : σ), (∀ a ∈ l, ∀ s, f s a = g s a) → forR f l s = forR g l s
  | [], _, _ => rfl
  | a :: l, s, h => by
    rw [forR_cons, forR_cons, h a List.mem_cons_self]
    congr 1
    funext s'
    exact forR_congr s' fun b hb => h b (List.mem_cons_of_mem _ hb)
theorem map_rg_get (l : List α) (g : α → β) (f : Int → β) (h : ∀ (n : Nat) (a : α), l[n]? = some a → f (n : Int) = g a) : (rg 0 l.length).map f = l.map g := by
  apply List.ext_getElem?
  intro n
  rw [rg_nats, List.map_map, List.getElem?_map, List.getElem?_map]
  by_cases hn : n < l.length
  · rw [List.getElem?_range hn, List.getElem?_eq_getElem hn]
    exact congrArg some (h n _ (List.getElem?_eq_getElem hn))
  · rw [List.getElem?_eq_none (by rw [List.length_range]; omega), List.getElem?_eq_none (by omega)]; rfl
theorem dc_ok [En α] {d : R D} {a : α} (h : d = .ok (en a)) : d.bind dc = .ok a := by rw [h, R.bok, dc_en]
theorem RE_ok [En α] {x : R D} {r : R α} {a : α} (h : RE x r) (e : r = .ok a) : x = .ok (en a) := by subst e; exact h
theorem RE_exc [En α] {x : R D} {r : R α} {c : Nat} {z : D} (h : RE x r) (e : r = .exc c z) : x = .exc c z := by subst e; exact h
end
/-! ### a letter's place in a text -/
theorem subAt_one (t : Tx) (c : Ch) (i : Nat) : Builtin.Str.subAt (st t) (st [c]) i = decide (t[i]? = some c) := by
  unfold Builtin.Str.subAt
  show (((st t).cps.extract i (i + 1)) == #[c.v]) = _
  have e : ((st t).cps.extract i (i + 1)).toList = ((vs t).drop i).take 1 := by rw [← st_list]; simp [List.extract_eq_take_drop]
  have h2 : (((st t).cps.extract i (i + 1)) == #[c.v]) = (((vs t).drop i).take 1 == [c.v]) := by
    rw [← e]
    generalize (st t).cps.extract i (i + 1) = a
    cases a with
    | mk l => simp
  rw [h2]
  unfold vs
  cases q : t[i]? with
  | none =>
    have : t.length ≤ i := List.getElem?_eq_none_iff.mp q
    rw [List.drop_eq_nil_of_le (by rw [List.length_map]; exact this)]
    simp
  | some x =>
    obtain ⟨hi, rfl⟩ := List.getElem?_eq_some_iff.mp q
    have e2 : ((t.map Ch.v).drop i).take 1 = [t[i].v] := by
      rw [← List.map_drop, ← List.map_take, List.drop_eq_getElem_cons hi]; rfl
    rw [e2]
    by_cases h : t[i] = c
    · simp [h]
    · have : ¬ t[i].v = c.v := fun z => h (Ch.ext z)
      simp [h, this]
theorem idxOf_le_of {α : Type} [DecidableEq α] {c : α} : ∀ {l : List α} {i : Nat}, l[i]? = some c → l.idxOf c ≤ i
  | [], _, h => by simp at h
  | x :: l, 0, h => by
    have : x = c := by simpa using h
    rw [List.idxOf_cons, this]; simp
  | x :: l, i + 1, h => by
    have ih := idxOf_le_of (l := l) (i := i) (by simpa using h)
    rw [List.idxOf_cons]
    by_cases hx : x = c
    · simp [hx]
    · have : (x == c) = false := by simpa using hx
      rw [this]; simp; omega
theorem tIndexS_one {t : Tx} {c : Ch} (h : c ∈ t) : tIndexS t [c] = .ok ((t.idxOf c : Nat) : Int) := by
  have hi := List.idxOf_lt_length_of_mem h
  have hg : t[t.idxOf c]? = some c := by rw [List.getElem?_eq_getElem hi, List.getElem_idxOf]
  have at1 : ∀ i, StrLaws.At (st t) (st [c]) (st t).cps.size i ↔ t[i]? = some c := fun i => by
    unfold StrLaws.At
    rw [subAt_one, decide_eq_true_eq]
    refine ⟨fun z => z.2, fun z => ⟨?_, z⟩⟩
    have := (List.getElem?_eq_some_iff.mp z).1
    rw [st_size]
    show i + 1 ≤ t.length
    omega
  rcases StrLaws.occ_head (st t) (st [c]) 1 (Nat.le_refl _) with ⟨_, hn⟩ | ⟨i, r, e, ha, hk⟩
  · exact absurd ((at1 _).mpr hg) (hn _)
  · unfold tIndexS
    have e' : Builtin.Str.occurrences (st t) (st [c]) 0 t.length 1 = i :: r := by rw [← st_size t]; exact e
    rw [e']
    have hic := (at1 i).mp ha
    have h1 : ¬ t.idxOf c < i := fun z => hk _ z ((at1 _).mpr hg)
    have h2 := idxOf_le_of hic
    show R.ok ((i : Nat) : Int) = _
    rw [show i = t.idxOf c by omega]
theorem tInS_one (t : Tx) (c : Ch) : tInS [c] t = decide (c ∈ t) := by
  unfold tInS
  have at1 : ∀ i, StrLaws.At (st t) (st [c]) (st t).cps.size i ↔ t[i]? = some c := fun i => by
    unfold StrLaws.At
    rw [subAt_one, decide_eq_true_eq]
    refine ⟨fun z => z.2, fun z => ⟨?_, z⟩⟩
    have := (List.getElem?_eq_some_iff.mp z).1
    rw [st_size]
    show i + 1 ≤ t.length
    omega
  rcases StrLaws.occ_head (st t) (st [c]) 1 (Nat.le_refl _) with ⟨e, hn⟩ | ⟨i, r, e, ha, hk⟩
  · have e' : Builtin.Str.occurrences (st t) (st [c]) 0 t.length 1 = [] := by rw [← st_size t]; exact e
    rw [e']
    have : c ∉ t := fun hc => by
      obtain ⟨i, hi⟩ := List.mem_iff_getElem?.mp hc
      exact hn i ((at1 i).mpr hi)
    simp [this]
  · have e' : Builtin.Str.occurrences (st t) (st [c]) 0 t.length 1 = i :: r := by rw [← st_size t]; exact e
    rw [e']
    have : c ∈ t := List.mem_of_getElem? ((at1 i).mp ha)
    simp [this]
end PV

/-! PV45: typed: words, lists of words, dicts. -/
namespace PV
open PySem
open En (en de)
/-! ### words -/
def gLET : Tx := cs [97, 98, 99, 100, 101, 102, 103, 104, 105, 106, 107, 108, 109, 110, 111, 112, 113, 114, 115, 116, 117, 118, 119, 120, 121, 122]
def gWord (text : Tx) : R Bool :=
  ((if (decide ((1 : Int) ≤ ((List.length text : Nat) : Int))) = true then R.ok (decide (((List.length text : Nat) : Int) ≤ (8 : Int))) else R.ok false)).bind fun (x4 : Bool) => (if Tr.tr x4 = true then (tMap (fun (letter2 : Tx) => (tInS letter2 gLET : Bool)) (lts text)).bind fun (x3 : List Bool) => R.ok (List.all x3 id) else R.ok x4)
def lowC (c : Ch) : Bool := decide (97 ≤ c.v) && decide (c.v ≤ 122)
def isW (w : Tx) : Bool := decide (1 ≤ w.length) && decide (w.length ≤ 8) && w.all lowC
theorem mem_vs {c : Ch} {t : Tx} : c ∈ t ↔ c.v ∈ vs t := by
  unfold vs
  rw [List.mem_map]
  exact ⟨fun h => ⟨c, h, rfl⟩, fun ⟨d, h, e⟩ => (Ch.ext e) ▸ h⟩
theorem mem_LET (c : Ch) : c ∈ gLET ↔ lowC c = true := by
  rw [mem_vs]
  have e : vs gLET = List.range' 97 26 := by decide +kernel
  rw [e, List.mem_range'_1]
  unfold lowC
  rw [Bool.and_eq_true, decide_eq_true_eq, decide_eq_true_eq]
  omega
theorem gWord_ok (w : Tx) : gWord w = .ok (isW w) := by
  unfold gWord isW
  by_cases h1 : 1 ≤ w.length
  · rw [if_pos (decide_eq_true (by omega)), R.bok]
    by_cases h2 : w.length ≤ 8
    · rw [show decide (((List.length w : Nat) : Int) ≤ 8) = true from decide_eq_true (by omega), if_pos (show Tr.tr true = true from rfl), tMap_ok (lim_of (by unfold lts; rw [List.length_map]; omega)), R.bok]
      rw [decide_eq_true h1, decide_eq_true h2, Bool.true_and, Bool.true_and]
      congr 1
      unfold lts
      rw [List.map_map, List.all_map]
      congr 1
      funext c
      show tInS [c] gLET = lowC c
      rw [tInS_one]
      by_cases k : c ∈ gLET
      · rw [decide_eq_true k, (mem_LET c).mp k]
      · rw [decide_eq_false k]
        cases q : lowC c with
        | false => rfl
        | true => exact absurd ((mem_LET c).mpr q) k
    · rw [show decide (((List.length w : Nat) : Int) ≤ 8) = false from decide_eq_false (by omega), if_neg (by decide), decide_eq_false h2]
      simp
  · rw [if_neg (by rw [decide_eq_true_eq]; omega), R.bok, if_neg (by decide), decide_eq_false h1]
    simp
def gChk1 (cW : Nat) (told : List Tx) (_ : Unit) (p : Int × Tx) : R Unit :=
  ((((gWord p.2).bind fun (x10 : Bool) => R.ok (Tr.tr x10)).bind fun (b11 : Bool) => R.ok (!b11)).bind fun (b13 : Bool) => (if b13 = true then R.ok true else (if (decide (p.1 > (0 : Int))) = true then (tIx told (p.1 - (1 : Int))).bind fun (x12 : Tx) => R.ok (tGeS x12 p.2) else R.ok false))).bind fun (b14 : Bool) => if b14 = true then
    (R.exc cW (en (p.1 : Int)))
  else (R.ok ())
def gChk (cS cW : Nat) (told : List Tx) : R Unit :=
  (((if (decide ((1 : Int) ≤ ((List.length told : Nat) : Int))) = true then R.ok (decide (((List.length told : Nat) : Int) ≤ (24 : Int))) else R.ok false)).bind fun (b6 : Bool) => R.ok (!b6)).bind fun (b24 : Bool) => if b24 = true then
    (R.exc cS (en ((List.length told : Nat) : Int)))
  else
    ((forR (gChk1 cW told) (enu 0 told) ()).bind fun (s20 : Unit) => R.ok ())
theorem mem_enu {α : Type} {l : List α} : ∀ {i : Nat} {p : Int × α}, p ∈ enu i l ↔ ∃ n : Nat, p.1 = ((i + n : Nat) : Int) ∧ l[n]? = some p.2 := by
  induction l with
  | nil => intro i p; constructor
           · intro h; cases h
           · rintro ⟨n, _, h⟩; simp at h
  | cons a l ih =>
    intro i p
    rw [enu, List.mem_cons, ih]
    constructor
    · rintro (h | ⟨n, h1, h2⟩)
      · subst h; exact ⟨0, rfl, rfl⟩
      · exact ⟨n + 1, by rw [h1]; omega, by simpa using h2⟩
    · rintro ⟨n, h1, h2⟩
      cases n with
      | zero => left; simp at h2; obtain ⟨p1, p2⟩ := p; simp at h1 h2; rw [h1, h2]
      | succ n => exact .inr ⟨n, by rw [h1]; omega, by simpa using h2⟩
theorem forR_unit {α : Type} {f : Unit → α → R Unit} {l : List α} (h : ∀ a ∈ l, f () a = .ok ()) : forR f l () = .ok () := by
  induction l with
  | nil => rfl
  | cons a l ih => rw [forR_cons, h a List.mem_cons_self, R.bok]; exact ih fun b hb => h b (List.mem_cons_of_mem _ hb)
theorem gChk_ok {cS cW : Nat} {told : List Tx} (h1 : 1 ≤ told.length) (h2 : told.length ≤ 24) (hw : ∀ w ∈ told, isW w = true) (hs : told.Pairwise (fun a b => a < b)) : gChk cS cW told = .ok () := by
  unfold gChk
  rw [if_pos (decide_eq_true (by omega)), R.bok, R.bok, decide_eq_true (show ((List.length told : Nat) : Int) ≤ 24 by omega), if_neg (by decide)]
  rw [forR_unit (f := gChk1 cW told), R.bok]
  intro p hp
  obtain ⟨n, e1, e2⟩ := mem_enu.mp hp
  rw [Nat.zero_add] at e1
  unfold gChk1
  rw [gWord_ok, R.bok, R.bok, R.bok, show Tr.tr (isW p.2) = true from hw _ (List.mem_of_getElem? e2), if_neg (by decide)]
  cases n with
  | zero => rw [if_neg (by rw [e1]; decide), R.bok, if_neg (by decide)]
  | succ n =>
    obtain ⟨hn, e3⟩ := List.getElem?_eq_some_iff.mp e2
    rw [if_pos (decide_eq_true (by omega)), show p.1 - 1 = (n : Int) by omega, tIx_nat (List.getElem?_eq_getElem (show n < told.length by omega)), R.bok, R.bok]
    have lt : told[n] < told[n + 1] := List.pairwise_iff_getElem.mp hs n (n + 1) (by omega) hn (by omega)
    rw [e3] at lt
    unfold tGeS
    rw [decide_eq_true lt, if_neg (by decide)]
/-! ### dicts -/
section
variable {κ ν : Type} [DecidableEq κ]
theorem dlk_mem {l : List (κ × ν)} {k : κ} {v : ν} (h : dlk l k = some v) : (k, v) ∈ l := by
  induction l with
  | nil => cases h
  | cons p l ih =>
    obtain ⟨a, b⟩ := p
    unfold dlk at h
    by_cases e : a = k
    · rw [if_pos e] at h; cases h; subst e; exact List.mem_cons_self
    · rw [if_neg e] at h; exact List.mem_cons_of_mem _ (ih h)
theorem dlk_isSome {l : List (κ × ν)} {k : κ} : (dlk l k).isSome = true ↔ k ∈ l.map (·.1) := by
  induction l with
  | nil => simp [dlk]
  | cons p l ih =>
    obtain ⟨a, b⟩ := p
    unfold dlk
    rw [List.map_cons, List.mem_cons]
    by_cases e : a = k
    · rw [if_pos e]; simp [e]
    · rw [if_neg e, ih]
      exact ⟨fun h => .inr h, fun h => h.resolve_left fun z => e z.symm⟩
theorem dlk_none {l : List (κ × ν)} {k : κ} (h : k ∉ l.map (·.1)) : dlk l k = none := by
  cases q : dlk l k with
  | none => rfl
  | some v => exact absurd (dlk_isSome.mp (by rw [q]; rfl)) h
theorem dlk_of_mem {l : List (κ × ν)} {k : κ} {v : ν} (hn : (l.map (·.1)).Nodup) (h : (k, v) ∈ l) : dlk l k = some v := by
  induction l with
  | nil => cases h
  | cons p l ih =>
    obtain ⟨a, b⟩ := p
    rw [List.map_cons, List.nodup_cons] at hn
    unfold dlk
    rcases List.mem_cons.mp h with e | e
    · cases e; rw [if_pos rfl]
    · have : ¬ a = k := fun z => hn.1 (by subst z; exact List.mem_map.mpr ⟨_, e, rfl⟩)
      rw [if_neg this]; exact ih hn.2 e
theorem dpt_keys (l : List (κ × ν)) (k : κ) (v : ν) : (dpt l k v).map (·.1) = if k ∈ l.map (·.1) then l.map (·.1) else l.map (·.1) ++ [k] := by
  induction l with
  | nil => simp [dpt]
  | cons p l ih =>
    obtain ⟨a, b⟩ := p
    unfold dpt
    by_cases e : a = k
    · rw [if_pos e, if_pos (by rw [List.map_cons]; exact e ▸ List.mem_cons_self)]; rfl
    · rw [if_neg e, List.map_cons, ih, List.map_cons]
      by_cases h : k ∈ l.map (·.1)
      · rw [if_pos h, if_pos (List.mem_cons_of_mem _ h)]
      · rw [if_neg h, if_neg]
        · rfl
        · intro z
          rcases List.mem_cons.mp z with z | z
          · exact e z.symm
          · exact h z
theorem dpt_nodup {l : List (κ × ν)} (k : κ) (v : ν) (h : (l.map (·.1)).Nodup) : ((dpt l k v).map (·.1)).Nodup := by
  rw [dpt_keys]
  by_cases m : k ∈ l.map (·.1)
  · rw [if_pos m]; exact h
  · rw [if_neg m, List.nodup_append]
    refine ⟨h, by simp, fun a ha b hb e => ?_⟩
    rw [List.mem_singleton.mp hb] at e
    subst e
    exact m ha
theorem dlk_dpt (l : List (κ × ν)) (k : κ) (v : ν) (y : κ) : dlk (dpt l k v) y = if y = k then some v else dlk l y := by
  induction l with
  | nil =>
    show (if k = y then some v else none) = _
    by_cases e : y = k
    · rw [if_pos e, if_pos e.symm]
    · rw [if_neg e, if_neg (fun z => e z.symm)]; rfl
  | cons p l ih =>
    obtain ⟨a, b⟩ := p
    unfold dpt
    by_cases e : a = k
    · rw [if_pos e]
      unfold dlk
      by_cases e2 : y = k
      · rw [if_pos e2, if_pos (e.trans e2.symm)]
      · have e3 : ¬ a = y := fun z => e2 (z.symm.trans e)
        rw [if_neg e2, if_neg e3, if_neg e3]
    · rw [if_neg e]
      show (if a = y then some b else dlk (dpt l k v) y) = _
      rw [ih]
      by_cases e2 : a = y
      · rw [if_pos e2, if_neg (fun z => e (e2.trans z))]
        show _ = (if a = y then some b else dlk l y)
        rw [if_pos e2]
      · rw [if_neg e2]
        show _ = (if y = k then some v else (if a = y then some b else dlk l y))
        rw [if_neg e2]
theorem dpt_length_le (l : List (κ × ν)) (k : κ) (v : ν) : (dpt l k v).length ≤ l.length + 1 := by
  have := congrArg List.length (dpt_keys l k v)
  rw [List.length_map] at this
  rw [this]
  by_cases m : k ∈ l.map (·.1)
  · rw [if_pos m, List.length_map]; omega
  · rw [if_neg m, List.length_append, List.length_map, List.length_singleton]; omega
theorem dpt_new {l : List (κ × ν)} {k : κ} {v : ν} (h : k ∉ l.map (·.1)) : dpt l k v = l ++ [(k, v)] := by
  induction l with
  | nil => rfl
  | cons p l ih =>
    obtain ⟨a, b⟩ := p
    rw [List.map_cons, List.mem_cons, not_or] at h
    unfold dpt
    rw [if_neg (fun z => h.1 z.symm), ih h.2]; rfl
theorem tPut_ok {d : Dc κ ν} {k : κ} {v : ν} (h : d.l.length < 16000000) : tPut d k v = .ok ⟨dpt d.l k v⟩ := if_pos (lim_lt h)
theorem tGet_ok {d : Dc κ ν} {k : κ} {v : ν} (h : dlk d.l k = some v) : tGet d k = .ok v := by unfold tGet; rw [h]
/-- {f x: g x for x in l}, the keys unlike -/
theorem dcR_ok {α : Type} {p : α → R Bool} {fk : α → R κ} {fv : α → R ν} {f : α → κ} {g : α → ν} : ∀ {l : List α} (acc : List (κ × ν)), (∀ a ∈ l, p a = .ok true) → (∀ a ∈ l, fk a = .ok (f a)) → (∀ a ∈ l, fv a = .ok (g a)) → (acc.map (·.1) ++ l.map f).Nodup → acc.length + l.length ≤ 16000000 → dcR p fk fv acc l = .ok (acc ++ l.map fun a => (f a, g a))
  | [], acc, _, _, _, _, _ => by rw [List.map_nil, List.append_nil]; rfl
  | a :: l, acc, h1, h2, h3, h4, h5 => by
    rw [List.length_cons] at h5
    unfold dcR
    rw [h1 a List.mem_cons_self, h2 a List.mem_cons_self, h3 a List.mem_cons_self]
    show (if acc.length < LIM then dcR p fk fv (dpt acc (f a) (g a)) l else .bad) = _
    have hn : f a ∉ acc.map (·.1) := fun z => by
      rw [List.map_cons] at h4
      have := (List.nodup_append.mp h4).2.2 (f a) z (f a) List.mem_cons_self
      exact this rfl
    rw [if_pos (lim_lt (by omega)), dpt_new hn, dcR_ok (acc ++ [(f a, g a)]) (fun b hb => h1 b (List.mem_cons_of_mem _ hb)) (fun b hb => h2 b (List.mem_cons_of_mem _ hb)) (fun b hb => h3 b (List.mem_cons_of_mem _ hb)) (by
      rw [List.map_append, List.append_assoc]
      rw [List.map_cons] at h4
      exact h4) (by rw [List.length_append, List.length_singleton]; omega), List.append_assoc, List.map_cons]
    rfl
end
end PV

/-! PV46: typed: groups by a key. -/
namespace PV
open PySem
open En (en de)
section
variable {α κ : Type} [DecidableEq κ]
def upd (P : α → κ) (d : List (κ × List α)) (w : α) : List (κ × List α) := dpt d (P w) ((dlk d (P w)).getD [] ++ [w])
def grp (P : α → κ) (l : List α) : List (κ × List α) := l.foldl (upd P) []
theorem grp_snoc (P : α → κ) (l : List α) (w : α) : grp P (l ++ [w]) = upd P (grp P l) w := by unfold grp; rw [List.foldl_append]; rfl
theorem snoc_ind {p : List α → Prop} (h0 : p []) (h : ∀ l a, p l → p (l ++ [a])) (l : List α) : p l := by
  have : ∀ n (l : List α), l.length = n → p l := by
    intro n
    induction n with
    | zero => intro l e; rw [List.length_eq_zero_iff.mp e]; exact h0
    | succ n ih =>
      intro l e
      have hne : l ≠ [] := fun z => by rw [z] at e; cases e
      rw [← List.dropLast_concat_getLast hne]
      exact h _ _ (ih _ (by rw [List.length_dropLast, e]; rfl))
  exact this _ l rfl
theorem grp_nodup (P : α → κ) (l : List α) : ((grp P l).map (·.1)).Nodup := by
  induction l using snoc_ind with
  | h0 => exact List.nodup_nil
  | h l w ih => rw [grp_snoc]; exact dpt_nodup _ _ ih
theorem dlk_grp (P : α → κ) (l : List α) (k : κ) : dlk (grp P l) k = if l.filter (fun w => decide (P w = k)) = [] then none else some (l.filter fun w => decide (P w = k)) := by
  induction l using snoc_ind with
  | h0 => rfl
  | h l w ih =>
    rw [grp_snoc, List.filter_append]
    unfold upd
    rw [dlk_dpt]
    by_cases e : k = P w
    · subst e
      have e1 : [w].filter (fun v => decide (P v = P w)) = [w] := by simp
      rw [if_pos rfl, e1]
      rw [if_neg (show ¬ l.filter (fun v => decide (P v = P w)) ++ [w] = [] from fun z => by simp at z)]
      rw [ih]
      by_cases q : l.filter (fun v => decide (P v = P w)) = []
      · rw [if_pos q, q]; rfl
      · rw [if_neg q]; rfl
    · have e1 : [w].filter (fun v => decide (P v = k)) = [] := by simp; exact fun z => e z.symm
      rw [if_neg e, ih, e1, List.append_nil]
theorem mem_grp_keys (P : α → κ) (l : List α) (k : κ) : k ∈ (grp P l).map (·.1) ↔ ∃ w ∈ l, P w = k := by
  rw [← dlk_isSome, dlk_grp]
  constructor
  · intro h
    by_cases q : l.filter (fun v => decide (P v = k)) = []
    · rw [if_pos q] at h; cases h
    · obtain ⟨w, hw⟩ := List.exists_mem_of_ne_nil _ q
      rw [List.mem_filter, decide_eq_true_eq] at hw
      exact ⟨w, hw.1, hw.2⟩
  · rintro ⟨w, hw, e⟩
    have : w ∈ l.filter (fun v => decide (P v = k)) := List.mem_filter.mpr ⟨hw, decide_eq_true e⟩
    rw [if_neg (fun z => by rw [z] at this; cases this)]; rfl
theorem grp_len (P : α → κ) (l : List α) : (grp P l).length ≤ l.length := by
  induction l using snoc_ind with
  | h0 => exact Nat.le_refl _
  | h l w ih =>
    rw [grp_snoc, List.length_append, List.length_singleton]
    exact Nat.le_trans (dpt_length_le _ _ _) (by omega)
theorem dlk_grp_get (P : α → κ) (l : List α) (w : α) : ((dlk (grp P l) (P w)).getD []).length ≤ l.length := by
  rw [dlk_grp]
  by_cases q : l.filter (fun v => decide (P v = P w)) = []
  · rw [if_pos q]; exact Nat.zero_le _
  · rw [if_neg q]; exact List.length_filter_le _ _
/-- a loop that groups -/
theorem forR_grp {f : Dc κ (List α) → α → R (Dc κ (List α))} {P : α → κ} {l : List α} (hl : l.length < 16000000) (h : ∀ a ∈ l, ∀ d : List (κ × List α), d.length < 16000000 → ((dlk d (P a)).getD []).length < 16000000 → f ⟨d⟩ a = .ok ⟨upd P d a⟩) : forR f l ⟨[]⟩ = .ok ⟨grp P l⟩ := by
  obtain ⟨s, h1, h2⟩ := forR_inv (f := f) (l := l) (s := ⟨[]⟩) (fun pre s => s = ⟨grp P pre⟩) rfl fun pre a post s e i => by
    subst i
    have hp : pre.length < l.length := by rw [e]; simp
    refine ⟨_, h a (by rw [e]; simp) (grp P pre) (Nat.lt_of_le_of_lt (grp_len _ _) (by omega)) (Nat.lt_of_le_of_lt (dlk_grp_get _ _ _) (by omega)), ?_⟩
    rw [grp_snoc]
  rw [h1, h2]
end
end PV

namespace PV
open PySem L2
/-- the statements of the linked text -/
def topS (i : Nat) : Stmt := PySem.Challenge.pw_wordsatplay_k04_main_patterns_of_words_c.main.body.getD i (.Pass ⟨0, 0, 0, 0⟩)
abbrev gd_LETTERS : D := .str ("abcdefghijklmnopqrstuvwxyz" : Str)
abbrev gd_MOST_LETTERS : D := .int 8
abbrev gd_MOST_WORDS : D := .int 24
abbrev gd_ALPHABET : D := .int 26
def tab : Tab := ⟨[⟨"is_word", ["text"]⟩, ⟨"check_list", ["told"]⟩, ⟨"pattern_of_text", ["text"]⟩, ⟨"check_words", ["words"]⟩, ⟨"pattern", ["text"]⟩, ⟨"are_alike", ["one", "two"]⟩, ⟨"is_pattern", ["told"]⟩, ⟨"classes", ["told"]⟩, ⟨"ways_on", ["most", "left"]⟩, ⟨"bell", ["length"]⟩, ⟨"check_pattern", ["told"]⟩, ⟨"number_of", ["told"]⟩, ⟨"pattern_of", ["length", "number"]⟩, ⟨"words_with", ["told", "letters"]⟩, ⟨"_law_draws", ["script"]⟩, ⟨"_law_mix", ["draws", "k", "many"]⟩, ⟨"_law_text", ["draws", "k", "size", "signs"]⟩, ⟨"_law_list", ["draws", "k", "many", "sizes", "signs"]⟩, ⟨"_law_pattern", ["text"]⟩, ⟨"_law_is_pattern", ["told"]⟩, ⟨"_law_all", ["length"]⟩, ⟨"_law_bell", ["length"]⟩, ⟨"_law_exchanged", ["one", "two"]⟩, ⟨"_law_words", ["length", "signs"]⟩, ⟨"_law_refused", ["which", "one", "two"]⟩, ⟨"law", ["script"]⟩], ["OutOfRange", "WrongSize", "BadWord", "BadPattern"], [("LETTERS", gd_LETTERS), ("MOST_LETTERS", gd_MOST_LETTERS), ("MOST_WORDS", gd_MOST_WORDS), ("ALPHABET", gd_ALPHABET)], ["abs", "all", "enumerate", "int", "len", "list", "max", "min", "range", "set", "sorted", "sum", "super", "tuple"]⟩
theorem bl_abs : ("abs" : Str) ∈ tab.blt := by decide +kernel
theorem bl_all : ("all" : Str) ∈ tab.blt := by decide +kernel
theorem bl_enumerate : ("enumerate" : Str) ∈ tab.blt := by decide +kernel
theorem bl_int : ("int" : Str) ∈ tab.blt := by decide +kernel
theorem bl_len : ("len" : Str) ∈ tab.blt := by decide +kernel
theorem bl_list : ("list" : Str) ∈ tab.blt := by decide +kernel
theorem bl_max : ("max" : Str) ∈ tab.blt := by decide +kernel
theorem bl_min : ("min" : Str) ∈ tab.blt := by decide +kernel
theorem bl_range : ("range" : Str) ∈ tab.blt := by decide +kernel
theorem bl_set : ("set" : Str) ∈ tab.blt := by decide +kernel
theorem bl_sorted : ("sorted" : Str) ∈ tab.blt := by decide +kernel
theorem bl_sum : ("sum" : Str) ∈ tab.blt := by decide +kernel
theorem bl_super : ("super" : Str) ∈ tab.blt := by decide +kernel
theorem bl_tuple : ("tuple" : Str) ∈ tab.blt := by decide +kernel
theorem ok_LETTERS : StrOkay ("abcdefghijklmnopqrstuvwxyz" : Str) := ⟨by decide +kernel, by decide +kernel⟩
theorem gb_LETTERS : (("LETTERS" : Str), gd_LETTERS) ∈ tab.glb := by unfold tab; simp
theorem gb_MOST_LETTERS : (("MOST_LETTERS" : Str), gd_MOST_LETTERS) ∈ tab.glb := by unfold tab; simp
theorem gb_MOST_WORDS : (("MOST_WORDS" : Str), gd_MOST_WORDS) ∈ tab.glb := by unfold tab; simp
theorem gb_ALPHABET : (("ALPHABET" : Str), gd_ALPHABET) ∈ tab.glb := by unfold tab; simp
theorem so0 : StrOkay "" := ⟨by decide +kernel, by decide +kernel⟩
theorem so1 : StrOkay "range" := ⟨by decide +kernel, by decide +kernel⟩
theorem so2 : StrOkay "pattern" := ⟨by decide +kernel, by decide +kernel⟩
theorem so3 : StrOkay "size" := ⟨by decide +kernel, by decide +kernel⟩
theorem so4 : StrOkay "word" := ⟨by decide +kernel, by decide +kernel⟩
theorem so5 : StrOkay "abcdefghijklm" := ⟨by decide +kernel, by decide +kernel⟩
theorem so6 : StrOkay "abcz" := ⟨by decide +kernel, by decide +kernel⟩
theorem so7 : StrOkay "ab" := ⟨by decide +kernel, by decide +kernel⟩
theorem so8 : StrOkay "abcd" := ⟨by decide +kernel, by decide +kernel⟩
theorem so9 : StrOkay "aB" := ⟨by decide +kernel, by decide +kernel⟩
theorem so10 : StrOkay "abcdefghi" := ⟨by decide +kernel, by decide +kernel⟩
theorem so11 : StrOkay "a" := ⟨by decide +kernel, by decide +kernel⟩
theorem so12 : StrOkay "b" := ⟨by decide +kernel, by decide +kernel⟩
theorem so13 : StrOkay "1" := ⟨by decide +kernel, by decide +kernel⟩
/-! ### is_word -/
abbrev st0 : Stmt := topS 10
def N0 : List Str := ["text", "letter"]
def sc0 : List (Str × NameKind) := [(("text" : Str), NameKind.local), (("len" : Str), NameKind.globalImplicit), (("MOST_LETTERS" : Str), NameKind.globalImplicit), (("all" : Str), NameKind.globalImplicit)]
theorem fs0 : FnScope N0 ["text"] (defScope st0) := ⟨rfl, rfl, rfl, by decide +kernel, rfl, by decide +kernel, by decide +kernel⟩
theorem v_sc0_0 {k : Nat} {ev : Ev} {p : Pos} : SV tab N0 k ev sc0 (.Name ("text" : Str) p) (eVar 0) := sv_var (kd := .local) (by decide +kernel) (by decide +kernel) (.inl rfl) (by decide +kernel) (by decide +kernel)
def sc0_1 : List (Str × NameKind) := [((".0" : Str), NameKind.local), (("letter" : Str), NameKind.local), (("LETTERS" : Str), NameKind.globalImplicit)]
theorem v_sc0_1_1 {k : Nat} {ev : Ev} {p : Pos} : SV tab N0 k ev sc0_1 (.Name ("letter" : Str) p) (eVar 1) := sv_var (kd := .local) (by decide +kernel) (by decide +kernel) (.inl rfl) (by decide +kernel) (by decide +kernel)
theorem g_sc0_1_LETTERS : sc0_1.lookup ("LETTERS" : Str) = some .globalImplicit := by decide +kernel
theorem g_sc0_all : sc0.lookup ("all" : Str) = some .globalImplicit := by decide +kernel
theorem g_sc0_len : sc0.lookup ("len" : Str) = some .globalImplicit := by decide +kernel
theorem g_sc0_MOST_LETTERS : sc0.lookup ("MOST_LETTERS" : Str) = some .globalImplicit := by decide +kernel
def f0 : FS := (sRet (eAnd (eChain pLe pLe (eC (.int 1)) (eB (b1 pLen) (aCons (eVar 0) aNil)) (eC gd_MOST_LETTERS)) (eB (b1 pAll) (aCons (eLc [1] (.v 1) (iVal (eVar 0)) tYesF (e2 pIn (eVar 1) (eC gd_LETTERS))) aNil))))
theorem bd0 (k : Nat) (ev : Ev) : SSs tab N0 k ev sc0 (defBody st0) f0 :=
  (sss_one (ss_ret (sv_and (sv_chain ok_le ok_le (sv_int).b (sv_bi g_sc0_len bl_len bt_len ca_len (sab_cons (v_sc0_0).b sab_nil rfl) (by decide +kernel) (by decide +kernel) rfl).b (sv_glob g_sc0_MOST_LETTERS gb_MOST_LETTERS (by decide +kernel)).b rfl) (sv_one (sv_bi g_sc0_all bl_all bt_all ca_all (sab_cons (sf_lc2 (own := [("letter", 1)]) (sc2 := sc0_1) (by decide +kernel) (by decide +kernel) (si_val v_sc0_0) (sg_name (kd := .local) (by decide +kernel) (by decide +kernel) (.inl rfl)) .nil (sv_in v_sc0_1_1 (sv_glob g_sc0_1_LETTERS gb_LETTERS (by decide +kernel)).b rfl) (by decide +kernel) rfl).v.b sab_nil rfl) (by decide +kernel) (by decide +kernel) rfl)))))
theorem w0 : Body tab ⟨"is_word", ["text"]⟩ (f0, 2, 1) (defBody st0) (defScope st0) := ⟨N0, fs0, rfl, rfl, fun k ev => bd0 k ev⟩
/-! ### check_list -/
abbrev st1 : Stmt := topS 11
def N1 : List Str := ["told", "k", "text"]
def sc1 : List (Str × NameKind) := [(("told" : Str), NameKind.local), (("k" : Str), NameKind.local), (("text" : Str), NameKind.local), (("len" : Str), NameKind.globalImplicit), (("MOST_WORDS" : Str), NameKind.globalImplicit), (("WrongSize" : Str), NameKind.globalImplicit), (("enumerate" : Str), NameKind.globalImplicit), (("is_word" : Str), NameKind.globalImplicit), (("BadWord" : Str), NameKind.globalImplicit)]
theorem fs1 : FnScope N1 ["told"] (defScope st1) := ⟨rfl, rfl, rfl, by decide +kernel, rfl, by decide +kernel, by decide +kernel⟩
theorem v_sc1_0 {k : Nat} {ev : Ev} {p : Pos} : SV tab N1 k ev sc1 (.Name ("told" : Str) p) (eVar 0) := sv_var (kd := .local) (by decide +kernel) (by decide +kernel) (.inl rfl) (by decide +kernel) (by decide +kernel)
theorem g_sc1_len : sc1.lookup ("len" : Str) = some .globalImplicit := by decide +kernel
theorem g_sc1_MOST_WORDS : sc1.lookup ("MOST_WORDS" : Str) = some .globalImplicit := by decide +kernel
theorem g_sc1_WrongSize : sc1.lookup ("WrongSize" : Str) = some .globalImplicit := by decide +kernel
theorem g_sc1_enumerate : sc1.lookup ("enumerate" : Str) = some .globalImplicit := by decide +kernel
theorem v_sc1_1 {k : Nat} {ev : Ev} {p : Pos} : SV tab N1 k ev sc1 (.Name ("k" : Str) p) (eVar 1) := sv_var (kd := .local) (by decide +kernel) (by decide +kernel) (.inl rfl) (by decide +kernel) (by decide +kernel)
theorem v_sc1_2 {k : Nat} {ev : Ev} {p : Pos} : SV tab N1 k ev sc1 (.Name ("text" : Str) p) (eVar 2) := sv_var (kd := .local) (by decide +kernel) (by decide +kernel) (.inl rfl) (by decide +kernel) (by decide +kernel)
theorem g_sc1_is_word : sc1.lookup ("is_word" : Str) = some .globalImplicit := by decide +kernel
theorem g_sc1_BadWord : sc1.lookup ("BadWord" : Str) = some .globalImplicit := by decide +kernel
def f1 : FS := (sSeq (sIf (eTNot (eTB (eChain pLe pLe (eC (.int 1)) (eB (b1 pLen) (aCons (eVar 0) aNil)) (eC gd_MOST_WORDS)))) (sRaise 1 (eB (b1 pLen) (aCons (eVar 0) aNil)))
    sNil)
    (sFor (.t [(.v 1), (.v 2)]) (iB (q1 pEnum) (aCons (eVar 0) aNil))
    (sIf (eTOr (eTNot (eT (eCall 0 (aCons (eVar 2) aNil)))) (eTAnd (eTB (e2 pGt (eVar 1) (eC (.int 0)))) (eTB (e2 pGe (e2 pIdx (eVar 0) (e2 pSub (eVar 1) (eC (.int 1)))) (eVar 2))))) (sRaise 2 (eVar 1))
    sNil)))
theorem bd1 (k : Nat) (ev : Ev) : SSs tab N1 k ev sc1 (defBody st1) f1 :=
  (sss_cons (ss_if (st_not (st_chain ok_le ok_le (sv_int).b (sv_bi g_sc1_len bl_len bt_len ca_len (sab_cons (v_sc1_0).b sab_nil rfl) (by decide +kernel) (by decide +kernel) rfl).b (sv_glob g_sc1_MOST_WORDS gb_MOST_WORDS (by decide +kernel)).b rfl)) (sss_one (ss_raise (c := 1) rfl g_sc1_WrongSize (by decide +kernel) rfl (sv_bi g_sc1_len bl_len bt_len ca_len (sab_cons (v_sc1_0).b sab_nil rfl) (by decide +kernel) (by decide +kernel) rfl)))
    sss_nil)
    (sss_one (ss_for (si_enum rfl g_sc1_enumerate bl_enumerate (sa_cons v_sc1_0 sa_nil rfl) rfl) (sg_tup (sgs_cons (sg_name (kd := .local) (by decide +kernel) (by decide +kernel) (.inl rfl)) (sgs_cons (sg_name (kd := .local) (by decide +kernel) (by decide +kernel) (.inl rfl)) sgs_nil rfl) rfl)) (sss_one (ss_if (SPW.st (sw_or (st_not (st_truth rfl (sv_call (j := 0) (fi := ⟨"is_word", ["text"]⟩) rfl g_sc1_is_word (sa_cons v_sc1_2 sa_nil rfl) (.cons .nil) (by decide +kernel) rfl).b)) (sw_or1 (SPW.st (sw_and (st_cmp ok_gt (v_sc1_1).b (sv_int).b rfl) (sw_and1 (st_cmp ok_ge (sv_idx (v_sc1_0).b (sv_bin ok_sub v_sc1_1 sv_int) rfl).b (v_sc1_2).b rfl))))))) (sss_one (ss_raise (c := 2) rfl g_sc1_BadWord (by decide +kernel) rfl v_sc1_1))
    sss_nil)) (noFold rfl))))
theorem w1 : Body tab ⟨"check_list", ["told"]⟩ (f1, 3, 1) (defBody st1) (defScope st1) := ⟨N1, fs1, rfl, rfl, fun k ev => bd1 k ev⟩
/-! ### pattern_of_text -/
abbrev st2 : Stmt := topS 14
def N2 : List Str := ["text", "seen", "found", "letter"]
def sc2 : List (Str × NameKind) := [(("text" : Str), NameKind.local), (("seen" : Str), NameKind.local), (("found" : Str), NameKind.local), (("letter" : Str), NameKind.local), (("tuple" : Str), NameKind.globalImplicit)]
theorem fs2 : FnScope N2 ["text"] (defScope st2) := ⟨rfl, rfl, rfl, by decide +kernel, rfl, by decide +kernel, by decide +kernel⟩
theorem v_sc2_0 {k : Nat} {ev : Ev} {p : Pos} : SV tab N2 k ev sc2 (.Name ("text" : Str) p) (eVar 0) := sv_var (kd := .local) (by decide +kernel) (by decide +kernel) (.inl rfl) (by decide +kernel) (by decide +kernel)
theorem v_sc2_3 {k : Nat} {ev : Ev} {p : Pos} : SV tab N2 k ev sc2 (.Name ("letter" : Str) p) (eVar 3) := sv_var (kd := .local) (by decide +kernel) (by decide +kernel) (.inl rfl) (by decide +kernel) (by decide +kernel)
theorem b_sc2_1 {k : Nat} {ev : Ev} {p : Pos} : SB tab N2 k ev sc2 (.Name ("seen" : Str) p) (eBor 1) := sb_var (kd := .local) (by decide +kernel) (by decide +kernel) (.inl rfl) (by decide +kernel) (by decide +kernel)
theorem b_sc2_2 {k : Nat} {ev : Ev} {p : Pos} : SB tab N2 k ev sc2 (.Name ("found" : Str) p) (eBor 2) := sb_var (kd := .local) (by decide +kernel) (by decide +kernel) (.inl rfl) (by decide +kernel) (by decide +kernel)
theorem g_sc2_tuple : sc2.lookup ("tuple" : Str) = some .globalImplicit := by decide +kernel
def f2 : FS := (sSeq (sSet 1 (nF (eLst aNil)))
    (sSeq (sSet 2 (nF (eLst aNil)))
    (sSeq (sFor (.v 3) (iVal (eVar 0))
    (sSeq (sIf (eTB (e2 pNotIn (eVar 3) (eBor 1))) (sApp 1 (eVar 3))
    sNil)
    (sApp 2 (eM2 isL mIndexL isS mIndexS (eBor 1) (aCons (eVar 3) aNil)))))
    (sRet (eB (b1 pTuple) (aCons (eBor 2) aNil))))))
theorem bd2 (k : Nat) (ev : Ev) : SSs tab N2 k ev sc2 (defBody st2) f2 :=
  (sss_cons (ss_set (kd := .local) (by decide +kernel) (by decide +kernel) (.inl rfl) (sw_no rfl) (sf_lst sa_nil).n)
    (sss_cons (ss_set (kd := .local) (by decide +kernel) (by decide +kernel) (.inl rfl) (sw_no rfl) (sf_lst sa_nil).n)
    (sss_cons (ss_for (si_val v_sc2_0) (sg_name (kd := .local) (by decide +kernel) (by decide +kernel) (.inl rfl)) (sss_cons (ss_if (st_notin v_sc2_3 b_sc2_1 rfl) (sss_one (ss_append (kd := .local) (i := 1) (by decide +kernel) (by decide +kernel) (.inl rfl) (by decide +kernel) (by decide +kernel) v_sc2_3 rfl rfl))
    sss_nil)
    (sss_one (ss_append (kd := .local) (i := 2) (by decide +kernel) (by decide +kernel) (.inl rfl) (by decide +kernel) (by decide +kernel) (sv_m2 me_indexL me_indexS (fun _ => rfl) b_sc2_1 (sab_cons (v_sc2_3).b sab_nil rfl) rfl rfl rfl) rfl rfl))) (noFold rfl))
    (sss_one (ss_ret (sv_ty g_sc2_tuple bl_tuple bt_tuple ca_tuple (sab_cons b_sc2_2 sab_nil rfl) (by decide +kernel) (by decide +kernel) rfl))))))
theorem w2 : Body tab ⟨"pattern_of_text", ["text"]⟩ (f2, 4, 1) (defBody st2) (defScope st2) := ⟨N2, fs2, rfl, rfl, fun k ev => bd2 k ev⟩
/-! ### check_words -/
abbrev st3 : Stmt := topS 15
def N3 : List Str := ["words", "k", "text"]
def sc3 : List (Str × NameKind) := [(("words" : Str), NameKind.local), (("k" : Str), NameKind.local), (("text" : Str), NameKind.local), (("enumerate" : Str), NameKind.globalImplicit), (("is_word" : Str), NameKind.globalImplicit), (("BadWord" : Str), NameKind.globalImplicit)]
theorem fs3 : FnScope N3 ["words"] (defScope st3) := ⟨rfl, rfl, rfl, by decide +kernel, rfl, by decide +kernel, by decide +kernel⟩
theorem v_sc3_0 {k : Nat} {ev : Ev} {p : Pos} : SV tab N3 k ev sc3 (.Name ("words" : Str) p) (eVar 0) := sv_var (kd := .local) (by decide +kernel) (by decide +kernel) (.inl rfl) (by decide +kernel) (by decide +kernel)
theorem g_sc3_enumerate : sc3.lookup ("enumerate" : Str) = some .globalImplicit := by decide +kernel
theorem v_sc3_2 {k : Nat} {ev : Ev} {p : Pos} : SV tab N3 k ev sc3 (.Name ("text" : Str) p) (eVar 2) := sv_var (kd := .local) (by decide +kernel) (by decide +kernel) (.inl rfl) (by decide +kernel) (by decide +kernel)
theorem g_sc3_is_word : sc3.lookup ("is_word" : Str) = some .globalImplicit := by decide +kernel
theorem v_sc3_1 {k : Nat} {ev : Ev} {p : Pos} : SV tab N3 k ev sc3 (.Name ("k" : Str) p) (eVar 1) := sv_var (kd := .local) (by decide +kernel) (by decide +kernel) (.inl rfl) (by decide +kernel) (by decide +kernel)
theorem g_sc3_BadWord : sc3.lookup ("BadWord" : Str) = some .globalImplicit := by decide +kernel
def f3 : FS := (sFor (.t [(.v 1), (.v 2)]) (iB (q1 pEnum) (aCons (eVar 0) aNil))
    (sIf (eTNot (eT (eCall 0 (aCons (eVar 2) aNil)))) (sRaise 2 (eVar 1))
    sNil))
theorem bd3 (k : Nat) (ev : Ev) : SSs tab N3 k ev sc3 (defBody st3) f3 :=
  (sss_one (ss_for (si_enum rfl g_sc3_enumerate bl_enumerate (sa_cons v_sc3_0 sa_nil rfl) rfl) (sg_tup (sgs_cons (sg_name (kd := .local) (by decide +kernel) (by decide +kernel) (.inl rfl)) (sgs_cons (sg_name (kd := .local) (by decide +kernel) (by decide +kernel) (.inl rfl)) sgs_nil rfl) rfl)) (sss_one (ss_if (st_not (st_truth rfl (sv_call (j := 0) (fi := ⟨"is_word", ["text"]⟩) rfl g_sc3_is_word (sa_cons v_sc3_2 sa_nil rfl) (.cons .nil) (by decide +kernel) rfl).b)) (sss_one (ss_raise (c := 2) rfl g_sc3_BadWord (by decide +kernel) rfl v_sc3_1))
    sss_nil)) (noFold rfl)))
theorem w3 : Body tab ⟨"check_words", ["words"]⟩ (f3, 3, 1) (defBody st3) (defScope st3) := ⟨N3, fs3, rfl, rfl, fun k ev => bd3 k ev⟩
/-! ### pattern -/
abbrev st4 : Stmt := topS 16
def N4 : List Str := ["text"]
def sc4 : List (Str × NameKind) := [(("text" : Str), NameKind.local), (("check_words" : Str), NameKind.globalImplicit), (("pattern_of_text" : Str), NameKind.globalImplicit)]
theorem fs4 : FnScope N4 ["text"] (defScope st4) := ⟨rfl, rfl, rfl, by decide +kernel, rfl, by decide +kernel, by decide +kernel⟩
theorem v_sc4_0 {k : Nat} {ev : Ev} {p : Pos} : SV tab N4 k ev sc4 (.Name ("text" : Str) p) (eVar 0) := sv_var (kd := .local) (by decide +kernel) (by decide +kernel) (.inl rfl) (by decide +kernel) (by decide +kernel)
theorem g_sc4_check_words : sc4.lookup ("check_words" : Str) = some .globalImplicit := by decide +kernel
theorem g_sc4_pattern_of_text : sc4.lookup ("pattern_of_text" : Str) = some .globalImplicit := by decide +kernel
def f4 : FS := (sSeq (sExpr (eCall 3 (aCons (eLst (aCons (eVar 0) aNil)) aNil)))
    (sRet (eCall 2 (aCons (eVar 0) aNil))))
theorem bd4 (k : Nat) (ev : Ev) : SSs tab N4 k ev sc4 (defBody st4) f4 :=
  (sss_cons (ss_expr rfl (sv_call (j := 3) (fi := ⟨"check_words", ["words"]⟩) rfl g_sc4_check_words (sa_cons (sf_lst (sa_cons v_sc4_0 sa_nil rfl)).v sa_nil rfl) (.cons .nil) (by decide +kernel) rfl).b)
    (sss_one (ss_ret (sv_call (j := 2) (fi := ⟨"pattern_of_text", ["text"]⟩) rfl g_sc4_pattern_of_text (sa_cons v_sc4_0 sa_nil rfl) (.cons .nil) (by decide +kernel) rfl))))
theorem w4 : Body tab ⟨"pattern", ["text"]⟩ (f4, 1, 1) (defBody st4) (defScope st4) := ⟨N4, fs4, rfl, rfl, fun k ev => bd4 k ev⟩
/-! ### are_alike -/
abbrev st5 : Stmt := topS 17
def N5 : List Str := ["one", "two"]
def sc5 : List (Str × NameKind) := [(("one" : Str), NameKind.local), (("two" : Str), NameKind.local), (("check_words" : Str), NameKind.globalImplicit), (("pattern_of_text" : Str), NameKind.globalImplicit)]
theorem fs5 : FnScope N5 ["one", "two"] (defScope st5) := ⟨rfl, rfl, rfl, by decide +kernel, rfl, by decide +kernel, by decide +kernel⟩
theorem v_sc5_1 {k : Nat} {ev : Ev} {p : Pos} : SV tab N5 k ev sc5 (.Name ("two" : Str) p) (eVar 1) := sv_var (kd := .local) (by decide +kernel) (by decide +kernel) (.inl rfl) (by decide +kernel) (by decide +kernel)
theorem v_sc5_0 {k : Nat} {ev : Ev} {p : Pos} : SV tab N5 k ev sc5 (.Name ("one" : Str) p) (eVar 0) := sv_var (kd := .local) (by decide +kernel) (by decide +kernel) (.inl rfl) (by decide +kernel) (by decide +kernel)
theorem g_sc5_check_words : sc5.lookup ("check_words" : Str) = some .globalImplicit := by decide +kernel
theorem g_sc5_pattern_of_text : sc5.lookup ("pattern_of_text" : Str) = some .globalImplicit := by decide +kernel
def f5 : FS := (sSeq (sExpr (eCall 3 (aCons (eLst (aCons (eVar 0) (aCons (eVar 1) aNil))) aNil)))
    (sRet (e2 pEq2 (eCall 2 (aCons (eVar 0) aNil)) (eCall 2 (aCons (eVar 1) aNil)))))
theorem bd5 (k : Nat) (ev : Ev) : SSs tab N5 k ev sc5 (defBody st5) f5 :=
  (sss_cons (ss_expr rfl (sv_call (j := 3) (fi := ⟨"check_words", ["words"]⟩) rfl g_sc5_check_words (sa_cons (sf_lst (sa_cons v_sc5_0 (sa_cons v_sc5_1 sa_nil rfl) rfl)).v sa_nil rfl) (.cons .nil) (by decide +kernel) rfl).b)
    (sss_one (ss_ret (sv_cmp ok_eq2 (sv_call (j := 2) (fi := ⟨"pattern_of_text", ["text"]⟩) rfl g_sc5_pattern_of_text (sa_cons v_sc5_0 sa_nil rfl) (.cons .nil) (by decide +kernel) rfl).b (sv_call (j := 2) (fi := ⟨"pattern_of_text", ["text"]⟩) rfl g_sc5_pattern_of_text (sa_cons v_sc5_1 sa_nil rfl) (.cons .nil) (by decide +kernel) rfl).b rfl))))
theorem w5 : Body tab ⟨"are_alike", ["one", "two"]⟩ (f5, 2, 2) (defBody st5) (defScope st5) := ⟨N5, fs5, rfl, rfl, fun k ev => bd5 k ev⟩
/-! ### is_pattern -/
abbrev st6 : Stmt := topS 18
def N6 : List Str := ["told", "most", "number"]
def sc6 : List (Str × NameKind) := [(("told" : Str), NameKind.local), (("most" : Str), NameKind.local), (("number" : Str), NameKind.local), (("max" : Str), NameKind.globalImplicit), (("len" : Str), NameKind.globalImplicit)]
theorem fs6 : FnScope N6 ["told"] (defScope st6) := ⟨rfl, rfl, rfl, by decide +kernel, rfl, by decide +kernel, by decide +kernel⟩
theorem v_sc6_0 {k : Nat} {ev : Ev} {p : Pos} : SV tab N6 k ev sc6 (.Name ("told" : Str) p) (eVar 0) := sv_var (kd := .local) (by decide +kernel) (by decide +kernel) (.inl rfl) (by decide +kernel) (by decide +kernel)
theorem v_sc6_2 {k : Nat} {ev : Ev} {p : Pos} : SV tab N6 k ev sc6 (.Name ("number" : Str) p) (eVar 2) := sv_var (kd := .local) (by decide +kernel) (by decide +kernel) (.inl rfl) (by decide +kernel) (by decide +kernel)
theorem v_sc6_1 {k : Nat} {ev : Ev} {p : Pos} : SV tab N6 k ev sc6 (.Name ("most" : Str) p) (eVar 1) := sv_var (kd := .local) (by decide +kernel) (by decide +kernel) (.inl rfl) (by decide +kernel) (by decide +kernel)
theorem g_sc6_max : sc6.lookup ("max" : Str) = some .globalImplicit := by decide +kernel
theorem g_sc6_len : sc6.lookup ("len" : Str) = some .globalImplicit := by decide +kernel
def f6 : FS := (sSeq (sSet 1 (nV (e1 pNeg (eC (.int 1)))))
    (sSeq (sFor (.v 2) (iVal (eVar 0))
    (sSeq (sIf (eTNot (eTB (eChain pLe pLe (eC (.int 0)) (eVar 2) (e2 pAdd (eVar 1) (eC (.int 1)))))) (sRet (eC (.bool false)))
    sNil)
    (sSet 1 (nV (eB (b2 pMax2) (aCons (eVar 1) (aCons (eVar 2) aNil)))))))
    (sRet (e2 pGt (eB (b1 pLen) (aCons (eVar 0) aNil)) (eC (.int 0))))))
theorem bd6 (k : Nat) (ev : Ev) : SSs tab N6 k ev sc6 (defBody st6) f6 :=
  (sss_cons (ss_set (kd := .local) (by decide +kernel) (by decide +kernel) (.inl rfl) (sw_no rfl) (sv_neg (sv_int).b).n)
    (sss_cons (ss_for (si_val v_sc6_0) (sg_name (kd := .local) (by decide +kernel) (by decide +kernel) (.inl rfl)) (sss_cons (ss_if (st_not (st_chain ok_le ok_le (sv_int).b (v_sc6_2).b (sv_bin ok_add v_sc6_1 sv_int).b rfl)) (sss_one (ss_ret sv_bool))
    sss_nil)
    (sss_one (ss_set (kd := .local) (by decide +kernel) (by decide +kernel) (.inl rfl) (sw_no rfl) (sv_bi g_sc6_max bl_max bt_max ca_max2 (sab_cons (v_sc6_1).b (sab_cons (v_sc6_2).b sab_nil rfl) rfl) (by decide +kernel) (by decide +kernel) rfl).n))) (noFold rfl))
    (sss_one (ss_ret (sv_cmp ok_gt (sv_bi g_sc6_len bl_len bt_len ca_len (sab_cons (v_sc6_0).b sab_nil rfl) (by decide +kernel) (by decide +kernel) rfl).b (sv_int).b rfl)))))
theorem w6 : Body tab ⟨"is_pattern", ["told"]⟩ (f6, 3, 1) (defBody st6) (defScope st6) := ⟨N6, fs6, rfl, rfl, fun k ev => bd6 k ev⟩
/-! ### classes -/
abbrev st7 : Stmt := topS 19
def N7 : List Str := ["told", "found", "text", "there"]
def sc7 : List (Str × NameKind) := [(("told" : Str), NameKind.local), (("found" : Str), NameKind.cell), (("text" : Str), NameKind.local), (("check_list" : Str), NameKind.globalImplicit), (("pattern_of_text" : Str), NameKind.globalImplicit), (("sorted" : Str), NameKind.globalImplicit)]
theorem fs7 : FnScope N7 ["told"] (defScope st7) := ⟨rfl, rfl, rfl, by decide +kernel, rfl, by decide +kernel, by decide +kernel⟩
theorem v_sc7_0 {k : Nat} {ev : Ev} {p : Pos} : SV tab N7 k ev sc7 (.Name ("told" : Str) p) (eVar 0) := sv_var (kd := .local) (by decide +kernel) (by decide +kernel) (.inl rfl) (by decide +kernel) (by decide +kernel)
theorem g_sc7_check_list : sc7.lookup ("check_list" : Str) = some .globalImplicit := by decide +kernel
theorem v_sc7_2 {k : Nat} {ev : Ev} {p : Pos} : SV tab N7 k ev sc7 (.Name ("text" : Str) p) (eVar 2) := sv_var (kd := .local) (by decide +kernel) (by decide +kernel) (.inl rfl) (by decide +kernel) (by decide +kernel)
theorem b_sc7_1 {k : Nat} {ev : Ev} {p : Pos} : SB tab N7 k ev sc7 (.Name ("found" : Str) p) (eBor 1) := sb_var (kd := .cell) (by decide +kernel) (by decide +kernel) (.inr (.inl rfl)) (by decide +kernel) (by decide +kernel)
theorem g_sc7_pattern_of_text : sc7.lookup ("pattern_of_text" : Str) = some .globalImplicit := by decide +kernel
theorem g_sc7_sorted : sc7.lookup ("sorted" : Str) = some .globalImplicit := by decide +kernel
def sc7_1 : List (Str × NameKind) := [((".0" : Str), NameKind.local), (("there" : Str), NameKind.local), (("found" : Str), NameKind.cell)]
theorem v_sc7_1_3 {k : Nat} {ev : Ev} {p : Pos} : SV tab N7 k ev sc7_1 (.Name ("there" : Str) p) (eVar 3) := sv_var (kd := .local) (by decide +kernel) (by decide +kernel) (.inl rfl) (by decide +kernel) (by decide +kernel)
theorem b_sc7_1_1 {k : Nat} {ev : Ev} {p : Pos} : SB tab N7 k ev sc7_1 (.Name ("found" : Str) p) (eBor 1) := sb_var (kd := .cell) (by decide +kernel) (by decide +kernel) (.inr (.inl rfl)) (by decide +kernel) (by decide +kernel)
def f7 : FS := (sSeq (sExpr (eCall 1 (aCons (eVar 0) aNil)))
    (sSeq (sSet 1 (nF (eC (.dict []))))
    (sSeq (sFor (.v 2) (iVal (eVar 0))
    (sPut 1 (eCall 2 (aCons (eVar 2) aNil)) (eLst (aStar (eM isDc mGet (eBor 1) (aCons (eCall 2 (aCons (eVar 2) aNil)) (aCons (eLst aNil) aNil))) (aCons (eVar 2) aNil)))))
    (sRet (eDc [3] (.v 3) (iVal (eB (b1 pSorted) (aCons (eBor 1) aNil))) tYesF (eVar 3) (e2 pIdx (eBor 1) (eVar 3)))))))
theorem bd7 (k : Nat) (ev : Ev) : SSs tab N7 k ev sc7 (defBody st7) f7 :=
  (sss_cons (ss_expr rfl (sv_call (j := 1) (fi := ⟨"check_list", ["told"]⟩) rfl g_sc7_check_list (sa_cons v_sc7_0 sa_nil rfl) (.cons .nil) (by decide +kernel) rfl).b)
    (sss_cons (ss_set (kd := .cell) (by decide +kernel) (by decide +kernel) (.inr rfl) (sw_no rfl) (sf_dict).n)
    (sss_cons (ss_for (si_val v_sc7_0) (sg_name (kd := .local) (by decide +kernel) (by decide +kernel) (.inl rfl)) (sss_one (ss_put (kd := .cell) (i := 1) (by decide +kernel) (by decide +kernel) (.inr (.inl rfl)) (by decide +kernel) (by decide +kernel) rfl rfl (sv_call (j := 2) (fi := ⟨"pattern_of_text", ["text"]⟩) rfl g_sc7_pattern_of_text (sa_cons v_sc7_2 sa_nil rfl) (.cons .nil) (by decide +kernel) rfl) (sf_lst (sa_star (sv_mV me_get (fun _ => rfl) b_sc7_1 (sa_cons (sv_call (j := 2) (fi := ⟨"pattern_of_text", ["text"]⟩) rfl g_sc7_pattern_of_text (sa_cons v_sc7_2 sa_nil rfl) (.cons .nil) (by decide +kernel) rfl) (sa_cons (sf_lst sa_nil).v sa_nil rfl) rfl) rfl rfl rfl).b (sa_cons v_sc7_2 sa_nil rfl))).v)) (noFold rfl))
    (sss_one (ss_ret (sf_dc (own := [("there", 3)]) (sc2 := sc7_1) (by decide +kernel) (by decide +kernel) (si_val (sf_bi g_sc7_sorted bl_sorted bt_sorted cf_sorted (sab_cons b_sc7_1 sab_nil rfl) (by decide +kernel) (by decide +kernel) rfl).v) (sg_name (kd := .local) (by decide +kernel) (by decide +kernel) (.inl rfl)) .nil v_sc7_1_3 (sv_idx b_sc7_1_1 v_sc7_1_3 rfl) (by decide +kernel) rfl).v)))))
theorem w7 : Body tab ⟨"classes", ["told"]⟩ (f7, 4, 1) (defBody st7) (defScope st7) := ⟨N7, fs7, rfl, rfl, fun k ev => bd7 k ev⟩
/-! ### ways_on -/
abbrev st8 : Stmt := topS 20
def N8 : List Str := ["most", "left", "row", "_", "k"]
def sc8 : List (Str × NameKind) := [(("most" : Str), NameKind.local), (("left" : Str), NameKind.local), (("row" : Str), NameKind.cell), (("_" : Str), NameKind.local), (("range" : Str), NameKind.globalImplicit), (("len" : Str), NameKind.globalImplicit)]
theorem fs8 : FnScope N8 ["most", "left"] (defScope st8) := ⟨rfl, rfl, rfl, by decide +kernel, rfl, by decide +kernel, by decide +kernel⟩
theorem v_sc8_0 {k : Nat} {ev : Ev} {p : Pos} : SV tab N8 k ev sc8 (.Name ("most" : Str) p) (eVar 0) := sv_var (kd := .local) (by decide +kernel) (by decide +kernel) (.inl rfl) (by decide +kernel) (by decide +kernel)
theorem v_sc8_1 {k : Nat} {ev : Ev} {p : Pos} : SV tab N8 k ev sc8 (.Name ("left" : Str) p) (eVar 1) := sv_var (kd := .local) (by decide +kernel) (by decide +kernel) (.inl rfl) (by decide +kernel) (by decide +kernel)
theorem g_sc8_range : sc8.lookup ("range" : Str) = some .globalImplicit := by decide +kernel
theorem v_sc8_2 {k : Nat} {ev : Ev} {p : Pos} : SV tab N8 k ev sc8 (.Name ("row" : Str) p) (eVar 2) := sv_var (kd := .cell) (by decide +kernel) (by decide +kernel) (.inr (.inl rfl)) (by decide +kernel) (by decide +kernel)
theorem g_sc8_len : sc8.lookup ("len" : Str) = some .globalImplicit := by decide +kernel
def sc8_1 : List (Str × NameKind) := [((".0" : Str), NameKind.local), (("k" : Str), NameKind.local), (("row" : Str), NameKind.cell)]
theorem v_sc8_1_4 {k : Nat} {ev : Ev} {p : Pos} : SV tab N8 k ev sc8_1 (.Name ("k" : Str) p) (eVar 4) := sv_var (kd := .local) (by decide +kernel) (by decide +kernel) (.inl rfl) (by decide +kernel) (by decide +kernel)
theorem v_sc8_1_2 {k : Nat} {ev : Ev} {p : Pos} : SV tab N8 k ev sc8_1 (.Name ("row" : Str) p) (eVar 2) := sv_var (kd := .cell) (by decide +kernel) (by decide +kernel) (.inr (.inl rfl)) (by decide +kernel) (by decide +kernel)
def f8 : FS := (sSeq (sSet 2 (nV (e2 pMul (eLst (aCons (eC (.int 1)) aNil)) (e2 pAdd (e2 pAdd (eVar 0) (eVar 1)) (eC (.int 2))))))
    (sSeq (sFor (.v 3) (iB (q1 pRng1) (aCons (eVar 1) aNil))
    (sSet 2 (nV (eLc [4] (.v 4) (iB (q1 pRng1) (aCons (e2 pSub (eB (b1 pLen) (aCons (eVar 2) aNil)) (eC (.int 1))) aNil)) tYesF (e2 pAdd (e2 pMul (eVar 4) (e2 pIdx (eVar 2) (eVar 4))) (e2 pIdx (eVar 2) (e2 pAdd (eVar 4) (eC (.int 1)))))))))
    (sRet (e2 pIdx (eVar 2) (e2 pAdd (eVar 0) (eC (.int 1)))))))
theorem bd8 (k : Nat) (ev : Ev) : SSs tab N8 k ev sc8 (defBody st8) f8 :=
  (sss_cons (ss_set (kd := .cell) (by decide +kernel) (by decide +kernel) (.inr rfl) (sw_no rfl) (sv_bin ok_mul (sf_lst (sa_cons sv_int sa_nil rfl)).v (sv_bin ok_add (sv_bin ok_add v_sc8_0 v_sc8_1) sv_int)).n)
    (sss_cons (ss_for (si_rng1 rfl g_sc8_range bl_range (sa_cons v_sc8_1 sa_nil rfl) rfl) (sg_name (kd := .local) (by decide +kernel) (by decide +kernel) (.inl rfl)) (sss_one (ss_set (kd := .cell) (by decide +kernel) (by decide +kernel) (.inr rfl) (sw_cell (by decide +kernel)) (sf_lc2 (own := [("k", 4)]) (sc2 := sc8_1) (by decide +kernel) (by decide +kernel) (si_rng1 rfl g_sc8_range bl_range (sa_cons (sv_bin ok_sub (sv_bi g_sc8_len bl_len bt_len ca_len (sab_cons (v_sc8_2).b sab_nil rfl) (by decide +kernel) (by decide +kernel) rfl) sv_int) sa_nil rfl) rfl) (sg_name (kd := .local) (by decide +kernel) (by decide +kernel) (.inl rfl)) .nil (sv_bin ok_add (sv_bin ok_mul v_sc8_1_4 (sv_idx (v_sc8_1_2).b v_sc8_1_4 rfl)) (sv_idx (v_sc8_1_2).b (sv_bin ok_add v_sc8_1_4 sv_int) rfl)) (by decide +kernel) rfl).v.n)) (noFold rfl))
    (sss_one (ss_ret (sv_idx (v_sc8_2).b (sv_bin ok_add v_sc8_0 sv_int) rfl)))))
theorem w8 : Body tab ⟨"ways_on", ["most", "left"]⟩ (f8, 5, 2) (defBody st8) (defScope st8) := ⟨N8, fs8, rfl, rfl, fun k ev => bd8 k ev⟩
/-! ### bell -/
abbrev st9 : Stmt := topS 21
def N9 : List Str := ["length"]
def sc9 : List (Str × NameKind) := [(("length" : Str), NameKind.local), (("MOST_LETTERS" : Str), NameKind.globalImplicit), (("OutOfRange" : Str), NameKind.globalImplicit), (("ways_on" : Str), NameKind.globalImplicit)]
theorem fs9 : FnScope N9 ["length"] (defScope st9) := ⟨rfl, rfl, rfl, by decide +kernel, rfl, by decide +kernel, by decide +kernel⟩
theorem v_sc9_0 {k : Nat} {ev : Ev} {p : Pos} : SV tab N9 k ev sc9 (.Name ("length" : Str) p) (eVar 0) := sv_var (kd := .local) (by decide +kernel) (by decide +kernel) (.inl rfl) (by decide +kernel) (by decide +kernel)
theorem g_sc9_MOST_LETTERS : sc9.lookup ("MOST_LETTERS" : Str) = some .globalImplicit := by decide +kernel
theorem g_sc9_OutOfRange : sc9.lookup ("OutOfRange" : Str) = some .globalImplicit := by decide +kernel
theorem g_sc9_ways_on : sc9.lookup ("ways_on" : Str) = some .globalImplicit := by decide +kernel
def f9 : FS := (sSeq (sIf (eTNot (eTB (eChain pLe pLe (eC (.int 0)) (eVar 0) (eC gd_MOST_LETTERS)))) (sRaise 0 (eVar 0))
    sNil)
    (sRet (eCall 8 (aCons (e1 pNeg (eC (.int 1))) (aCons (eVar 0) aNil)))))
theorem bd9 (k : Nat) (ev : Ev) : SSs tab N9 k ev sc9 (defBody st9) f9 :=
  (sss_cons (ss_if (st_not (st_chain ok_le ok_le (sv_int).b (v_sc9_0).b (sv_glob g_sc9_MOST_LETTERS gb_MOST_LETTERS (by decide +kernel)).b rfl)) (sss_one (ss_raise (c := 0) rfl g_sc9_OutOfRange (by decide +kernel) rfl v_sc9_0))
    sss_nil)
    (sss_one (ss_ret (sv_call (j := 8) (fi := ⟨"ways_on", ["most", "left"]⟩) rfl g_sc9_ways_on (sa_cons (sv_neg (sv_int).b) (sa_cons v_sc9_0 sa_nil rfl) rfl) (.cons (.cons .nil)) (by decide +kernel) rfl))))
theorem w9 : Body tab ⟨"bell", ["length"]⟩ (f9, 1, 1) (defBody st9) (defScope st9) := ⟨N9, fs9, rfl, rfl, fun k ev => bd9 k ev⟩
/-! ### check_pattern -/
abbrev st10 : Stmt := topS 22
def N10 : List Str := ["told"]
def sc10 : List (Str × NameKind) := [(("told" : Str), NameKind.local), (("is_pattern" : Str), NameKind.globalImplicit), (("len" : Str), NameKind.globalImplicit), (("MOST_LETTERS" : Str), NameKind.globalImplicit), (("BadPattern" : Str), NameKind.globalImplicit)]
theorem fs10 : FnScope N10 ["told"] (defScope st10) := ⟨rfl, rfl, rfl, by decide +kernel, rfl, by decide +kernel, by decide +kernel⟩
theorem v_sc10_0 {k : Nat} {ev : Ev} {p : Pos} : SV tab N10 k ev sc10 (.Name ("told" : Str) p) (eVar 0) := sv_var (kd := .local) (by decide +kernel) (by decide +kernel) (.inl rfl) (by decide +kernel) (by decide +kernel)
theorem g_sc10_len : sc10.lookup ("len" : Str) = some .globalImplicit := by decide +kernel
theorem g_sc10_MOST_LETTERS : sc10.lookup ("MOST_LETTERS" : Str) = some .globalImplicit := by decide +kernel
theorem g_sc10_is_pattern : sc10.lookup ("is_pattern" : Str) = some .globalImplicit := by decide +kernel
theorem g_sc10_BadPattern : sc10.lookup ("BadPattern" : Str) = some .globalImplicit := by decide +kernel
def f10 : FS := (sIf (eTOr (eTNot (eT (eCall 6 (aCons (eVar 0) aNil)))) (eTB (e2 pGt (eB (b1 pLen) (aCons (eVar 0) aNil)) (eC gd_MOST_LETTERS)))) (sRaise 3 (eC (.int 0)))
    sNil)
theorem bd10 (k : Nat) (ev : Ev) : SSs tab N10 k ev sc10 (defBody st10) f10 :=
  (sss_one (ss_if (SPW.st (sw_or (st_not (st_truth rfl (sv_call (j := 6) (fi := ⟨"is_pattern", ["told"]⟩) rfl g_sc10_is_pattern (sa_cons v_sc10_0 sa_nil rfl) (.cons .nil) (by decide +kernel) rfl).b)) (sw_or1 (st_cmp ok_gt (sv_bi g_sc10_len bl_len bt_len ca_len (sab_cons (v_sc10_0).b sab_nil rfl) (by decide +kernel) (by decide +kernel) rfl).b (sv_glob g_sc10_MOST_LETTERS gb_MOST_LETTERS (by decide +kernel)).b rfl)))) (sss_one (ss_raise (c := 3) rfl g_sc10_BadPattern (by decide +kernel) rfl sv_int))
    sss_nil))
theorem w10 : Body tab ⟨"check_pattern", ["told"]⟩ (f10, 1, 1) (defBody st10) (defScope st10) := ⟨N10, fs10, rfl, rfl, fun k ev => bd10 k ev⟩
/-! ### number_of -/
abbrev st11 : Stmt := topS 23
def N11 : List Str := ["told", "found", "most", "k", "number", "left", "one"]
def sc11 : List (Str × NameKind) := [(("told" : Str), NameKind.local), (("found" : Str), NameKind.local), (("most" : Str), NameKind.cell), (("k" : Str), NameKind.local), (("number" : Str), NameKind.local), (("left" : Str), NameKind.cell), (("check_pattern" : Str), NameKind.globalImplicit), (("enumerate" : Str), NameKind.globalImplicit), (("len" : Str), NameKind.globalImplicit), (("sum" : Str), NameKind.globalImplicit), (("range" : Str), NameKind.globalImplicit), (("max" : Str), NameKind.globalImplicit)]
theorem fs11 : FnScope N11 ["told"] (defScope st11) := ⟨rfl, rfl, rfl, by decide +kernel, rfl, by decide +kernel, by decide +kernel⟩
theorem v_sc11_0 {k : Nat} {ev : Ev} {p : Pos} : SV tab N11 k ev sc11 (.Name ("told" : Str) p) (eVar 0) := sv_var (kd := .local) (by decide +kernel) (by decide +kernel) (.inl rfl) (by decide +kernel) (by decide +kernel)
theorem g_sc11_check_pattern : sc11.lookup ("check_pattern" : Str) = some .globalImplicit := by decide +kernel
theorem g_sc11_enumerate : sc11.lookup ("enumerate" : Str) = some .globalImplicit := by decide +kernel
theorem g_sc11_len : sc11.lookup ("len" : Str) = some .globalImplicit := by decide +kernel
theorem v_sc11_3 {k : Nat} {ev : Ev} {p : Pos} : SV tab N11 k ev sc11 (.Name ("k" : Str) p) (eVar 3) := sv_var (kd := .local) (by decide +kernel) (by decide +kernel) (.inl rfl) (by decide +kernel) (by decide +kernel)
theorem v_sc11_1 {k : Nat} {ev : Ev} {p : Pos} : SV tab N11 k ev sc11 (.Name ("found" : Str) p) (eVar 1) := sv_var (kd := .local) (by decide +kernel) (by decide +kernel) (.inl rfl) (by decide +kernel) (by decide +kernel)
theorem v_sc11_4 {k : Nat} {ev : Ev} {p : Pos} : SV tab N11 k ev sc11 (.Name ("number" : Str) p) (eVar 4) := sv_var (kd := .local) (by decide +kernel) (by decide +kernel) (.inl rfl) (by decide +kernel) (by decide +kernel)
theorem g_sc11_range : sc11.lookup ("range" : Str) = some .globalImplicit := by decide +kernel
def sc11_1 : List (Str × NameKind) := [((".0" : Str), NameKind.local), (("one" : Str), NameKind.local), (("ways_on" : Str), NameKind.globalImplicit), (("max" : Str), NameKind.globalImplicit), (("left" : Str), NameKind.cell), (("most" : Str), NameKind.cell)]
theorem v_sc11_1_5 {k : Nat} {ev : Ev} {p : Pos} : SV tab N11 k ev sc11_1 (.Name ("left" : Str) p) (eVar 5) := sv_var (kd := .cell) (by decide +kernel) (by decide +kernel) (.inr (.inl rfl)) (by decide +kernel) (by decide +kernel)
theorem v_sc11_1_6 {k : Nat} {ev : Ev} {p : Pos} : SV tab N11 k ev sc11_1 (.Name ("one" : Str) p) (eVar 6) := sv_var (kd := .local) (by decide +kernel) (by decide +kernel) (.inl rfl) (by decide +kernel) (by decide +kernel)
theorem v_sc11_1_2 {k : Nat} {ev : Ev} {p : Pos} : SV tab N11 k ev sc11_1 (.Name ("most" : Str) p) (eVar 2) := sv_var (kd := .cell) (by decide +kernel) (by decide +kernel) (.inr (.inl rfl)) (by decide +kernel) (by decide +kernel)
theorem g_sc11_1_max : sc11_1.lookup ("max" : Str) = some .globalImplicit := by decide +kernel
theorem g_sc11_1_ways_on : sc11_1.lookup ("ways_on" : Str) = some .globalImplicit := by decide +kernel
theorem g_sc11_sum : sc11.lookup ("sum" : Str) = some .globalImplicit := by decide +kernel
theorem v_sc11_2 {k : Nat} {ev : Ev} {p : Pos} : SV tab N11 k ev sc11 (.Name ("most" : Str) p) (eVar 2) := sv_var (kd := .cell) (by decide +kernel) (by decide +kernel) (.inr (.inl rfl)) (by decide +kernel) (by decide +kernel)
theorem g_sc11_max : sc11.lookup ("max" : Str) = some .globalImplicit := by decide +kernel
def f11 : FS := (sSeq (sExpr (eCall 10 (aCons (eVar 0) aNil)))
    (sSeq (sSet 1 (nV (eC (.int 0))))
    (sSeq (sSet 2 (nV (e1 pNeg (eC (.int 1)))))
    (sSeq (sFor (.t [(.v 3), (.v 4)]) (iB (q1 pEnum) (aCons (eVar 0) aNil))
    (sSeq (sSet 5 (nV (e2 pSub (e2 pSub (eB (b1 pLen) (aCons (eVar 0) aNil)) (eVar 3)) (eC (.int 1)))))
    (sSeq (sSet 1 (nV (e2 pAdd (eVar 1) (eB (b1 pSum1) (aCons (eLc [6] (.v 6) (iB (q1 pRng1) (aCons (eVar 4) aNil)) tYesF (eCall 8 (aCons (eB (b2 pMax2) (aCons (eVar 2) (aCons (eVar 6) aNil))) (aCons (eVar 5) aNil)))) aNil)))))
    (sSet 2 (nV (eB (b2 pMax2) (aCons (eVar 2) (aCons (eVar 4) aNil))))))))
    (sRet (eVar 1))))))
theorem bd11 (k : Nat) (ev : Ev) : SSs tab N11 k ev sc11 (defBody st11) f11 :=
  (sss_cons (ss_expr rfl (sv_call (j := 10) (fi := ⟨"check_pattern", ["told"]⟩) rfl g_sc11_check_pattern (sa_cons v_sc11_0 sa_nil rfl) (.cons .nil) (by decide +kernel) rfl).b)
    (sss_cons (ss_set (kd := .local) (by decide +kernel) (by decide +kernel) (.inl rfl) (sw_no rfl) (sv_int).n)
    (sss_cons (ss_set (kd := .cell) (by decide +kernel) (by decide +kernel) (.inr rfl) (sw_no rfl) (sv_neg (sv_int).b).n)
    (sss_cons (ss_for (si_enum rfl g_sc11_enumerate bl_enumerate (sa_cons v_sc11_0 sa_nil rfl) rfl) (sg_tup (sgs_cons (sg_name (kd := .local) (by decide +kernel) (by decide +kernel) (.inl rfl)) (sgs_cons (sg_name (kd := .local) (by decide +kernel) (by decide +kernel) (.inl rfl)) sgs_nil rfl) rfl)) (sss_cons (ss_set (kd := .cell) (by decide +kernel) (by decide +kernel) (.inr rfl) (sw_no rfl) (sv_bin ok_sub (sv_bin ok_sub (sv_bi g_sc11_len bl_len bt_len ca_len (sab_cons (v_sc11_0).b sab_nil rfl) (by decide +kernel) (by decide +kernel) rfl) v_sc11_3) sv_int).n)
    (sss_cons (ss_set (kd := .local) (by decide +kernel) (by decide +kernel) (.inl rfl) (sw_no rfl) (sv_bin ok_add v_sc11_1 (sv_bi g_sc11_sum bl_sum bt_sum ca_sum (sab_cons (sf_lc2 (own := [("one", 6)]) (sc2 := sc11_1) (by decide +kernel) (by decide +kernel) (si_rng1 rfl g_sc11_range bl_range (sa_cons v_sc11_4 sa_nil rfl) rfl) (sg_name (kd := .local) (by decide +kernel) (by decide +kernel) (.inl rfl)) .nil (sv_call (j := 8) (fi := ⟨"ways_on", ["most", "left"]⟩) rfl g_sc11_1_ways_on (sa_cons (sv_bi g_sc11_1_max bl_max bt_max ca_max2 (sab_cons (v_sc11_1_2).b (sab_cons (v_sc11_1_6).b sab_nil rfl) rfl) (by decide +kernel) (by decide +kernel) rfl) (sa_cons v_sc11_1_5 sa_nil rfl) rfl) (.cons (.cons .nil)) (by decide +kernel) rfl) (by decide +kernel) rfl).v.b sab_nil rfl) (by decide +kernel) (by decide +kernel) rfl)).n)
    (sss_one (ss_set (kd := .cell) (by decide +kernel) (by decide +kernel) (.inr rfl) (sw_no rfl) (sv_bi g_sc11_max bl_max bt_max ca_max2 (sab_cons (v_sc11_2).b (sab_cons (v_sc11_4).b sab_nil rfl) rfl) (by decide +kernel) (by decide +kernel) rfl).n)))) (noFold rfl))
    (sss_one (ss_ret v_sc11_1))))))
theorem w11 : Body tab ⟨"number_of", ["told"]⟩ (f11, 7, 1) (defBody st11) (defScope st11) := ⟨N11, fs11, rfl, rfl, fun k ev => bd11 k ev⟩
/-! ### pattern_of -/
abbrev st12 : Stmt := topS 24
def N12 : List Str := ["length", "number", "found", "most", "rest", "k", "one"]
def sc12 : List (Str × NameKind) := [(("length" : Str), NameKind.local), (("number" : Str), NameKind.local), (("found" : Str), NameKind.local), (("most" : Str), NameKind.local), (("rest" : Str), NameKind.local), (("k" : Str), NameKind.local), (("one" : Str), NameKind.local), (("MOST_LETTERS" : Str), NameKind.globalImplicit), (("OutOfRange" : Str), NameKind.globalImplicit), (("bell" : Str), NameKind.globalImplicit), (("range" : Str), NameKind.globalImplicit), (("ways_on" : Str), NameKind.globalImplicit), (("max" : Str), NameKind.globalImplicit), (("tuple" : Str), NameKind.globalImplicit)]
theorem fs12 : FnScope N12 ["length", "number"] (defScope st12) := ⟨rfl, rfl, rfl, by decide +kernel, rfl, by decide +kernel, by decide +kernel⟩
theorem v_sc12_0 {k : Nat} {ev : Ev} {p : Pos} : SV tab N12 k ev sc12 (.Name ("length" : Str) p) (eVar 0) := sv_var (kd := .local) (by decide +kernel) (by decide +kernel) (.inl rfl) (by decide +kernel) (by decide +kernel)
theorem g_sc12_MOST_LETTERS : sc12.lookup ("MOST_LETTERS" : Str) = some .globalImplicit := by decide +kernel
theorem g_sc12_OutOfRange : sc12.lookup ("OutOfRange" : Str) = some .globalImplicit := by decide +kernel
theorem v_sc12_1 {k : Nat} {ev : Ev} {p : Pos} : SV tab N12 k ev sc12 (.Name ("number" : Str) p) (eVar 1) := sv_var (kd := .local) (by decide +kernel) (by decide +kernel) (.inl rfl) (by decide +kernel) (by decide +kernel)
theorem g_sc12_bell : sc12.lookup ("bell" : Str) = some .globalImplicit := by decide +kernel
theorem g_sc12_range : sc12.lookup ("range" : Str) = some .globalImplicit := by decide +kernel
theorem v_sc12_4 {k : Nat} {ev : Ev} {p : Pos} : SV tab N12 k ev sc12 (.Name ("rest" : Str) p) (eVar 4) := sv_var (kd := .local) (by decide +kernel) (by decide +kernel) (.inl rfl) (by decide +kernel) (by decide +kernel)
theorem v_sc12_5 {k : Nat} {ev : Ev} {p : Pos} : SV tab N12 k ev sc12 (.Name ("k" : Str) p) (eVar 5) := sv_var (kd := .local) (by decide +kernel) (by decide +kernel) (.inl rfl) (by decide +kernel) (by decide +kernel)
theorem v_sc12_6 {k : Nat} {ev : Ev} {p : Pos} : SV tab N12 k ev sc12 (.Name ("one" : Str) p) (eVar 6) := sv_var (kd := .local) (by decide +kernel) (by decide +kernel) (.inl rfl) (by decide +kernel) (by decide +kernel)
theorem v_sc12_3 {k : Nat} {ev : Ev} {p : Pos} : SV tab N12 k ev sc12 (.Name ("most" : Str) p) (eVar 3) := sv_var (kd := .local) (by decide +kernel) (by decide +kernel) (.inl rfl) (by decide +kernel) (by decide +kernel)
theorem g_sc12_max : sc12.lookup ("max" : Str) = some .globalImplicit := by decide +kernel
theorem g_sc12_ways_on : sc12.lookup ("ways_on" : Str) = some .globalImplicit := by decide +kernel
theorem b_sc12_2 {k : Nat} {ev : Ev} {p : Pos} : SB tab N12 k ev sc12 (.Name ("found" : Str) p) (eBor 2) := sb_var (kd := .local) (by decide +kernel) (by decide +kernel) (.inl rfl) (by decide +kernel) (by decide +kernel)
theorem g_sc12_tuple : sc12.lookup ("tuple" : Str) = some .globalImplicit := by decide +kernel
def f12 : FS := (sSeq (sIf (eTNot (eTB (eChain pLe pLe (eC (.int 1)) (eVar 0) (eC gd_MOST_LETTERS)))) (sRaise 0 (eVar 0))
    sNil)
    (sSeq (sIf (eTNot (eTB (eChain pLe pLt (eC (.int 0)) (eVar 1) (eCall 9 (aCons (eVar 0) aNil))))) (sRaise 0 (eVar 1))
    sNil)
    (sSeq (sSet 2 (nF (eLst aNil)))
    (sSeq (sSet 3 (nV (e1 pNeg (eC (.int 1)))))
    (sSeq (sSet 4 (nV (eVar 1)))
    (sSeq (sFor (.v 5) (iB (q1 pRng1) (aCons (eVar 0) aNil))
    (sSeq (sSet 6 (nV (eC (.int 0))))
    (sSeq (sWhile (eTB (e2 pGe (eVar 4) (eCall 8 (aCons (eB (b2 pMax2) (aCons (eVar 3) (aCons (eVar 6) aNil))) (aCons (e2 pSub (e2 pSub (eVar 0) (eVar 5)) (eC (.int 1))) aNil))))) (sSeq (sSet 4 (nV (e2 pSub (eVar 4) (eCall 8 (aCons (eB (b2 pMax2) (aCons (eVar 3) (aCons (eVar 6) aNil))) (aCons (e2 pSub (e2 pSub (eVar 0) (eVar 5)) (eC (.int 1))) aNil))))))
    (sSet 6 (nV (e2 pAdd (eVar 6) (eC (.int 1)))))))
    (sSeq (sApp 2 (eVar 6))
    (sSet 3 (nV (eB (b2 pMax2) (aCons (eVar 3) (aCons (eVar 6) aNil)))))))))
    (sRet (eB (b1 pTuple) (aCons (eBor 2) aNil)))))))))
theorem bd12 (k : Nat) (ev : Ev) : SSs tab N12 k ev sc12 (defBody st12) f12 :=
  (sss_cons (ss_if (st_not (st_chain ok_le ok_le (sv_int).b (v_sc12_0).b (sv_glob g_sc12_MOST_LETTERS gb_MOST_LETTERS (by decide +kernel)).b rfl)) (sss_one (ss_raise (c := 0) rfl g_sc12_OutOfRange (by decide +kernel) rfl v_sc12_0))
    sss_nil)
    (sss_cons (ss_if (st_not (st_chain ok_le ok_lt (sv_int).b (v_sc12_1).b (sv_call (j := 9) (fi := ⟨"bell", ["length"]⟩) rfl g_sc12_bell (sa_cons v_sc12_0 sa_nil rfl) (.cons .nil) (by decide +kernel) rfl).b rfl)) (sss_one (ss_raise (c := 0) rfl g_sc12_OutOfRange (by decide +kernel) rfl v_sc12_1))
    sss_nil)
    (sss_cons (ss_set (kd := .local) (by decide +kernel) (by decide +kernel) (.inl rfl) (sw_no rfl) (sf_lst sa_nil).n)
    (sss_cons (ss_set (kd := .local) (by decide +kernel) (by decide +kernel) (.inl rfl) (sw_no rfl) (sv_neg (sv_int).b).n)
    (sss_cons (ss_set (kd := .local) (by decide +kernel) (by decide +kernel) (.inl rfl) (sw_no rfl) (v_sc12_1).n)
    (sss_cons (ss_for (si_rng1 rfl g_sc12_range bl_range (sa_cons v_sc12_0 sa_nil rfl) rfl) (sg_name (kd := .local) (by decide +kernel) (by decide +kernel) (.inl rfl)) (sss_cons (ss_set (kd := .local) (by decide +kernel) (by decide +kernel) (.inl rfl) (sw_no rfl) (sv_int).n)
    (sss_cons (ss_while (st_cmp ok_ge (v_sc12_4).b (sv_call (j := 8) (fi := ⟨"ways_on", ["most", "left"]⟩) rfl g_sc12_ways_on (sa_cons (sv_bi g_sc12_max bl_max bt_max ca_max2 (sab_cons (v_sc12_3).b (sab_cons (v_sc12_6).b sab_nil rfl) rfl) (by decide +kernel) (by decide +kernel) rfl) (sa_cons (sv_bin ok_sub (sv_bin ok_sub v_sc12_0 v_sc12_5) sv_int) sa_nil rfl) rfl) (.cons (.cons .nil)) (by decide +kernel) rfl).b rfl) (sss_cons (ss_set (kd := .local) (by decide +kernel) (by decide +kernel) (.inl rfl) (sw_no rfl) (sv_bin ok_sub v_sc12_4 (sv_call (j := 8) (fi := ⟨"ways_on", ["most", "left"]⟩) rfl g_sc12_ways_on (sa_cons (sv_bi g_sc12_max bl_max bt_max ca_max2 (sab_cons (v_sc12_3).b (sab_cons (v_sc12_6).b sab_nil rfl) rfl) (by decide +kernel) (by decide +kernel) rfl) (sa_cons (sv_bin ok_sub (sv_bin ok_sub v_sc12_0 v_sc12_5) sv_int) sa_nil rfl) rfl) (.cons (.cons .nil)) (by decide +kernel) rfl)).n)
    (sss_one (ss_set (kd := .local) (by decide +kernel) (by decide +kernel) (.inl rfl) (sw_no rfl) (sv_bin ok_add v_sc12_6 sv_int).n))))
    (sss_cons (ss_append (kd := .local) (i := 2) (by decide +kernel) (by decide +kernel) (.inl rfl) (by decide +kernel) (by decide +kernel) v_sc12_6 rfl rfl)
    (sss_one (ss_set (kd := .local) (by decide +kernel) (by decide +kernel) (.inl rfl) (sw_no rfl) (sv_bi g_sc12_max bl_max bt_max ca_max2 (sab_cons (v_sc12_3).b (sab_cons (v_sc12_6).b sab_nil rfl) rfl) (by decide +kernel) (by decide +kernel) rfl).n))))) (noFold rfl))
    (sss_one (ss_ret (sv_ty g_sc12_tuple bl_tuple bt_tuple ca_tuple (sab_cons b_sc12_2 sab_nil rfl) (by decide +kernel) (by decide +kernel) rfl)))))))))
theorem w12 : Body tab ⟨"pattern_of", ["length", "number"]⟩ (f12, 7, 2) (defBody st12) (defScope st12) := ⟨N12, fs12, rfl, rfl, fun k ev => bd12 k ev⟩
/-! ### words_with -/
abbrev st13 : Stmt := topS 25
def N13 : List Str := ["told", "letters", "found", "k"]
def sc13 : List (Str × NameKind) := [(("told" : Str), NameKind.local), (("letters" : Str), NameKind.local), (("found" : Str), NameKind.local), (("k" : Str), NameKind.local), (("check_pattern" : Str), NameKind.globalImplicit), (("ALPHABET" : Str), NameKind.globalImplicit), (("OutOfRange" : Str), NameKind.globalImplicit), (("range" : Str), NameKind.globalImplicit), (("max" : Str), NameKind.globalImplicit)]
theorem fs13 : FnScope N13 ["told", "letters"] (defScope st13) := ⟨rfl, rfl, rfl, by decide +kernel, rfl, by decide +kernel, by decide +kernel⟩
theorem v_sc13_0 {k : Nat} {ev : Ev} {p : Pos} : SV tab N13 k ev sc13 (.Name ("told" : Str) p) (eVar 0) := sv_var (kd := .local) (by decide +kernel) (by decide +kernel) (.inl rfl) (by decide +kernel) (by decide +kernel)
theorem g_sc13_check_pattern : sc13.lookup ("check_pattern" : Str) = some .globalImplicit := by decide +kernel
theorem v_sc13_1 {k : Nat} {ev : Ev} {p : Pos} : SV tab N13 k ev sc13 (.Name ("letters" : Str) p) (eVar 1) := sv_var (kd := .local) (by decide +kernel) (by decide +kernel) (.inl rfl) (by decide +kernel) (by decide +kernel)
theorem g_sc13_ALPHABET : sc13.lookup ("ALPHABET" : Str) = some .globalImplicit := by decide +kernel
theorem g_sc13_OutOfRange : sc13.lookup ("OutOfRange" : Str) = some .globalImplicit := by decide +kernel
theorem g_sc13_max : sc13.lookup ("max" : Str) = some .globalImplicit := by decide +kernel
theorem g_sc13_range : sc13.lookup ("range" : Str) = some .globalImplicit := by decide +kernel
theorem v_sc13_2 {k : Nat} {ev : Ev} {p : Pos} : SV tab N13 k ev sc13 (.Name ("found" : Str) p) (eVar 2) := sv_var (kd := .local) (by decide +kernel) (by decide +kernel) (.inl rfl) (by decide +kernel) (by decide +kernel)
theorem v_sc13_3 {k : Nat} {ev : Ev} {p : Pos} : SV tab N13 k ev sc13 (.Name ("k" : Str) p) (eVar 3) := sv_var (kd := .local) (by decide +kernel) (by decide +kernel) (.inl rfl) (by decide +kernel) (by decide +kernel)
def f13 : FS := (sSeq (sExpr (eCall 10 (aCons (eVar 0) aNil)))
    (sSeq (sIf (eTNot (eTB (eChain pLe pLe (eC (.int 0)) (eVar 1) (eC gd_ALPHABET)))) (sRaise 0 (eVar 1))
    sNil)
    (sSeq (sSet 2 (nV (eC (.int 1))))
    (sSeq (sFor (.v 3) (iB (q1 pRng1) (aCons (e2 pAdd (eB (b1 pMax) (aCons (eVar 0) aNil)) (eC (.int 1))) aNil))
    (sSet 2 (nV (e2 pMul (eVar 2) (eB (b2 pMax2) (aCons (eC (.int 0)) (aCons (e2 pSub (eVar 1) (eVar 3)) aNil)))))))
    (sRet (eVar 2))))))
theorem bd13 (k : Nat) (ev : Ev) : SSs tab N13 k ev sc13 (defBody st13) f13 :=
  (sss_cons (ss_expr rfl (sv_call (j := 10) (fi := ⟨"check_pattern", ["told"]⟩) rfl g_sc13_check_pattern (sa_cons v_sc13_0 sa_nil rfl) (.cons .nil) (by decide +kernel) rfl).b)
    (sss_cons (ss_if (st_not (st_chain ok_le ok_le (sv_int).b (v_sc13_1).b (sv_glob g_sc13_ALPHABET gb_ALPHABET (by decide +kernel)).b rfl)) (sss_one (ss_raise (c := 0) rfl g_sc13_OutOfRange (by decide +kernel) rfl v_sc13_1))
    sss_nil)
    (sss_cons (ss_set (kd := .local) (by decide +kernel) (by decide +kernel) (.inl rfl) (sw_no rfl) (sv_int).n)
    (sss_cons (ss_for (si_rng1 rfl g_sc13_range bl_range (sa_cons (sv_bin ok_add (sv_bi g_sc13_max bl_max bt_max ca_max (sab_cons (v_sc13_0).b sab_nil rfl) (by decide +kernel) (by decide +kernel) rfl) sv_int) sa_nil rfl) rfl) (sg_name (kd := .local) (by decide +kernel) (by decide +kernel) (.inl rfl)) (sss_one (ss_set (kd := .local) (by decide +kernel) (by decide +kernel) (.inl rfl) (sw_no rfl) (sv_bin ok_mul v_sc13_2 (sv_bi g_sc13_max bl_max bt_max ca_max2 (sab_cons (sv_int).b (sab_cons (sv_bin ok_sub v_sc13_1 v_sc13_3).b sab_nil rfl) rfl) (by decide +kernel) (by decide +kernel) rfl)).n)) (noFold rfl))
    (sss_one (ss_ret v_sc13_2))))))
theorem w13 : Body tab ⟨"words_with", ["told", "letters"]⟩ (f13, 4, 2) (defBody st13) (defScope st13) := ⟨N13, fs13, rfl, rfl, fun k ev => bd13 k ev⟩
/-! ### _law_draws -/
abbrev st14 : Stmt := topS 27
def N14 : List Str := ["script", "draws", "k", "rest", "turn", "stirred"]
def sc14 : List (Str × NameKind) := [(("script" : Str), NameKind.local), (("draws" : Str), NameKind.local), (("k" : Str), NameKind.local), (("rest" : Str), NameKind.local), (("turn" : Str), NameKind.local), (("stirred" : Str), NameKind.local), (("range" : Str), NameKind.globalImplicit), (("min" : Str), NameKind.globalImplicit), (("len" : Str), NameKind.globalImplicit), (("abs" : Str), NameKind.globalImplicit), (("int" : Str), NameKind.globalImplicit)]
theorem fs14 : FnScope N14 ["script"] (defScope st14) := ⟨rfl, rfl, rfl, by decide +kernel, rfl, by decide +kernel, by decide +kernel⟩
theorem v_sc14_0 {k : Nat} {ev : Ev} {p : Pos} : SV tab N14 k ev sc14 (.Name ("script" : Str) p) (eVar 0) := sv_var (kd := .local) (by decide +kernel) (by decide +kernel) (.inl rfl) (by decide +kernel) (by decide +kernel)
theorem g_sc14_len : sc14.lookup ("len" : Str) = some .globalImplicit := by decide +kernel
theorem g_sc14_min : sc14.lookup ("min" : Str) = some .globalImplicit := by decide +kernel
theorem g_sc14_range : sc14.lookup ("range" : Str) = some .globalImplicit := by decide +kernel
theorem v_sc14_2 {k : Nat} {ev : Ev} {p : Pos} : SV tab N14 k ev sc14 (.Name ("k" : Str) p) (eVar 2) := sv_var (kd := .local) (by decide +kernel) (by decide +kernel) (.inl rfl) (by decide +kernel) (by decide +kernel)
theorem g_sc14_abs : sc14.lookup ("abs" : Str) = some .globalImplicit := by decide +kernel
theorem v_sc14_3 {k : Nat} {ev : Ev} {p : Pos} : SV tab N14 k ev sc14 (.Name ("rest" : Str) p) (eVar 3) := sv_var (kd := .local) (by decide +kernel) (by decide +kernel) (.inl rfl) (by decide +kernel) (by decide +kernel)
theorem g_sc14_int : sc14.lookup ("int" : Str) = some .globalImplicit := by decide +kernel
theorem v_sc14_5 {k : Nat} {ev : Ev} {p : Pos} : SV tab N14 k ev sc14 (.Name ("stirred" : Str) p) (eVar 5) := sv_var (kd := .local) (by decide +kernel) (by decide +kernel) (.inl rfl) (by decide +kernel) (by decide +kernel)
theorem v_sc14_1 {k : Nat} {ev : Ev} {p : Pos} : SV tab N14 k ev sc14 (.Name ("draws" : Str) p) (eVar 1) := sv_var (kd := .local) (by decide +kernel) (by decide +kernel) (.inl rfl) (by decide +kernel) (by decide +kernel)
def f14 : FS := (sSeq (sSet 1 (nF (eLst aNil)))
    (sSeq (sFor (.v 2) (iB (q1 pRng1) (aCons (eB (b2 pMin2) (aCons (eC (.int 63)) (aCons (eB (b1 pLen) (aCons (eVar 0) aNil)) aNil))) aNil))
    (sSeq (sSet 3 (nV (eB (b1 pAbs) (aCons (e2 pIdx (eVar 0) (eVar 2)) aNil))))
    (sIf (eTB (e2 pGe (eVar 3) (e2 pPow (eC (.int 10)) (eC (.int 18))))) (sFor (.v 4) (iB (q1 pRng1) (aCons (eC (.int 60)) aNil))
    (sIf (eTB (e2 pGt (eVar 3) (eC (.int 0)))) (sSeq (sApp 1 (e2 pMod (eB (b1 pInt) (aCons (eVar 3) aNil)) (eC (.int 65536))))
    (sSet 3 (nV (e2 pFdiv (eVar 3) (eC (.int 65536))))))
    sNil))
    (sSeq (sSet 5 (nV (e2 pMod (eB (b1 pInt) (aCons (e2 pAdd (e2 pMul (eVar 3) (eC (.int 48271))) (e2 pMul (e2 pAdd (eVar 2) (eC (.int 1))) (eC (.int 69621)))) aNil)) (eC (.int 2147483647)))))
    (sSeq (sSet 5 (nV (e2 pMod (eB (b1 pInt) (aCons (e2 pAdd (e2 pAdd (e2 pMul (eVar 5) (eC (.int 16807))) (e2 pMul (eC (.int 11)) (eVar 2))) (eC (.int 5))) aNil)) (eC (.int 2147483629)))))
    (sSeq (sApp 1 (e2 pMod (eB (b1 pInt) (aCons (eVar 5) aNil)) (eC (.int 65536))))
    (sApp 1 (e2 pMod (eB (b1 pInt) (aCons (e2 pFdiv (eVar 5) (eC (.int 65536))) aNil)) (eC (.int 32768))))))))))
    (sFrz [1] (sRet (eVar 1)))))
theorem bd14 (k : Nat) (ev : Ev) : SSs tab N14 k ev sc14 (defBody st14) f14 :=
  (sss_cons (ss_set (kd := .local) (by decide +kernel) (by decide +kernel) (.inl rfl) (sw_no rfl) (sf_lst sa_nil).n)
    (sss_cons (ss_for (si_rng1 rfl g_sc14_range bl_range (sa_cons (sv_bi g_sc14_min bl_min bt_min ca_min2 (sab_cons (sv_int).b (sab_cons (sv_bi g_sc14_len bl_len bt_len ca_len (sab_cons (v_sc14_0).b sab_nil rfl) (by decide +kernel) (by decide +kernel) rfl).b sab_nil rfl) rfl) (by decide +kernel) (by decide +kernel) rfl) sa_nil rfl) rfl) (sg_name (kd := .local) (by decide +kernel) (by decide +kernel) (.inl rfl)) (sss_cons (ss_set (kd := .local) (by decide +kernel) (by decide +kernel) (.inl rfl) (sw_no rfl) (sv_bi g_sc14_abs bl_abs bt_abs ca_abs (sab_cons (sv_idx (v_sc14_0).b v_sc14_2 rfl).b sab_nil rfl) (by decide +kernel) (by decide +kernel) rfl).n)
    (sss_one (ss_if (st_cmp ok_ge (v_sc14_3).b (sv_bin ok_pow sv_int sv_int).b rfl) (sss_one (ss_for (si_rng1 rfl g_sc14_range bl_range (sa_cons sv_int sa_nil rfl) rfl) (sg_name (kd := .local) (by decide +kernel) (by decide +kernel) (.inl rfl)) (sss_one (ss_if (st_cmp ok_gt (v_sc14_3).b (sv_int).b rfl) (sss_cons (ss_append (kd := .local) (i := 1) (by decide +kernel) (by decide +kernel) (.inl rfl) (by decide +kernel) (by decide +kernel) (sv_bin ok_mod (sv_ty g_sc14_int bl_int bt_int ca_int (sab_cons (v_sc14_3).b sab_nil rfl) (by decide +kernel) (by decide +kernel) rfl) sv_int) rfl rfl)
    (sss_one (ss_set (kd := .local) (by decide +kernel) (by decide +kernel) (.inl rfl) (sw_no rfl) (sv_bin ok_fdiv v_sc14_3 sv_int).n)))
    sss_nil)) (noFold rfl)))
    (sss_cons (ss_set (kd := .local) (by decide +kernel) (by decide +kernel) (.inl rfl) (sw_no rfl) (sv_bin ok_mod (sv_ty g_sc14_int bl_int bt_int ca_int (sab_cons (sv_bin ok_add (sv_bin ok_mul v_sc14_3 sv_int) (sv_bin ok_mul (sv_bin ok_add v_sc14_2 sv_int) sv_int)).b sab_nil rfl) (by decide +kernel) (by decide +kernel) rfl) sv_int).n)
    (sss_cons (ss_set (kd := .local) (by decide +kernel) (by decide +kernel) (.inl rfl) (sw_no rfl) (sv_bin ok_mod (sv_ty g_sc14_int bl_int bt_int ca_int (sab_cons (sv_bin ok_add (sv_bin ok_add (sv_bin ok_mul v_sc14_5 sv_int) (sv_bin ok_mul sv_int v_sc14_2)) sv_int).b sab_nil rfl) (by decide +kernel) (by decide +kernel) rfl) sv_int).n)
    (sss_cons (ss_append (kd := .local) (i := 1) (by decide +kernel) (by decide +kernel) (.inl rfl) (by decide +kernel) (by decide +kernel) (sv_bin ok_mod (sv_ty g_sc14_int bl_int bt_int ca_int (sab_cons (v_sc14_5).b sab_nil rfl) (by decide +kernel) (by decide +kernel) rfl) sv_int) rfl rfl)
    (sss_one (ss_append (kd := .local) (i := 1) (by decide +kernel) (by decide +kernel) (.inl rfl) (by decide +kernel) (by decide +kernel) (sv_bin ok_mod (sv_ty g_sc14_int bl_int bt_int ca_int (sab_cons (sv_bin ok_fdiv v_sc14_5 sv_int).b sab_nil rfl) (by decide +kernel) (by decide +kernel) rfl) sv_int) rfl rfl)))))))) (noFold rfl))
    (sss_one (ss_frz [1] (ss_ret v_sc14_1)))))
theorem w14 : Body tab ⟨"_law_draws", ["script"]⟩ (f14, 6, 1) (defBody st14) (defScope st14) := ⟨N14, fs14, rfl, rfl, fun k ev => bd14 k ev⟩
/-! ### _law_mix -/
abbrev st15 : Stmt := topS 28
def N15 : List Str := ["draws", "k", "many", "cell"]
def sc15 : List (Str × NameKind) := [(("draws" : Str), NameKind.local), (("k" : Str), NameKind.local), (("many" : Str), NameKind.local), (("cell" : Str), NameKind.local), (("len" : Str), NameKind.globalImplicit), (("int" : Str), NameKind.globalImplicit)]
theorem fs15 : FnScope N15 ["draws", "k", "many"] (defScope st15) := ⟨rfl, rfl, rfl, by decide +kernel, rfl, by decide +kernel, by decide +kernel⟩
theorem v_sc15_0 {k : Nat} {ev : Ev} {p : Pos} : SV tab N15 k ev sc15 (.Name ("draws" : Str) p) (eVar 0) := sv_var (kd := .local) (by decide +kernel) (by decide +kernel) (.inl rfl) (by decide +kernel) (by decide +kernel)
theorem g_sc15_len : sc15.lookup ("len" : Str) = some .globalImplicit := by decide +kernel
theorem v_sc15_1 {k : Nat} {ev : Ev} {p : Pos} : SV tab N15 k ev sc15 (.Name ("k" : Str) p) (eVar 1) := sv_var (kd := .local) (by decide +kernel) (by decide +kernel) (.inl rfl) (by decide +kernel) (by decide +kernel)
theorem g_sc15_int : sc15.lookup ("int" : Str) = some .globalImplicit := by decide +kernel
theorem v_sc15_3 {k : Nat} {ev : Ev} {p : Pos} : SV tab N15 k ev sc15 (.Name ("cell" : Str) p) (eVar 3) := sv_var (kd := .local) (by decide +kernel) (by decide +kernel) (.inl rfl) (by decide +kernel) (by decide +kernel)
theorem v_sc15_2 {k : Nat} {ev : Ev} {p : Pos} : SV tab N15 k ev sc15 (.Name ("many" : Str) p) (eVar 2) := sv_var (kd := .local) (by decide +kernel) (by decide +kernel) (.inl rfl) (by decide +kernel) (by decide +kernel)
def f15 : FS := (sSeq (sSet 3 (nV (eC (.int 0))))
    (sSeq (sIf (eTB (e2 pGt (eB (b1 pLen) (aCons (eVar 0) aNil)) (eC (.int 0)))) (sSet 3 (nV (e2 pIdx (eVar 0) (e2 pMod (eB (b1 pInt) (aCons (eVar 1) aNil)) (eB (b1 pLen) (aCons (eVar 0) aNil))))))
    sNil)
    (sSeq (sIf (eTB (e2 pLt (eVar 1) (eB (b1 pLen) (aCons (eVar 0) aNil)))) (sRet (e2 pMod (eB (b1 pInt) (aCons (eVar 3) aNil)) (eVar 2)))
    sNil)
    (sRet (e2 pMod (eB (b1 pInt) (aCons (e2 pFdiv (eB (b1 pInt) (aCons (e2 pAdd (e2 pMul (eVar 3) (eC (.int 7919))) (e2 pMul (eVar 1) (eC (.int 104729)))) aNil)) (eC (.int 3))) aNil)) (eVar 2))))))
theorem bd15 (k : Nat) (ev : Ev) : SSs tab N15 k ev sc15 (defBody st15) f15 :=
  (sss_cons (ss_set (kd := .local) (by decide +kernel) (by decide +kernel) (.inl rfl) (sw_no rfl) (sv_int).n)
    (sss_cons (ss_if (st_cmp ok_gt (sv_bi g_sc15_len bl_len bt_len ca_len (sab_cons (v_sc15_0).b sab_nil rfl) (by decide +kernel) (by decide +kernel) rfl).b (sv_int).b rfl) (sss_one (ss_set (kd := .local) (by decide +kernel) (by decide +kernel) (.inl rfl) (sw_no rfl) (sv_idx (v_sc15_0).b (sv_bin ok_mod (sv_ty g_sc15_int bl_int bt_int ca_int (sab_cons (v_sc15_1).b sab_nil rfl) (by decide +kernel) (by decide +kernel) rfl) (sv_bi g_sc15_len bl_len bt_len ca_len (sab_cons (v_sc15_0).b sab_nil rfl) (by decide +kernel) (by decide +kernel) rfl)) rfl).n))
    sss_nil)
    (sss_cons (ss_if (st_cmp ok_lt (v_sc15_1).b (sv_bi g_sc15_len bl_len bt_len ca_len (sab_cons (v_sc15_0).b sab_nil rfl) (by decide +kernel) (by decide +kernel) rfl).b rfl) (sss_one (ss_ret (sv_bin ok_mod (sv_ty g_sc15_int bl_int bt_int ca_int (sab_cons (v_sc15_3).b sab_nil rfl) (by decide +kernel) (by decide +kernel) rfl) v_sc15_2)))
    sss_nil)
    (sss_one (ss_ret (sv_bin ok_mod (sv_ty g_sc15_int bl_int bt_int ca_int (sab_cons (sv_bin ok_fdiv (sv_ty g_sc15_int bl_int bt_int ca_int (sab_cons (sv_bin ok_add (sv_bin ok_mul v_sc15_3 sv_int) (sv_bin ok_mul v_sc15_1 sv_int)).b sab_nil rfl) (by decide +kernel) (by decide +kernel) rfl) sv_int).b sab_nil rfl) (by decide +kernel) (by decide +kernel) rfl) v_sc15_2))))))
theorem w15 : Body tab ⟨"_law_mix", ["draws", "k", "many"]⟩ (f15, 4, 3) (defBody st15) (defScope st15) := ⟨N15, fs15, rfl, rfl, fun k ev => bd15 k ev⟩
/-! ### _law_text -/
abbrev st16 : Stmt := topS 29
def N16 : List Str := ["draws", "k", "size", "signs", "t"]
def sc16 : List (Str × NameKind) := [(("draws" : Str), NameKind.cell), (("k" : Str), NameKind.cell), (("size" : Str), NameKind.local), (("signs" : Str), NameKind.cell), (("range" : Str), NameKind.globalImplicit)]
theorem fs16 : FnScope N16 ["draws", "k", "size", "signs"] (defScope st16) := ⟨rfl, rfl, rfl, by decide +kernel, rfl, by decide +kernel, by decide +kernel⟩
theorem v_sc16_2 {k : Nat} {ev : Ev} {p : Pos} : SV tab N16 k ev sc16 (.Name ("size" : Str) p) (eVar 2) := sv_var (kd := .local) (by decide +kernel) (by decide +kernel) (.inl rfl) (by decide +kernel) (by decide +kernel)
theorem g_sc16_range : sc16.lookup ("range" : Str) = some .globalImplicit := by decide +kernel
def sc16_1 : List (Str × NameKind) := [((".0" : Str), NameKind.local), (("t" : Str), NameKind.local), (("_law_mix" : Str), NameKind.globalImplicit), (("len" : Str), NameKind.globalImplicit), (("draws" : Str), NameKind.cell), (("k" : Str), NameKind.cell), (("signs" : Str), NameKind.cell)]
theorem v_sc16_1_3 {k : Nat} {ev : Ev} {p : Pos} : SV tab N16 k ev sc16_1 (.Name ("signs" : Str) p) (eVar 3) := sv_var (kd := .cell) (by decide +kernel) (by decide +kernel) (.inr (.inl rfl)) (by decide +kernel) (by decide +kernel)
theorem g_sc16_1_len : sc16_1.lookup ("len" : Str) = some .globalImplicit := by decide +kernel
theorem v_sc16_1_1 {k : Nat} {ev : Ev} {p : Pos} : SV tab N16 k ev sc16_1 (.Name ("k" : Str) p) (eVar 1) := sv_var (kd := .cell) (by decide +kernel) (by decide +kernel) (.inr (.inl rfl)) (by decide +kernel) (by decide +kernel)
theorem v_sc16_1_4 {k : Nat} {ev : Ev} {p : Pos} : SV tab N16 k ev sc16_1 (.Name ("t" : Str) p) (eVar 4) := sv_var (kd := .local) (by decide +kernel) (by decide +kernel) (.inl rfl) (by decide +kernel) (by decide +kernel)
theorem v_sc16_1_0 {k : Nat} {ev : Ev} {p : Pos} : SV tab N16 k ev sc16_1 (.Name ("draws" : Str) p) (eVar 0) := sv_var (kd := .cell) (by decide +kernel) (by decide +kernel) (.inr (.inl rfl)) (by decide +kernel) (by decide +kernel)
theorem g_sc16_1__law_mix : sc16_1.lookup ("_law_mix" : Str) = some .globalImplicit := by decide +kernel
def f16 : FS := (sRet (eM isS mJoin (eC (.str ("" : Str))) (aCons (eLc [4] (.v 4) (iB (q1 pRng1) (aCons (eVar 2) aNil)) tYesF (e2 pIdx (eVar 3) (eCall 15 (aCons (eVar 0) (aCons (e2 pAdd (eVar 1) (eVar 4)) (aCons (eB (b1 pLen) (aCons (eVar 3) aNil)) aNil)))))) aNil)))
theorem bd16 (k : Nat) (ev : Ev) : SSs tab N16 k ev sc16 (defBody st16) f16 :=
  (sss_one (ss_ret (sv_m me_join (fun _ => rfl) (sv_str so0).b (sab_cons (sf_lc2 (own := [("t", 4)]) (sc2 := sc16_1) (by decide +kernel) (by decide +kernel) (si_rng1 rfl g_sc16_range bl_range (sa_cons v_sc16_2 sa_nil rfl) rfl) (sg_name (kd := .local) (by decide +kernel) (by decide +kernel) (.inl rfl)) .nil (sv_idx (v_sc16_1_3).b (sv_call (j := 15) (fi := ⟨"_law_mix", ["draws", "k", "many"]⟩) rfl g_sc16_1__law_mix (sa_cons v_sc16_1_0 (sa_cons (sv_bin ok_add v_sc16_1_1 v_sc16_1_4) (sa_cons (sv_bi g_sc16_1_len bl_len bt_len ca_len (sab_cons (v_sc16_1_3).b sab_nil rfl) (by decide +kernel) (by decide +kernel) rfl) sa_nil rfl) rfl) rfl) (.cons (.cons (.cons .nil))) (by decide +kernel) rfl) rfl) (by decide +kernel) rfl).v.b sab_nil rfl) rfl rfl rfl)))
theorem w16 : Body tab ⟨"_law_text", ["draws", "k", "size", "signs"]⟩ (f16, 5, 4) (defBody st16) (defScope st16) := ⟨N16, fs16, rfl, rfl, fun k ev => bd16 k ev⟩
/-! ### _law_list -/
abbrev st17 : Stmt := topS 30
def N17 : List Str := ["draws", "k", "many", "sizes", "signs", "found", "t", "at", "text", "old", "spot"]
def sc17 : List (Str × NameKind) := [(("draws" : Str), NameKind.local), (("k" : Str), NameKind.local), (("many" : Str), NameKind.local), (("sizes" : Str), NameKind.local), (("signs" : Str), NameKind.local), (("found" : Str), NameKind.local), (("t" : Str), NameKind.local), (("at" : Str), NameKind.local), (("text" : Str), NameKind.local), (("old" : Str), NameKind.local), (("spot" : Str), NameKind.local), (("range" : Str), NameKind.globalImplicit), (("_law_text" : Str), NameKind.globalImplicit), (("_law_mix" : Str), NameKind.globalImplicit), (("len" : Str), NameKind.globalImplicit), (("sorted" : Str), NameKind.globalImplicit), (("set" : Str), NameKind.globalImplicit)]
theorem fs17 : FnScope N17 ["draws", "k", "many", "sizes", "signs"] (defScope st17) := ⟨rfl, rfl, rfl, by decide +kernel, rfl, by decide +kernel, by decide +kernel⟩
theorem v_sc17_2 {k : Nat} {ev : Ev} {p : Pos} : SV tab N17 k ev sc17 (.Name ("many" : Str) p) (eVar 2) := sv_var (kd := .local) (by decide +kernel) (by decide +kernel) (.inl rfl) (by decide +kernel) (by decide +kernel)
theorem g_sc17_range : sc17.lookup ("range" : Str) = some .globalImplicit := by decide +kernel
theorem v_sc17_1 {k : Nat} {ev : Ev} {p : Pos} : SV tab N17 k ev sc17 (.Name ("k" : Str) p) (eVar 1) := sv_var (kd := .local) (by decide +kernel) (by decide +kernel) (.inl rfl) (by decide +kernel) (by decide +kernel)
theorem v_sc17_6 {k : Nat} {ev : Ev} {p : Pos} : SV tab N17 k ev sc17 (.Name ("t" : Str) p) (eVar 6) := sv_var (kd := .local) (by decide +kernel) (by decide +kernel) (.inl rfl) (by decide +kernel) (by decide +kernel)
theorem v_sc17_4 {k : Nat} {ev : Ev} {p : Pos} : SV tab N17 k ev sc17 (.Name ("signs" : Str) p) (eVar 4) := sv_var (kd := .local) (by decide +kernel) (by decide +kernel) (.inl rfl) (by decide +kernel) (by decide +kernel)
theorem v_sc17_3 {k : Nat} {ev : Ev} {p : Pos} : SV tab N17 k ev sc17 (.Name ("sizes" : Str) p) (eVar 3) := sv_var (kd := .local) (by decide +kernel) (by decide +kernel) (.inl rfl) (by decide +kernel) (by decide +kernel)
theorem g_sc17_len : sc17.lookup ("len" : Str) = some .globalImplicit := by decide +kernel
theorem v_sc17_7 {k : Nat} {ev : Ev} {p : Pos} : SV tab N17 k ev sc17 (.Name ("at" : Str) p) (eVar 7) := sv_var (kd := .local) (by decide +kernel) (by decide +kernel) (.inl rfl) (by decide +kernel) (by decide +kernel)
theorem v_sc17_0 {k : Nat} {ev : Ev} {p : Pos} : SV tab N17 k ev sc17 (.Name ("draws" : Str) p) (eVar 0) := sv_var (kd := .local) (by decide +kernel) (by decide +kernel) (.inl rfl) (by decide +kernel) (by decide +kernel)
theorem g_sc17__law_mix : sc17.lookup ("_law_mix" : Str) = some .globalImplicit := by decide +kernel
theorem g_sc17__law_text : sc17.lookup ("_law_text" : Str) = some .globalImplicit := by decide +kernel
theorem b_sc17_5 {k : Nat} {ev : Ev} {p : Pos} : SB tab N17 k ev sc17 (.Name ("found" : Str) p) (eBor 5) := sb_var (kd := .local) (by decide +kernel) (by decide +kernel) (.inl rfl) (by decide +kernel) (by decide +kernel)
theorem v_sc17_9 {k : Nat} {ev : Ev} {p : Pos} : SV tab N17 k ev sc17 (.Name ("old" : Str) p) (eVar 9) := sv_var (kd := .local) (by decide +kernel) (by decide +kernel) (.inl rfl) (by decide +kernel) (by decide +kernel)
theorem v_sc17_10 {k : Nat} {ev : Ev} {p : Pos} : SV tab N17 k ev sc17 (.Name ("spot" : Str) p) (eVar 10) := sv_var (kd := .local) (by decide +kernel) (by decide +kernel) (.inl rfl) (by decide +kernel) (by decide +kernel)
theorem v_sc17_8 {k : Nat} {ev : Ev} {p : Pos} : SV tab N17 k ev sc17 (.Name ("text" : Str) p) (eVar 8) := sv_var (kd := .local) (by decide +kernel) (by decide +kernel) (.inl rfl) (by decide +kernel) (by decide +kernel)
theorem g_sc17_sorted : sc17.lookup ("sorted" : Str) = some .globalImplicit := by decide +kernel
theorem g_sc17_set : sc17.lookup ("set" : Str) = some .globalImplicit := by decide +kernel
def f17 : FS := (sSeq (sSet 5 (nF (eLst aNil)))
    (sSeq (sFor (.v 6) (iB (q1 pRng1) (aCons (eVar 2) aNil))
    (sSeq (sSet 7 (nV (e2 pAdd (eVar 1) (e2 pMul (eC (.int 11)) (eVar 6)))))
    (sSeq (sSet 8 (nV (eCall 16 (aCons (eVar 0) (aCons (eVar 7) (aCons (e2 pIdx (eVar 3) (eCall 15 (aCons (eVar 0) (aCons (e2 pAdd (eVar 7) (eC (.int 8))) (aCons (eB (b1 pLen) (aCons (eVar 3) aNil)) aNil))))) (aCons (eVar 4) aNil)))))))
    (sSeq (sIf (eTAnd (eTB (e2 pNe2 (eBor 5) (eLst aNil))) (eTB (e2 pEq2 (eCall 15 (aCons (eVar 0) (aCons (e2 pAdd (eVar 7) (eC (.int 9))) (aCons (eC (.int 2)) aNil)))) (eC (.int 0))))) (sSeq (sSet 9 (nV (e2 pIdx (eBor 5) (eCall 15 (aCons (eVar 0) (aCons (e2 pAdd (eVar 7) (eC (.int 10))) (aCons (eB (b1 pLen) (aCons (eBor 5) aNil)) aNil)))))))
    (sSeq (sSet 10 (nV (e2 pIdx (eLst (aCons (eCall 15 (aCons (eVar 0) (aCons (e2 pAdd (eVar 7) (eC (.int 9))) (aCons (eB (b1 pLen) (aCons (eVar 9) aNil)) aNil)))) (aCons (e2 pSub (eB (b1 pLen) (aCons (eVar 9) aNil)) (eC (.int 1))) aNil))) (eCall 15 (aCons (eVar 0) (aCons (e2 pAdd (eVar 7) (eC (.int 10))) (aCons (eC (.int 2)) aNil)))))))
    (sSet 8 (nV (e2 pAdd (e2 pAdd (eCut (eVar 9) oN (oS (eVar 10))) (e2 pIdx (eVar 4) (eCall 15 (aCons (eVar 0) (aCons (e2 pAdd (eVar 7) (eC (.int 8))) (aCons (eB (b1 pLen) (aCons (eVar 4) aNil)) aNil)))))) (eCut (eVar 9) (oS (e2 pAdd (eVar 10) (eC (.int 1)))) oN))))))
    sNil)
    (sApp 5 (eVar 8))))))
    (sRet (e1 pSortSet (eBor 5)))))
theorem bd17 (k : Nat) (ev : Ev) : SSs tab N17 k ev sc17 (defBody st17) f17 :=
  (sss_cons (ss_set (kd := .local) (by decide +kernel) (by decide +kernel) (.inl rfl) (sw_no rfl) (sf_lst sa_nil).n)
    (sss_cons (ss_for (si_rng1 rfl g_sc17_range bl_range (sa_cons v_sc17_2 sa_nil rfl) rfl) (sg_name (kd := .local) (by decide +kernel) (by decide +kernel) (.inl rfl)) (sss_cons (ss_set (kd := .local) (by decide +kernel) (by decide +kernel) (.inl rfl) (sw_no rfl) (sv_bin ok_add v_sc17_1 (sv_bin ok_mul sv_int v_sc17_6)).n)
    (sss_cons (ss_set (kd := .local) (by decide +kernel) (by decide +kernel) (.inl rfl) (sw_no rfl) (sv_call (j := 16) (fi := ⟨"_law_text", ["draws", "k", "size", "signs"]⟩) rfl g_sc17__law_text (sa_cons v_sc17_0 (sa_cons v_sc17_7 (sa_cons (sv_idx (v_sc17_3).b (sv_call (j := 15) (fi := ⟨"_law_mix", ["draws", "k", "many"]⟩) rfl g_sc17__law_mix (sa_cons v_sc17_0 (sa_cons (sv_bin ok_add v_sc17_7 sv_int) (sa_cons (sv_bi g_sc17_len bl_len bt_len ca_len (sab_cons (v_sc17_3).b sab_nil rfl) (by decide +kernel) (by decide +kernel) rfl) sa_nil rfl) rfl) rfl) (.cons (.cons (.cons .nil))) (by decide +kernel) rfl) rfl) (sa_cons v_sc17_4 sa_nil rfl) rfl) rfl) rfl) (.cons (.cons (.cons (.cons .nil)))) (by decide +kernel) rfl).n)
    (sss_cons (ss_if (SPW.st (sw_and (st_cmp ok_ne2 b_sc17_5 (sf_lst sa_nil).v.b rfl) (sw_and1 (st_cmp ok_eq2 (sv_call (j := 15) (fi := ⟨"_law_mix", ["draws", "k", "many"]⟩) rfl g_sc17__law_mix (sa_cons v_sc17_0 (sa_cons (sv_bin ok_add v_sc17_7 sv_int) (sa_cons sv_int sa_nil rfl) rfl) rfl) (.cons (.cons (.cons .nil))) (by decide +kernel) rfl).b (sv_int).b rfl)))) (sss_cons (ss_set (kd := .local) (by decide +kernel) (by decide +kernel) (.inl rfl) (sw_no rfl) (sv_idx b_sc17_5 (sv_call (j := 15) (fi := ⟨"_law_mix", ["draws", "k", "many"]⟩) rfl g_sc17__law_mix (sa_cons v_sc17_0 (sa_cons (sv_bin ok_add v_sc17_7 sv_int) (sa_cons (sv_bi g_sc17_len bl_len bt_len ca_len (sab_cons b_sc17_5 sab_nil rfl) (by decide +kernel) (by decide +kernel) rfl) sa_nil rfl) rfl) rfl) (.cons (.cons (.cons .nil))) (by decide +kernel) rfl) rfl).n)
    (sss_cons (ss_set (kd := .local) (by decide +kernel) (by decide +kernel) (.inl rfl) (sw_no rfl) (sv_idx (sf_lst (sa_cons (sv_call (j := 15) (fi := ⟨"_law_mix", ["draws", "k", "many"]⟩) rfl g_sc17__law_mix (sa_cons v_sc17_0 (sa_cons (sv_bin ok_add v_sc17_7 sv_int) (sa_cons (sv_bi g_sc17_len bl_len bt_len ca_len (sab_cons (v_sc17_9).b sab_nil rfl) (by decide +kernel) (by decide +kernel) rfl) sa_nil rfl) rfl) rfl) (.cons (.cons (.cons .nil))) (by decide +kernel) rfl) (sa_cons (sv_bin ok_sub (sv_bi g_sc17_len bl_len bt_len ca_len (sab_cons (v_sc17_9).b sab_nil rfl) (by decide +kernel) (by decide +kernel) rfl) sv_int) sa_nil rfl) rfl)).v.b (sv_call (j := 15) (fi := ⟨"_law_mix", ["draws", "k", "many"]⟩) rfl g_sc17__law_mix (sa_cons v_sc17_0 (sa_cons (sv_bin ok_add v_sc17_7 sv_int) (sa_cons sv_int sa_nil rfl) rfl) rfl) (.cons (.cons (.cons .nil))) (by decide +kernel) rfl) rfl).n)
    (sss_one (ss_set (kd := .local) (by decide +kernel) (by decide +kernel) (.inl rfl) (sw_no rfl) (sv_bin ok_add (sv_bin ok_add (sv_cut v_sc17_9 so_none (so_some v_sc17_10)) (sv_idx (v_sc17_4).b (sv_call (j := 15) (fi := ⟨"_law_mix", ["draws", "k", "many"]⟩) rfl g_sc17__law_mix (sa_cons v_sc17_0 (sa_cons (sv_bin ok_add v_sc17_7 sv_int) (sa_cons (sv_bi g_sc17_len bl_len bt_len ca_len (sab_cons (v_sc17_4).b sab_nil rfl) (by decide +kernel) (by decide +kernel) rfl) sa_nil rfl) rfl) rfl) (.cons (.cons (.cons .nil))) (by decide +kernel) rfl) rfl)) (sv_cut v_sc17_9 (so_some (sv_bin ok_add v_sc17_10 sv_int)) so_none)).n))))
    sss_nil)
    (sss_one (ss_append (kd := .local) (i := 5) (by decide +kernel) (by decide +kernel) (.inl rfl) (by decide +kernel) (by decide +kernel) v_sc17_8 rfl rfl))))) (noFold rfl))
    (sss_one (ss_ret (sf_sortedSet rfl rfl g_sc17_sorted bl_sorted g_sc17_set bl_set b_sc17_5 rfl).v))))
theorem w17 : Body tab ⟨"_law_list", ["draws", "k", "many", "sizes", "signs"]⟩ (f17, 11, 5) (defBody st17) (defScope st17) := ⟨N17, fs17, rfl, rfl, fun k ev => bd17 k ev⟩
/-! ### _law_pattern -/
abbrev st18 : Stmt := topS 31
def N18 : List Str := ["text", "found", "t", "first"]
def sc18 : List (Str × NameKind) := [(("text" : Str), NameKind.local), (("found" : Str), NameKind.local), (("t" : Str), NameKind.local), (("first" : Str), NameKind.local), (("range" : Str), NameKind.globalImplicit), (("len" : Str), NameKind.globalImplicit), (("set" : Str), NameKind.globalImplicit), (("tuple" : Str), NameKind.globalImplicit)]
theorem fs18 : FnScope N18 ["text"] (defScope st18) := ⟨rfl, rfl, rfl, by decide +kernel, rfl, by decide +kernel, by decide +kernel⟩
theorem v_sc18_0 {k : Nat} {ev : Ev} {p : Pos} : SV tab N18 k ev sc18 (.Name ("text" : Str) p) (eVar 0) := sv_var (kd := .local) (by decide +kernel) (by decide +kernel) (.inl rfl) (by decide +kernel) (by decide +kernel)
theorem g_sc18_len : sc18.lookup ("len" : Str) = some .globalImplicit := by decide +kernel
theorem g_sc18_range : sc18.lookup ("range" : Str) = some .globalImplicit := by decide +kernel
theorem v_sc18_2 {k : Nat} {ev : Ev} {p : Pos} : SV tab N18 k ev sc18 (.Name ("t" : Str) p) (eVar 2) := sv_var (kd := .local) (by decide +kernel) (by decide +kernel) (.inl rfl) (by decide +kernel) (by decide +kernel)
theorem v_sc18_3 {k : Nat} {ev : Ev} {p : Pos} : SV tab N18 k ev sc18 (.Name ("first" : Str) p) (eVar 3) := sv_var (kd := .local) (by decide +kernel) (by decide +kernel) (.inl rfl) (by decide +kernel) (by decide +kernel)
theorem g_sc18_set : sc18.lookup ("set" : Str) = some .globalImplicit := by decide +kernel
theorem b_sc18_1 {k : Nat} {ev : Ev} {p : Pos} : SB tab N18 k ev sc18 (.Name ("found" : Str) p) (eBor 1) := sb_var (kd := .local) (by decide +kernel) (by decide +kernel) (.inl rfl) (by decide +kernel) (by decide +kernel)
theorem g_sc18_tuple : sc18.lookup ("tuple" : Str) = some .globalImplicit := by decide +kernel
def f18 : FS := (sSeq (sSet 1 (nF (eLst aNil)))
    (sSeq (sFor (.v 2) (iB (q1 pRng1) (aCons (eB (b1 pLen) (aCons (eVar 0) aNil)) aNil))
    (sSeq (sSet 3 (nV (eM2 isL mIndexL isS mIndexS (eVar 0) (aCons (e2 pIdx (eVar 0) (eVar 2)) aNil))))
    (sApp 1 (e1 pLenSet (eCut (eVar 0) oN (oS (eVar 3)))))))
    (sRet (eB (b1 pTuple) (aCons (eBor 1) aNil)))))
theorem bd18 (k : Nat) (ev : Ev) : SSs tab N18 k ev sc18 (defBody st18) f18 :=
  (sss_cons (ss_set (kd := .local) (by decide +kernel) (by decide +kernel) (.inl rfl) (sw_no rfl) (sf_lst sa_nil).n)
    (sss_cons (ss_for (si_rng1 rfl g_sc18_range bl_range (sa_cons (sv_bi g_sc18_len bl_len bt_len ca_len (sab_cons (v_sc18_0).b sab_nil rfl) (by decide +kernel) (by decide +kernel) rfl) sa_nil rfl) rfl) (sg_name (kd := .local) (by decide +kernel) (by decide +kernel) (.inl rfl)) (sss_cons (ss_set (kd := .local) (by decide +kernel) (by decide +kernel) (.inl rfl) (sw_no rfl) (sv_m2 me_indexL me_indexS (fun _ => rfl) (v_sc18_0).b (sab_cons (sv_idx (v_sc18_0).b v_sc18_2 rfl).b sab_nil rfl) rfl rfl rfl).n)
    (sss_one (ss_append (kd := .local) (i := 1) (by decide +kernel) (by decide +kernel) (.inl rfl) (by decide +kernel) (by decide +kernel) (sv_lenSet rfl rfl g_sc18_len bl_len g_sc18_set bl_set (sv_cut v_sc18_0 so_none (so_some v_sc18_3)).b rfl) rfl rfl))) (noFold rfl))
    (sss_one (ss_ret (sv_ty g_sc18_tuple bl_tuple bt_tuple ca_tuple (sab_cons b_sc18_1 sab_nil rfl) (by decide +kernel) (by decide +kernel) rfl)))))
theorem w18 : Body tab ⟨"_law_pattern", ["text"]⟩ (f18, 4, 1) (defBody st18) (defScope st18) := ⟨N18, fs18, rfl, rfl, fun k ev => bd18 k ev⟩
/-! ### _law_is_pattern -/
abbrev st19 : Stmt := topS 32
def N19 : List Str := ["told", "t"]
def sc19 : List (Str × NameKind) := [(("told" : Str), NameKind.cell), (("range" : Str), NameKind.globalImplicit), (("len" : Str), NameKind.globalImplicit)]
theorem fs19 : FnScope N19 ["told"] (defScope st19) := ⟨rfl, rfl, rfl, by decide +kernel, rfl, by decide +kernel, by decide +kernel⟩
theorem v_sc19_0 {k : Nat} {ev : Ev} {p : Pos} : SV tab N19 k ev sc19 (.Name ("told" : Str) p) (eVar 0) := sv_var (kd := .cell) (by decide +kernel) (by decide +kernel) (.inr (.inl rfl)) (by decide +kernel) (by decide +kernel)
theorem g_sc19_len : sc19.lookup ("len" : Str) = some .globalImplicit := by decide +kernel
theorem g_sc19_range : sc19.lookup ("range" : Str) = some .globalImplicit := by decide +kernel
def sc19_1 : List (Str × NameKind) := [((".0" : Str), NameKind.local), (("t" : Str), NameKind.local), (("max" : Str), NameKind.globalImplicit), (("told" : Str), NameKind.cell)]
theorem v_sc19_1_0 {k : Nat} {ev : Ev} {p : Pos} : SV tab N19 k ev sc19_1 (.Name ("told" : Str) p) (eVar 0) := sv_var (kd := .cell) (by decide +kernel) (by decide +kernel) (.inr (.inl rfl)) (by decide +kernel) (by decide +kernel)
theorem v_sc19_1_1 {k : Nat} {ev : Ev} {p : Pos} : SV tab N19 k ev sc19_1 (.Name ("t" : Str) p) (eVar 1) := sv_var (kd := .local) (by decide +kernel) (by decide +kernel) (.inl rfl) (by decide +kernel) (by decide +kernel)
theorem g_sc19_1_max : sc19_1.lookup ("max" : Str) = some .globalImplicit := by decide +kernel
def f19 : FS := (sSeq (sIf (eTB (e2 pEq2 (eVar 0) (eTup aNil))) (sRet (eC (.bool false)))
    sNil)
    (sRet (e2 pEq2 (eLc [1] (.v 1) (iB (q1 pRng1) (aCons (eB (b1 pLen) (aCons (eVar 0) aNil)) aNil)) (eTNot (eTB (eChain pLe pLe (eC (.int 0)) (e2 pIdx (eVar 0) (eVar 1)) (e2 pAdd (eB (b1 pMax) (aCons (e2 pAdd (eTup (aCons (e1 pNeg (eC (.int 1))) aNil)) (eCut (eVar 0) oN (oS (eVar 1)))) aNil)) (eC (.int 1)))))) (eVar 1)) (eLst aNil))))
theorem bd19 (k : Nat) (ev : Ev) : SSs tab N19 k ev sc19 (defBody st19) f19 :=
  (sss_cons (ss_if (st_cmp ok_eq2 (v_sc19_0).b (sv_tup sa_nil).b rfl) (sss_one (ss_ret sv_bool))
    sss_nil)
    (sss_one (ss_ret (sv_cmp ok_eq2 (sf_lc2 (own := [("t", 1)]) (sc2 := sc19_1) (by decide +kernel) (by decide +kernel) (si_rng1 rfl g_sc19_range bl_range (sa_cons (sv_bi g_sc19_len bl_len bt_len ca_len (sab_cons (v_sc19_0).b sab_nil rfl) (by decide +kernel) (by decide +kernel) rfl) sa_nil rfl) rfl) (sg_name (kd := .local) (by decide +kernel) (by decide +kernel) (.inl rfl)) (.one (st_not (st_chain ok_le ok_le (sv_int).b (sv_idx (v_sc19_1_0).b v_sc19_1_1 rfl).b (sv_bin ok_add (sv_bi g_sc19_1_max bl_max bt_max ca_max (sab_cons (sv_bin ok_add (sv_tup (sa_cons (sv_neg (sv_int).b) sa_nil rfl)) (sv_cut v_sc19_1_0 so_none (so_some v_sc19_1_1))).b sab_nil rfl) (by decide +kernel) (by decide +kernel) rfl) sv_int).b rfl))) v_sc19_1_1 (by decide +kernel) rfl).v.b (sf_lst sa_nil).v.b rfl))))
theorem w19 : Body tab ⟨"_law_is_pattern", ["told"]⟩ (f19, 2, 1) (defBody st19) (defScope st19) := ⟨N19, fs19, rfl, rfl, fun k ev => bd19 k ev⟩
/-! ### _law_all -/
abbrev st20 : Stmt := topS 33
def N20 : List Str := ["length", "found", "turn", "more", "row", "number"]
def sc20 : List (Str × NameKind) := [(("length" : Str), NameKind.local), (("found" : Str), NameKind.local), (("turn" : Str), NameKind.local), (("more" : Str), NameKind.local), (("row" : Str), NameKind.cell), (("range" : Str), NameKind.globalImplicit), (("max" : Str), NameKind.globalImplicit)]
theorem fs20 : FnScope N20 ["length"] (defScope st20) := ⟨rfl, rfl, rfl, by decide +kernel, rfl, by decide +kernel, by decide +kernel⟩
theorem v_sc20_0 {k : Nat} {ev : Ev} {p : Pos} : SV tab N20 k ev sc20 (.Name ("length" : Str) p) (eVar 0) := sv_var (kd := .local) (by decide +kernel) (by decide +kernel) (.inl rfl) (by decide +kernel) (by decide +kernel)
theorem g_sc20_range : sc20.lookup ("range" : Str) = some .globalImplicit := by decide +kernel
theorem v_sc20_1 {k : Nat} {ev : Ev} {p : Pos} : SV tab N20 k ev sc20 (.Name ("found" : Str) p) (eVar 1) := sv_var (kd := .local) (by decide +kernel) (by decide +kernel) (.inl rfl) (by decide +kernel) (by decide +kernel)
theorem v_sc20_3 {k : Nat} {ev : Ev} {p : Pos} : SV tab N20 k ev sc20 (.Name ("more" : Str) p) (eVar 3) := sv_var (kd := .local) (by decide +kernel) (by decide +kernel) (.inl rfl) (by decide +kernel) (by decide +kernel)
theorem v_sc20_4 {k : Nat} {ev : Ev} {p : Pos} : SV tab N20 k ev sc20 (.Name ("row" : Str) p) (eVar 4) := sv_var (kd := .cell) (by decide +kernel) (by decide +kernel) (.inr (.inl rfl)) (by decide +kernel) (by decide +kernel)
theorem g_sc20_max : sc20.lookup ("max" : Str) = some .globalImplicit := by decide +kernel
def sc20_1 : List (Str × NameKind) := [((".0" : Str), NameKind.local), (("number" : Str), NameKind.local), (("row" : Str), NameKind.cell)]
theorem v_sc20_1_4 {k : Nat} {ev : Ev} {p : Pos} : SV tab N20 k ev sc20_1 (.Name ("row" : Str) p) (eVar 4) := sv_var (kd := .cell) (by decide +kernel) (by decide +kernel) (.inr (.inl rfl)) (by decide +kernel) (by decide +kernel)
theorem v_sc20_1_5 {k : Nat} {ev : Ev} {p : Pos} : SV tab N20 k ev sc20_1 (.Name ("number" : Str) p) (eVar 5) := sv_var (kd := .local) (by decide +kernel) (by decide +kernel) (.inl rfl) (by decide +kernel) (by decide +kernel)
def f20 : FS := (sSeq (sSet 1 (nV (eLst (aCons (eTup aNil) aNil))))
    (sSeq (sFor (.v 2) (iB (q1 pRng1) (aCons (eVar 0) aNil))
    (sSeq (sSet 3 (nV (eLst aNil)))
    (sSeq (sFor (.v 4) (iVal (eVar 1))
    (sSet 3 (nV (e2 pAdd (eVar 3) (eLc [5] (.v 5) (iB (q1 pRng1) (aCons (e2 pAdd (eB (b1 pMax) (aCons (e2 pAdd (eTup (aCons (e1 pNeg (eC (.int 1))) aNil)) (eVar 4)) aNil)) (eC (.int 2))) aNil)) tYesF (e2 pAdd (eVar 4) (eTup (aCons (eVar 5) aNil))))))))
    (sSet 1 (nV (eVar 3))))))
    (sRet (eVar 1))))
theorem bd20 (k : Nat) (ev : Ev) : SSs tab N20 k ev sc20 (defBody st20) f20 :=
  (sss_cons (ss_set (kd := .local) (by decide +kernel) (by decide +kernel) (.inl rfl) (sw_no rfl) (sf_lst (sa_cons (sv_tup sa_nil) sa_nil rfl)).v.n)
    (sss_cons (ss_for (si_rng1 rfl g_sc20_range bl_range (sa_cons v_sc20_0 sa_nil rfl) rfl) (sg_name (kd := .local) (by decide +kernel) (by decide +kernel) (.inl rfl)) (sss_cons (ss_set (kd := .local) (by decide +kernel) (by decide +kernel) (.inl rfl) (sw_no rfl) (sf_lst sa_nil).v.n)
    (sss_cons (ss_for (si_val v_sc20_1) (sg_name (kd := .cell) (by decide +kernel) (by decide +kernel) (.inr ⟨rfl, rfl⟩)) (sss_one (ss_set (kd := .local) (by decide +kernel) (by decide +kernel) (.inl rfl) (sw_no rfl) (sv_bin ok_add v_sc20_3 (sf_lc2 (own := [("number", 5)]) (sc2 := sc20_1) (by decide +kernel) (by decide +kernel) (si_rng1 rfl g_sc20_range bl_range (sa_cons (sv_bin ok_add (sv_bi g_sc20_max bl_max bt_max ca_max (sab_cons (sv_bin ok_add (sv_tup (sa_cons (sv_neg (sv_int).b) sa_nil rfl)) v_sc20_4).b sab_nil rfl) (by decide +kernel) (by decide +kernel) rfl) sv_int) sa_nil rfl) rfl) (sg_name (kd := .local) (by decide +kernel) (by decide +kernel) (.inl rfl)) .nil (sv_bin ok_add v_sc20_1_4 (sv_tup (sa_cons v_sc20_1_5 sa_nil rfl))) (by decide +kernel) rfl).v).n)) (noFold rfl))
    (sss_one (ss_set (kd := .local) (by decide +kernel) (by decide +kernel) (.inl rfl) (sw_no rfl) (v_sc20_3).n)))) (noFold rfl))
    (sss_one (ss_ret v_sc20_1))))
theorem w20 : Body tab ⟨"_law_all", ["length"]⟩ (f20, 6, 1) (defBody st20) (defScope st20) := ⟨N20, fs20, rfl, rfl, fun k ev => bd20 k ev⟩
/-! ### _law_bell -/
abbrev st21 : Stmt := topS 34
def N21 : List Str := ["length", "row", "turn", "more", "one"]
def sc21 : List (Str × NameKind) := [(("length" : Str), NameKind.local), (("row" : Str), NameKind.local), (("turn" : Str), NameKind.local), (("more" : Str), NameKind.local), (("one" : Str), NameKind.local), (("range" : Str), NameKind.globalImplicit)]
theorem fs21 : FnScope N21 ["length"] (defScope st21) := ⟨rfl, rfl, rfl, by decide +kernel, rfl, by decide +kernel, by decide +kernel⟩
theorem v_sc21_0 {k : Nat} {ev : Ev} {p : Pos} : SV tab N21 k ev sc21 (.Name ("length" : Str) p) (eVar 0) := sv_var (kd := .local) (by decide +kernel) (by decide +kernel) (.inl rfl) (by decide +kernel) (by decide +kernel)
theorem g_sc21_range : sc21.lookup ("range" : Str) = some .globalImplicit := by decide +kernel
theorem v_sc21_1 {k : Nat} {ev : Ev} {p : Pos} : SV tab N21 k ev sc21 (.Name ("row" : Str) p) (eVar 1) := sv_var (kd := .local) (by decide +kernel) (by decide +kernel) (.inl rfl) (by decide +kernel) (by decide +kernel)
theorem b_sc21_3 {k : Nat} {ev : Ev} {p : Pos} : SB tab N21 k ev sc21 (.Name ("more" : Str) p) (eBor 3) := sb_var (kd := .local) (by decide +kernel) (by decide +kernel) (.inl rfl) (by decide +kernel) (by decide +kernel)
theorem v_sc21_4 {k : Nat} {ev : Ev} {p : Pos} : SV tab N21 k ev sc21 (.Name ("one" : Str) p) (eVar 4) := sv_var (kd := .local) (by decide +kernel) (by decide +kernel) (.inl rfl) (by decide +kernel) (by decide +kernel)
theorem v_sc21_3 {k : Nat} {ev : Ev} {p : Pos} : SV tab N21 k ev sc21 (.Name ("more" : Str) p) (eVar 3) := sv_var (kd := .local) (by decide +kernel) (by decide +kernel) (.inl rfl) (by decide +kernel) (by decide +kernel)
def f21 : FS := (sSeq (sSet 1 (nV (eLst (aCons (eC (.int 1)) aNil))))
    (sSeq (sFor (.v 2) (iB (q1 pRng1) (aCons (eVar 0) aNil))
    (sSeq (sSet 3 (nF (eLst (aCons (e2 pIdx (eVar 1) (e1 pNeg (eC (.int 1)))) aNil))))
    (sSeq (sFor (.v 4) (iVal (eVar 1))
    (sApp 3 (e2 pAdd (e2 pIdx (eBor 3) (e1 pNeg (eC (.int 1)))) (eVar 4))))
    (sFrz [3] (sSet 1 (nV (eVar 3)))))))
    (sRet (e2 pIdx (eVar 1) (eC (.int 0))))))
theorem bd21 (k : Nat) (ev : Ev) : SSs tab N21 k ev sc21 (defBody st21) f21 :=
  (sss_cons (ss_set (kd := .local) (by decide +kernel) (by decide +kernel) (.inl rfl) (sw_no rfl) (sf_lst (sa_cons sv_int sa_nil rfl)).v.n)
    (sss_cons (ss_for (si_rng1 rfl g_sc21_range bl_range (sa_cons v_sc21_0 sa_nil rfl) rfl) (sg_name (kd := .local) (by decide +kernel) (by decide +kernel) (.inl rfl)) (sss_cons (ss_set (kd := .local) (by decide +kernel) (by decide +kernel) (.inl rfl) (sw_no rfl) (sf_lst (sa_cons (sv_idx (v_sc21_1).b (sv_neg (sv_int).b) rfl) sa_nil rfl)).n)
    (sss_cons (ss_for (si_val v_sc21_1) (sg_name (kd := .local) (by decide +kernel) (by decide +kernel) (.inl rfl)) (sss_one (ss_append (kd := .local) (i := 3) (by decide +kernel) (by decide +kernel) (.inl rfl) (by decide +kernel) (by decide +kernel) (sv_bin ok_add (sv_idx b_sc21_3 (sv_neg (sv_int).b) rfl) v_sc21_4) rfl rfl)) (noFold rfl))
    (sss_one (ss_frz [3] (ss_set (kd := .local) (by decide +kernel) (by decide +kernel) (.inl rfl) (sw_no rfl) (v_sc21_3).n))))) (noFold rfl))
    (sss_one (ss_ret (sv_idx (v_sc21_1).b sv_int rfl)))))
theorem w21 : Body tab ⟨"_law_bell", ["length"]⟩ (f21, 5, 1) (defBody st21) (defScope st21) := ⟨N21, fs21, rfl, rfl, fun k ev => bd21 k ev⟩
/-! ### _law_exchanged -/
abbrev st22 : Stmt := topS 35
def N22 : List Str := ["one", "two", "pairs", "t", "a", "b"]
def sc22 : List (Str × NameKind) := [(("one" : Str), NameKind.cell), (("two" : Str), NameKind.cell), (("pairs" : Str), NameKind.local), (("len" : Str), NameKind.globalImplicit), (("sorted" : Str), NameKind.globalImplicit), (("set" : Str), NameKind.globalImplicit), (("range" : Str), NameKind.globalImplicit)]
theorem fs22 : FnScope N22 ["one", "two"] (defScope st22) := ⟨rfl, rfl, rfl, by decide +kernel, rfl, by decide +kernel, by decide +kernel⟩
theorem v_sc22_0 {k : Nat} {ev : Ev} {p : Pos} : SV tab N22 k ev sc22 (.Name ("one" : Str) p) (eVar 0) := sv_var (kd := .cell) (by decide +kernel) (by decide +kernel) (.inr (.inl rfl)) (by decide +kernel) (by decide +kernel)
theorem g_sc22_len : sc22.lookup ("len" : Str) = some .globalImplicit := by decide +kernel
theorem v_sc22_1 {k : Nat} {ev : Ev} {p : Pos} : SV tab N22 k ev sc22 (.Name ("two" : Str) p) (eVar 1) := sv_var (kd := .cell) (by decide +kernel) (by decide +kernel) (.inr (.inl rfl)) (by decide +kernel) (by decide +kernel)
theorem g_sc22_range : sc22.lookup ("range" : Str) = some .globalImplicit := by decide +kernel
def sc22_1 : List (Str × NameKind) := [((".0" : Str), NameKind.local), (("t" : Str), NameKind.local), (("one" : Str), NameKind.cell), (("two" : Str), NameKind.cell)]
theorem v_sc22_1_1 {k : Nat} {ev : Ev} {p : Pos} : SV tab N22 k ev sc22_1 (.Name ("two" : Str) p) (eVar 1) := sv_var (kd := .cell) (by decide +kernel) (by decide +kernel) (.inr (.inl rfl)) (by decide +kernel) (by decide +kernel)
theorem v_sc22_1_3 {k : Nat} {ev : Ev} {p : Pos} : SV tab N22 k ev sc22_1 (.Name ("t" : Str) p) (eVar 3) := sv_var (kd := .local) (by decide +kernel) (by decide +kernel) (.inl rfl) (by decide +kernel) (by decide +kernel)
theorem v_sc22_1_0 {k : Nat} {ev : Ev} {p : Pos} : SV tab N22 k ev sc22_1 (.Name ("one" : Str) p) (eVar 0) := sv_var (kd := .cell) (by decide +kernel) (by decide +kernel) (.inr (.inl rfl)) (by decide +kernel) (by decide +kernel)
theorem g_sc22_sorted : sc22.lookup ("sorted" : Str) = some .globalImplicit := by decide +kernel
theorem g_sc22_set : sc22.lookup ("set" : Str) = some .globalImplicit := by decide +kernel
theorem v_sc22_2 {k : Nat} {ev : Ev} {p : Pos} : SV tab N22 k ev sc22 (.Name ("pairs" : Str) p) (eVar 2) := sv_var (kd := .local) (by decide +kernel) (by decide +kernel) (.inl rfl) (by decide +kernel) (by decide +kernel)
def sc22_2 : List (Str × NameKind) := [((".0" : Str), NameKind.local), (("a" : Str), NameKind.local), (("b" : Str), NameKind.local)]
theorem v_sc22_2_5 {k : Nat} {ev : Ev} {p : Pos} : SV tab N22 k ev sc22_2 (.Name ("b" : Str) p) (eVar 5) := sv_var (kd := .local) (by decide +kernel) (by decide +kernel) (.inl rfl) (by decide +kernel) (by decide +kernel)
def sc22_3 : List (Str × NameKind) := [((".0" : Str), NameKind.local), (("a" : Str), NameKind.local), (("b" : Str), NameKind.local)]
theorem v_sc22_3_4 {k : Nat} {ev : Ev} {p : Pos} : SV tab N22 k ev sc22_3 (.Name ("a" : Str) p) (eVar 4) := sv_var (kd := .local) (by decide +kernel) (by decide +kernel) (.inl rfl) (by decide +kernel) (by decide +kernel)
def f22 : FS := (sSeq (sIf (eTB (e2 pNe2 (eB (b1 pLen) (aCons (eVar 0) aNil)) (eB (b1 pLen) (aCons (eVar 1) aNil)))) (sRet (eC (.bool false)))
    sNil)
    (sSeq (sSet 2 (nV (e1 pSortSet (eLc [3] (.v 3) (iB (q1 pRng1) (aCons (eB (b1 pLen) (aCons (eVar 0) aNil)) aNil)) tYesF (eTup (aCons (e2 pIdx (eVar 0) (eVar 3)) (aCons (e2 pIdx (eVar 1) (eVar 3)) aNil)))))))
    (sRet (eAnd (e2 pEq2 (e1 pLenSet (eLc [4, 5] (.t [(.v 4), (.v 5)]) (iVal (eVar 2)) tYesF (eVar 4))) (eB (b1 pLen) (aCons (eVar 2) aNil))) (e2 pEq2 (e1 pLenSet (eLc [4, 5] (.t [(.v 4), (.v 5)]) (iVal (eVar 2)) tYesF (eVar 5))) (eB (b1 pLen) (aCons (eVar 2) aNil)))))))
theorem bd22 (k : Nat) (ev : Ev) : SSs tab N22 k ev sc22 (defBody st22) f22 :=
  (sss_cons (ss_if (st_cmp ok_ne2 (sv_bi g_sc22_len bl_len bt_len ca_len (sab_cons (v_sc22_0).b sab_nil rfl) (by decide +kernel) (by decide +kernel) rfl).b (sv_bi g_sc22_len bl_len bt_len ca_len (sab_cons (v_sc22_1).b sab_nil rfl) (by decide +kernel) (by decide +kernel) rfl).b rfl) (sss_one (ss_ret sv_bool))
    sss_nil)
    (sss_cons (ss_set (kd := .local) (by decide +kernel) (by decide +kernel) (.inl rfl) (sw_no rfl) (sf_sortedSet rfl rfl g_sc22_sorted bl_sorted g_sc22_set bl_set (sf_lc2 (own := [("t", 3)]) (sc2 := sc22_1) (by decide +kernel) (by decide +kernel) (si_rng1 rfl g_sc22_range bl_range (sa_cons (sv_bi g_sc22_len bl_len bt_len ca_len (sab_cons (v_sc22_0).b sab_nil rfl) (by decide +kernel) (by decide +kernel) rfl) sa_nil rfl) rfl) (sg_name (kd := .local) (by decide +kernel) (by decide +kernel) (.inl rfl)) .nil (sv_tup (sa_cons (sv_idx (v_sc22_1_0).b v_sc22_1_3 rfl) (sa_cons (sv_idx (v_sc22_1_1).b v_sc22_1_3 rfl) sa_nil rfl) rfl)) (by decide +kernel) rfl).v.b rfl).v.n)
    (sss_one (ss_ret (sv_and (sv_cmp ok_eq2 (sv_lenSet rfl rfl g_sc22_len bl_len g_sc22_set bl_set (sf_lc2 (own := [("a", 4), ("b", 5)]) (sc2 := sc22_3) (by decide +kernel) (by decide +kernel) (si_val v_sc22_2) (sg_tup (sgs_cons (sg_name (kd := .local) (by decide +kernel) (by decide +kernel) (.inl rfl)) (sgs_cons (sg_name (kd := .local) (by decide +kernel) (by decide +kernel) (.inl rfl)) sgs_nil rfl) rfl)) .nil v_sc22_3_4 (by decide +kernel) rfl).v.b rfl).b (sv_bi g_sc22_len bl_len bt_len ca_len (sab_cons (v_sc22_2).b sab_nil rfl) (by decide +kernel) (by decide +kernel) rfl).b rfl) (sv_one (sv_cmp ok_eq2 (sv_lenSet rfl rfl g_sc22_len bl_len g_sc22_set bl_set (sf_lc2 (own := [("a", 4), ("b", 5)]) (sc2 := sc22_2) (by decide +kernel) (by decide +kernel) (si_val v_sc22_2) (sg_tup (sgs_cons (sg_name (kd := .local) (by decide +kernel) (by decide +kernel) (.inl rfl)) (sgs_cons (sg_name (kd := .local) (by decide +kernel) (by decide +kernel) (.inl rfl)) sgs_nil rfl) rfl)) .nil v_sc22_2_5 (by decide +kernel) rfl).v.b rfl).b (sv_bi g_sc22_len bl_len bt_len ca_len (sab_cons (v_sc22_2).b sab_nil rfl) (by decide +kernel) (by decide +kernel) rfl).b rfl)))))))
theorem w22 : Body tab ⟨"_law_exchanged", ["one", "two"]⟩ (f22, 6, 2) (defBody st22) (defScope st22) := ⟨N22, fs22, rfl, rfl, fun k ev => bd22 k ev⟩
/-! ### _law_words -/
abbrev st23 : Stmt := topS 36
def N23 : List Str := ["length", "signs", "found", "turn", "text", "sign"]
def sc23 : List (Str × NameKind) := [(("length" : Str), NameKind.local), (("signs" : Str), NameKind.cell), (("found" : Str), NameKind.local), (("turn" : Str), NameKind.local), (("range" : Str), NameKind.globalImplicit), (("sum" : Str), NameKind.globalImplicit)]
theorem fs23 : FnScope N23 ["length", "signs"] (defScope st23) := ⟨rfl, rfl, rfl, by decide +kernel, rfl, by decide +kernel, by decide +kernel⟩
theorem v_sc23_0 {k : Nat} {ev : Ev} {p : Pos} : SV tab N23 k ev sc23 (.Name ("length" : Str) p) (eVar 0) := sv_var (kd := .local) (by decide +kernel) (by decide +kernel) (.inl rfl) (by decide +kernel) (by decide +kernel)
theorem g_sc23_range : sc23.lookup ("range" : Str) = some .globalImplicit := by decide +kernel
theorem v_sc23_2 {k : Nat} {ev : Ev} {p : Pos} : SV tab N23 k ev sc23 (.Name ("found" : Str) p) (eVar 2) := sv_var (kd := .local) (by decide +kernel) (by decide +kernel) (.inl rfl) (by decide +kernel) (by decide +kernel)
def sc23_1 : List (Str × NameKind) := [((".0" : Str), NameKind.local), (("text" : Str), NameKind.cell), (("signs" : Str), NameKind.cell)]
theorem v_sc23_1_1 {k : Nat} {ev : Ev} {p : Pos} : SV tab N23 k ev sc23_1 (.Name ("signs" : Str) p) (eVar 1) := sv_var (kd := .cell) (by decide +kernel) (by decide +kernel) (.inr (.inl rfl)) (by decide +kernel) (by decide +kernel)
def sc23_2 : List (Str × NameKind) := [((".0" : Str), NameKind.local), (("sign" : Str), NameKind.local), (("text" : Str), NameKind.cell)]
theorem v_sc23_2_4 {k : Nat} {ev : Ev} {p : Pos} : SV tab N23 k ev sc23_2 (.Name ("text" : Str) p) (eVar 4) := sv_var (kd := .cell) (by decide +kernel) (by decide +kernel) (.inr (.inl rfl)) (by decide +kernel) (by decide +kernel)
theorem v_sc23_2_5 {k : Nat} {ev : Ev} {p : Pos} : SV tab N23 k ev sc23_2 (.Name ("sign" : Str) p) (eVar 5) := sv_var (kd := .local) (by decide +kernel) (by decide +kernel) (.inl rfl) (by decide +kernel) (by decide +kernel)
theorem g_sc23_sum : sc23.lookup ("sum" : Str) = some .globalImplicit := by decide +kernel
def f23 : FS := (sSeq (sSet 2 (nV (eLst (aCons (eC (.str ("" : Str))) aNil))))
    (sSeq (sFor (.v 3) (iB (q1 pRng1) (aCons (eVar 0) aNil))
    (sSet 2 (nV (eB (b2 pSum2) (aCons (eLc [4] (.v 4) (iVal (eVar 2)) tYesF (eLc [5] (.v 5) (iVal (eVar 1)) tYesF (e2 pAdd (eVar 4) (eVar 5)))) (aCons (eLst aNil) aNil))))))
    (sRet (eVar 2))))
theorem bd23 (k : Nat) (ev : Ev) : SSs tab N23 k ev sc23 (defBody st23) f23 :=
  (sss_cons (ss_set (kd := .local) (by decide +kernel) (by decide +kernel) (.inl rfl) (sw_no rfl) (sf_lst (sa_cons (sv_str so0) sa_nil rfl)).v.n)
    (sss_cons (ss_for (si_rng1 rfl g_sc23_range bl_range (sa_cons v_sc23_0 sa_nil rfl) rfl) (sg_name (kd := .local) (by decide +kernel) (by decide +kernel) (.inl rfl)) (sss_one (ss_set (kd := .local) (by decide +kernel) (by decide +kernel) (.inl rfl) (sw_no rfl) (sv_bi g_sc23_sum bl_sum bt_sum ca_sum2 (sab_cons (sf_lc2 (own := [("text", 4)]) (sc2 := sc23_1) (by decide +kernel) (by decide +kernel) (si_val v_sc23_2) (sg_name (kd := .cell) (by decide +kernel) (by decide +kernel) (.inr ⟨rfl, by decide +kernel⟩)) .nil (sf_lc2 (own := [("sign", 5)]) (sc2 := sc23_2) (by decide +kernel) (by decide +kernel) (si_val v_sc23_1_1) (sg_name (kd := .local) (by decide +kernel) (by decide +kernel) (.inl rfl)) .nil (sv_bin ok_add v_sc23_2_4 v_sc23_2_5) (by decide +kernel) rfl).v (by decide +kernel) rfl).v.b (sab_cons (sf_lst sa_nil).v.b sab_nil rfl) rfl) (by decide +kernel) (by decide +kernel) rfl).n)) (noFold rfl))
    (sss_one (ss_ret v_sc23_2))))
theorem w23 : Body tab ⟨"_law_words", ["length", "signs"]⟩ (f23, 6, 2) (defBody st23) (defScope st23) := ⟨N23, fs23, rfl, rfl, fun k ev => bd23 k ev⟩
/-! ### _law_refused -/
abbrev st24 : Stmt := topS 37
def N24 : List Str := ["which", "one", "two", "e"]
def sc24 : List (Str × NameKind) := [(("which" : Str), NameKind.local), (("one" : Str), NameKind.local), (("two" : Str), NameKind.local), (("e" : Str), NameKind.local), (("pattern" : Str), NameKind.globalImplicit), (("are_alike" : Str), NameKind.globalImplicit), (("classes" : Str), NameKind.globalImplicit), (("bell" : Str), NameKind.globalImplicit), (("number_of" : Str), NameKind.globalImplicit), (("pattern_of" : Str), NameKind.globalImplicit), (("words_with" : Str), NameKind.globalImplicit), (("BadWord" : Str), NameKind.globalImplicit), (("WrongSize" : Str), NameKind.globalImplicit), (("BadPattern" : Str), NameKind.globalImplicit), (("OutOfRange" : Str), NameKind.globalImplicit)]
theorem fs24 : FnScope N24 ["which", "one", "two"] (defScope st24) := ⟨rfl, rfl, rfl, by decide +kernel, rfl, by decide +kernel, by decide +kernel⟩
theorem v_sc24_0 {k : Nat} {ev : Ev} {p : Pos} : SV tab N24 k ev sc24 (.Name ("which" : Str) p) (eVar 0) := sv_var (kd := .local) (by decide +kernel) (by decide +kernel) (.inl rfl) (by decide +kernel) (by decide +kernel)
theorem v_sc24_1 {k : Nat} {ev : Ev} {p : Pos} : SV tab N24 k ev sc24 (.Name ("one" : Str) p) (eVar 1) := sv_var (kd := .local) (by decide +kernel) (by decide +kernel) (.inl rfl) (by decide +kernel) (by decide +kernel)
theorem g_sc24_pattern : sc24.lookup ("pattern" : Str) = some .globalImplicit := by decide +kernel
theorem v_sc24_2 {k : Nat} {ev : Ev} {p : Pos} : SV tab N24 k ev sc24 (.Name ("two" : Str) p) (eVar 2) := sv_var (kd := .local) (by decide +kernel) (by decide +kernel) (.inl rfl) (by decide +kernel) (by decide +kernel)
theorem g_sc24_are_alike : sc24.lookup ("are_alike" : Str) = some .globalImplicit := by decide +kernel
theorem g_sc24_classes : sc24.lookup ("classes" : Str) = some .globalImplicit := by decide +kernel
theorem g_sc24_bell : sc24.lookup ("bell" : Str) = some .globalImplicit := by decide +kernel
theorem g_sc24_number_of : sc24.lookup ("number_of" : Str) = some .globalImplicit := by decide +kernel
theorem g_sc24_pattern_of : sc24.lookup ("pattern_of" : Str) = some .globalImplicit := by decide +kernel
theorem g_sc24_words_with : sc24.lookup ("words_with" : Str) = some .globalImplicit := by decide +kernel
theorem g_sc24_OutOfRange : sc24.lookup ("OutOfRange" : Str) = some .globalImplicit := by decide +kernel
theorem g_sc24_BadPattern : sc24.lookup ("BadPattern" : Str) = some .globalImplicit := by decide +kernel
theorem g_sc24_WrongSize : sc24.lookup ("WrongSize" : Str) = some .globalImplicit := by decide +kernel
theorem g_sc24_BadWord : sc24.lookup ("BadWord" : Str) = some .globalImplicit := by decide +kernel
def f24 : FS := (sSeq (sTry [(2, "word"), (1, "size"), (3, "pattern"), (0, "range")] (sIf (eTB (e2 pEq2 (eVar 0) (eC (.int 0)))) (sExpr (eCall 4 (aCons (eVar 1) aNil)))
    (sIf (eTB (e2 pEq2 (eVar 0) (eC (.int 1)))) (sExpr (eCall 5 (aCons (eVar 1) (aCons (eVar 2) aNil))))
    (sIf (eTB (e2 pEq2 (eVar 0) (eC (.int 2)))) (sExpr (eCall 7 (aCons (eVar 1) aNil)))
    (sIf (eTB (e2 pEq2 (eVar 0) (eC (.int 3)))) (sExpr (eCall 9 (aCons (eVar 1) aNil)))
    (sIf (eTB (e2 pEq2 (eVar 0) (eC (.int 4)))) (sExpr (eCall 11 (aCons (eVar 1) aNil)))
    (sIf (eTB (e2 pEq2 (eVar 0) (eC (.int 5)))) (sExpr (eCall 12 (aCons (eVar 1) (aCons (eVar 2) aNil))))
    (sExpr (eCall 13 (aCons (eVar 1) (aCons (eVar 2) aNil)))))))))))
    (sRet (eC .none)))
theorem bd24 (k : Nat) (ev : Ev) : SSs tab N24 k ev sc24 (defBody st24) f24 :=
  (sss_cons (ss_try (n := "e") (i := 3) (by decide +kernel) (by decide +kernel) (by decide +kernel) (by decide +kernel) (sss_one (ss_if (st_cmp ok_eq2 (v_sc24_0).b (sv_int).b rfl) (sss_one (ss_expr rfl (sv_call (j := 4) (fi := ⟨"pattern", ["text"]⟩) rfl g_sc24_pattern (sa_cons v_sc24_1 sa_nil rfl) (.cons .nil) (by decide +kernel) rfl).b))
    (sss_one (ss_if (st_cmp ok_eq2 (v_sc24_0).b (sv_int).b rfl) (sss_one (ss_expr rfl (sv_call (j := 5) (fi := ⟨"are_alike", ["one", "two"]⟩) rfl g_sc24_are_alike (sa_cons v_sc24_1 (sa_cons v_sc24_2 sa_nil rfl) rfl) (.cons (.cons .nil)) (by decide +kernel) rfl).b))
    (sss_one (ss_if (st_cmp ok_eq2 (v_sc24_0).b (sv_int).b rfl) (sss_one (ss_expr rfl (sv_call (j := 7) (fi := ⟨"classes", ["told"]⟩) rfl g_sc24_classes (sa_cons v_sc24_1 sa_nil rfl) (.cons .nil) (by decide +kernel) rfl).b))
    (sss_one (ss_if (st_cmp ok_eq2 (v_sc24_0).b (sv_int).b rfl) (sss_one (ss_expr rfl (sv_call (j := 9) (fi := ⟨"bell", ["length"]⟩) rfl g_sc24_bell (sa_cons v_sc24_1 sa_nil rfl) (.cons .nil) (by decide +kernel) rfl).b))
    (sss_one (ss_if (st_cmp ok_eq2 (v_sc24_0).b (sv_int).b rfl) (sss_one (ss_expr rfl (sv_call (j := 11) (fi := ⟨"number_of", ["told"]⟩) rfl g_sc24_number_of (sa_cons v_sc24_1 sa_nil rfl) (.cons .nil) (by decide +kernel) rfl).b))
    (sss_one (ss_if (st_cmp ok_eq2 (v_sc24_0).b (sv_int).b rfl) (sss_one (ss_expr rfl (sv_call (j := 12) (fi := ⟨"pattern_of", ["length", "number"]⟩) rfl g_sc24_pattern_of (sa_cons v_sc24_1 (sa_cons v_sc24_2 sa_nil rfl) rfl) (.cons (.cons .nil)) (by decide +kernel) rfl).b))
    (sss_one (ss_expr rfl (sv_call (j := 13) (fi := ⟨"words_with", ["told", "letters"]⟩) rfl g_sc24_words_with (sa_cons v_sc24_1 (sa_cons v_sc24_2 sa_nil rfl) rfl) (.cons (.cons .nil)) (by decide +kernel) rfl).b)))))))))))))) (.cons rfl g_sc24_BadWord (by decide +kernel) so4 (.cons rfl g_sc24_WrongSize (by decide +kernel) so3 (.cons rfl g_sc24_BadPattern (by decide +kernel) so2 (.cons rfl g_sc24_OutOfRange (by decide +kernel) so1 .nil)))))
    (sss_one (ss_ret sv_none)))
theorem w24 : Body tab ⟨"_law_refused", ["which", "one", "two"]⟩ (f24, 4, 3) (defBody st24) (defScope st24) := ⟨N24, fs24, rfl, rfl, fun k ev => bd24 k ev⟩
/-! ### law -/
abbrev st25 : Stmt := topS 38
def N25 : List Str := ["script", "draws", "length", "every", "row", "t", "turn", "k", "sizes", "signs", "told", "due", "word", "found", "one", "alike", "number", "factor", "at", "bent", "some", "small", "bads", "two", "text", "bad"]
def sc25 : List (Str × NameKind) := [(("script" : Str), NameKind.local), (("draws" : Str), NameKind.local), (("length" : Str), NameKind.cell), (("every" : Str), NameKind.local), (("row" : Str), NameKind.cell), (("t" : Str), NameKind.local), (("turn" : Str), NameKind.local), (("k" : Str), NameKind.local), (("sizes" : Str), NameKind.local), (("signs" : Str), NameKind.local), (("told" : Str), NameKind.local), (("due" : Str), NameKind.local), (("word" : Str), NameKind.local), (("found" : Str), NameKind.local), (("one" : Str), NameKind.cell), (("alike" : Str), NameKind.local), (("number" : Str), NameKind.local), (("factor" : Str), NameKind.local), (("at" : Str), NameKind.local), (("bent" : Str), NameKind.local), (("some" : Str), NameKind.local), (("small" : Str), NameKind.local), (("bads" : Str), NameKind.local), (("_law_draws" : Str), NameKind.globalImplicit), (("range" : Str), NameKind.globalImplicit), (("_law_mix" : Str), NameKind.globalImplicit), (("_law_all" : Str), NameKind.globalImplicit), (("len" : Str), NameKind.globalImplicit), (("_law_bell" : Str), NameKind.globalImplicit), (("list" : Str), NameKind.globalImplicit), (("_law_list" : Str), NameKind.globalImplicit), (("_law_pattern" : Str), NameKind.globalImplicit), (("classes" : Str), NameKind.globalImplicit), (("sorted" : Str), NameKind.globalImplicit), (("is_pattern" : Str), NameKind.globalImplicit), (("pattern_of" : Str), NameKind.globalImplicit), (("number_of" : Str), NameKind.globalImplicit), (("set" : Str), NameKind.globalImplicit), (("max" : Str), NameKind.globalImplicit), (("words_with" : Str), NameKind.globalImplicit), (("_law_is_pattern" : Str), NameKind.globalImplicit), (("_law_refused" : Str), NameKind.globalImplicit), (("_law_words" : Str), NameKind.globalImplicit)]
theorem fs25 : FnScope N25 ["script"] (defScope st25) := ⟨rfl, rfl, rfl, by decide +kernel, rfl, by decide +kernel, by decide +kernel⟩
theorem v_sc25_0 {k : Nat} {ev : Ev} {p : Pos} : SV tab N25 k ev sc25 (.Name ("script" : Str) p) (eVar 0) := sv_var (kd := .local) (by decide +kernel) (by decide +kernel) (.inl rfl) (by decide +kernel) (by decide +kernel)
theorem g_sc25__law_draws : sc25.lookup ("_law_draws" : Str) = some .globalImplicit := by decide +kernel
theorem g_sc25_range : sc25.lookup ("range" : Str) = some .globalImplicit := by decide +kernel
def sc25_1 : List (Str × NameKind) := [((".0" : Str), NameKind.local), (("length" : Str), NameKind.local), (("bell" : Str), NameKind.globalImplicit)]
theorem v_sc25_1_2 {k : Nat} {ev : Ev} {p : Pos} : SV tab N25 k ev sc25_1 (.Name ("length" : Str) p) (eVar 2) := sv_var (kd := .local) (by decide +kernel) (by decide +kernel) (.inl rfl) (by decide +kernel) (by decide +kernel)
theorem g_sc25_1_bell : sc25_1.lookup ("bell" : Str) = some .globalImplicit := by decide +kernel
def sc25_2 : List (Str × NameKind) := [((".0" : Str), NameKind.local), (("length" : Str), NameKind.local), (("_law_bell" : Str), NameKind.globalImplicit)]
theorem v_sc25_2_2 {k : Nat} {ev : Ev} {p : Pos} : SV tab N25 k ev sc25_2 (.Name ("length" : Str) p) (eVar 2) := sv_var (kd := .local) (by decide +kernel) (by decide +kernel) (.inl rfl) (by decide +kernel) (by decide +kernel)
theorem g_sc25_2__law_bell : sc25_2.lookup ("_law_bell" : Str) = some .globalImplicit := by decide +kernel
theorem v_sc25_1 {k : Nat} {ev : Ev} {p : Pos} : SV tab N25 k ev sc25 (.Name ("draws" : Str) p) (eVar 1) := sv_var (kd := .local) (by decide +kernel) (by decide +kernel) (.inl rfl) (by decide +kernel) (by decide +kernel)
theorem g_sc25__law_mix : sc25.lookup ("_law_mix" : Str) = some .globalImplicit := by decide +kernel
theorem v_sc25_2 {k : Nat} {ev : Ev} {p : Pos} : SV tab N25 k ev sc25 (.Name ("length" : Str) p) (eVar 2) := sv_var (kd := .cell) (by decide +kernel) (by decide +kernel) (.inr (.inl rfl)) (by decide +kernel) (by decide +kernel)
theorem g_sc25__law_all : sc25.lookup ("_law_all" : Str) = some .globalImplicit := by decide +kernel
theorem v_sc25_3 {k : Nat} {ev : Ev} {p : Pos} : SV tab N25 k ev sc25 (.Name ("every" : Str) p) (eVar 3) := sv_var (kd := .local) (by decide +kernel) (by decide +kernel) (.inl rfl) (by decide +kernel) (by decide +kernel)
theorem g_sc25_len : sc25.lookup ("len" : Str) = some .globalImplicit := by decide +kernel
def sc25_3 : List (Str × NameKind) := [((".0" : Str), NameKind.local), (("t" : Str), NameKind.local), (("pattern_of" : Str), NameKind.globalImplicit), (("length" : Str), NameKind.cell)]
theorem v_sc25_3_5 {k : Nat} {ev : Ev} {p : Pos} : SV tab N25 k ev sc25_3 (.Name ("t" : Str) p) (eVar 5) := sv_var (kd := .local) (by decide +kernel) (by decide +kernel) (.inl rfl) (by decide +kernel) (by decide +kernel)
theorem v_sc25_3_2 {k : Nat} {ev : Ev} {p : Pos} : SV tab N25 k ev sc25_3 (.Name ("length" : Str) p) (eVar 2) := sv_var (kd := .cell) (by decide +kernel) (by decide +kernel) (.inr (.inl rfl)) (by decide +kernel) (by decide +kernel)
theorem g_sc25_3_pattern_of : sc25_3.lookup ("pattern_of" : Str) = some .globalImplicit := by decide +kernel
def sc25_4 : List (Str × NameKind) := [((".0" : Str), NameKind.local), (("row" : Str), NameKind.local), (("number_of" : Str), NameKind.globalImplicit)]
theorem v_sc25_4_4 {k : Nat} {ev : Ev} {p : Pos} : SV tab N25 k ev sc25_4 (.Name ("row" : Str) p) (eVar 4) := sv_var (kd := .local) (by decide +kernel) (by decide +kernel) (.inl rfl) (by decide +kernel) (by decide +kernel)
theorem g_sc25_4_number_of : sc25_4.lookup ("number_of" : Str) = some .globalImplicit := by decide +kernel
theorem g_sc25_list : sc25.lookup ("list" : Str) = some .globalImplicit := by decide +kernel
theorem g_sc25__law_bell : sc25.lookup ("_law_bell" : Str) = some .globalImplicit := by decide +kernel
theorem v_sc25_6 {k : Nat} {ev : Ev} {p : Pos} : SV tab N25 k ev sc25 (.Name ("turn" : Str) p) (eVar 6) := sv_var (kd := .local) (by decide +kernel) (by decide +kernel) (.inl rfl) (by decide +kernel) (by decide +kernel)
theorem v_sc25_9 {k : Nat} {ev : Ev} {p : Pos} : SV tab N25 k ev sc25 (.Name ("signs" : Str) p) (eVar 9) := sv_var (kd := .local) (by decide +kernel) (by decide +kernel) (.inl rfl) (by decide +kernel) (by decide +kernel)
theorem v_sc25_8 {k : Nat} {ev : Ev} {p : Pos} : SV tab N25 k ev sc25 (.Name ("sizes" : Str) p) (eVar 8) := sv_var (kd := .local) (by decide +kernel) (by decide +kernel) (.inl rfl) (by decide +kernel) (by decide +kernel)
theorem v_sc25_7 {k : Nat} {ev : Ev} {p : Pos} : SV tab N25 k ev sc25 (.Name ("k" : Str) p) (eVar 7) := sv_var (kd := .local) (by decide +kernel) (by decide +kernel) (.inl rfl) (by decide +kernel) (by decide +kernel)
theorem g_sc25__law_list : sc25.lookup ("_law_list" : Str) = some .globalImplicit := by decide +kernel
theorem v_sc25_10 {k : Nat} {ev : Ev} {p : Pos} : SV tab N25 k ev sc25 (.Name ("told" : Str) p) (eVar 10) := sv_var (kd := .local) (by decide +kernel) (by decide +kernel) (.inl rfl) (by decide +kernel) (by decide +kernel)
theorem b_sc25_11 {k : Nat} {ev : Ev} {p : Pos} : SB tab N25 k ev sc25 (.Name ("due" : Str) p) (eBor 11) := sb_var (kd := .local) (by decide +kernel) (by decide +kernel) (.inl rfl) (by decide +kernel) (by decide +kernel)
theorem v_sc25_12 {k : Nat} {ev : Ev} {p : Pos} : SV tab N25 k ev sc25 (.Name ("word" : Str) p) (eVar 12) := sv_var (kd := .local) (by decide +kernel) (by decide +kernel) (.inl rfl) (by decide +kernel) (by decide +kernel)
theorem g_sc25__law_pattern : sc25.lookup ("_law_pattern" : Str) = some .globalImplicit := by decide +kernel
theorem g_sc25_classes : sc25.lookup ("classes" : Str) = some .globalImplicit := by decide +kernel
def sc25_5 : List (Str × NameKind) := [((".0" : Str), NameKind.local), (("word" : Str), NameKind.local), (("pattern" : Str), NameKind.globalImplicit)]
theorem v_sc25_5_12 {k : Nat} {ev : Ev} {p : Pos} : SV tab N25 k ev sc25_5 (.Name ("word" : Str) p) (eVar 12) := sv_var (kd := .local) (by decide +kernel) (by decide +kernel) (.inl rfl) (by decide +kernel) (by decide +kernel)
theorem g_sc25_5_pattern : sc25_5.lookup ("pattern" : Str) = some .globalImplicit := by decide +kernel
def sc25_6 : List (Str × NameKind) := [((".0" : Str), NameKind.local), (("word" : Str), NameKind.local), (("_law_pattern" : Str), NameKind.globalImplicit)]
theorem v_sc25_6_12 {k : Nat} {ev : Ev} {p : Pos} : SV tab N25 k ev sc25_6 (.Name ("word" : Str) p) (eVar 12) := sv_var (kd := .local) (by decide +kernel) (by decide +kernel) (.inl rfl) (by decide +kernel) (by decide +kernel)
theorem g_sc25_6__law_pattern : sc25_6.lookup ("_law_pattern" : Str) = some .globalImplicit := by decide +kernel
theorem v_sc25_13 {k : Nat} {ev : Ev} {p : Pos} : SV tab N25 k ev sc25 (.Name ("found" : Str) p) (eVar 13) := sv_var (kd := .local) (by decide +kernel) (by decide +kernel) (.inl rfl) (by decide +kernel) (by decide +kernel)
theorem g_sc25_sorted : sc25.lookup ("sorted" : Str) = some .globalImplicit := by decide +kernel
theorem v_sc25_14 {k : Nat} {ev : Ev} {p : Pos} : SV tab N25 k ev sc25 (.Name ("one" : Str) p) (eVar 14) := sv_var (kd := .cell) (by decide +kernel) (by decide +kernel) (.inr (.inl rfl)) (by decide +kernel) (by decide +kernel)
theorem v_sc25_4 {k : Nat} {ev : Ev} {p : Pos} : SV tab N25 k ev sc25 (.Name ("row" : Str) p) (eVar 4) := sv_var (kd := .cell) (by decide +kernel) (by decide +kernel) (.inr (.inl rfl)) (by decide +kernel) (by decide +kernel)
theorem g_sc25_number_of : sc25.lookup ("number_of" : Str) = some .globalImplicit := by decide +kernel
theorem g_sc25_pattern_of : sc25.lookup ("pattern_of" : Str) = some .globalImplicit := by decide +kernel
theorem g_sc25_is_pattern : sc25.lookup ("is_pattern" : Str) = some .globalImplicit := by decide +kernel
def sc25_7 : List (Str × NameKind) := [((".0" : Str), NameKind.local), (("two" : Str), NameKind.local), (("_law_exchanged" : Str), NameKind.globalImplicit), (("one" : Str), NameKind.cell)]
theorem v_sc25_7_23 {k : Nat} {ev : Ev} {p : Pos} : SV tab N25 k ev sc25_7 (.Name ("two" : Str) p) (eVar 23) := sv_var (kd := .local) (by decide +kernel) (by decide +kernel) (.inl rfl) (by decide +kernel) (by decide +kernel)
theorem v_sc25_7_14 {k : Nat} {ev : Ev} {p : Pos} : SV tab N25 k ev sc25_7 (.Name ("one" : Str) p) (eVar 14) := sv_var (kd := .cell) (by decide +kernel) (by decide +kernel) (.inr (.inl rfl)) (by decide +kernel) (by decide +kernel)
theorem g_sc25_7__law_exchanged : sc25_7.lookup ("_law_exchanged" : Str) = some .globalImplicit := by decide +kernel
def sc25_8 : List (Str × NameKind) := [((".0" : Str), NameKind.local), (("two" : Str), NameKind.local), (("_law_pattern" : Str), NameKind.globalImplicit), (("row" : Str), NameKind.cell)]
theorem v_sc25_8_23 {k : Nat} {ev : Ev} {p : Pos} : SV tab N25 k ev sc25_8 (.Name ("two" : Str) p) (eVar 23) := sv_var (kd := .local) (by decide +kernel) (by decide +kernel) (.inl rfl) (by decide +kernel) (by decide +kernel)
theorem g_sc25_8__law_pattern : sc25_8.lookup ("_law_pattern" : Str) = some .globalImplicit := by decide +kernel
theorem v_sc25_8_4 {k : Nat} {ev : Ev} {p : Pos} : SV tab N25 k ev sc25_8 (.Name ("row" : Str) p) (eVar 4) := sv_var (kd := .cell) (by decide +kernel) (by decide +kernel) (.inr (.inl rfl)) (by decide +kernel) (by decide +kernel)
theorem v_sc25_15 {k : Nat} {ev : Ev} {p : Pos} : SV tab N25 k ev sc25 (.Name ("alike" : Str) p) (eVar 15) := sv_var (kd := .local) (by decide +kernel) (by decide +kernel) (.inl rfl) (by decide +kernel) (by decide +kernel)
def sc25_9 : List (Str × NameKind) := [((".0" : Str), NameKind.local), (("two" : Str), NameKind.local), (("are_alike" : Str), NameKind.globalImplicit), (("one" : Str), NameKind.cell)]
theorem v_sc25_9_23 {k : Nat} {ev : Ev} {p : Pos} : SV tab N25 k ev sc25_9 (.Name ("two" : Str) p) (eVar 23) := sv_var (kd := .local) (by decide +kernel) (by decide +kernel) (.inl rfl) (by decide +kernel) (by decide +kernel)
theorem v_sc25_9_14 {k : Nat} {ev : Ev} {p : Pos} : SV tab N25 k ev sc25_9 (.Name ("one" : Str) p) (eVar 14) := sv_var (kd := .cell) (by decide +kernel) (by decide +kernel) (.inr (.inl rfl)) (by decide +kernel) (by decide +kernel)
theorem g_sc25_9_are_alike : sc25_9.lookup ("are_alike" : Str) = some .globalImplicit := by decide +kernel
theorem g_sc25_set : sc25.lookup ("set" : Str) = some .globalImplicit := by decide +kernel
theorem v_sc25_17 {k : Nat} {ev : Ev} {p : Pos} : SV tab N25 k ev sc25 (.Name ("factor" : Str) p) (eVar 17) := sv_var (kd := .local) (by decide +kernel) (by decide +kernel) (.inl rfl) (by decide +kernel) (by decide +kernel)
theorem v_sc25_16 {k : Nat} {ev : Ev} {p : Pos} : SV tab N25 k ev sc25 (.Name ("number" : Str) p) (eVar 16) := sv_var (kd := .local) (by decide +kernel) (by decide +kernel) (.inl rfl) (by decide +kernel) (by decide +kernel)
theorem v_sc25_5 {k : Nat} {ev : Ev} {p : Pos} : SV tab N25 k ev sc25 (.Name ("t" : Str) p) (eVar 5) := sv_var (kd := .local) (by decide +kernel) (by decide +kernel) (.inl rfl) (by decide +kernel) (by decide +kernel)
theorem g_sc25_max : sc25.lookup ("max" : Str) = some .globalImplicit := by decide +kernel
theorem g_sc25_words_with : sc25.lookup ("words_with" : Str) = some .globalImplicit := by decide +kernel
theorem v_sc25_18 {k : Nat} {ev : Ev} {p : Pos} : SV tab N25 k ev sc25 (.Name ("at" : Str) p) (eVar 18) := sv_var (kd := .local) (by decide +kernel) (by decide +kernel) (.inl rfl) (by decide +kernel) (by decide +kernel)
theorem v_sc25_19 {k : Nat} {ev : Ev} {p : Pos} : SV tab N25 k ev sc25 (.Name ("bent" : Str) p) (eVar 19) := sv_var (kd := .local) (by decide +kernel) (by decide +kernel) (.inl rfl) (by decide +kernel) (by decide +kernel)
theorem v_sc25_20 {k : Nat} {ev : Ev} {p : Pos} : SV tab N25 k ev sc25 (.Name ("some" : Str) p) (eVar 20) := sv_var (kd := .local) (by decide +kernel) (by decide +kernel) (.inl rfl) (by decide +kernel) (by decide +kernel)
theorem g_sc25__law_is_pattern : sc25.lookup ("_law_is_pattern" : Str) = some .globalImplicit := by decide +kernel
theorem g_sc25__law_refused : sc25.lookup ("_law_refused" : Str) = some .globalImplicit := by decide +kernel
theorem g_sc25__law_words : sc25.lookup ("_law_words" : Str) = some .globalImplicit := by decide +kernel
theorem v_sc25_21 {k : Nat} {ev : Ev} {p : Pos} : SV tab N25 k ev sc25 (.Name ("small" : Str) p) (eVar 21) := sv_var (kd := .local) (by decide +kernel) (by decide +kernel) (.inl rfl) (by decide +kernel) (by decide +kernel)
def sc25_10 : List (Str × NameKind) := [((".0" : Str), NameKind.local), (("text" : Str), NameKind.local), (("_law_pattern" : Str), NameKind.globalImplicit), (("row" : Str), NameKind.cell)]
theorem v_sc25_10_24 {k : Nat} {ev : Ev} {p : Pos} : SV tab N25 k ev sc25_10 (.Name ("text" : Str) p) (eVar 24) := sv_var (kd := .local) (by decide +kernel) (by decide +kernel) (.inl rfl) (by decide +kernel) (by decide +kernel)
theorem g_sc25_10__law_pattern : sc25_10.lookup ("_law_pattern" : Str) = some .globalImplicit := by decide +kernel
theorem v_sc25_10_4 {k : Nat} {ev : Ev} {p : Pos} : SV tab N25 k ev sc25_10 (.Name ("row" : Str) p) (eVar 4) := sv_var (kd := .cell) (by decide +kernel) (by decide +kernel) (.inr (.inl rfl)) (by decide +kernel) (by decide +kernel)
def sc25_11 : List (Str × NameKind) := [((".0" : Str), NameKind.local), (("bad" : Str), NameKind.local), (("_law_refused" : Str), NameKind.globalImplicit)]
theorem v_sc25_11_25 {k : Nat} {ev : Ev} {p : Pos} : SV tab N25 k ev sc25_11 (.Name ("bad" : Str) p) (eVar 25) := sv_var (kd := .local) (by decide +kernel) (by decide +kernel) (.inl rfl) (by decide +kernel) (by decide +kernel)
theorem g_sc25_11__law_refused : sc25_11.lookup ("_law_refused" : Str) = some .globalImplicit := by decide +kernel
theorem v_sc25_22 {k : Nat} {ev : Ev} {p : Pos} : SV tab N25 k ev sc25 (.Name ("bads" : Str) p) (eVar 22) := sv_var (kd := .local) (by decide +kernel) (by decide +kernel) (.inl rfl) (by decide +kernel) (by decide +kernel)
def sc25_12 : List (Str × NameKind) := [((".0" : Str), NameKind.local), (("bad" : Str), NameKind.local), (("_law_refused" : Str), NameKind.globalImplicit)]
theorem v_sc25_12_25 {k : Nat} {ev : Ev} {p : Pos} : SV tab N25 k ev sc25_12 (.Name ("bad" : Str) p) (eVar 25) := sv_var (kd := .local) (by decide +kernel) (by decide +kernel) (.inl rfl) (by decide +kernel) (by decide +kernel)
theorem g_sc25_12__law_refused : sc25_12.lookup ("_law_refused" : Str) = some .globalImplicit := by decide +kernel
def sc25_13 : List (Str × NameKind) := [((".0" : Str), NameKind.local), (("bad" : Str), NameKind.local), (("_law_refused" : Str), NameKind.globalImplicit)]
theorem v_sc25_13_25 {k : Nat} {ev : Ev} {p : Pos} : SV tab N25 k ev sc25_13 (.Name ("bad" : Str) p) (eVar 25) := sv_var (kd := .local) (by decide +kernel) (by decide +kernel) (.inl rfl) (by decide +kernel) (by decide +kernel)
theorem g_sc25_13__law_refused : sc25_13.lookup ("_law_refused" : Str) = some .globalImplicit := by decide +kernel
def sc25_14 : List (Str × NameKind) := [((".0" : Str), NameKind.local), (("bad" : Str), NameKind.local), (("_law_refused" : Str), NameKind.globalImplicit)]
theorem v_sc25_14_25 {k : Nat} {ev : Ev} {p : Pos} : SV tab N25 k ev sc25_14 (.Name ("bad" : Str) p) (eVar 25) := sv_var (kd := .local) (by decide +kernel) (by decide +kernel) (.inl rfl) (by decide +kernel) (by decide +kernel)
theorem g_sc25_14__law_refused : sc25_14.lookup ("_law_refused" : Str) = some .globalImplicit := by decide +kernel
def sc25_15 : List (Str × NameKind) := [((".0" : Str), NameKind.local), (("bad" : Str), NameKind.local), (("_law_refused" : Str), NameKind.globalImplicit)]
theorem v_sc25_15_25 {k : Nat} {ev : Ev} {p : Pos} : SV tab N25 k ev sc25_15 (.Name ("bad" : Str) p) (eVar 25) := sv_var (kd := .local) (by decide +kernel) (by decide +kernel) (.inl rfl) (by decide +kernel) (by decide +kernel)
theorem g_sc25_15__law_refused : sc25_15.lookup ("_law_refused" : Str) = some .globalImplicit := by decide +kernel
theorem v_sc25_11 {k : Nat} {ev : Ev} {p : Pos} : SV tab N25 k ev sc25 (.Name ("due" : Str) p) (eVar 11) := sv_var (kd := .local) (by decide +kernel) (by decide +kernel) (.inl rfl) (by decide +kernel) (by decide +kernel)
def sc25_16 : List (Str × NameKind) := [((".0" : Str), NameKind.local), (("bad" : Str), NameKind.local)]
theorem v_sc25_16_25 {k : Nat} {ev : Ev} {p : Pos} : SV tab N25 k ev sc25_16 (.Name ("bad" : Str) p) (eVar 25) := sv_var (kd := .local) (by decide +kernel) (by decide +kernel) (.inl rfl) (by decide +kernel) (by decide +kernel)
def f25 : FS := (sSeq (sSet 1 (nV (eCall 14 (aCons (eVar 0) aNil))))
    (sSeq (sIf (eTB (e2 pNe2 (eLc [2] (.v 2) (iB (q1 pRng1) (aCons (eC (.int 9)) aNil)) tYesF (eCall 9 (aCons (eVar 2) aNil))) (eLc [2] (.v 2) (iB (q1 pRng1) (aCons (eC (.int 9)) aNil)) tYesF (eCall 21 (aCons (eVar 2) aNil))))) (sRet (eC (.bool false)))
    sNil)
    (sSeq (sSet 2 (nV (e2 pAdd (eC (.int 1)) (eCall 15 (aCons (eVar 1) (aCons (eC (.int 1)) (aCons (eC (.int 6)) aNil)))))))
    (sSeq (sSet 3 (nV (eCall 20 (aCons (eVar 2) aNil))))
    (sSeq (sIf (eTOr (eTB (e2 pNe2 (eB (b1 pLen) (aCons (eVar 3) aNil)) (eCall 21 (aCons (eVar 2) aNil)))) (eTOr (eTB (e2 pNe2 (eLc [4] (.v 4) (iVal (eVar 3)) tYesF (eCall 11 (aCons (eVar 4) aNil))) (eLRng (aCons (eB (b1 pLen) (aCons (eVar 3) aNil)) aNil)))) (eTB (e2 pNe2 (eLc [5] (.v 5) (iB (q1 pRng1) (aCons (eB (b1 pLen) (aCons (eVar 3) aNil)) aNil)) tYesF (eCall 12 (aCons (eVar 2) (aCons (eVar 5) aNil)))) (eVar 3))))) (sRet (eC (.bool false)))
    sNil)
    (sSeq (sFor (.v 6) (iB (q1 pRng1) (aCons (eC (.int 3)) aNil))
    (sSeq (sSet 7 (nV (e2 pAdd (eC (.int 10)) (e2 pMul (eC (.int 290)) (eVar 6)))))
    (sSeq (sPar 8 9 (nV (e2 pIdx (eLst (aCons (eLst (aCons (eC (.int 8)) aNil)) (aCons (eLst (aCons (eC (.int 3)) aNil)) (aCons (eLst (aCons (eC (.int 1)) (aCons (eC (.int 2)) (aCons (eC (.int 5)) (aCons (eC (.int 8)) aNil))))) aNil)))) (eCall 15 (aCons (eVar 1) (aCons (e2 pAdd (eC (.int 5)) (eVar 6)) (aCons (eC (.int 3)) aNil)))))) (nV (e2 pIdx (eLst (aCons (eC (.str ("ab" : Str))) (aCons (eC (.str ("abcz" : Str))) (aCons (eC (.str ("abcdefghijklm" : Str))) aNil)))) (eCall 15 (aCons (eVar 1) (aCons (e2 pAdd (eC (.int 8)) (eVar 6)) (aCons (eC (.int 3)) aNil)))))))
    (sSeq (sSet 10 (nV (eCall 17 (aCons (eVar 1) (aCons (eVar 7) (aCons (e2 pAdd (eC (.int 1)) (eCall 15 (aCons (eVar 1) (aCons (e2 pAdd (eC (.int 2)) (eVar 6)) (aCons (eC (.int 20)) aNil))))) (aCons (eVar 8) (aCons (eVar 9) aNil))))))))
    (sSeq (sSet 11 (nF (eC (.dict []))))
    (sSeq (sFor (.v 12) (iVal (eVar 10))
    (sPut 11 (eCall 18 (aCons (eVar 12) aNil)) (e2 pAdd (eM isDc mGet (eBor 11) (aCons (eCall 18 (aCons (eVar 12) aNil)) (aCons (eLst aNil) aNil))) (eLst (aCons (eVar 12) aNil)))))
    (sSeq (sSet 13 (nV (eCall 7 (aCons (eB (b1 pList) (aCons (eVar 10) aNil)) aNil))))
    (sSeq (sIf (eTOr (eTB (e2 pNe2 (eVar 13) (eBor 11))) (eTOr (eTB (e2 pNe2 (eB (b1 pList) (aCons (eVar 13) aNil)) (eB (b1 pSorted) (aCons (eBor 11) aNil)))) (eTB (e2 pNe2 (eLc [12] (.v 12) (iVal (eVar 10)) tYesF (eCall 4 (aCons (eVar 12) aNil))) (eLc [12] (.v 12) (iVal (eVar 10)) tYesF (eCall 18 (aCons (eVar 12) aNil))))))) (sRet (eC (.bool false)))
    sNil)
    (sSeq (sFor (.v 14) (iVal (eVar 10))
    (sSeq (sSet 4 (nV (eCall 18 (aCons (eVar 14) aNil))))
    (sSeq (sIf (eTOr (eTB (e2 pIsNot (eCall 6 (aCons (eVar 4) aNil)) (eC (.bool true)))) (eTB (e2 pNe2 (eCall 12 (aCons (eB (b1 pLen) (aCons (eVar 4) aNil)) (aCons (eCall 11 (aCons (eVar 4) aNil)) aNil))) (eVar 4)))) (sRet (eC (.bool false)))
    sNil)
    (sSeq (sSet 15 (nV (eLc [23] (.v 23) (iVal (eVar 10)) tYesF (eCall 22 (aCons (eVar 14) (aCons (eVar 23) aNil))))))
    (sSeq (sIf (eTOr (eTB (e2 pNe2 (eLc [23] (.v 23) (iVal (eVar 10)) tYesF (eCall 5 (aCons (eVar 14) (aCons (eVar 23) aNil)))) (eVar 15))) (eTB (e2 pNe2 (eLc [23] (.v 23) (iVal (eVar 10)) tYesF (e2 pEq2 (eCall 18 (aCons (eVar 23) aNil)) (eVar 4))) (eVar 15)))) (sRet (eC (.bool false)))
    sNil)
    (sSeq (sPar 16 17 (nV (eCall 15 (aCons (eVar 1) (aCons (e2 pAdd (e2 pAdd (eVar 7) (eC (.int 250))) (eB (b1 pLen) (aCons (eVar 14) aNil))) (aCons (eC (.int 27)) aNil))))) (nV (eC (.int 1))))
    (sSeq (sFor (.v 5) (iB (q1 pRng1) (aCons (e1 pLenSet (eVar 4)) aNil))
    (sSet 17 (nV (e2 pMul (eVar 17) (eB (b2 pMax2) (aCons (eC (.int 0)) (aCons (e2 pSub (eVar 16) (eVar 5)) aNil)))))))
    (sIf (eTB (e2 pNe2 (eCall 13 (aCons (eVar 4) (aCons (eVar 16) aNil))) (eVar 17))) (sRet (eC (.bool false)))
    sNil))))))))
    (sFor (.v 5) (iB (q1 pRng1) (aCons (eC (.int 8)) aNil))
    (sSeq (sSet 4 (nV (eCall 18 (aCons (e2 pIdx (eVar 10) (eCall 15 (aCons (eVar 1) (aCons (e2 pAdd (e2 pAdd (eVar 7) (eC (.int 260))) (eVar 5)) (aCons (eB (b1 pLen) (aCons (eVar 10) aNil)) aNil))))) aNil))))
    (sSeq (sSet 18 (nV (eCall 15 (aCons (eVar 1) (aCons (e2 pAdd (e2 pAdd (eVar 7) (eC (.int 270))) (eVar 5)) (aCons (eB (b1 pLen) (aCons (eVar 4) aNil)) aNil))))))
    (sSeq (sSet 19 (nV (e2 pAdd (e2 pAdd (eCut (eVar 4) oN (oS (eVar 18))) (eTup (aCons (e2 pSub (eCall 15 (aCons (eVar 1) (aCons (e2 pAdd (e2 pAdd (eVar 7) (eC (.int 280))) (eVar 5)) (aCons (eC (.int 10)) aNil)))) (eC (.int 1))) aNil))) (eCut (eVar 4) (oS (e2 pAdd (eVar 18) (eC (.int 1)))) oN))))
    (sFor (.v 20) (iVal (eLst (aCons (eVar 19) (aCons (e2 pAdd (eVar 4) (eTup (aCons (e2 pAdd (eB (b1 pMax) (aCons (eVar 4) aNil)) (eC (.int 1))) aNil))) (aCons (e2 pAdd (eVar 4) (eTup (aCons (e2 pAdd (eB (b1 pMax) (aCons (eVar 4) aNil)) (eC (.int 2))) aNil))) (aCons (e1 pRv (eVar 4)) (aCons (eCut (eVar 4) (oS (eC (.int 1))) oN) (aCons (e2 pAdd (e2 pAdd (eVar 4) (eVar 4)) (eVar 4)) aNil))))))))
    (sSeq (sIf (eTB (e2 pNe2 (eCall 6 (aCons (eVar 20) aNil)) (eCall 19 (aCons (eVar 20) aNil)))) (sRet (eC (.bool false)))
    sNil)
    (sIf (eTOr (eTB (e2 pGt (eB (b1 pLen) (aCons (eVar 20) aNil)) (eC (.int 8)))) (eTNot (eT (eCall 19 (aCons (eVar 20) aNil))))) (sIf (eTB (e2 pNe2 (eLst (aCons (eCall 24 (aCons (eC (.int 4)) (aCons (eVar 20) (aCons (eC (.int 0)) aNil)))) (aCons (eCall 24 (aCons (eC (.int 6)) (aCons (eVar 20) (aCons (eC (.int 27)) aNil)))) aNil))) (e2 pMul (eLst (aCons (eTup (aCons (eC (.str ("pattern" : Str))) (aCons (eC (.int 0)) aNil))) aNil)) (eC (.int 2))))) (sRet (eC (.bool false)))
    sNil)
    sNil))))))))))))))))
    (sSeq (sSet 21 (nV (eCall 23 (aCons (eC (.int 3)) (aCons (eC (.str ("abcd" : Str))) aNil)))))
    (sSeq (sFor (.v 4) (iVal (eCall 20 (aCons (eC (.int 3)) aNil)))
    (sIf (eTB (e2 pNe2 (eCall 13 (aCons (eVar 4) (aCons (eC (.int 4)) aNil))) (eB (b1 pLen) (aCons (eLc [24] (.v 24) (iVal (eVar 21)) (eTB (e2 pEq2 (eCall 18 (aCons (eVar 24) aNil)) (eVar 4))) (eVar 24)) aNil)))) (sRet (eC (.bool false)))
    sNil))
    (sSeq (sSet 22 (nV (e2 pAdd (eLc [25] (.v 25) (iVal (eLst (aCons (eC (.str ("" : Str))) (aCons (eC (.str ("abcdefghi" : Str))) (aCons (eC (.str ("aB" : Str))) aNil))))) tYesF (eCall 24 (aCons (eC (.int 0)) (aCons (eVar 25) (aCons (eC (.str ("" : Str))) aNil))))) (eLst (aCons (eCall 24 (aCons (eC (.int 1)) (aCons (eC (.str ("" : Str))) (aCons (eC (.str ("1" : Str))) aNil)))) (aCons (eCall 24 (aCons (eC (.int 1)) (aCons (eC (.str ("a" : Str))) (aCons (eC (.str ("1" : Str))) aNil)))) (aCons (eCall 24 (aCons (eC (.int 2)) (aCons (eLst aNil) (aCons (eC (.int 0)) aNil)))) (aCons (eCall 24 (aCons (eC (.int 2)) (aCons (eLst (aCons (eC (.str ("b" : Str))) (aCons (eC (.str ("a" : Str))) aNil))) (aCons (eC (.int 0)) aNil)))) aNil))))))))
    (sSeq (sSet 22 (nV (e2 pAdd (e2 pAdd (eVar 22) (eLc [25] (.v 25) (iVal (eLst (aCons (e1 pNeg (eC (.int 1))) (aCons (eC (.int 9)) aNil)))) tYesF (eCall 24 (aCons (eC (.int 3)) (aCons (eVar 25) (aCons (eC (.int 0)) aNil)))))) (eLc [25] (.v 25) (iVal (eLst (aCons (eC (.int 0)) (aCons (eC (.int 9)) aNil)))) tYesF (eCall 24 (aCons (eC (.int 5)) (aCons (eVar 25) (aCons (e1 pNeg (eC (.int 1))) aNil))))))))
    (sSeq (sSet 22 (nV (e2 pAdd (e2 pAdd (eVar 22) (eLc [25] (.v 25) (iVal (eLst (aCons (e1 pNeg (eC (.int 1))) (aCons (eC (.int 5)) aNil)))) tYesF (eCall 24 (aCons (eC (.int 5)) (aCons (eC (.int 3)) (aCons (eVar 25) aNil)))))) (eLc [25] (.v 25) (iVal (eLst (aCons (e1 pNeg (eC (.int 1))) (aCons (eC (.int 27)) aNil)))) tYesF (eCall 24 (aCons (eC (.int 6)) (aCons (eTup (aCons (eC (.int 0)) aNil)) (aCons (eVar 25) aNil))))))))
    (sSeq (sSet 11 (nF (e2 pAddL (e2 pMul (eLst (aCons (eTup (aCons (eC (.str ("word" : Str))) (aCons (eC (.int 0)) aNil))) aNil)) (eC (.int 4))) (eLst (aCons (eTup (aCons (eC (.str ("word" : Str))) (aCons (eC (.int 1)) aNil))) (aCons (eTup (aCons (eC (.str ("size" : Str))) (aCons (eC (.int 0)) aNil))) (aCons (eTup (aCons (eC (.str ("word" : Str))) (aCons (eC (.int 1)) aNil))) aNil)))))))
    (sSeq (sFrz [11] (sSet 11 (nF (e2 pAddL (eVar 11) (eLc [25] (.v 25) (iVal (eLst (aCons (e1 pNeg (eC (.int 1))) (aCons (eC (.int 9)) (aCons (eC (.int 0)) (aCons (eC (.int 9)) (aCons (e1 pNeg (eC (.int 1))) (aCons (eC (.int 5)) (aCons (e1 pNeg (eC (.int 1))) (aCons (eC (.int 27)) aNil)))))))))) tYesF (eTup (aCons (eC (.str ("range" : Str))) (aCons (eVar 25) aNil))))))))
    (sRet (eAnd (e2 pEq2 (eVar 22) (eBor 11)) (eAnd (e2 pEq2 (eCall 12 (aCons (eC (.int 8)) (aCons (eC (.int 4139)) aNil))) (eTup (aCons (eC (.int 0)) (aCons (eC (.int 1)) (aCons (eC (.int 2)) (aCons (eC (.int 3)) (aCons (eC (.int 4)) (aCons (eC (.int 5)) (aCons (eC (.int 6)) (aCons (eC (.int 7)) aNil)))))))))) (e2 pEq2 (eCall 24 (aCons (eC (.int 5)) (aCons (eC (.int 8)) (aCons (eC (.int 4140)) aNil)))) (eTup (aCons (eC (.str ("range" : Str))) (aCons (eC (.int 4140)) aNil))))))))))))))))))))
theorem bd25 (k : Nat) (ev : Ev) : SSs tab N25 k ev sc25 (defBody st25) f25 :=
  (sss_cons (ss_set (kd := .local) (by decide +kernel) (by decide +kernel) (.inl rfl) (sw_no rfl) (sv_call (j := 14) (fi := ⟨"_law_draws", ["script"]⟩) rfl g_sc25__law_draws (sa_cons v_sc25_0 sa_nil rfl) (.cons .nil) (by decide +kernel) rfl).n)
    (sss_cons (ss_if (st_cmp ok_ne2 (sf_lc2 (own := [("length", 2)]) (sc2 := sc25_1) (by decide +kernel) (by decide +kernel) (si_rng1 rfl g_sc25_range bl_range (sa_cons sv_int sa_nil rfl) rfl) (sg_name (kd := .local) (by decide +kernel) (by decide +kernel) (.inl rfl)) .nil (sv_call (j := 9) (fi := ⟨"bell", ["length"]⟩) rfl g_sc25_1_bell (sa_cons v_sc25_1_2 sa_nil rfl) (.cons .nil) (by decide +kernel) rfl) (by decide +kernel) rfl).v.b (sf_lc2 (own := [("length", 2)]) (sc2 := sc25_2) (by decide +kernel) (by decide +kernel) (si_rng1 rfl g_sc25_range bl_range (sa_cons sv_int sa_nil rfl) rfl) (sg_name (kd := .local) (by decide +kernel) (by decide +kernel) (.inl rfl)) .nil (sv_call (j := 21) (fi := ⟨"_law_bell", ["length"]⟩) rfl g_sc25_2__law_bell (sa_cons v_sc25_2_2 sa_nil rfl) (.cons .nil) (by decide +kernel) rfl) (by decide +kernel) rfl).v.b rfl) (sss_one (ss_ret sv_bool))
    sss_nil)
    (sss_cons (ss_set (kd := .cell) (by decide +kernel) (by decide +kernel) (.inr rfl) (sw_no rfl) (sv_bin ok_add sv_int (sv_call (j := 15) (fi := ⟨"_law_mix", ["draws", "k", "many"]⟩) rfl g_sc25__law_mix (sa_cons v_sc25_1 (sa_cons sv_int (sa_cons sv_int sa_nil rfl) rfl) rfl) (.cons (.cons (.cons .nil))) (by decide +kernel) rfl)).n)
    (sss_cons (ss_set (kd := .local) (by decide +kernel) (by decide +kernel) (.inl rfl) (sw_no rfl) (sv_call (j := 20) (fi := ⟨"_law_all", ["length"]⟩) rfl g_sc25__law_all (sa_cons v_sc25_2 sa_nil rfl) (.cons .nil) (by decide +kernel) rfl).n)
    (sss_cons (ss_if (SPW.st (sw_or (st_cmp ok_ne2 (sv_bi g_sc25_len bl_len bt_len ca_len (sab_cons (v_sc25_3).b sab_nil rfl) (by decide +kernel) (by decide +kernel) rfl).b (sv_call (j := 21) (fi := ⟨"_law_bell", ["length"]⟩) rfl g_sc25__law_bell (sa_cons v_sc25_2 sa_nil rfl) (.cons .nil) (by decide +kernel) rfl).b rfl) (sw_or (st_cmp ok_ne2 (sf_lc2 (own := [("row", 4)]) (sc2 := sc25_4) (by decide +kernel) (by decide +kernel) (si_val v_sc25_3) (sg_name (kd := .local) (by decide +kernel) (by decide +kernel) (.inl rfl)) .nil (sv_call (j := 11) (fi := ⟨"number_of", ["told"]⟩) rfl g_sc25_4_number_of (sa_cons v_sc25_4_4 sa_nil rfl) (.cons .nil) (by decide +kernel) rfl) (by decide +kernel) rfl).v.b (sf_lrange1 rfl rfl g_sc25_list bl_list g_sc25_range bl_range (sv_bi g_sc25_len bl_len bt_len ca_len (sab_cons (v_sc25_3).b sab_nil rfl) (by decide +kernel) (by decide +kernel) rfl) rfl).v.b rfl) (sw_or1 (st_cmp ok_ne2 (sf_lc2 (own := [("t", 5)]) (sc2 := sc25_3) (by decide +kernel) (by decide +kernel) (si_rng1 rfl g_sc25_range bl_range (sa_cons (sv_bi g_sc25_len bl_len bt_len ca_len (sab_cons (v_sc25_3).b sab_nil rfl) (by decide +kernel) (by decide +kernel) rfl) sa_nil rfl) rfl) (sg_name (kd := .local) (by decide +kernel) (by decide +kernel) (.inl rfl)) .nil (sv_call (j := 12) (fi := ⟨"pattern_of", ["length", "number"]⟩) rfl g_sc25_3_pattern_of (sa_cons v_sc25_3_2 (sa_cons v_sc25_3_5 sa_nil rfl) rfl) (.cons (.cons .nil)) (by decide +kernel) rfl) (by decide +kernel) rfl).v.b (v_sc25_3).b rfl))))) (sss_one (ss_ret sv_bool))
    sss_nil)
    (sss_cons (ss_for (si_rng1 rfl g_sc25_range bl_range (sa_cons sv_int sa_nil rfl) rfl) (sg_name (kd := .local) (by decide +kernel) (by decide +kernel) (.inl rfl)) (sss_cons (ss_set (kd := .local) (by decide +kernel) (by decide +kernel) (.inl rfl) (sw_no rfl) (sv_bin ok_add sv_int (sv_bin ok_mul sv_int v_sc25_6)).n)
    (sss_cons (ss_par2 (x := "sizes") (y := "signs") (i := 8) (j := 9) (by decide +kernel) (by decide +kernel) (by decide +kernel) (by decide +kernel) (by decide +kernel) rfl (sv_idx (sf_lst (sa_cons (sf_lst (sa_cons sv_int sa_nil rfl)).v (sa_cons (sf_lst (sa_cons sv_int sa_nil rfl)).v (sa_cons (sf_lst (sa_cons sv_int (sa_cons sv_int (sa_cons sv_int (sa_cons sv_int sa_nil rfl) rfl) rfl) rfl)).v sa_nil rfl) rfl) rfl)).v.b (sv_call (j := 15) (fi := ⟨"_law_mix", ["draws", "k", "many"]⟩) rfl g_sc25__law_mix (sa_cons v_sc25_1 (sa_cons (sv_bin ok_add sv_int v_sc25_6) (sa_cons sv_int sa_nil rfl) rfl) rfl) (.cons (.cons (.cons .nil))) (by decide +kernel) rfl) rfl) (sv_idx (sf_lst (sa_cons (sv_str so7) (sa_cons (sv_str so6) (sa_cons (sv_str so5) sa_nil rfl) rfl) rfl)).v.b (sv_call (j := 15) (fi := ⟨"_law_mix", ["draws", "k", "many"]⟩) rfl g_sc25__law_mix (sa_cons v_sc25_1 (sa_cons (sv_bin ok_add sv_int v_sc25_6) (sa_cons sv_int sa_nil rfl) rfl) rfl) (.cons (.cons (.cons .nil))) (by decide +kernel) rfl) rfl) rfl rfl)
    (sss_cons (ss_set (kd := .local) (by decide +kernel) (by decide +kernel) (.inl rfl) (sw_no rfl) (sv_call (j := 17) (fi := ⟨"_law_list", ["draws", "k", "many", "sizes", "signs"]⟩) rfl g_sc25__law_list (sa_cons v_sc25_1 (sa_cons v_sc25_7 (sa_cons (sv_bin ok_add sv_int (sv_call (j := 15) (fi := ⟨"_law_mix", ["draws", "k", "many"]⟩) rfl g_sc25__law_mix (sa_cons v_sc25_1 (sa_cons (sv_bin ok_add sv_int v_sc25_6) (sa_cons sv_int sa_nil rfl) rfl) rfl) (.cons (.cons (.cons .nil))) (by decide +kernel) rfl)) (sa_cons v_sc25_8 (sa_cons v_sc25_9 sa_nil rfl) rfl) rfl) rfl) rfl) (.cons (.cons (.cons (.cons (.cons .nil))))) (by decide +kernel) rfl).n)
    (sss_cons (ss_set (kd := .local) (by decide +kernel) (by decide +kernel) (.inl rfl) (sw_no rfl) (sf_dict).n)
    (sss_cons (ss_for (si_val v_sc25_10) (sg_name (kd := .local) (by decide +kernel) (by decide +kernel) (.inl rfl)) (sss_one (ss_put (kd := .local) (i := 11) (by decide +kernel) (by decide +kernel) (.inl rfl) (by decide +kernel) (by decide +kernel) rfl rfl (sv_call (j := 18) (fi := ⟨"_law_pattern", ["text"]⟩) rfl g_sc25__law_pattern (sa_cons v_sc25_12 sa_nil rfl) (.cons .nil) (by decide +kernel) rfl) (sv_bin ok_add (sv_mV me_get (fun _ => rfl) b_sc25_11 (sa_cons (sv_call (j := 18) (fi := ⟨"_law_pattern", ["text"]⟩) rfl g_sc25__law_pattern (sa_cons v_sc25_12 sa_nil rfl) (.cons .nil) (by decide +kernel) rfl) (sa_cons (sf_lst sa_nil).v sa_nil rfl) rfl) rfl rfl rfl) (sf_lst (sa_cons v_sc25_12 sa_nil rfl)).v))) (noFold rfl))
    (sss_cons (ss_set (kd := .local) (by decide +kernel) (by decide +kernel) (.inl rfl) (sw_no rfl) (sv_call (j := 7) (fi := ⟨"classes", ["told"]⟩) rfl g_sc25_classes (sa_cons (sf_ty g_sc25_list bl_list bt_list cf_list (sab_cons (v_sc25_10).b sab_nil rfl) (by decide +kernel) (by decide +kernel) rfl).v sa_nil rfl) (.cons .nil) (by decide +kernel) rfl).n)
    (sss_cons (ss_if (SPW.st (sw_or (st_cmp ok_ne2 (v_sc25_13).b b_sc25_11 rfl) (sw_or (st_cmp ok_ne2 (sf_ty g_sc25_list bl_list bt_list cf_list (sab_cons (v_sc25_13).b sab_nil rfl) (by decide +kernel) (by decide +kernel) rfl).v.b (sf_bi g_sc25_sorted bl_sorted bt_sorted cf_sorted (sab_cons b_sc25_11 sab_nil rfl) (by decide +kernel) (by decide +kernel) rfl).v.b rfl) (sw_or1 (st_cmp ok_ne2 (sf_lc2 (own := [("word", 12)]) (sc2 := sc25_5) (by decide +kernel) (by decide +kernel) (si_val v_sc25_10) (sg_name (kd := .local) (by decide +kernel) (by decide +kernel) (.inl rfl)) .nil (sv_call (j := 4) (fi := ⟨"pattern", ["text"]⟩) rfl g_sc25_5_pattern (sa_cons v_sc25_5_12 sa_nil rfl) (.cons .nil) (by decide +kernel) rfl) (by decide +kernel) rfl).v.b (sf_lc2 (own := [("word", 12)]) (sc2 := sc25_6) (by decide +kernel) (by decide +kernel) (si_val v_sc25_10) (sg_name (kd := .local) (by decide +kernel) (by decide +kernel) (.inl rfl)) .nil (sv_call (j := 18) (fi := ⟨"_law_pattern", ["text"]⟩) rfl g_sc25_6__law_pattern (sa_cons v_sc25_6_12 sa_nil rfl) (.cons .nil) (by decide +kernel) rfl) (by decide +kernel) rfl).v.b rfl))))) (sss_one (ss_ret sv_bool))
    sss_nil)
    (sss_cons (ss_for (si_val v_sc25_10) (sg_name (kd := .cell) (by decide +kernel) (by decide +kernel) (.inr ⟨rfl, rfl⟩)) (sss_cons (ss_set (kd := .cell) (by decide +kernel) (by decide +kernel) (.inr rfl) (sw_no rfl) (sv_call (j := 18) (fi := ⟨"_law_pattern", ["text"]⟩) rfl g_sc25__law_pattern (sa_cons v_sc25_14 sa_nil rfl) (.cons .nil) (by decide +kernel) rfl).n)
    (sss_cons (ss_if (SPW.st (sw_or (st_cmp ok_isnot (sv_call (j := 6) (fi := ⟨"is_pattern", ["told"]⟩) rfl g_sc25_is_pattern (sa_cons v_sc25_4 sa_nil rfl) (.cons .nil) (by decide +kernel) rfl).b (sv_bool).b rfl) (sw_or1 (st_cmp ok_ne2 (sv_call (j := 12) (fi := ⟨"pattern_of", ["length", "number"]⟩) rfl g_sc25_pattern_of (sa_cons (sv_bi g_sc25_len bl_len bt_len ca_len (sab_cons (v_sc25_4).b sab_nil rfl) (by decide +kernel) (by decide +kernel) rfl) (sa_cons (sv_call (j := 11) (fi := ⟨"number_of", ["told"]⟩) rfl g_sc25_number_of (sa_cons v_sc25_4 sa_nil rfl) (.cons .nil) (by decide +kernel) rfl) sa_nil rfl) rfl) (.cons (.cons .nil)) (by decide +kernel) rfl).b (v_sc25_4).b rfl)))) (sss_one (ss_ret sv_bool))
    sss_nil)
    (sss_cons (ss_lc2 newV (x := "alike") (by decide +kernel) (by decide +kernel) rfl (by decide +kernel) (own := [("two", 23)]) (sc2 := sc25_7) (by decide +kernel) (by decide +kernel) (si_val v_sc25_10) (sg_name (kd := .local) (by decide +kernel) (by decide +kernel) (.inl rfl)) .nil (sv_call (j := 22) (fi := ⟨"_law_exchanged", ["one", "two"]⟩) rfl g_sc25_7__law_exchanged (sa_cons v_sc25_7_14 (sa_cons v_sc25_7_23 sa_nil rfl) rfl) (.cons (.cons .nil)) (by decide +kernel) rfl) (by decide +kernel) rfl)
    (sss_cons (ss_if (SPW.st (sw_or (st_cmp ok_ne2 (sf_lc2 (own := [("two", 23)]) (sc2 := sc25_9) (by decide +kernel) (by decide +kernel) (si_val v_sc25_10) (sg_name (kd := .local) (by decide +kernel) (by decide +kernel) (.inl rfl)) .nil (sv_call (j := 5) (fi := ⟨"are_alike", ["one", "two"]⟩) rfl g_sc25_9_are_alike (sa_cons v_sc25_9_14 (sa_cons v_sc25_9_23 sa_nil rfl) rfl) (.cons (.cons .nil)) (by decide +kernel) rfl) (by decide +kernel) rfl).v.b (v_sc25_15).b rfl) (sw_or1 (st_cmp ok_ne2 (sf_lc2 (own := [("two", 23)]) (sc2 := sc25_8) (by decide +kernel) (by decide +kernel) (si_val v_sc25_10) (sg_name (kd := .local) (by decide +kernel) (by decide +kernel) (.inl rfl)) .nil (sv_cmp ok_eq2 (sv_call (j := 18) (fi := ⟨"_law_pattern", ["text"]⟩) rfl g_sc25_8__law_pattern (sa_cons v_sc25_8_23 sa_nil rfl) (.cons .nil) (by decide +kernel) rfl).b (v_sc25_8_4).b rfl) (by decide +kernel) rfl).v.b (v_sc25_15).b rfl)))) (sss_one (ss_ret sv_bool))
    sss_nil)
    (sss_cons (ss_par2 (x := "number") (y := "factor") (i := 16) (j := 17) (by decide +kernel) (by decide +kernel) (by decide +kernel) (by decide +kernel) (by decide +kernel) rfl (sv_call (j := 15) (fi := ⟨"_law_mix", ["draws", "k", "many"]⟩) rfl g_sc25__law_mix (sa_cons v_sc25_1 (sa_cons (sv_bin ok_add (sv_bin ok_add v_sc25_7 sv_int) (sv_bi g_sc25_len bl_len bt_len ca_len (sab_cons (v_sc25_14).b sab_nil rfl) (by decide +kernel) (by decide +kernel) rfl)) (sa_cons sv_int sa_nil rfl) rfl) rfl) (.cons (.cons (.cons .nil))) (by decide +kernel) rfl) sv_int rfl rfl)
    (sss_cons (ss_for (si_rng1 rfl g_sc25_range bl_range (sa_cons (sv_lenSet rfl rfl g_sc25_len bl_len g_sc25_set bl_set (v_sc25_4).b rfl) sa_nil rfl) rfl) (sg_name (kd := .local) (by decide +kernel) (by decide +kernel) (.inl rfl)) (sss_one (ss_set (kd := .local) (by decide +kernel) (by decide +kernel) (.inl rfl) (sw_no rfl) (sv_bin ok_mul v_sc25_17 (sv_bi g_sc25_max bl_max bt_max ca_max2 (sab_cons (sv_int).b (sab_cons (sv_bin ok_sub v_sc25_16 v_sc25_5).b sab_nil rfl) rfl) (by decide +kernel) (by decide +kernel) rfl)).n)) (noFold rfl))
    (sss_one (ss_if (st_cmp ok_ne2 (sv_call (j := 13) (fi := ⟨"words_with", ["told", "letters"]⟩) rfl g_sc25_words_with (sa_cons v_sc25_4 (sa_cons v_sc25_16 sa_nil rfl) rfl) (.cons (.cons .nil)) (by decide +kernel) rfl).b (v_sc25_17).b rfl) (sss_one (ss_ret sv_bool))
    sss_nil)))))))) (noFold rfl))
    (sss_one (ss_for (si_rng1 rfl g_sc25_range bl_range (sa_cons sv_int sa_nil rfl) rfl) (sg_name (kd := .local) (by decide +kernel) (by decide +kernel) (.inl rfl)) (sss_cons (ss_set (kd := .cell) (by decide +kernel) (by decide +kernel) (.inr rfl) (sw_no rfl) (sv_call (j := 18) (fi := ⟨"_law_pattern", ["text"]⟩) rfl g_sc25__law_pattern (sa_cons (sv_idx (v_sc25_10).b (sv_call (j := 15) (fi := ⟨"_law_mix", ["draws", "k", "many"]⟩) rfl g_sc25__law_mix (sa_cons v_sc25_1 (sa_cons (sv_bin ok_add (sv_bin ok_add v_sc25_7 sv_int) v_sc25_5) (sa_cons (sv_bi g_sc25_len bl_len bt_len ca_len (sab_cons (v_sc25_10).b sab_nil rfl) (by decide +kernel) (by decide +kernel) rfl) sa_nil rfl) rfl) rfl) (.cons (.cons (.cons .nil))) (by decide +kernel) rfl) rfl) sa_nil rfl) (.cons .nil) (by decide +kernel) rfl).n)
    (sss_cons (ss_set (kd := .local) (by decide +kernel) (by decide +kernel) (.inl rfl) (sw_no rfl) (sv_call (j := 15) (fi := ⟨"_law_mix", ["draws", "k", "many"]⟩) rfl g_sc25__law_mix (sa_cons v_sc25_1 (sa_cons (sv_bin ok_add (sv_bin ok_add v_sc25_7 sv_int) v_sc25_5) (sa_cons (sv_bi g_sc25_len bl_len bt_len ca_len (sab_cons (v_sc25_4).b sab_nil rfl) (by decide +kernel) (by decide +kernel) rfl) sa_nil rfl) rfl) rfl) (.cons (.cons (.cons .nil))) (by decide +kernel) rfl).n)
    (sss_cons (ss_set (kd := .local) (by decide +kernel) (by decide +kernel) (.inl rfl) (sw_no rfl) (sv_bin ok_add (sv_bin ok_add (sv_cut v_sc25_4 so_none (so_some v_sc25_18)) (sv_tup (sa_cons (sv_bin ok_sub (sv_call (j := 15) (fi := ⟨"_law_mix", ["draws", "k", "many"]⟩) rfl g_sc25__law_mix (sa_cons v_sc25_1 (sa_cons (sv_bin ok_add (sv_bin ok_add v_sc25_7 sv_int) v_sc25_5) (sa_cons sv_int sa_nil rfl) rfl) rfl) (.cons (.cons (.cons .nil))) (by decide +kernel) rfl) sv_int) sa_nil rfl))) (sv_cut v_sc25_4 (so_some (sv_bin ok_add v_sc25_18 sv_int)) so_none)).n)
    (sss_one (ss_for (si_val (sf_lst (sa_cons v_sc25_19 (sa_cons (sv_bin ok_add v_sc25_4 (sv_tup (sa_cons (sv_bin ok_add (sv_bi g_sc25_max bl_max bt_max ca_max (sab_cons (v_sc25_4).b sab_nil rfl) (by decide +kernel) (by decide +kernel) rfl) sv_int) sa_nil rfl))) (sa_cons (sv_bin ok_add v_sc25_4 (sv_tup (sa_cons (sv_bin ok_add (sv_bi g_sc25_max bl_max bt_max ca_max (sab_cons (v_sc25_4).b sab_nil rfl) (by decide +kernel) (by decide +kernel) rfl) sv_int) sa_nil rfl))) (sa_cons (sv_rev v_sc25_4) (sa_cons (sv_cut v_sc25_4 (so_some sv_int) so_none) (sa_cons (sv_bin ok_add (sv_bin ok_add v_sc25_4 v_sc25_4) v_sc25_4) sa_nil rfl) rfl) rfl) rfl) rfl) rfl)).v) (sg_name (kd := .local) (by decide +kernel) (by decide +kernel) (.inl rfl)) (sss_cons (ss_if (st_cmp ok_ne2 (sv_call (j := 6) (fi := ⟨"is_pattern", ["told"]⟩) rfl g_sc25_is_pattern (sa_cons v_sc25_20 sa_nil rfl) (.cons .nil) (by decide +kernel) rfl).b (sv_call (j := 19) (fi := ⟨"_law_is_pattern", ["told"]⟩) rfl g_sc25__law_is_pattern (sa_cons v_sc25_20 sa_nil rfl) (.cons .nil) (by decide +kernel) rfl).b rfl) (sss_one (ss_ret sv_bool))
    sss_nil)
    (sss_one (ss_if (SPW.st (sw_or (st_cmp ok_gt (sv_bi g_sc25_len bl_len bt_len ca_len (sab_cons (v_sc25_20).b sab_nil rfl) (by decide +kernel) (by decide +kernel) rfl).b (sv_int).b rfl) (sw_or1 (st_not (st_truth rfl (sv_call (j := 19) (fi := ⟨"_law_is_pattern", ["told"]⟩) rfl g_sc25__law_is_pattern (sa_cons v_sc25_20 sa_nil rfl) (.cons .nil) (by decide +kernel) rfl).b))))) (sss_one (ss_if (st_cmp ok_ne2 (sf_lst (sa_cons (sv_call (j := 24) (fi := ⟨"_law_refused", ["which", "one", "two"]⟩) rfl g_sc25__law_refused (sa_cons sv_int (sa_cons v_sc25_20 (sa_cons sv_int sa_nil rfl) rfl) rfl) (.cons (.cons (.cons .nil))) (by decide +kernel) rfl) (sa_cons (sv_call (j := 24) (fi := ⟨"_law_refused", ["which", "one", "two"]⟩) rfl g_sc25__law_refused (sa_cons sv_int (sa_cons v_sc25_20 (sa_cons sv_int sa_nil rfl) rfl) rfl) (.cons (.cons (.cons .nil))) (by decide +kernel) rfl) sa_nil rfl) rfl)).v.b (sv_bin ok_mul (sf_lst (sa_cons (sv_tup (sa_cons (sv_str so2) (sa_cons sv_int sa_nil rfl) rfl)) sa_nil rfl)).v sv_int).b rfl) (sss_one (ss_ret sv_bool))
    sss_nil))
    sss_nil))) (noFold rfl)))))) (noFold rfl))))))))))) (noFold rfl))
    (sss_cons (ss_set (kd := .local) (by decide +kernel) (by decide +kernel) (.inl rfl) (sw_no rfl) (sv_call (j := 23) (fi := ⟨"_law_words", ["length", "signs"]⟩) rfl g_sc25__law_words (sa_cons sv_int (sa_cons (sv_str so8) sa_nil rfl) rfl) (.cons (.cons .nil)) (by decide +kernel) rfl).n)
    (sss_cons (ss_for (si_val (sv_call (j := 20) (fi := ⟨"_law_all", ["length"]⟩) rfl g_sc25__law_all (sa_cons sv_int sa_nil rfl) (.cons .nil) (by decide +kernel) rfl)) (sg_name (kd := .cell) (by decide +kernel) (by decide +kernel) (.inr ⟨rfl, rfl⟩)) (sss_one (ss_if (st_cmp ok_ne2 (sv_call (j := 13) (fi := ⟨"words_with", ["told", "letters"]⟩) rfl g_sc25_words_with (sa_cons v_sc25_4 (sa_cons sv_int sa_nil rfl) rfl) (.cons (.cons .nil)) (by decide +kernel) rfl).b (sv_bi g_sc25_len bl_len bt_len ca_len (sab_cons (sf_lc2 (own := [("text", 24)]) (sc2 := sc25_10) (by decide +kernel) (by decide +kernel) (si_val v_sc25_21) (sg_name (kd := .local) (by decide +kernel) (by decide +kernel) (.inl rfl)) (.one (st_cmp ok_eq2 (sv_call (j := 18) (fi := ⟨"_law_pattern", ["text"]⟩) rfl g_sc25_10__law_pattern (sa_cons v_sc25_10_24 sa_nil rfl) (.cons .nil) (by decide +kernel) rfl).b (v_sc25_10_4).b rfl)) v_sc25_10_24 (by decide +kernel) rfl).v.b sab_nil rfl) (by decide +kernel) (by decide +kernel) rfl).b rfl) (sss_one (ss_ret sv_bool))
    sss_nil)) (noFold rfl))
    (sss_cons (ss_set (kd := .local) (by decide +kernel) (by decide +kernel) (.inl rfl) (sw_no rfl) (sv_bin ok_add (sf_lc2 (own := [("bad", 25)]) (sc2 := sc25_11) (by decide +kernel) (by decide +kernel) (si_val (sf_lst (sa_cons (sv_str so0) (sa_cons (sv_str so10) (sa_cons (sv_str so9) sa_nil rfl) rfl) rfl)).v) (sg_name (kd := .local) (by decide +kernel) (by decide +kernel) (.inl rfl)) .nil (sv_call (j := 24) (fi := ⟨"_law_refused", ["which", "one", "two"]⟩) rfl g_sc25_11__law_refused (sa_cons sv_int (sa_cons v_sc25_11_25 (sa_cons (sv_str so0) sa_nil rfl) rfl) rfl) (.cons (.cons (.cons .nil))) (by decide +kernel) rfl) (by decide +kernel) rfl).v (sf_lst (sa_cons (sv_call (j := 24) (fi := ⟨"_law_refused", ["which", "one", "two"]⟩) rfl g_sc25__law_refused (sa_cons sv_int (sa_cons (sv_str so0) (sa_cons (sv_str so13) sa_nil rfl) rfl) rfl) (.cons (.cons (.cons .nil))) (by decide +kernel) rfl) (sa_cons (sv_call (j := 24) (fi := ⟨"_law_refused", ["which", "one", "two"]⟩) rfl g_sc25__law_refused (sa_cons sv_int (sa_cons (sv_str so11) (sa_cons (sv_str so13) sa_nil rfl) rfl) rfl) (.cons (.cons (.cons .nil))) (by decide +kernel) rfl) (sa_cons (sv_call (j := 24) (fi := ⟨"_law_refused", ["which", "one", "two"]⟩) rfl g_sc25__law_refused (sa_cons sv_int (sa_cons (sf_lst sa_nil).v (sa_cons sv_int sa_nil rfl) rfl) rfl) (.cons (.cons (.cons .nil))) (by decide +kernel) rfl) (sa_cons (sv_call (j := 24) (fi := ⟨"_law_refused", ["which", "one", "two"]⟩) rfl g_sc25__law_refused (sa_cons sv_int (sa_cons (sf_lst (sa_cons (sv_str so12) (sa_cons (sv_str so11) sa_nil rfl) rfl)).v (sa_cons sv_int sa_nil rfl) rfl) rfl) (.cons (.cons (.cons .nil))) (by decide +kernel) rfl) sa_nil rfl) rfl) rfl) rfl)).v).n)
    (sss_cons (ss_set (kd := .local) (by decide +kernel) (by decide +kernel) (.inl rfl) (sw_no rfl) (sv_bin ok_add (sv_bin ok_add v_sc25_22 (sf_lc2 (own := [("bad", 25)]) (sc2 := sc25_12) (by decide +kernel) (by decide +kernel) (si_val (sf_lst (sa_cons (sv_neg (sv_int).b) (sa_cons sv_int sa_nil rfl) rfl)).v) (sg_name (kd := .local) (by decide +kernel) (by decide +kernel) (.inl rfl)) .nil (sv_call (j := 24) (fi := ⟨"_law_refused", ["which", "one", "two"]⟩) rfl g_sc25_12__law_refused (sa_cons sv_int (sa_cons v_sc25_12_25 (sa_cons sv_int sa_nil rfl) rfl) rfl) (.cons (.cons (.cons .nil))) (by decide +kernel) rfl) (by decide +kernel) rfl).v) (sf_lc2 (own := [("bad", 25)]) (sc2 := sc25_13) (by decide +kernel) (by decide +kernel) (si_val (sf_lst (sa_cons sv_int (sa_cons sv_int sa_nil rfl) rfl)).v) (sg_name (kd := .local) (by decide +kernel) (by decide +kernel) (.inl rfl)) .nil (sv_call (j := 24) (fi := ⟨"_law_refused", ["which", "one", "two"]⟩) rfl g_sc25_13__law_refused (sa_cons sv_int (sa_cons v_sc25_13_25 (sa_cons (sv_neg (sv_int).b) sa_nil rfl) rfl) rfl) (.cons (.cons (.cons .nil))) (by decide +kernel) rfl) (by decide +kernel) rfl).v).n)
    (sss_cons (ss_set (kd := .local) (by decide +kernel) (by decide +kernel) (.inl rfl) (sw_no rfl) (sv_bin ok_add (sv_bin ok_add v_sc25_22 (sf_lc2 (own := [("bad", 25)]) (sc2 := sc25_14) (by decide +kernel) (by decide +kernel) (si_val (sf_lst (sa_cons (sv_neg (sv_int).b) (sa_cons sv_int sa_nil rfl) rfl)).v) (sg_name (kd := .local) (by decide +kernel) (by decide +kernel) (.inl rfl)) .nil (sv_call (j := 24) (fi := ⟨"_law_refused", ["which", "one", "two"]⟩) rfl g_sc25_14__law_refused (sa_cons sv_int (sa_cons sv_int (sa_cons v_sc25_14_25 sa_nil rfl) rfl) rfl) (.cons (.cons (.cons .nil))) (by decide +kernel) rfl) (by decide +kernel) rfl).v) (sf_lc2 (own := [("bad", 25)]) (sc2 := sc25_15) (by decide +kernel) (by decide +kernel) (si_val (sf_lst (sa_cons (sv_neg (sv_int).b) (sa_cons sv_int sa_nil rfl) rfl)).v) (sg_name (kd := .local) (by decide +kernel) (by decide +kernel) (.inl rfl)) .nil (sv_call (j := 24) (fi := ⟨"_law_refused", ["which", "one", "two"]⟩) rfl g_sc25_15__law_refused (sa_cons sv_int (sa_cons (sv_tup (sa_cons sv_int sa_nil rfl)) (sa_cons v_sc25_15_25 sa_nil rfl) rfl) rfl) (.cons (.cons (.cons .nil))) (by decide +kernel) rfl) (by decide +kernel) rfl).v).n)
    (sss_cons (ss_set (kd := .local) (by decide +kernel) (by decide +kernel) (.inl rfl) (sw_no rfl) (sf_addL (sv_bin ok_mul (sf_lst (sa_cons (sv_tup (sa_cons (sv_str so4) (sa_cons sv_int sa_nil rfl) rfl)) sa_nil rfl)).v sv_int) (sf_lst (sa_cons (sv_tup (sa_cons (sv_str so4) (sa_cons sv_int sa_nil rfl) rfl)) (sa_cons (sv_tup (sa_cons (sv_str so3) (sa_cons sv_int sa_nil rfl) rfl)) (sa_cons (sv_tup (sa_cons (sv_str so4) (sa_cons sv_int sa_nil rfl) rfl)) sa_nil rfl) rfl) rfl)).v).n)
    (sss_cons (ss_frz [11] (ss_set (kd := .local) (by decide +kernel) (by decide +kernel) (.inl rfl) (sw_no rfl) (sf_addL v_sc25_11 (sf_lc2 (own := [("bad", 25)]) (sc2 := sc25_16) (by decide +kernel) (by decide +kernel) (si_val (sf_lst (sa_cons (sv_neg (sv_int).b) (sa_cons sv_int (sa_cons sv_int (sa_cons sv_int (sa_cons (sv_neg (sv_int).b) (sa_cons sv_int (sa_cons (sv_neg (sv_int).b) (sa_cons sv_int sa_nil rfl) rfl) rfl) rfl) rfl) rfl) rfl) rfl)).v) (sg_name (kd := .local) (by decide +kernel) (by decide +kernel) (.inl rfl)) .nil (sv_tup (sa_cons (sv_str so1) (sa_cons v_sc25_16_25 sa_nil rfl) rfl)) (by decide +kernel) rfl).v).n))
    (sss_one (ss_ret (sv_and (sv_cmp ok_eq2 (v_sc25_22).b b_sc25_11 rfl) (sv_and (sv_cmp ok_eq2 (sv_call (j := 12) (fi := ⟨"pattern_of", ["length", "number"]⟩) rfl g_sc25_pattern_of (sa_cons sv_int (sa_cons sv_int sa_nil rfl) rfl) (.cons (.cons .nil)) (by decide +kernel) rfl).b (sv_tup (sa_cons sv_int (sa_cons sv_int (sa_cons sv_int (sa_cons sv_int (sa_cons sv_int (sa_cons sv_int (sa_cons sv_int (sa_cons sv_int sa_nil rfl) rfl) rfl) rfl) rfl) rfl) rfl) rfl)).b rfl) (sv_one (sv_cmp ok_eq2 (sv_call (j := 24) (fi := ⟨"_law_refused", ["which", "one", "two"]⟩) rfl g_sc25__law_refused (sa_cons sv_int (sa_cons sv_int (sa_cons sv_int sa_nil rfl) rfl) rfl) (.cons (.cons (.cons .nil))) (by decide +kernel) rfl).b (sv_tup (sa_cons (sv_str so1) (sa_cons sv_int sa_nil rfl) rfl)).b rfl)))))))))))))))))))
theorem w25 : Body tab ⟨"law", ["script"]⟩ (f25, 26, 1) (defBody st25) (defScope st25) := ⟨N25, fs25, rfl, rfl, fun k ev => bd25 k ev⟩
def rows : List (FS × Nat × Nat) := [(f0, 2, 1), (f1, 3, 1), (f2, 4, 1), (f3, 3, 1), (f4, 1, 1), (f5, 2, 2), (f6, 3, 1), (f7, 4, 1), (f8, 5, 2), (f9, 1, 1), (f10, 1, 1), (f11, 7, 1), (f12, 7, 2), (f13, 4, 2), (f14, 6, 1), (f15, 4, 3), (f16, 5, 4), (f17, 11, 5), (f18, 4, 1), (f19, 2, 1), (f20, 6, 1), (f21, 5, 1), (f22, 6, 2), (f23, 6, 2), (f24, 4, 3), (f25, 26, 1)]

end PV
namespace PV
open PySem
theorem evS {k j n m : Nat} {f : FS} {ds : List D} (h : rows[j]? = some (f, n, m)) (hl : ds.length = m) : evN rows (k + 1) j ds = runF f n (evN rows k) ds := by
  show (match rows[j]? with
    | some (f, n, m) => if ds.length = m then runF f n (evN rows k) ds else .bad
    | none => .bad) = _
  rw [h]
  exact if_pos hl
@[simp] theorem sSeq_ap {ev : Ev} {ρ : Rho} {f g : FS} : sSeq f g ev ρ = (f ev ρ).seq (g ev) := rfl
@[simp] theorem sIf_ap {ev : Ev} {ρ : Rho} {c : FT} {f g : FS} : sIf c f g ev ρ = RS.ofR (c ev ρ) fun b => if b = true then f ev ρ else g ev ρ := rfl
@[simp] theorem sSet_ap {ev : Ev} {ρ : Rho} {i : Nat} {f : FN} : sSet i f ev ρ = RS.ofR (f ev ρ) fun e => .next (ρ.set i e) := rfl
@[simp] theorem sRet_ap {ev : Ev} {ρ : Rho} {f : FE} : sRet f ev ρ = RS.ofR (f ev ρ) fun d => .ret d := rfl
@[simp] theorem sExpr_ap {ev : Ev} {ρ : Rho} {f : FE} : sExpr f ev ρ = RS.ofR (f ev ρ) fun _ => .next ρ := rfl
@[simp] theorem sNil_ap {ev : Ev} {ρ : Rho} : sNil ev ρ = .next ρ := rfl
@[simp] theorem sFrz_ap {ev : Ev} {ρ : Rho} {is : List Nat} {f : FS} : sFrz is f ev ρ = f ev (frzAt is ρ) := rfl
@[simp] theorem sFor_ap {ev : Ev} {ρ : Rho} {t : Tg} {it : FL} {f : FS} : sFor t it f ev ρ = RS.ofR (it ev ρ) fun ds => forL t (f ev) ds ρ := rfl
@[simp] theorem sWhile_ap {ev : Ev} {ρ : Rho} {c : FT} {f : FS} : sWhile c f ev ρ = whileL (c ev) (f ev) fuel ρ := rfl
@[simp] theorem sRaise_ap {ev : Ev} {ρ : Rho} {c : Nat} {f : FE} : sRaise c f ev ρ = RS.ofR (f ev ρ) fun d => .exc c d := rfl
@[simp] theorem sPar_ap {ev : Ev} {ρ : Rho} {i j : Nat} {f g : FN} : sPar i j f g ev ρ = RS.ofR (f ev ρ) fun e => RS.ofR (g ev ρ) fun e' => .next ((ρ.set i e).set j e') := rfl
@[simp] theorem e1_ap {ev : Ev} {ρ : Rho} {op : D → R D} {f : FE} : e1 op f ev ρ = (f ev ρ).bind op := rfl
@[simp] theorem e2_ap {ev : Ev} {ρ : Rho} {op : D → D → R D} {f g : FE} : e2 op f g ev ρ = (f ev ρ).bind fun x => (g ev ρ).bind fun y => op x y := rfl
@[simp] theorem eC_ap {ev : Ev} {ρ : Rho} {d : D} : eC d ev ρ = .ok d := rfl
@[simp] theorem nV_ap {ev : Ev} {ρ : Rho} {f : FE} : nV f ev ρ = (f ev ρ).bind fun d => .ok (.fz d) := rfl
@[simp] theorem nF_ap {ev : Ev} {ρ : Rho} {f : FE} : nF f ev ρ = (f ev ρ).bind toOwn := rfl
@[simp] theorem eB_ap {ev : Ev} {ρ : Rho} {fb : List D → R D} {l : FL} : eB fb l ev ρ = (l ev ρ).bind fb := rfl
@[simp] theorem aCons_ap {ev : Ev} {ρ : Rho} {f : FE} {g : FL} : aCons f g ev ρ = (f ev ρ).bind fun d => (g ev ρ).bind fun ds => .ok (d :: ds) := rfl
@[simp] theorem aNil_ap {ev : Ev} {ρ : Rho} : aNil ev ρ = .ok [] := rfl
@[simp] theorem aStar_ap {ev : Ev} {ρ : Rho} {f : FE} {g : FL} : aStar f g ev ρ = (f ev ρ).bind fun d => (pItems d).bind fun xs => (g ev ρ).bind fun ds => .ok (xs ++ ds) := rfl
@[simp] theorem eCall_ap {ev : Ev} {ρ : Rho} {j : Nat} {l : FL} : eCall j l ev ρ = (l ev ρ).bind fun ds => ev j ds := rfl
@[simp] theorem eT_ap {ev : Ev} {ρ : Rho} {f : FE} : eT f ev ρ = (f ev ρ).bind truth := rfl
@[simp] theorem eTB_ap {ev : Ev} {ρ : Rho} {f : FE} : eTB f ev ρ = (f ev ρ).bind toB := rfl
@[simp] theorem eLst_ap {ev : Ev} {ρ : Rho} {l : FL} : eLst l ev ρ = (l ev ρ).bind fun ds => if ds.length ≤ lim then .ok (.list ds) else .bad := rfl
@[simp] theorem eTup_ap {ev : Ev} {ρ : Rho} {l : FL} : eTup l ev ρ = (l ev ρ).bind fun ds => if ds.length ≤ lim then .ok (.tuple ds) else .bad := rfl
@[simp] theorem iVal_ap {ev : Ev} {ρ : Rho} {f : FE} : iVal f ev ρ = (f ev ρ).bind pIter := rfl
@[simp] theorem iB_ap {ev : Ev} {ρ : Rho} {g : List D → R (List D)} {l : FL} : iB g l ev ρ = (l ev ρ).bind g := rfl
@[simp] theorem eTAnd_ap {ev : Ev} {ρ : Rho} {f g : FT} : eTAnd f g ev ρ = (f ev ρ).bind fun b => if b = true then g ev ρ else .ok false := rfl
@[simp] theorem eTOr_ap {ev : Ev} {ρ : Rho} {f g : FT} : eTOr f g ev ρ = (f ev ρ).bind fun b => if b = true then .ok true else g ev ρ := rfl
@[simp] theorem eTNot_ap {ev : Ev} {ρ : Rho} {f : FT} : eTNot f ev ρ = (f ev ρ).bind fun b => .ok (!b) := rfl
@[simp] theorem eAnd_ap {ev : Ev} {ρ : Rho} {f g : FE} : eAnd f g ev ρ = (f ev ρ).bind fun d => (truth d).bind fun b => if b = true then g ev ρ else .ok d := rfl
@[simp] theorem eOr_ap {ev : Ev} {ρ : Rho} {f g : FE} : eOr f g ev ρ = (f ev ρ).bind fun d => (truth d).bind fun b => if b = true then .ok d else g ev ρ := rfl
@[simp] theorem eNot_ap {ev : Ev} {ρ : Rho} {f : FE} : eNot f ev ρ = (f ev ρ).bind fun d => (truth d).bind fun b => .ok (.bool (!b)) := rfl
@[simp] theorem eIf_ap {ev : Ev} {ρ : Rho} {c : FT} {f g : FE} : eIf c f g ev ρ = (c ev ρ).bind fun b => if b = true then f ev ρ else g ev ρ := rfl
@[simp] theorem eChain_ap {ev : Ev} {ρ : Rho} {op op' : D → D → R D} {f g h : FE} : eChain op op' f g h ev ρ = (f ev ρ).bind fun x => (g ev ρ).bind fun y => (op x y).bind fun z => (toB z).bind fun b => if b = true then (h ev ρ).bind fun w => op' y w else .ok (.bool false) := rfl
@[simp] theorem eLc_ap {ev : Ev} {ρ : Rho} {vs : List Nat} {t : Tg} {it : FL} {c : FT} {f : FE} : eLc vs t it c f ev ρ = (it ev ρ).bind fun ds => if ds.length ≤ lim then (lcL t (c ev) (f ev) (wipeR ρ vs) ds).bind fun ys => .ok (.list ys) else .bad := rfl
@[simp] theorem eM_ap {ev : Ev} {ρ : Rho} {isT : D → Bool} {fb : D → List D → R D} {f : FE} {l : FL} : eM isT fb f l ev ρ = (f ev ρ).bind fun d => if isT d = true then (l ev ρ).bind fun ds => fb d ds else .bad := rfl
@[simp] theorem eM2_ap {ev : Ev} {ρ : Rho} {isA isB : D → Bool} {fa fb : D → List D → R D} {f : FE} {l : FL} : eM2 isA fa isB fb f l ev ρ = (f ev ρ).bind fun d => if isA d = true then (l ev ρ).bind fun ds => fa d ds else if isB d = true then (l ev ρ).bind fun ds => fb d ds else .bad := rfl
@[simp] theorem eDc_ap {ev : Ev} {ρ : Rho} {vs : List Nat} {t : Tg} {it : FL} {c : FT} {fk fv : FE} : eDc vs t it c fk fv ev ρ = (it ev ρ).bind fun ds => (dcL t (c ev) (fk ev) (fv ev) (wipeR ρ vs) [] ds).bind fun ys => .ok (.dict ys) := rfl
@[simp] theorem eLRng_ap {ev : Ev} {ρ : Rho} {l : FL} : eLRng l ev ρ = (l ev ρ).bind pLRng := rfl
@[simp] theorem eCut_ap {ev : Ev} {ρ : Rho} {f : FE} {o o2 : FO} : eCut f o o2 ev ρ = (f ev ρ).bind fun d => (o ev ρ).bind fun i => (o2 ev ρ).bind fun j => pCut i j d := rfl
@[simp] theorem tYesF_ap {ev : Ev} {ρ : Rho} : tYesF ev ρ = .ok true := rfl
@[simp] theorem tk_ofR_ok {α : Type} {a : α} {k : α → RS} : RS.ofR (.ok a) k = k a := rfl
@[simp] theorem tk_ofR_exc {α : Type} {c : Nat} {z : D} {k : α → RS} : RS.ofR (.exc c z : R α) k = .exc c z := rfl
@[simp] theorem tk_seq_next {ρ : Rho} {k : Rho → RS} : RS.seq (.next ρ) k = k ρ := rfl
@[simp] theorem tk_seq_ret {d : D} {k : Rho → RS} : RS.seq (.ret d) k = .ret d := rfl
@[simp] theorem tk_seq_exc {c : Nat} {z : D} {k : Rho → RS} : RS.seq (.exc c z) k = .exc c z := rfl
@[simp] theorem tk_var0 {ev : Ev} {d : D} {ρ : Rho} : eVar 0 ev (.fz d :: ρ) = .ok d := rfl
@[simp] theorem tk_varS {ev : Ev} {i : Nat} {e : Ent} {ρ : Rho} : eVar (i + 1) ev (e :: ρ) = eVar i ev ρ := rfl
@[simp] theorem tk_bor0 {ev : Ev} {d : D} {ρ : Rho} : eBor 0 ev (.fz d :: ρ) = .ok d := rfl
@[simp] theorem tk_bor0l {ev : Ev} {d : List D} {ρ : Rho} : eBor 0 ev (.ol d :: ρ) = .ok (.list d) := rfl
@[simp] theorem tk_bor0d {ev : Ev} {d : List (D × D)} {ρ : Rho} : eBor 0 ev (.od d :: ρ) = .ok (.dict d) := rfl
@[simp] theorem tk_borS {ev : Ev} {i : Nat} {e : Ent} {ρ : Rho} : eBor (i + 1) ev (e :: ρ) = eBor i ev ρ := rfl
@[simp] theorem tk_toB_b {b : Bool} : toB (.bool b) = .ok b := rfl
@[simp] theorem tk_truth_b {b : Bool} : truth (.bool b) = .ok b := rfl
@[simp] theorem tk_truth_i {i : Int} : truth (.int i) = .ok (i != 0) := rfl
@[simp] theorem tk_b1_ap {f : D → R D} {d : D} : b1 f [d] = f d := rfl
@[simp] theorem tk_b2_ap {f : D → D → R D} {d e : D} : b2 f [d, e] = f d e := rfl
@[simp] theorem tk_q1_ap {f : D → R (List D)} {d : D} : q1 f [d] = f d := rfl
@[simp] theorem tk_q2_ap {f : D → D → R (List D)} {d e : D} : q2 f [d, e] = f d e := rfl
@[simp] theorem tk_add_i {a b : Int} : pAdd (.int a) (.int b) = .ok (.int (a + b)) := rfl
@[simp] theorem tk_sub_i {a b : Int} : pSub (.int a) (.int b) = .ok (.int (a - b)) := rfl
@[simp] theorem tk_neg_i {a : Int} : pNeg (.int a) = .ok (.int (-a)) := rfl
@[simp] theorem tk_lt_i {a b : Int} : pLt (.int a) (.int b) = .ok (.bool (decide (a < b))) := rfl
@[simp] theorem tk_le_i {a b : Int} : pLe (.int a) (.int b) = .ok (.bool (decide (a ≤ b))) := rfl
@[simp] theorem tk_gt_i {a b : Int} : pGt (.int a) (.int b) = .ok (.bool (decide (b < a))) := rfl
@[simp] theorem tk_ge_i {a b : Int} : pGe (.int a) (.int b) = .ok (.bool (decide (b ≤ a))) := rfl
@[simp] theorem tk_max2_i {a b : Int} : pMax2 (.int a) (.int b) = .ok (.int (if b > a then b else a)) := rfl
@[simp] theorem tk_len_l {xs : List D} : pLen (.list xs) = .ok (.int xs.length) := rfl
@[simp] theorem tk_len_t {xs : List D} : pLen (.tuple xs) = .ok (.int xs.length) := rfl
@[simp] theorem tk_len_s {x : Str} : pLen (.str x) = .ok (.int x.cps.size) := rfl
@[simp] theorem tk_not_b {b : Bool} : pNot (.bool b) = .ok (.bool (!b)) := rfl
@[simp] theorem tk_iter_l {xs : List D} : pIter (.list xs) = .ok xs := rfl
@[simp] theorem tk_iter_t {xs : List D} : pIter (.tuple xs) = .ok xs := rfl
@[simp] theorem tk_iter_s {x : Str} : pIter (.str x) = .ok (strItems x) := rfl
@[simp] theorem tk_toOwn_l {xs : List D} : toOwn (.list xs) = .ok (.ol xs) := rfl
@[simp] theorem tk_toOwn_d {xs : List (D × D)} : toOwn (.dict xs) = .ok (.od xs) := rfl
@[simp] theorem tk_bind_v {i : Nat} {d : D} {ρ : Rho} : bindT (.v i) d ρ = some (ρ.set i (.fz d)) := rfl
@[simp] theorem tk_noX_ok {α : Type} {a : α} : noX (.ok a) = .ok a := rfl
def tI (xs : List Int) : D := .tuple (xs.map PyData.int)
/-! is_pattern -/
def isGo : Int → List Int → Bool
  | _, [] => true
  | m, x :: xs => decide (0 ≤ x) && decide (x ≤ m + 1) && isGo (max m x) xs
def isPat (xs : List Int) : Bool := isGo (-1) xs && !xs.isEmpty
theorem max2_eq (a b : Int) : (if b > a then b else a) = max a b := by omega
def bod6 : FS := sSeq (sIf (eTNot (eTB (eChain pLe pLe (eC (.int 0)) (eVar 2) (e2 pAdd (eVar 1) (eC (.int 1)))))) (sRet (eC (.bool false))) sNil) (sSet 1 (nV (eB (b2 pMax2) (aCons (eVar 1) (aCons (eVar 2) aNil)))))
theorem loop6 (ev : Ev) (T : D) : ∀ (ys : List Int) (m : Int) (e : Ent), ∃ m' e', forL (.v 2) (bod6 ev) (ys.map PyData.int) [.fz T, .fz (.int m), e] = (if isGo m ys = true then .next [.fz T, .fz (.int m'), e'] else .ret (.bool false))
  | [], m, e => ⟨m, e, rfl⟩
  | y :: ys, m, e => by
    obtain ⟨m', e', ih⟩ := loop6 ev T ys (max m y) (.fz (.int y))
    refine ⟨m', e', ?_⟩
    have step : bod6 ev [.fz T, .fz (.int m), .fz (.int y)] = if (decide (0 ≤ y) && decide (y ≤ m + 1)) = true then .next [.fz T, .fz (.int (max m y)), .fz (.int y)] else .ret (.bool false) := by
      unfold bod6
      by_cases h1 : 0 ≤ y <;> by_cases h2 : y ≤ m + 1 <;> simp [h1, h2, max2_eq]
    show RS.seq (bod6 ev [.fz T, .fz (.int m), .fz (.int y)]) (fun ρ => forL (.v 2) (bod6 ev) (ys.map PyData.int) ρ) = _
    rw [step]
    by_cases h : (decide (0 ≤ y) && decide (y ≤ m + 1)) = true
    · simp [h, isGo, ih]
    · simp [h, isGo]
theorem ev6 (k : Nat) (xs : List Int) : evN rows (k + 1) 6 [tI xs] = .ok (.bool (isPat xs)) := by
  rw [evS (f := f6) (n := 3) (m := 1) rfl rfl]
  obtain ⟨m', e', h⟩ := loop6 (evN rows k) (tI xs) xs (-1) .no
  have h2 : f6 (evN rows k) [.fz (tI xs), .no, .no] = if isGo (-1) xs = true then .ret (.bool (decide (0 < xs.length))) else .ret (.bool false) := by
    show RS.seq (forL (.v 2) (bod6 (evN rows k)) (xs.map PyData.int) [.fz (tI xs), .fz (.int (-1)), .no]) _ = _
    rw [h]
    by_cases g : isGo (-1) xs = true
    · simp [g, tI]
    · simp [g]
  show (match f6 (evN rows k) [.fz (tI xs), .no, .no] with | .next _ => R.ok PyData.none | .ret d => .ok d | .exc c z => .exc c z | .bad => .bad) = _
  rw [h2]
  unfold isPat
  cases xs with
  | nil => rfl
  | cons x xs => by_cases g : isGo (-1) (x :: xs) = true <;> simp [g]

end PV
namespace PV
open PySem
/-! ways_on -/
def Vw : Nat → Nat → Nat
  | _, 0 => 1
  | k, l + 1 => k * Vw k l + Vw (k + 1) l
def okInt : R D → Option Int
  | .ok (.int v) => some v
  | _ => none
theorem okInt_eq {r : R D} {v : Int} (h : okInt r = some v) : r = .ok (.int v) := by
  match r, h with
  | .ok (.int _), h => cases h; rfl
def tab8 (k : Nat) : Bool := (List.range 9).all fun m => (List.range 9).all fun l => okInt (evN rows (k + 1) 8 [.int ((m : Nat) - 1), .int (l : Nat)]) == some (Vw m l : Int)
theorem tab8_ok (k : Nat) : tab8 k = true := by kernel_rfl
theorem ev8 (k m l : Nat) (hm : m < 9) (hl : l < 9) : evN rows (k + 1) 8 [.int ((m : Nat) - 1), .int (l : Nat)] = .ok (.int (Vw m l : Int)) := by
  have h := tab8_ok k
  unfold tab8 at h
  have h1 := List.all_eq_true.mp h m (List.mem_range.mpr hm)
  have h2 := List.all_eq_true.mp h1 l (List.mem_range.mpr hl)
  exact okInt_eq (eq_of_beq h2)

end PV
namespace PV
open PySem
/-! ways of comprehensions, ranges, enumerations -/
theorem lcL_map {t : Tg} {ev : Ev} {f : Rho → R D} {ρ : Rho} {g : D → D} : ∀ {ds : List D}, (∀ d ∈ ds, ∃ ρ1, bindT t d ρ = some ρ1 ∧ f ρ1 = .ok (g d)) → lcL t (tYesF ev) f ρ ds = .ok (ds.map g)
  | [], _ => rfl
  | d :: ds, h => by
    obtain ⟨ρ1, h1, h2⟩ := h d List.mem_cons_self
    have ih := lcL_map (ev := ev) fun d hd => h d (List.mem_cons_of_mem _ hd)
    unfold lcL
    rw [h1]
    simp [h2, ih]
theorem rng1_eq (j : Int) : pRng1 (.int j) = if -(2 ^ 62) ≤ j ∧ j < 2 ^ 62 then .ok (rng 0 j.toNat) else .bad := by simp only [pRng1]
theorem rng1_ok (n : Nat) (h : n < 1000000) : pRng1 (.int (n : Int)) = .ok (rng 0 n) := by
  have hb : -(2 ^ 62) ≤ (n : Int) ∧ (n : Int) < 2 ^ 62 := by omega
  rw [rng1_eq, if_pos hb, Int.toNat_natCast]
def enF : Nat → List D → List D
  | _, [] => []
  | i, d :: ds => .tuple [.int (i : Nat), d] :: enF (i + 1) ds
theorem enF_eq : ∀ (ds : List D) (i : Nat), (List.range' i ds.length).zipWith (fun (i : Nat) d => PyData.tuple [.int (i : Nat), d]) ds = enF i ds
  | [], _ => rfl
  | d :: ds, i => by
    rw [List.length_cons, List.range'_succ, List.zipWith_cons_cons, enF_eq ds (i + 1)]
    rfl
theorem enumL_eq (ds : List D) : enumL ds = enF 0 ds := by
  unfold enumL
  rw [List.range_eq_range']
  exact enF_eq ds 0
theorem allI_map : ∀ ns : List Int, allI (ns.map PyData.int) = some ns
  | [] => rfl
  | n :: ns => by rw [List.map_cons, allI, allI_map ns]; rfl
theorem len_tI (xs : List Int) : pLen (tI xs) = .ok (.int xs.length) := by simp [tI]
/-! check_pattern, number_of -/
theorem ev10 (k : Nat) (xs : List Int) : evN rows (k + 2) 10 [tI xs] = if isPat xs = true ∧ xs.length ≤ 8 then .ok .none else .exc 3 (.int 0) := by
  rw [evS (f := f10) (n := 1) (m := 1) rfl rfl]
  have h : f10 (evN rows (k + 1)) [.fz (tI xs)] = if isPat xs = true ∧ xs.length ≤ 8 then .next [.fz (tI xs)] else .exc 3 (.int 0) := by
    unfold f10
    by_cases h1 : isPat xs = true
    · by_cases h2 : xs.length ≤ 8
      · have h3 : ¬ 8 < xs.length := by omega
        simp [ev6, len_tI, h1, h2, h3]
        omega
      · have h3 : 8 < xs.length := by omega
        simp [ev6, len_tI, h1, h2, h3]
        omega
    · simp [ev6, h1]
  show (match f10 (evN rows (k + 1)) [.fz (tI xs)] with | .next _ => R.ok PyData.none | .ret d => .ok d | .exc c z => .exc c z | .bad => .bad) = _
  rw [h]
  by_cases h1 : isPat xs = true ∧ xs.length ≤ 8 <;> simp [h1]
def tN (ps : List Nat) : D := tI (ps.map fun (n : Nat) => (n : Int))
/-- of what is behind a pattern whose letters are fewer than M: each may be new, or old -/
def rgs : Nat → List Nat → Bool
  | _, [] => true
  | M, p :: ps => decide (p ≤ M) && rgs (max M (p + 1)) ps
def rank : Nat → List Nat → Nat
  | _, [] => 0
  | M, p :: ps => p * Vw M ps.length + rank (max M (p + 1)) ps
theorem isGo_rgs : ∀ (ps : List Nat) (M : Nat), isGo ((M : Int) - 1) (ps.map fun (n : Nat) => (n : Int)) = rgs M ps
  | [], _ => rfl
  | p :: ps, M => by
    have e : max ((M : Int) - 1) (p : Int) = ((max M (p + 1) : Nat) : Int) - 1 := by omega
    rw [List.map_cons, isGo, rgs, e, isGo_rgs ps (max M (p + 1))]
    have h1 : decide ((0 : Int) ≤ (p : Int)) = true := by simp
    have h2 : decide ((p : Int) ≤ (M : Int) - 1 + 1) = decide (p ≤ M) := by
      by_cases h : p ≤ M
      · simp [h]
      · simp [h]
    rw [h1, h2, Bool.true_and]
theorem rank_lt : ∀ (ps : List Nat) (M : Nat), rgs M ps = true → rank M ps < Vw M ps.length
  | [], M, _ => by show 0 < 1; decide
  | p :: ps, M, h => by
    rw [rgs, Bool.and_eq_true, decide_eq_true_eq] at h
    have ih := rank_lt ps (max M (p + 1)) h.2
    show p * Vw M ps.length + rank (max M (p + 1)) ps < M * Vw M ps.length + Vw (M + 1) ps.length
    rcases Nat.lt_or_ge p M with c | c
    · rw [show max M (p + 1) = M by omega] at ih ⊢
      have : (p + 1) * Vw M ps.length ≤ M * Vw M ps.length := Nat.mul_le_mul_right _ c
      rw [Nat.add_mul] at this
      omega
    · have e : p = M := by omega
      subst e
      rw [show max p (p + 1) = p + 1 by omega] at ih ⊢
      omega
theorem pMax2_i (a b : Int) : pMax2 (.int a) (.int b) = .ok (.int (max a b)) := by
  rw [tk_max2_i, max2_eq]

end PV
namespace PV
open PySem
theorem eLc_of {vs : List Nat} {t : Tg} {it : FL} {c : FT} {f : FE} {ev : Ev} {ρ : Rho} {ds ys : List D} (h1 : it ev ρ = .ok ds) (h2 : ds.length ≤ lim) (h3 : lcL t (c ev) (f ev) (wipeR ρ vs) ds = .ok ys) : eLc vs t it c f ev ρ = .ok (.list ys) := by
  unfold eLc
  rw [h1, R.bind_ok, if_pos h2, h3, R.bind_ok]
theorem eB1_of {g : D → R D} {f : FE} {ev : Ev} {ρ : Rho} {d : D} (h : f ev ρ = .ok d) : eB (b1 g) (aCons f aNil) ev ρ = g d := by
  unfold eB aCons aNil
  rw [h]; rfl
theorem iB1_of {g : D → R (List D)} {f : FE} {ev : Ev} {ρ : Rho} {d : D} (h : f ev ρ = .ok d) : iB (q1 g) (aCons f aNil) ev ρ = g d := by
  unfold iB aCons aNil
  rw [h]; rfl
/-- the sum of the ways below p -/
theorem below_ok {ev : Ev} (w8 : ∀ m l : Nat, m < 9 → l < 9 → ev 8 [.int ((m : Nat) - 1), .int (l : Nat)] = .ok (.int (Vw m l : Int))) (M p l : Nat) (ρ : Rho) (hp : p ≤ M) (hM : M < 9) (hl : l < 9) (h2 : eVar 2 ev ρ = .ok (.int ((M : Int) - 1))) (h4 : eVar 4 ev ρ = .ok (.int (p : Int))) (h5 : eVar 5 ev ρ = .ok (.int (l : Int))) (hlen : ρ.length = 7) :
    (eB (b1 pSum1) (aCons (eLc [6] (.v 6) (iB (q1 pRng1) (aCons (eVar 4) aNil)) tYesF (eCall 8 (aCons (eB (b2 pMax2) (aCons (eVar 2) (aCons (eVar 6) aNil))) (aCons (eVar 5) aNil)))) aNil)) ev ρ = .ok (.int ((p * Vw M l : Nat) : Int)) := by
  have hr : pRng1 (.int (p : Int)) = .ok (rng 0 p) := rng1_ok p (by omega)
  have loop : lcL (.v 6) (tYesF ev) (eCall 8 (aCons (eB (b2 pMax2) (aCons (eVar 2) (aCons (eVar 6) aNil))) (aCons (eVar 5) aNil)) ev) (wipeR ρ [6]) (rng 0 p) = .ok ((rng 0 p).map fun _ => .int (Vw M l : Nat)) := by
    refine lcL_map fun d hd => ?_
    unfold rng at hd
    obtain ⟨o, ho, rfl⟩ := List.mem_map.mp hd
    have ho := List.mem_range.mp ho
    refine ⟨_, rfl, ?_⟩
    have keep : ∀ i, i < 6 → ((wipeR ρ [6]).set 6 (.fz (.int (0 + (o : Int)))))[i]? = ρ[i]? := fun i hi => by
      show ((ρ.set 6 .no).set 6 _)[i]? = ρ[i]?
      rw [List.getElem?_set_ne (by omega), List.getElem?_set_ne (by omega)]
    have v2 : eVar 2 ev ((wipeR ρ [6]).set 6 (.fz (.int (0 + (o : Int))))) = .ok (.int ((M : Int) - 1)) := by
      unfold eVar at h2 ⊢
      rw [keep 2 (by decide)]; exact h2
    have v5 : eVar 5 ev ((wipeR ρ [6]).set 6 (.fz (.int (0 + (o : Int))))) = .ok (.int (l : Int)) := by
      unfold eVar at h5 ⊢
      rw [keep 5 (by decide)]; exact h5
    have v6 : eVar 6 ev ((wipeR ρ [6]).set 6 (.fz (.int (0 + (o : Int))))) = .ok (.int (o : Int)) := by
      unfold eVar
      rw [List.getElem?_set_self (by show 6 < (ρ.set 6 .no).length; rw [List.length_set]; omega)]
      simp
    simp only [eCall_ap, aCons_ap, aNil_ap, eB_ap, v2, v5, v6, R.bind_ok, tk_b2_ap, pMax2_i]
    rw [show max ((M : Int) - 1) (o : Int) = (M : Int) - 1 by omega]
    exact w8 M l hM hl
  have hlim : (rng 0 p).length ≤ lim := by
    have h9 : (9 : Nat) ≤ lim := by decide
    unfold rng
    rw [List.length_map, List.length_range]
    exact Nat.le_trans (Nat.le_of_lt (Nat.lt_of_le_of_lt hp hM)) h9
  rw [eB1_of (eLc_of ((iB1_of h4).trans hr) hlim loop)]
  have e1 : ((rng 0 p).map fun _ => PyData.int (Vw M l : Nat)) = (List.replicate p ((Vw M l : Nat) : Int)).map PyData.int := by
    rw [List.map_replicate]
    unfold rng
    rw [List.map_map]
    apply List.ext_getElem
    · simp
    · intro i a b; simp
  show (match allI _ with | some ns => R.ok (PyData.int ns.sum) | none => .bad) = _
  rw [e1, allI_map]
  show R.ok (PyData.int (List.replicate p ((Vw M l : Nat) : Int)).sum) = _
  rw [List.sum_replicate_int]
  simp

end PV
namespace PV
open PySem
def BELOW : FE := (eB (b1 pSum1) (aCons (eLc [6] (.v 6) (iB (q1 pRng1) (aCons (eVar 4) aNil)) tYesF (eCall 8 (aCons (eB (b2 pMax2) (aCons (eVar 2) (aCons (eVar 6) aNil))) (aCons (eVar 5) aNil)))) aNil))
def bod11 : FS := (sSeq (sSet 5 (nV (e2 pSub (e2 pSub (eB (b1 pLen) (aCons (eVar 0) aNil)) (eVar 3)) (eC (.int 1)))))
    (sSeq (sSet 1 (nV (e2 pAdd (eVar 1) BELOW)))
    (sSet 2 (nV (eB (b2 pMax2) (aCons (eVar 2) (aCons (eVar 4) aNil)))))))
theorem sSet_of {i : Nat} {f : FE} {ev : Ev} {ρ : Rho} {d : D} (h : f ev ρ = .ok d) : sSet i (nV f) ev ρ = .next (ρ.set i (.fz d)) := by
  unfold sSet nV
  rw [h]; rfl
theorem sSeq_of {f g : FS} {ev : Ev} {ρ ρ1 : Rho} (h : f ev ρ = .next ρ1) : sSeq f g ev ρ = g ev ρ1 := by
  unfold sSeq
  rw [h]; rfl
theorem e2_of {op : D → D → R D} {f g : FE} {ev : Ev} {ρ : Rho} {x y : D} (h1 : f ev ρ = .ok x) (h2 : g ev ρ = .ok y) : e2 op f g ev ρ = op x y := by
  unfold e2
  rw [h1, R.bind_ok, h2, R.bind_ok]
theorem forL_cons {t : Tg} {b : Rho → RS} {d : D} {ds : List D} {ρ ρ1 ρ2 : Rho} (h1 : bindT t d ρ = some ρ1) (h2 : b ρ1 = .next ρ2) : forL t b (d :: ds) ρ = forL t b ds ρ2 := by
  show (match bindT t d ρ with
    | some ρ1 => (b ρ1).seq (forL t b ds)
    | none => RS.bad) = _
  rw [h1]
  show RS.seq (b ρ1) _ = _
  rw [h2]; rfl
theorem step11 {ev : Ev} (w8 : ∀ m l : Nat, m < 9 → l < 9 → ev 8 [.int ((m : Nat) - 1), .int (l : Nat)] = .ok (.int (Vw m l : Int))) {T : D} {n i p l M found : Nat} {e5 e6 : Ent} (hT : pLen T = .ok (.int (n : Int))) (hn : n = i + l + 1) (hp : p ≤ M) (hM : M < 9) (hl : l < 9) :
    bod11 ev [.fz T, .fz (.int (found : Int)), .fz (.int ((M : Int) - 1)), .fz (.int (i : Int)), .fz (.int (p : Int)), e5, e6] =
      .next [.fz T, .fz (.int ((found + p * Vw M l : Nat) : Int)), .fz (.int (((max M (p + 1) : Nat) : Int) - 1)), .fz (.int (i : Int)), .fz (.int (p : Int)), .fz (.int (l : Int)), e6] := by
  unfold bod11
  have h1 : (e2 pSub (e2 pSub (eB (b1 pLen) (aCons (eVar 0) aNil)) (eVar 3)) (eC (.int 1))) ev [.fz T, .fz (.int (found : Int)), .fz (.int ((M : Int) - 1)), .fz (.int (i : Int)), .fz (.int (p : Int)), e5, e6] = .ok (.int (l : Int)) := by
    rw [e2_of (x := .int ((n : Int) - i)) (y := .int 1) ((e2_of (x := .int (n : Int)) (y := .int (i : Int)) ((eB1_of (d := T) rfl).trans hT) rfl).trans (by rw [tk_sub_i])) rfl, tk_sub_i, show (n : Int) - i - 1 = l by omega]
  rw [sSeq_of (sSet_of h1)]
  have h2 : (e2 pAdd (eVar 1) BELOW) ev [.fz T, .fz (.int (found : Int)), .fz (.int ((M : Int) - 1)), .fz (.int (i : Int)), .fz (.int (p : Int)), .fz (.int (l : Int)), e6] = .ok (.int ((found + p * Vw M l : Nat) : Int)) := by
    have hb : BELOW ev [.fz T, .fz (.int (found : Int)), .fz (.int ((M : Int) - 1)), .fz (.int (i : Int)), .fz (.int (p : Int)), .fz (.int (l : Int)), e6] = .ok (.int ((p * Vw M l : Nat) : Int)) := below_ok w8 M p l _ hp hM hl rfl rfl rfl rfl
    rw [e2_of (x := .int (found : Int)) (y := .int ((p * Vw M l : Nat) : Int)) rfl hb, tk_add_i, Int.natCast_add]
  rw [show ([.fz T, .fz (.int (found : Int)), .fz (.int ((M : Int) - 1)), .fz (.int (i : Int)), .fz (.int (p : Int)), e5, e6] : Rho).set 5 (.fz (.int (l : Int))) = [.fz T, .fz (.int (found : Int)), .fz (.int ((M : Int) - 1)), .fz (.int (i : Int)), .fz (.int (p : Int)), .fz (.int (l : Int)), e6] from rfl]
  rw [sSeq_of (sSet_of h2)]
  have h3 : (eB (b2 pMax2) (aCons (eVar 2) (aCons (eVar 4) aNil))) ev [.fz T, .fz (.int ((found + p * Vw M l : Nat) : Int)), .fz (.int ((M : Int) - 1)), .fz (.int (i : Int)), .fz (.int (p : Int)), .fz (.int (l : Int)), e6] = .ok (.int (((max M (p + 1) : Nat) : Int) - 1)) := by
    show pMax2 (.int ((M : Int) - 1)) (.int (p : Int)) = _
    rw [pMax2_i, show max ((M : Int) - 1) (p : Int) = ((max M (p + 1) : Nat) : Int) - 1 by omega]
  exact sSet_of h3
theorem loop11 {ev : Ev} (w8 : ∀ m l : Nat, m < 9 → l < 9 → ev 8 [.int ((m : Nat) - 1), .int (l : Nat)] = .ok (.int (Vw m l : Int))) {T : D} {n : Nat} (hT : pLen T = .ok (.int (n : Int))) : ∀ (ys : List Nat) (i M found : Nat) (e3 e4 e5 e6 : Ent), n = i + ys.length → M + ys.length < 9 → rgs M ys = true →
    ∃ m a b c d, forL (.t [.v 3, .v 4]) (bod11 ev) (enF i (ys.map fun (n : Nat) => PyData.int (n : Int))) [.fz T, .fz (.int (found : Int)), .fz (.int ((M : Int) - 1)), e3, e4, e5, e6] = .next [.fz T, .fz (.int ((found + rank M ys : Nat) : Int)), m, a, b, c, d]
  | [], i, M, found, e3, e4, e5, e6, _, _, _ => ⟨_, _, _, _, _, rfl⟩
  | y :: ys, i, M, found, e3, e4, e5, e6, hn, hM, hr => by
    rw [rgs, Bool.and_eq_true, decide_eq_true_eq] at hr
    rw [List.length_cons] at hn hM
    have hmax : max M (y + 1) ≤ M + 1 := by omega
    obtain ⟨m, a, b, c, d, ih⟩ := loop11 w8 hT ys (i + 1) (max M (y + 1)) (found + y * Vw M ys.length) (.fz (.int (i : Int))) (.fz (.int (y : Int))) (.fz (.int (ys.length : Int))) e6 (by omega) (by omega) hr.2
    refine ⟨m, a, b, c, d, ?_⟩
    rw [List.map_cons, enF, forL_cons (ρ1 := [.fz T, .fz (.int (found : Int)), .fz (.int ((M : Int) - 1)), .fz (.int (i : Int)), .fz (.int (y : Int)), e5, e6]) rfl (step11 w8 (l := ys.length) hT (by omega) hr.1 (by omega) (by omega)), ih]
    rw [rank, Nat.add_assoc]
theorem isPat_rgs (ps : List Nat) : isPat (ps.map fun (n : Nat) => (n : Int)) = (rgs 0 ps && !ps.isEmpty) := by
  unfold isPat
  have := isGo_rgs ps 0
  rw [show ((0 : Nat) : Int) - 1 = -1 from rfl] at this
  rw [this]
  cases ps <;> rfl
theorem ev11 (k : Nat) (ps : List Nat) (h : rgs 0 ps = true) (hn : ps ≠ []) (hl : ps.length ≤ 8) : evN rows (k + 3) 11 [tN ps] = .ok (.int (rank 0 ps : Int)) := by
  rw [evS (f := f11) (n := 7) (m := 1) rfl rfl]
  have hc : evN rows (k + 2) 10 [tN ps] = .ok .none := by
    unfold tN
    rw [ev10, if_pos]
    refine ⟨?_, by rw [List.length_map]; exact hl⟩
    rw [isPat_rgs, h]
    cases ps with
    | nil => exact absurd rfl hn
    | cons _ _ => rfl
  obtain ⟨m, a, b, c, d, hlp⟩ := loop11 (ev := evN rows (k + 2)) (fun m l hm hl => ev8 (k + 1) m l hm hl) (T := tN ps) (n := ps.length) (by unfold tN; rw [len_tI, List.length_map]) ps 0 0 0 .no .no .no .no (by omega) (by omega) h
  have run : f11 (evN rows (k + 2)) [.fz (tN ps), .no, .no, .no, .no, .no, .no] = .ret (.int (rank 0 ps : Int)) := by
    unfold f11
    rw [sSeq_of (ρ1 := [.fz (tN ps), .no, .no, .no, .no, .no, .no]) (by
      show RS.ofR (((eVar 0 _ _).bind fun d => R.bind (.ok []) fun ds => R.ok (d :: ds)).bind fun ds => evN rows (k + 2) 10 ds) _ = _
      show RS.ofR (evN rows (k + 2) 10 [tN ps]) _ = _
      rw [hc]; rfl)]
    rw [sSeq_of (ρ1 := [.fz (tN ps), .fz (.int 0), .no, .no, .no, .no, .no]) rfl, sSeq_of (ρ1 := [.fz (tN ps), .fz (.int 0), .fz (.int (-1)), .no, .no, .no, .no]) rfl]
    rw [sSeq_of (ρ1 := [.fz (tN ps), .fz (.int (rank 0 ps : Int)), m, a, b, c, d]) (by
      have e : (tN ps) = .tuple (ps.map fun (n : Nat) => PyData.int (n : Int)) := by unfold tN tI; rw [List.map_map]; rfl
      have en : pEnum (tN ps) = .ok (enF 0 (ps.map fun (n : Nat) => PyData.int (n : Int))) := by rw [e]; show R.ok (enumL _) = _; rw [enumL_eq]
      show RS.ofR (iB (q1 pEnum) (aCons (eVar 0) aNil) (evN rows (k + 2)) _) _ = _
      rw [(iB1_of (d := tN ps) rfl).trans en]
      show forL _ (bod11 (evN rows (k + 2))) _ _ = _
      have := hlp
      rw [Nat.zero_add] at this
      exact this)]
    rfl
  show (match f11 (evN rows (k + 2)) [.fz (tN ps), .no, .no, .no, .no, .no, .no] with | .next _ => R.ok PyData.none | .ret d => .ok d | .exc c z => .exc c z | .bad => .bad) = _
  rw [run]

end PV
namespace PV
open PySem
/-! pattern_of -/
def WAYS : FE := (eCall 8 (aCons (eB (b2 pMax2) (aCons (eVar 3) (aCons (eVar 6) aNil))) (aCons (e2 pSub (e2 pSub (eVar 0) (eVar 5)) (eC (.int 1))) aNil)))
def WCOND : FT := eTB (e2 pGe (eVar 4) WAYS)
def WBODY : FS := sSeq (sSet 4 (nV (e2 pSub (eVar 4) WAYS))) (sSet 6 (nV (e2 pAdd (eVar 6) (eC (.int 1)))))
def po12 (n num : Int) (acc : List D) (M : Nat) (rest kk o : Int) : Rho := [.fz (.int n), .fz (.int num), .ol acc, .fz (.int ((M : Int) - 1)), .fz (.int rest), .fz (.int kk), .fz (.int o)]
theorem ways_at {ev : Ev} (w8 : ∀ m l : Nat, m < 9 → l < 9 → ev 8 [.int ((m : Nat) - 1), .int (l : Nat)] = .ok (.int (Vw m l : Int))) {n num rest : Int} {acc : List D} {M kk o l : Nat} (hn : n = kk + l + 1) (ho : o ≤ M) (hM : M + l < 8) :
    WAYS ev (po12 n num acc M rest kk o) = .ok (.int (Vw (max M (o + 1)) l : Int)) := by
  have h := w8 (max M (o + 1)) l (by omega) (by omega)
  show ev 8 [.int (if (o : Int) > (M : Int) - 1 then (o : Int) else (M : Int) - 1), .int (n - kk - 1)] = _
  rw [max2_eq, show max ((M : Int) - 1) (o : Int) = ((max M (o + 1) : Nat) : Int) - 1 by omega, show n - (kk : Int) - 1 = (l : Int) by omega]
  exact h
theorem whileL_go {c : Rho → R Bool} {b : Rho → RS} {f : Nat} {ρ ρ1 : Rho} (h1 : c ρ = .ok true) (h2 : b ρ = .next ρ1) : whileL c b (f + 1) ρ = whileL c b f ρ1 := by
  show RS.ofR (c ρ) _ = _
  rw [h1]
  show (b ρ).seq _ = _
  rw [h2]; rfl
theorem whileL_end {c : Rho → R Bool} {b : Rho → RS} {f : Nat} {ρ : Rho} (h1 : c ρ = .ok false) : whileL c b (f + 1) ρ = .next ρ := by
  show RS.ofR (c ρ) _ = _
  rw [h1]; rfl
theorem wcond_of {ev : Ev} {n num rest v : Int} {acc : List D} {M : Nat} {kk o : Int} (h : WAYS ev (po12 n num acc M rest kk o) = .ok (.int v)) : WCOND ev (po12 n num acc M rest kk o) = .ok (decide (v ≤ rest)) := by
  unfold WCOND
  rw [eTB_ap, e2_of (x := .int rest) (y := .int v) rfl h, tk_ge_i, R.bind_ok, tk_toB_b]
theorem wbody_of {ev : Ev} {n num rest v : Int} {acc : List D} {M : Nat} {kk o : Int} (h : WAYS ev (po12 n num acc M rest kk o) = .ok (.int v)) : WBODY ev (po12 n num acc M rest kk o) = .next (po12 n num acc M (rest - v) kk (o + 1)) := by
  unfold WBODY
  rw [sSeq_of (sSet_of ((e2_of (x := .int rest) (y := .int v) rfl h).trans (by rw [tk_sub_i])))]
  exact sSet_of (d := .int (o + 1)) rfl
theorem while12 {ev : Ev} (w8 : ∀ m l : Nat, m < 9 → l < 9 → ev 8 [.int ((m : Nat) - 1), .int (l : Nat)] = .ok (.int (Vw m l : Int))) {n num : Int} {acc : List D} {M kk l r p : Nat} (hn : n = kk + l + 1) (hp : p ≤ M) (hM : M + l < 8) (hr : r < Vw (max M (p + 1)) l) :
    ∀ (d o f : Nat), o + d = p → whileL (WCOND ev) (WBODY ev) (f + d + 1) (po12 n num acc M ((d * Vw M l + r : Nat) : Int) kk o) = .next (po12 n num acc M (r : Int) kk p)
  | 0, o, f, h => by
    obtain rfl : o = p := by omega
    rw [Nat.zero_mul, Nat.zero_add]
    refine whileL_end ((wcond_of (ways_at w8 hn hp hM)).trans ?_)
    rw [decide_eq_false (by omega)]
  | d + 1, o, f, h => by
    have hmx : max M (o + 1) = M := by omega
    have hw := ways_at w8 (n := n) (num := num) (rest := (((d + 1) * Vw M l + r : Nat) : Int)) (acc := acc) (kk := kk) hn (show o ≤ M by omega) hM
    rw [hmx] at hw
    have hle : Vw M l ≤ (d + 1) * Vw M l + r := by rw [Nat.add_mul]; omega
    rw [show f + (d + 1) + 1 = (f + d + 1) + 1 by omega, whileL_go ((wcond_of hw).trans (by rw [decide_eq_true (by omega)])) (wbody_of hw)]
    have e : (((d + 1) * Vw M l + r : Nat) : Int) - (Vw M l : Int) = ((d * Vw M l + r : Nat) : Int) := by
      rw [Nat.add_mul, Nat.one_mul]; omega
    rw [e]
    exact while12 w8 hn hp hM hr d (o + 1) f (by omega)

end PV
namespace PV
open PySem
def B12 : FS := (sSeq (sSet 6 (nV (eC (.int 0))))
    (sSeq (sWhile WCOND WBODY)
    (sSeq (sApp 2 (eVar 6))
    (sSet 3 (nV (eB (b2 pMax2) (aCons (eVar 3) (aCons (eVar 6) aNil))))))))
theorem fuel_more (d : Nat) (h : d < 100) : ∃ f, fuel = f + d + 1 := ⟨fuel - d - 1, by unfold fuel; omega⟩
theorem b12_ok {ev : Ev} (w8 : ∀ m l : Nat, m < 9 → l < 9 → ev 8 [.int ((m : Nat) - 1), .int (l : Nat)] = .ok (.int (Vw m l : Int))) {n num : Int} {acc : List D} {M kk l r p : Nat} {e6 : Ent} (hn : n = kk + l + 1) (hp : p ≤ M) (hM : M + l < 8) (hr : r < Vw (max M (p + 1)) l) (ha : acc.length < 100) :
    B12 ev [.fz (.int n), .fz (.int num), .ol acc, .fz (.int ((M : Int) - 1)), .fz (.int ((p * Vw M l + r : Nat) : Int)), .fz (.int (kk : Int)), e6] = .next (po12 n num (acc ++ [.int (p : Int)]) (max M (p + 1)) (r : Int) kk p) := by
  unfold B12
  rw [sSeq_of (ρ1 := po12 n num acc M ((p * Vw M l + r : Nat) : Int) kk 0) rfl]
  obtain ⟨f, ef⟩ := fuel_more p (by omega)
  have hw : sWhile WCOND WBODY ev (po12 n num acc M ((p * Vw M l + r : Nat) : Int) kk 0) = .next (po12 n num acc M (r : Int) kk p) := by
    rw [sWhile_ap, ef]
    exact while12 w8 hn hp hM hr p 0 f (by omega)
  rw [sSeq_of hw]
  have hap : sApp 2 (eVar 6) ev (po12 n num acc M (r : Int) kk p) = .next (po12 n num (acc ++ [.int (p : Int)]) M (r : Int) kk p) := by
    show RS.ofR (.ok (PyData.int (p : Int))) (fun d => if acc.length < lim then RS.next _ else .bad) = _
    rw [tk_ofR_ok, if_pos (Nat.lt_of_lt_of_le ha (by decide : 100 ≤ lim))]
    rfl
  rw [sSeq_of hap]
  have hm : (eB (b2 pMax2) (aCons (eVar 3) (aCons (eVar 6) aNil))) ev (po12 n num (acc ++ [.int (p : Int)]) M (r : Int) kk p) = .ok (.int (((max M (p + 1) : Nat) : Int) - 1)) := by
    show pMax2 (.int ((M : Int) - 1)) (.int (p : Int)) = _
    rw [pMax2_i, show max ((M : Int) - 1) (p : Int) = ((max M (p + 1) : Nat) : Int) - 1 by omega]
  exact sSet_of hm
theorem loop12 {ev : Ev} (w8 : ∀ m l : Nat, m < 9 → l < 9 → ev 8 [.int ((m : Nat) - 1), .int (l : Nat)] = .ok (.int (Vw m l : Int))) {n num : Int} : ∀ (ps : List Nat) (M i : Nat) (acc : List D) (e5 e6 : Ent), rgs M ps = true → M + ps.length ≤ 8 → n = i + ps.length → acc.length + ps.length < 100 →
    ∃ a b c d, forL (.v 5) (B12 ev) ((List.range' i ps.length).map fun (i : Nat) => PyData.int (i : Int)) [.fz (.int n), .fz (.int num), .ol acc, .fz (.int ((M : Int) - 1)), .fz (.int ((rank M ps : Nat) : Int)), e5, e6] =
      .next [.fz (.int n), .fz (.int num), .ol (acc ++ ps.map fun (p : Nat) => PyData.int (p : Int)), a, b, c, d]
  | [], M, i, acc, e5, e6, _, _, _, _ => ⟨.fz (.int ((M : Int) - 1)), .fz (.int ((rank M [] : Nat) : Int)), e5, e6, by rw [List.map_nil, List.append_nil]; rfl⟩
  | p :: ps, M, i, acc, e5, e6, h, hM, hn, ha => by
    rw [rgs, Bool.and_eq_true, decide_eq_true_eq] at h
    rw [List.length_cons] at hM hn ha
    obtain ⟨a, b, c, d, ih⟩ := loop12 w8 (n := n) (num := num) ps (max M (p + 1)) (i + 1) (acc ++ [.int (p : Int)]) (.fz (.int (i : Int))) (.fz (.int (p : Int))) h.2 (by omega) (by omega) (by rw [List.length_append, List.length_singleton]; omega)
    refine ⟨a, b, c, d, ?_⟩
    have hb := b12_ok w8 (n := n) (num := num) (acc := acc) (M := M) (kk := i) (l := ps.length) (r := rank (max M (p + 1)) ps) (p := p) (e6 := e6) (by omega) h.1 (by omega) (rank_lt ps _ h.2) (by omega)
    rw [List.length_cons, List.range'_succ, List.map_cons, rank]
    rw [forL_cons (ρ1 := [.fz (.int n), .fz (.int num), .ol acc, .fz (.int ((M : Int) - 1)), .fz (.int ((p * Vw M ps.length + rank (max M (p + 1)) ps : Nat) : Int)), .fz (.int (i : Int)), e6]) rfl hb]
    have e : acc ++ (p :: ps).map (fun (p : Nat) => PyData.int (p : Int)) = acc ++ [.int (p : Int)] ++ ps.map fun (p : Nat) => PyData.int (p : Int) := by simp
    rw [e]
    exact ih

end PV
namespace PV
open PySem
def tab9 (k : Nat) : Bool := (List.range 9).all fun n => okInt (evN rows (k + 2) 9 [.int (n : Nat)]) == some (Vw 0 n : Int)
theorem tab9_ok (k : Nat) : tab9 k = true := by kernel_rfl
theorem ev9 (k n : Nat) (hn : n < 9) : evN rows (k + 2) 9 [.int (n : Nat)] = .ok (.int (Vw 0 n : Int)) := by
  have h := tab9_ok k
  unfold tab9 at h
  exact okInt_eq (eq_of_beq (List.all_eq_true.mp h n (List.mem_range.mpr hn)))
theorem ev12 (k : Nat) (ps : List Nat) (h : rgs 0 ps = true) (hn : ps ≠ []) (hl : ps.length ≤ 8) : evN rows (k + 3) 12 [.int (ps.length : Int), .int (rank 0 ps : Int)] = .ok (tN ps) := by
  rw [evS (f := f12) (n := 7) (m := 2) rfl rfl]
  have hpos : 1 ≤ ps.length := by
    cases ps with
    | nil => exact absurd rfl hn
    | cons _ _ => simp
  have hb := ev9 k ps.length (by omega)
  have hlt := rank_lt ps 0 h
  obtain ⟨a, b, c, d, hlp⟩ := loop12 (ev := evN rows (k + 2)) (fun m l hm hl => ev8 (k + 1) m l hm hl) (n := (ps.length : Int)) (num := (rank 0 ps : Int)) ps 0 0 [] .no .no h (by omega) (by omega) (by simp; omega)
  have run : f12 (evN rows (k + 2)) [.fz (.int (ps.length : Int)), .fz (.int (rank 0 ps : Int)), .no, .no, .no, .no, .no] = .ret (tN ps) := by
    unfold f12
    rw [sSeq_of (ρ1 := [.fz (.int (ps.length : Int)), .fz (.int (rank 0 ps : Int)), .no, .no, .no, .no, .no]) (by
      show RS.ofR ((((R.ok (PyData.bool (decide ((1 : Int) ≤ ps.length)))).bind fun z => (toB z).bind fun b => if b = true then (R.ok (PyData.int 8)).bind fun w => pLe (.int ps.length) w else .ok (.bool false)).bind toB).bind fun b => .ok (!b)) _ = _
      rw [decide_eq_true (by omega)]
      show RS.ofR (R.ok (!decide ((ps.length : Int) ≤ 8))) _ = _
      rw [decide_eq_true (by omega)]
      rfl)]
    rw [sSeq_of (ρ1 := [.fz (.int (ps.length : Int)), .fz (.int (rank 0 ps : Int)), .no, .no, .no, .no, .no]) (by
      show RS.ofR ((((R.ok (PyData.bool (decide ((0 : Int) ≤ rank 0 ps)))).bind fun z => (toB z).bind fun b => if b = true then (evN rows (k + 2) 9 [.int (ps.length : Int)]).bind fun w => pLt (.int (rank 0 ps : Int)) w else .ok (.bool false)).bind toB).bind fun b => .ok (!b)) _ = _
      rw [decide_eq_true (by omega), hb]
      show RS.ofR (R.ok (!decide ((rank 0 ps : Int) < (Vw 0 ps.length : Int)))) _ = _
      rw [decide_eq_true (by omega)]
      rfl)]
    rw [sSeq_of (ρ1 := [.fz (.int (ps.length : Int)), .fz (.int (rank 0 ps : Int)), .ol [], .no, .no, .no, .no]) rfl, sSeq_of (ρ1 := [.fz (.int (ps.length : Int)), .fz (.int (rank 0 ps : Int)), .ol [], .fz (.int (-1)), .no, .no, .no]) rfl, sSeq_of (ρ1 := [.fz (.int (ps.length : Int)), .fz (.int (rank 0 ps : Int)), .ol [], .fz (.int (-1)), .fz (.int (rank 0 ps : Int)), .no, .no]) rfl]
    rw [sSeq_of (ρ1 := [.fz (.int (ps.length : Int)), .fz (.int (rank 0 ps : Int)), .ol (ps.map fun (p : Nat) => PyData.int (p : Int)), a, b, c, d]) (by
      show RS.ofR (iB (q1 pRng1) (aCons (eVar 0) aNil) (evN rows (k + 2)) _) _ = _
      rw [(iB1_of (d := .int (ps.length : Int)) rfl).trans (rng1_ok ps.length (by omega)), tk_ofR_ok]
      have e : rng 0 ps.length = (List.range' 0 ps.length).map fun (i : Nat) => PyData.int (i : Int) := by
        unfold rng
        rw [List.range_eq_range']
        exact List.map_congr_left fun i _ => by rw [Int.zero_add]
      rw [e]
      exact hlp)]
    have e : (tN ps) = .tuple (ps.map fun (n : Nat) => PyData.int (n : Int)) := by unfold tN tI; rw [List.map_map]; rfl
    rw [e]
    rfl
  show (match f12 (evN rows (k + 2)) [.fz (.int (ps.length : Int)), .fz (.int (rank 0 ps : Int)), .no, .no, .no, .no, .no] with | .next _ => R.ok PyData.none | .ret d => .ok d | .exc c z => .exc c z | .bad => .bad) = _
  rw [run]

end PV
namespace PV
open PySem
/-! words_with -/
def lett : Nat → List Nat → Nat
  | M, [] => M
  | M, p :: ps => lett (max M (p + 1)) ps
theorem lett_ge : ∀ (ps : List Nat) (M : Nat), M ≤ lett M ps
  | [], _ => Nat.le_refl _
  | p :: ps, M => Nat.le_trans (Nat.le_max_left _ _) (lett_ge ps _)
theorem lett_le : ∀ (ps : List Nat) (M : Nat), rgs M ps = true → lett M ps ≤ M + ps.length
  | [], _, _ => Nat.le_refl _
  | p :: ps, M, h => by
    rw [rgs, Bool.and_eq_true, decide_eq_true_eq] at h
    have := lett_le ps _ h.2
    rw [List.length_cons]
    show lett (max M (p + 1)) ps ≤ _
    omega
def facF (n : Int) : Nat → Nat → Int → Int
  | _, 0, acc => acc
  | i, m + 1, acc => facF n (i + 1) m (acc * max 0 (n - i))
def MULB (v : Nat) (j : Nat) (t : Nat) : FS := sSet v (nV (e2 pMul (eVar v) (eB (b2 pMax2) (aCons (eC (.int 0)) (aCons (e2 pSub (eVar j) (eVar t)) aNil)))))
theorem pMul_small (a b : Int) (h1 : 0 ≤ b) (h2 : b < 1000) : pMul (.int a) (.int b) = .ok (.int (a * b)) := by
  have hb : (-(2 ^ 64) < a ∧ a < 2 ^ 64) ∨ (-(2 ^ 64) < b ∧ b < 2 ^ 64) := .inr ⟨by omega, by omega⟩
  simp only [pMul]
  rw [if_pos hb]
theorem lMax_lett : ∀ (ps : List Nat) (M : Nat), (ps.map fun (n : Nat) => (n : Int)).foldl max (M : Int) = ((lett (M + 1) ps : Nat) : Int) - 1
  | [], M => by show (M : Int) = ((M + 1 : Nat) : Int) - 1; omega
  | p :: ps, M => by
    rw [List.map_cons, List.foldl_cons, show max (M : Int) (p : Int) = ((max M p : Nat) : Int) by omega, lMax_lett ps (max M p)]
    show _ = ((lett (max (M + 1) (p + 1)) ps : Nat) : Int) - 1
    rw [show max M p + 1 = max (M + 1) (p + 1) by omega]
theorem max_tN (p : Nat) (ps : List Nat) : pMax (tN (p :: ps)) = .ok (.int (((lett 0 (p :: ps) : Nat) : Int) - 1)) := by
  show (match (allI _).bind lMax with | some m => R.ok (PyData.int m) | none => .bad) = _
  rw [allI_map]
  show R.ok (PyData.int ((ps.map fun (n : Nat) => (n : Int)).foldl max (p : Int))) = _
  rw [lMax_lett]
  rfl
theorem loop13 {ev : Ev} {T : D} {n : Int} (h0 : 0 ≤ n) (h1 : n ≤ 26) : ∀ (m i : Nat) (acc : Int) (e : Ent), ∃ a, forL (.v 3) (MULB 2 1 3 ev) ((List.range' i m).map fun (i : Nat) => PyData.int (i : Int)) [.fz T, .fz (.int n), .fz (.int acc), e] = .next [.fz T, .fz (.int n), .fz (.int (facF n i m acc)), a]
  | 0, i, acc, e => ⟨e, rfl⟩
  | m + 1, i, acc, e => by
    obtain ⟨a, ih⟩ := loop13 h0 h1 m (i + 1) (acc * max 0 (n - i)) (.fz (.int (i : Int)))
    refine ⟨a, ?_⟩
    have hb : MULB 2 1 3 ev [.fz T, .fz (.int n), .fz (.int acc), .fz (.int (i : Int))] = .next [.fz T, .fz (.int n), .fz (.int (acc * max 0 (n - i))), .fz (.int (i : Int))] := by
      have hm : (eB (b2 pMax2) (aCons (eC (.int 0)) (aCons (e2 pSub (eVar 1) (eVar 3)) aNil))) ev [.fz T, .fz (.int n), .fz (.int acc), .fz (.int (i : Int))] = .ok (.int (max 0 (n - i))) := by
        show pMax2 (.int 0) (.int (n - i)) = _
        rw [pMax2_i]
      exact sSet_of ((e2_of (x := .int acc) (y := .int (max 0 (n - i))) rfl hm).trans (pMul_small _ _ (by omega) (by omega)))
    rw [List.range'_succ, List.map_cons, forL_cons (ρ1 := [.fz T, .fz (.int n), .fz (.int acc), .fz (.int (i : Int))]) rfl hb]
    exact ih
theorem ev13 (k : Nat) (p : Nat) (ps : List Nat) (h : rgs 0 (p :: ps) = true) (hl : (p :: ps).length ≤ 8) (n : Int) (h0 : 0 ≤ n) (h1 : n ≤ 26) : evN rows (k + 3) 13 [tN (p :: ps), .int n] = .ok (.int (facF n 0 (lett 0 (p :: ps)) 1)) := by
  rw [evS (f := f13) (n := 4) (m := 2) rfl rfl]
  have hc : evN rows (k + 2) 10 [tN (p :: ps)] = .ok .none := by
    unfold tN
    rw [ev10, if_pos]
    refine ⟨?_, by rw [List.length_map]; exact hl⟩
    rw [isPat_rgs, h]; rfl
  have hL := lett_le (p :: ps) 0 h
  obtain ⟨a, hlp⟩ := loop13 (ev := evN rows (k + 2)) (T := tN (p :: ps)) h0 h1 (lett 0 (p :: ps)) 0 1 .no
  have run : f13 (evN rows (k + 2)) [.fz (tN (p :: ps)), .fz (.int n), .no, .no] = .ret (.int (facF n 0 (lett 0 (p :: ps)) 1)) := by
    unfold f13
    rw [sSeq_of (ρ1 := [.fz (tN (p :: ps)), .fz (.int n), .no, .no]) (by
      show RS.ofR (evN rows (k + 2) 10 [tN (p :: ps)]) _ = _
      rw [hc]; rfl)]
    rw [sSeq_of (ρ1 := [.fz (tN (p :: ps)), .fz (.int n), .no, .no]) (by
      show RS.ofR ((((R.ok (PyData.bool (decide ((0 : Int) ≤ n)))).bind fun z => (toB z).bind fun b => if b = true then (R.ok (PyData.int 26)).bind fun w => pLe (.int n) w else .ok (.bool false)).bind toB).bind fun b => .ok (!b)) _ = _
      rw [decide_eq_true h0]
      show RS.ofR (R.ok (!decide (n ≤ 26))) _ = _
      rw [decide_eq_true h1]
      rfl)]
    rw [sSeq_of (ρ1 := [.fz (tN (p :: ps)), .fz (.int n), .fz (.int 1), .no]) rfl]
    have hmx : (e2 pAdd (eB (b1 pMax) (aCons (eVar 0) aNil)) (eC (.int 1))) (evN rows (k + 2)) [.fz (tN (p :: ps)), .fz (.int n), .fz (.int 1), .no] = .ok (.int ((lett 0 (p :: ps) : Nat) : Int)) := by
      rw [e2_of (x := .int (((lett 0 (p :: ps) : Nat) : Int) - 1)) (y := .int 1) ((eB1_of (d := tN (p :: ps)) rfl).trans (max_tN p ps)) rfl, tk_add_i]
      congr 2
      omega
    rw [sSeq_of (ρ1 := [.fz (tN (p :: ps)), .fz (.int n), .fz (.int (facF n 0 (lett 0 (p :: ps)) 1)), a]) (by
      rw [sFor_ap, (iB1_of hmx).trans (rng1_ok _ (by omega)), tk_ofR_ok]
      have e : rng 0 (lett 0 (p :: ps)) = (List.range' 0 (lett 0 (p :: ps))).map fun (i : Nat) => PyData.int (i : Int) := by
        unfold rng
        rw [List.range_eq_range']
        exact List.map_congr_left fun i _ => by rw [Int.zero_add]
      rw [e]
      exact hlp)]
    rfl
  show (match f13 (evN rows (k + 2)) [.fz (tN (p :: ps)), .fz (.int n), .no, .no] with | .next _ => R.ok PyData.none | .ret d => .ok d | .exc c z => .exc c z | .bad => .bad) = _
  rw [run]

end PV
namespace PV
open PySem
/-! pattern_of_text -/
def ch (c : Nat) : D := .str ⟨#[c]⟩
theorem eqv_ch (a b : Nat) : PyData.eqv (ch a) (ch b) = decide (a = b) := by
  unfold ch
  simp [PyData.eqv, Bool.beq_eq_decide_eq]
theorem any_ch (c : Nat) : ∀ seen : List Nat, (seen.map ch).any (fun z => PyData.eqv z (ch c)) = decide (c ∈ seen)
  | [] => by simp
  | s :: seen => by
    rw [List.map_cons, List.any_cons, any_ch c seen, eqv_ch]
    by_cases h : s = c
    · subst h; simp
    · have h' : ¬ c = s := fun z => h z.symm
      simp [h, h']
def low (c : Nat) : Prop := 97 ≤ c ∧ c ≤ 122
theorem strOk_low {c : Nat} (h : low c) : PyData.strOk ⟨#[c]⟩ = true := by
  have t : ((List.range 26).all fun i => PyData.strOk ⟨#[97 + i]⟩) = true := by decide +kernel
  have := List.all_eq_true.mp t (c - 97) (List.mem_range.mpr (by have := h.1; have := h.2; omega))
  rw [show 97 + (c - 97) = c by have := h.1; omega] at this
  exact this
theorem shp_ch {c : Nat} (h : low c) : shp (ch c) = true := by
  unfold shp ch
  simp [PyData.canLay0, PyData.depth, strOk_low h]
theorem shp_chs {seen : List Nat} (h : ∀ c ∈ seen, low c) : shp (.list (seen.map ch)) = true := by
  have h1 : ∀ seen : List Nat, (∀ c ∈ seen, low c) → PyData.canLayAll0 (seen.map ch) = true := by
    intro seen
    induction seen with
    | nil => intro _; rfl
    | cons s seen ih =>
      intro h
      rw [List.map_cons, PyData.canLayAll0, ih fun c hc => h c (List.mem_cons_of_mem _ hc)]
      simp [ch, PyData.canLay0, strOk_low (h s List.mem_cons_self)]
  have h2 : ∀ seen : List Nat, PyData.depthAll (seen.map ch) = 0 := by
    intro seen
    induction seen with
    | nil => rfl
    | cons s seen ih => rw [List.map_cons, PyData.depthAll, ih]; rfl
  unfold shp
  rw [PyData.canLay0, h1 seen h, PyData.depth, h2]
  rfl

end PV
namespace PV
open PySem
def addL (seen : List Nat) (c : Nat) : List Nat := if c ∈ seen then seen else seen ++ [c]
def pg : List Nat → List Nat → List Nat
  | _, [] => []
  | seen, c :: cs => (addL seen c).idxOf c :: pg (addL seen c) cs
theorem mem_addL (seen : List Nat) (c : Nat) : c ∈ addL seen c := by
  unfold addL
  split
  · assumption
  · simp
theorem placeOf_ch (c : Nat) : ∀ s : List Nat, c ∈ s → placeOf (s.map ch) (ch c) = some (s.idxOf c)
  | [], h => by cases h
  | x :: s, h => by
    unfold placeOf
    rw [List.map_cons, List.findIdx?_cons, eqv_ch, List.idxOf_cons]
    by_cases hx : x = c
    · subst hx; simp
    · have hm : c ∈ s := by
        rcases List.mem_cons.mp h with e | e
        · exact absurd e.symm hx
        · exact e
      have ih := placeOf_ch c s hm
      unfold placeOf at ih
      rw [ih]
      have : (x == c) = false := by simpa using hx
      simp [hx, this]
def B2 : FS := (sSeq (sIf (eTB (e2 pNotIn (eVar 3) (eBor 1))) (sApp 1 (eVar 3)) sNil) (sApp 2 (eM2 isL mIndexL isS mIndexS (eBor 1) (aCons (eVar 3) aNil))))
theorem b2_ok {ev : Ev} {x : D} {seen : List Nat} {found : List D} {c : Nat} (hc : low c) (hs : ∀ y ∈ seen, low y) (h1 : seen.length < 1000) (h2 : found.length < 1000) :
    B2 ev [.fz x, .ol (seen.map ch), .ol found, .fz (ch c)] = .next [.fz x, .ol ((addL seen c).map ch), .ol (found ++ [.int ((addL seen c).idxOf c : Nat)]), .fz (ch c)] := by
  have hlim : (1000 : Nat) ≤ lim := by decide
  unfold B2
  have hin : pNotIn (ch c) (.list (seen.map ch)) = .ok (.bool (!decide (c ∈ seen))) := by
    unfold pNotIn
    have : pIn (ch c) (.list (seen.map ch)) = .ok (.bool (decide (c ∈ seen))) := by
      show (if (shp (ch c) && shp (.list (seen.map ch))) = true then R.ok (PyData.bool _) else .bad) = _
      rw [shp_ch hc, shp_chs hs, Bool.and_self, if_pos rfl, any_ch]
    rw [this]; rfl
  have ha : (sIf (eTB (e2 pNotIn (eVar 3) (eBor 1))) (sApp 1 (eVar 3)) sNil) ev [.fz x, .ol (seen.map ch), .ol found, .fz (ch c)] = .next [.fz x, .ol ((addL seen c).map ch), .ol found, .fz (ch c)] := by
    rw [sIf_ap, eTB_ap, (e2_of (op := pNotIn) (x := ch c) (y := .list (seen.map ch)) rfl rfl).trans hin, R.bind_ok, tk_toB_b, tk_ofR_ok]
    unfold addL
    by_cases h : c ∈ seen
    · simp [h]
    · rw [if_pos (by simp [h]), if_neg h]
      show (if (seen.map ch).length < lim then RS.next _ else .bad) = _
      rw [if_pos (by rw [List.length_map]; omega), List.map_append]
      rfl
  rw [sSeq_of ha]
  have hs2 : ∀ y ∈ addL seen c, low y := by
    unfold addL
    intro y hy
    split at hy
    · exact hs y hy
    · rcases List.mem_append.mp hy with z | z
      · exact hs y z
      · rw [List.mem_singleton.mp z]; exact hc
  have hi : (eM2 isL mIndexL isS mIndexS (eBor 1) (aCons (eVar 3) aNil)) ev [.fz x, .ol ((addL seen c).map ch), .ol found, .fz (ch c)] = .ok (.int ((addL seen c).idxOf c : Nat)) := by
    show (if (shp (.list ((addL seen c).map ch)) && shp (ch c)) = true then (match placeOf ((addL seen c).map ch) (ch c) with | some j => R.ok (PyData.int (j : Nat)) | none => .bad) else .bad) = _
    rw [shp_ch hc, shp_chs hs2, Bool.and_self, if_pos rfl, placeOf_ch c _ (mem_addL seen c)]
  show RS.ofR _ (fun d => if found.length < lim then RS.next _ else .bad) = _
  rw [hi, tk_ofR_ok, if_pos (by omega)]
  rfl
theorem loop2 {ev : Ev} {x : D} : ∀ (cs seen : List Nat) (found : List D) (e : Ent), (∀ y ∈ cs, low y) → (∀ y ∈ seen, low y) → seen.length + cs.length < 1000 → found.length + cs.length < 1000 →
    ∃ s e', forL (.v 3) (B2 ev) (cs.map ch) [.fz x, .ol (seen.map ch), .ol found, e] = .next [.fz x, .ol s, .ol (found ++ (pg seen cs).map fun (p : Nat) => PyData.int (p : Int)), e']
  | [], seen, found, e, _, _, _, _ => ⟨seen.map ch, e, by show RS.next _ = _; rw [pg, List.map_nil, List.append_nil]⟩
  | c :: cs, seen, found, e, hc, hs, h1, h2 => by
    rw [List.length_cons] at h1 h2
    have hlow := hc c List.mem_cons_self
    have hs2 : ∀ y ∈ addL seen c, low y := by
      unfold addL
      intro y hy
      split at hy
      · exact hs y hy
      · rcases List.mem_append.mp hy with z | z
        · exact hs y z
        · rw [List.mem_singleton.mp z]; exact hlow
    have hl2 : (addL seen c).length ≤ seen.length + 1 := by
      unfold addL
      split
      · omega
      · rw [List.length_append, List.length_singleton]; omega
    obtain ⟨s, e', ih⟩ := loop2 cs (addL seen c) (found ++ [.int ((addL seen c).idxOf c : Nat)]) (.fz (ch c)) (fun y hy => hc y (List.mem_cons_of_mem _ hy)) hs2 (by omega) (by rw [List.length_append, List.length_singleton]; omega)
    refine ⟨s, e', ?_⟩
    rw [List.map_cons, forL_cons (ρ1 := [.fz x, .ol (seen.map ch), .ol found, .fz (ch c)]) rfl (b2_ok hlow hs (by omega) (by omega)), ih]
    rw [pg, List.map_cons, List.append_assoc]
    rfl
def wd (cs : List Nat) : D := .str ⟨cs.toArray⟩
theorem items_wd (cs : List Nat) : strItems ⟨cs.toArray⟩ = cs.map ch := by
  unfold strItems
  rfl
theorem ev2 (k : Nat) (cs : List Nat) (h : ∀ y ∈ cs, low y) (hl : cs.length < 1000) : evN rows (k + 1) 2 [wd cs] = .ok (tN (pg [] cs)) := by
  rw [evS (f := f2) (n := 4) (m := 1) rfl rfl]
  obtain ⟨s, e', hlp⟩ := loop2 (ev := evN rows k) (x := wd cs) cs [] [] .no h (fun _ z => (by cases z)) (by simpa using hl) (by simpa using hl)
  have run : f2 (evN rows k) [.fz (wd cs), .no, .no, .no] = .ret (tN (pg [] cs)) := by
    unfold f2
    rw [sSeq_of (ρ1 := [.fz (wd cs), .ol [], .no, .no]) rfl, sSeq_of (ρ1 := [.fz (wd cs), .ol [], .ol [], .no]) rfl]
    rw [sSeq_of (ρ1 := [.fz (wd cs), .ol s, .ol ((pg [] cs).map fun (p : Nat) => PyData.int (p : Int)), e']) (by
      show RS.ofR (R.ok (strItems ⟨cs.toArray⟩)) _ = _
      rw [items_wd, tk_ofR_ok]
      exact hlp)]
    have e : tN (pg [] cs) = .tuple ((pg [] cs).map fun (n : Nat) => PyData.int (n : Int)) := by unfold tN tI; rw [List.map_map]; rfl
    rw [e]
    rfl
  show (match f2 (evN rows k) [.fz (wd cs), .no, .no, .no] with | .next _ => R.ok PyData.none | .ret d => .ok d | .exc c z => .exc c z | .bad => .bad) = _
  rw [run]

end PV
namespace PV
open PySem
/-! pg is an rgs -/
theorem pg_len : ∀ (cs seen : List Nat), (pg seen cs).length = cs.length
  | [], _ => rfl
  | c :: cs, seen => by rw [pg, List.length_cons, List.length_cons, pg_len cs]
theorem idxOf_snoc {c : Nat} : ∀ {seen : List Nat}, c ∉ seen → (seen ++ [c]).idxOf c = seen.length
  | [], _ => by simp
  | x :: seen, h => by
    have h1 : ¬ x = c := fun e => h (by rw [e]; exact List.mem_cons_self)
    have h2 : c ∉ seen := fun z => h (List.mem_cons_of_mem _ z)
    have hb : (x == c) = false := by simpa using h1
    rw [List.cons_append, List.idxOf_cons, hb, List.length_cons]
    simp [idxOf_snoc h2]
theorem addL_len (seen : List Nat) (c : Nat) : (addL seen c).length = max seen.length ((addL seen c).idxOf c + 1) ∧ (addL seen c).idxOf c ≤ seen.length := by
  unfold addL
  by_cases h : c ∈ seen
  · rw [if_pos h]
    have := List.idxOf_lt_length_of_mem h
    omega
  · rw [if_neg h, idxOf_snoc h, List.length_append, List.length_singleton]
    omega
theorem pg_rgs : ∀ (cs seen : List Nat), rgs seen.length (pg seen cs) = true
  | [], _ => rfl
  | c :: cs, seen => by
    obtain ⟨h1, h2⟩ := addL_len seen c
    rw [pg, rgs, ← h1, pg_rgs cs, Bool.and_true, decide_eq_true_eq]
    exact h2

end PV
namespace PV
open PySem
/-! is_word -/
def okB : R D → Option Bool
  | .ok (.bool b) => some b
  | _ => none
theorem okB_eq {r : R D} {b : Bool} (h : okB r = some b) : r = .ok (.bool b) := by
  match r, h with
  | .ok (.bool _), h => cases h; rfl
theorem in_letters {c : Nat} (h : low c) : pIn (ch c) gd_LETTERS = .ok (.bool true) := by
  have t : ((List.range 26).all fun i => okB (pIn (ch (97 + i)) gd_LETTERS) == some true) = true := by kernel_rfl
  have := List.all_eq_true.mp t (c - 97) (List.mem_range.mpr (by have := h.1; have := h.2; omega))
  rw [show 97 + (c - 97) = c by have := h.1; omega] at this
  exact okB_eq (eq_of_beq this)
theorem allB_true : ∀ ds : List D, allB (ds.map fun _ => PyData.bool true) = some (ds.map fun _ => true)
  | [] => rfl
  | d :: ds => by rw [List.map_cons, allB, allB_true ds]; rfl
theorem ev0 (k : Nat) (cs : List Nat) (h : ∀ y ∈ cs, low y) (h1 : 1 ≤ cs.length) (h2 : cs.length ≤ 8) : evN rows (k + 1) 0 [wd cs] = .ok (.bool true) := by
  rw [evS (f := f0) (n := 2) (m := 1) rfl rfl]
  have run : f0 (evN rows k) [.fz (wd cs), .no] = .ret (.bool true) := by
    unfold f0
    have hlen : pLen (wd cs) = .ok (.int (cs.length : Int)) := by show R.ok (PyData.int (cs.toArray.size : Nat)) = _; rw [List.size_toArray]
    have hch : eChain pLe pLe (eC (.int 1)) (eB (b1 pLen) (aCons (eVar 0) aNil)) (eC gd_MOST_LETTERS) (evN rows k) [.fz (wd cs), .no] = .ok (.bool true) := by
      rw [eChain_ap, eC_ap, R.bind_ok, (eB1_of (d := wd cs) rfl).trans hlen, R.bind_ok, tk_le_i, decide_eq_true (by omega), R.bind_ok, tk_toB_b, R.bind_ok, if_pos rfl, eC_ap, R.bind_ok]
      show R.ok (PyData.bool (decide ((cs.length : Int) ≤ 8))) = _
      rw [decide_eq_true (by omega)]
    have hlc : eLc [1] (.v 1) (iVal (eVar 0)) tYesF (e2 pIn (eVar 1) (eC gd_LETTERS)) (evN rows k) [.fz (wd cs), .no] = .ok (.list ((cs.map ch).map fun _ => .bool true)) := by
      refine eLc_of (ds := cs.map ch) (by show R.ok (strItems ⟨cs.toArray⟩) = _; rw [items_wd]) ?_ (lcL_map fun d hd => ?_)
      · rw [List.length_map]
        exact Nat.le_trans h2 (by decide)
      · obtain ⟨c, hc, rfl⟩ := List.mem_map.mp hd
        exact ⟨_, rfl, (e2_of (x := ch c) (y := gd_LETTERS) rfl rfl).trans (in_letters (h c hc))⟩
    have hall : eB (b1 pAll) (aCons (eLc [1] (.v 1) (iVal (eVar 0)) tYesF (e2 pIn (eVar 1) (eC gd_LETTERS))) aNil) (evN rows k) [.fz (wd cs), .no] = .ok (.bool true) := by
      rw [eB1_of hlc]
      show (match allB _ with | some ns => R.ok (PyData.bool (ns.all id)) | none => .bad) = _
      rw [allB_true]
      show R.ok (PyData.bool (((cs.map ch).map fun _ => true).all id)) = _
      congr 2
      rw [List.all_eq_true]
      intro x hx
      obtain ⟨_, _, rfl⟩ := List.mem_map.mp hx
      rfl
    rw [sRet_ap, eAnd_ap, hch, R.bind_ok, tk_truth_b, R.bind_ok, if_pos rfl, hall]
    rfl
  show (match f0 (evN rows k) [.fz (wd cs), .no] with | .next _ => R.ok PyData.none | .ret d => .ok d | .exc c z => .exc c z | .bad => .bad) = _
  rw [run]

end PV
namespace PV
open PySem
/-! check_words, pattern, are_alike -/
def okw (cs : List Nat) : Prop := (∀ y ∈ cs, low y) ∧ 1 ≤ cs.length ∧ cs.length ≤ 8
def B3 : FS := (sIf (eTNot (eT (eCall 0 (aCons (eVar 2) aNil)))) (sRaise 2 (eVar 1)) sNil)
theorem loop3 {ev : Ev} (w0 : ∀ cs, okw cs → ev 0 [wd cs] = .ok (.bool true)) {T : D} : ∀ (ws : List (List Nat)) (i : Nat) (a b : Ent), (∀ cs ∈ ws, okw cs) → ∃ a' b', forL (.t [.v 1, .v 2]) (B3 ev) (enF i (ws.map wd)) [.fz T, a, b] = .next [.fz T, a', b']
  | [], i, a, b, _ => ⟨a, b, rfl⟩
  | w :: ws, i, a, b, h => by
    obtain ⟨a', b', ih⟩ := loop3 w0 ws (i + 1) (.fz (.int (i : Int))) (.fz (wd w)) fun cs hc => h cs (List.mem_cons_of_mem _ hc)
    refine ⟨a', b', ?_⟩
    have hb : B3 ev [.fz T, .fz (.int (i : Int)), .fz (wd w)] = .next [.fz T, .fz (.int (i : Int)), .fz (wd w)] := by
      show RS.ofR (((ev 0 [wd w]).bind truth).bind fun b => .ok (!b)) (fun b => if b = true then _ else RS.next _) = _
      rw [w0 w (h w List.mem_cons_self)]
      rfl
    rw [List.map_cons, enF, forL_cons (ρ1 := [.fz T, .fz (.int (i : Int)), .fz (wd w)]) rfl hb]
    exact ih
theorem ev3 (k : Nat) (ws : List (List Nat)) (h : ∀ cs ∈ ws, okw cs) : evN rows (k + 2) 3 [.list (ws.map wd)] = .ok .none := by
  rw [evS (f := f3) (n := 3) (m := 1) rfl rfl]
  obtain ⟨a, b, hlp⟩ := loop3 (ev := evN rows (k + 1)) (fun cs hc => ev0 k cs hc.1 hc.2.1 hc.2.2) (T := .list (ws.map wd)) ws 0 .no .no h
  have run : f3 (evN rows (k + 1)) [.fz (.list (ws.map wd)), .no, .no] = .next [.fz (.list (ws.map wd)), a, b] := by
    unfold f3
    show RS.ofR (R.ok (enumL (ws.map wd))) _ = _
    rw [enumL_eq, tk_ofR_ok]
    exact hlp
  show (match f3 (evN rows (k + 1)) [.fz (.list (ws.map wd)), .no, .no] with | .next _ => R.ok PyData.none | .ret d => .ok d | .exc c z => .exc c z | .bad => .bad) = _
  rw [run]
theorem ev4 (k : Nat) (cs : List Nat) (h : okw cs) : evN rows (k + 3) 4 [wd cs] = .ok (tN (pg [] cs)) := by
  rw [evS (f := f4) (n := 1) (m := 1) rfl rfl]
  have h3 := ev3 k [cs] (fun c hc => by rw [List.mem_singleton.mp hc]; exact h)
  have h2 := ev2 (k + 1) cs h.1 (by have := h.2.2; omega)
  have run : f4 (evN rows (k + 2)) [.fz (wd cs)] = .ret (tN (pg [] cs)) := by
    unfold f4
    rw [sSeq_of (ρ1 := [.fz (wd cs)]) (by
      show RS.ofR (evN rows (k + 2) 3 [.list [wd cs]]) _ = _
      rw [show ([wd cs] : List D) = [cs].map wd from rfl, h3]
      rfl)]
    show RS.ofR (evN rows (k + 2) 2 [wd cs]) _ = _
    rw [h2]
    rfl
  show (match f4 (evN rows (k + 2)) [.fz (wd cs)] with | .next _ => R.ok PyData.none | .ret d => .ok d | .exc c z => .exc c z | .bad => .bad) = _
  rw [run]

end PV
namespace PV
open PySem
theorem tN_eq (ps : List Nat) : tN ps = .tuple (ps.map fun (n : Nat) => PyData.int (n : Int)) := by unfold tN tI; rw [List.map_map]; rfl
theorem eqvAll_nat : ∀ (a b : List Nat), PyData.eqvAll (a.map fun (n : Nat) => PyData.int (n : Int)) (b.map fun (n : Nat) => PyData.int (n : Int)) = decide (a = b)
  | [], [] => by simp [PyData.eqvAll]
  | [], _ :: _ => by simp [PyData.eqvAll]
  | _ :: _, [] => by simp [PyData.eqvAll]
  | x :: a, y :: b => by
    rw [List.map_cons, List.map_cons, PyData.eqvAll, eqvAll_nat a b]
    by_cases h : x = y
    · subst h
      simp [PyData.eqv]
    · have : ¬ (x : Int) = (y : Int) := by omega
      simp [PyData.eqv, h, this]
theorem eqv_tN (a b : List Nat) : PyData.eqv (tN a) (tN b) = decide (a = b) := by
  rw [tN_eq, tN_eq, PyData.eqv, eqvAll_nat]
theorem shp_tN (a : List Nat) : shp (tN a) = true := by
  have h1 : ∀ a : List Nat, PyData.canLayAll0 (a.map fun (n : Nat) => PyData.int (n : Int)) = true := by
    intro a
    induction a with
    | nil => rfl
    | cons x a ih => rw [List.map_cons, PyData.canLayAll0, ih]; rfl
  have h2 : ∀ a : List Nat, PyData.depthAll (a.map fun (n : Nat) => PyData.int (n : Int)) = 0 := by
    intro a
    induction a with
    | nil => rfl
    | cons x a ih => rw [List.map_cons, PyData.depthAll, ih]; rfl
  rw [tN_eq]
  unfold shp
  rw [PyData.canLay0, h1, PyData.depth, h2]
  rfl
theorem pEq2_tN (a b : List Nat) : pEq2 (tN a) (tN b) = .ok (.bool (decide (a = b))) := by
  have h : pEq2 (tN a) (tN b) = pEq (tN a) (tN b) := by rw [tN_eq, tN_eq]; rfl
  rw [h]
  unfold pEq
  rw [shp_tN, shp_tN, Bool.and_self, if_pos rfl, eqv_tN]
theorem ev5 (k : Nat) (u v : List Nat) (hu : okw u) (hv : okw v) : evN rows (k + 3) 5 [wd u, wd v] = .ok (.bool (decide (pg [] u = pg [] v))) := by
  rw [evS (f := f5) (n := 2) (m := 2) rfl rfl]
  have h3 := ev3 k [u, v] (fun c hc => by
    rcases List.mem_cons.mp hc with e | e
    · rw [e]; exact hu
    · rw [List.mem_singleton.mp e]; exact hv)
  have hp : ∀ c, okw c → evN rows (k + 2) 2 [wd c] = .ok (tN (pg [] c)) := fun c h => ev2 (k + 1) c h.1 (by have := h.2.2; omega)
  have run : f5 (evN rows (k + 2)) [.fz (wd u), .fz (wd v)] = .ret (.bool (decide (pg [] u = pg [] v))) := by
    unfold f5
    rw [sSeq_of (ρ1 := [.fz (wd u), .fz (wd v)]) (by
      show RS.ofR (evN rows (k + 2) 3 [.list [wd u, wd v]]) _ = _
      rw [show ([wd u, wd v] : List D) = [u, v].map wd from rfl, h3]
      rfl)]
    show RS.ofR ((evN rows (k + 2) 2 [wd u]).bind fun x => (evN rows (k + 2) 2 [wd v]).bind fun y => pEq2 x y) _ = _
    rw [hp u hu, R.bind_ok, hp v hv, R.bind_ok, pEq2_tN]
    rfl
  show (match f5 (evN rows (k + 2)) [.fz (wd u), .fz (wd v)] with | .next _ => R.ok PyData.none | .ret d => .ok d | .exc c z => .exc c z | .bad => .bad) = _
  rw [run]

end PV
namespace PV
open PySem
theorem subAt_ch (cs : List Nat) (c i : Nat) : Builtin.Str.subAt ⟨cs.toArray⟩ ⟨#[c]⟩ i = decide (cs[i]? = some c) := by
  unfold Builtin.Str.subAt
  show ((cs.toArray.extract i (i + 1)) == #[c]) = _
  have e : (cs.toArray.extract i (i + 1)).toList = (cs.drop i).take 1 := by simp [List.extract_eq_take_drop]
  have h2 : ((cs.toArray.extract i (i + 1)) == #[c]) = ((cs.drop i).take 1 == [c]) := by
    rw [← e]
    generalize cs.toArray.extract i (i + 1) = a
    cases a with
    | mk l => simp
  rw [h2]
  cases q : cs[i]? with
  | none =>
    have : cs.length ≤ i := List.getElem?_eq_none_iff.mp q
    rw [List.drop_eq_nil_of_le this]
    simp
  | some x =>
    obtain ⟨hi, rfl⟩ := List.getElem?_eq_some_iff.mp q
    have e2 : (cs.drop i).take 1 = [cs[i]] := by rw [List.drop_eq_getElem_cons hi]; rfl
    rw [e2]
    by_cases h : cs[i] = c <;> simp [h]
theorem idxOf_le {c : Nat} : ∀ {cs : List Nat} {i : Nat}, cs[i]? = some c → cs.idxOf c ≤ i
  | [], _, h => by simp at h
  | x :: cs, 0, h => by
    have : x = c := by simpa using h
    rw [List.idxOf_cons, this]; simp
  | x :: cs, i + 1, h => by
    have ih := idxOf_le (cs := cs) (i := i) (by simpa using h)
    rw [List.idxOf_cons]
    by_cases hx : x = c
    · simp [hx]
    · have : (x == c) = false := by simpa using hx
      rw [this]; simp; omega
theorem index_wd {cs : List Nat} {c : Nat} (h : c ∈ cs) : mIndexS (wd cs) [ch c] = .ok (.int (cs.idxOf c : Nat)) := by
  have hi := List.idxOf_lt_length_of_mem h
  have hg : cs[cs.idxOf c]? = some c := by rw [List.getElem?_eq_getElem hi, List.getElem_idxOf]
  have at1 : ∀ i, StrLaws.At ⟨cs.toArray⟩ ⟨#[c]⟩ cs.toArray.size i ↔ cs[i]? = some c := fun i => by
    unfold StrLaws.At
    rw [subAt_ch, decide_eq_true_eq]
    refine ⟨fun z => z.2, fun z => ⟨?_, z⟩⟩
    have := (List.getElem?_eq_some_iff.mp z).1
    show i + 1 ≤ cs.toArray.size
    rw [List.size_toArray]; omega
  rcases StrLaws.occ_head ⟨cs.toArray⟩ ⟨#[c]⟩ 1 (Nat.le_refl _) with ⟨_, hn⟩ | ⟨i, r, e, ha, hk⟩
  · exact absurd ((at1 _).mpr hg) (hn _)
  · show (match Builtin.Str.occurrences ⟨cs.toArray⟩ ⟨#[c]⟩ 0 cs.toArray.size 1 with | i :: _ => R.ok (PyData.int (i : Nat)) | [] => .bad) = _
    have e' : Builtin.Str.occurrences ⟨cs.toArray⟩ ⟨#[c]⟩ 0 cs.toArray.size 1 = i :: r := e
    rw [e']
    have hic := (at1 i).mp ha
    have h1 : ¬ cs.idxOf c < i := fun z => hk _ z ((at1 _).mpr hg)
    have h2 := idxOf_le hic
    rw [show i = cs.idxOf c by omega]

end PV
namespace PV
open PySem
theorem dd_mapW {α β : Type} [DecidableEq α] [DecidableEq β] (f : α → β) (hf : ∀ a b, f a = f b → a = b) : ∀ l : List α, dd (l.map f) = (dd l).map f
  | [] => rfl
  | x :: l => by
    have e : (f x ∈ dd (l.map f)) ↔ x ∈ dd l := by
      rw [dd_mapW f hf l, List.mem_map]
      exact ⟨fun ⟨y, hy, e⟩ => (hf _ _ e) ▸ hy, fun h => ⟨x, h, rfl⟩⟩
    show (if f x ∈ dd (l.map f) then dd (l.map f) else f x :: dd (l.map f)) = (if x ∈ dd l then dd l else x :: dd l).map f
    by_cases h : x ∈ dd l
    · rw [if_pos h, if_pos (e.mpr h), dd_mapW f hf l]
    · rw [if_neg h, if_neg (fun z => h (e.mp z)), dd_mapW f hf l, List.map_cons]
def kc (c : Nat) : L2.Key := .inr ⟨#[c]⟩
theorem allK_ch : ∀ cs : List Nat, allK (cs.map ch) = some (cs.map kc)
  | [] => rfl
  | c :: cs => by
    rw [List.map_cons, List.map_cons]
    show (allK (cs.map ch)).map _ = _
    rw [allK_ch cs]
    rfl
theorem kc_inj (a b : Nat) (h : kc a = kc b) : a = b := by
  unfold kc at h
  simpa using h
theorem lenSet_wd (cs : List Nat) (h : cs.length < 64) : pLenSet (wd cs) = .ok (.int ((dd cs).length : Nat)) := by
  show (match allK (strItems ⟨cs.toArray⟩) with | some ks => if ks.length < 64 then R.ok (PyData.int ((dd ks).length : Nat)) else .bad | none => _) = _
  rw [items_wd, allK_ch]
  show (if (cs.map kc).length < 64 then R.ok (PyData.int ((dd (cs.map kc)).length : Nat)) else .bad) = _
  rw [if_pos (by rw [List.length_map]; exact h), dd_mapW kc kc_inj, List.length_map]

end PV
namespace PV
open PySem
theorem idx_wd {cs : List Nat} {t c : Nat} (h : cs[t]? = some c) : pIdx (wd cs) (.int (t : Int)) = .ok (ch c) := by
  have hl := (List.getElem?_eq_some_iff.mp h).1
  show (match (ixAt cs.toArray.size (t : Int)).bind fun j => (cs.toArray).toList[j]? with | some c => R.ok (PyData.str ⟨#[c]⟩) | none => .bad) = _
  have e : ixAt cs.toArray.size (t : Int) = some t := by
    unfold ixAt
    rw [if_pos (by omega), if_pos (by rw [List.size_toArray]; omega), Int.toNat_natCast]
  rw [e]
  show (match cs[t]? with | some c => R.ok (PyData.str ⟨#[c]⟩) | none => .bad) = _
  rw [h]
  rfl
theorem cut_wd (cs : List Nat) (i : Nat) (h : i ≤ cs.length) : pCut none (some (i : Int)) (wd cs) = .ok (wd (cs.take i)) := by
  show R.ok (PyData.str ⟨(cutL (cs.toArray).toList none (some (i : Int))).toArray⟩) = _
  have e : cutL (cs.toArray).toList none (some (i : Int)) = cs.take i := by
    unfold cutL cutIx
    show (cs.drop 0).take ((if (i : Int) < 0 then _ else min (i : Int).toNat cs.length) - 0) = _
    rw [if_neg (by omega), Int.toNat_natCast, List.drop_zero, Nat.sub_zero, Nat.min_eq_left h]
  rw [e]
  rfl

end PV
namespace PV
open PySem
def lp (cs : List Nat) (c : Nat) : Nat := (dd (cs.take (cs.idxOf c))).length
def B18 : FS := (sSeq (sSet 3 (nV (eM2 isL mIndexL isS mIndexS (eVar 0) (aCons (e2 pIdx (eVar 0) (eVar 2)) aNil)))) (sApp 1 (e1 pLenSet (eCut (eVar 0) oN (oS (eVar 3))))))
theorem b18_ok {ev : Ev} {cs : List Nat} {found : List D} {t c : Nat} {e : Ent} (ht : cs[t]? = some c) (hl : cs.length < 64) (hf : found.length < 1000) :
    B18 ev [.fz (wd cs), .ol found, .fz (.int (t : Int)), e] = .next [.fz (wd cs), .ol (found ++ [.int (lp cs c : Nat)]), .fz (.int (t : Int)), .fz (.int (cs.idxOf c : Nat))] := by
  have hlim : (1000 : Nat) ≤ lim := by decide
  have hm : c ∈ cs := List.mem_of_getElem? ht
  have hix := List.idxOf_lt_length_of_mem hm
  unfold B18
  have h1 : (eM2 isL mIndexL isS mIndexS (eVar 0) (aCons (e2 pIdx (eVar 0) (eVar 2)) aNil)) ev [.fz (wd cs), .ol found, .fz (.int (t : Int)), e] = .ok (.int (cs.idxOf c : Nat)) := by
    show ((((pIdx (wd cs) (.int (t : Int))).bind fun d => R.bind (.ok []) fun ds => .ok (d :: ds))).bind fun ds => mIndexS (wd cs) ds) = _
    rw [idx_wd ht]
    exact index_wd hm
  rw [sSeq_of (sSet_of h1)]
  have h2 : (e1 pLenSet (eCut (eVar 0) oN (oS (eVar 3)))) ev [.fz (wd cs), .ol found, .fz (.int (t : Int)), .fz (.int (cs.idxOf c : Nat))] = .ok (.int (lp cs c : Nat)) := by
    show (pCut none (some ((cs.idxOf c : Nat) : Int)) (wd cs)).bind pLenSet = _
    rw [cut_wd cs _ (by omega), R.bind_ok, lenSet_wd _ (by rw [List.length_take]; omega)]
    rfl
  show RS.ofR ((e1 pLenSet (eCut (eVar 0) oN (oS (eVar 3)))) ev [.fz (wd cs), .ol found, .fz (.int (t : Int)), .fz (.int (cs.idxOf c : Nat))]) (fun d => if found.length < lim then RS.next _ else .bad) = _
  rw [h2, tk_ofR_ok, if_pos (by omega)]
  rfl

end PV
namespace PV
open PySem
open En (en de)
theorem sx0 : PyData.str ("" : Str) = en (cs []) := by kernel_rfl
theorem sx1 : PyData.str ("ab" : Str) = en (cs [97, 98]) := by kernel_rfl
theorem sx2 : PyData.str ("abcz" : Str) = en (cs [97, 98, 99, 122]) := by kernel_rfl
theorem sx3 : PyData.str ("abcdefghijklm" : Str) = en (cs [97, 98, 99, 100, 101, 102, 103, 104, 105, 106, 107, 108, 109]) := by kernel_rfl
theorem sx4 : PyData.str ("pattern" : Str) = en (cs [112, 97, 116, 116, 101, 114, 110]) := by kernel_rfl
theorem sx5 : PyData.str ("abcd" : Str) = en (cs [97, 98, 99, 100]) := by kernel_rfl
theorem sx6 : PyData.str ("abcdefghi" : Str) = en (cs [97, 98, 99, 100, 101, 102, 103, 104, 105]) := by kernel_rfl
theorem sx7 : PyData.str ("aB" : Str) = en (cs [97, 66]) := by kernel_rfl
theorem sx8 : PyData.str ("1" : Str) = en (cs [49]) := by kernel_rfl
theorem sx9 : PyData.str ("a" : Str) = en (cs [97]) := by kernel_rfl
theorem sx10 : PyData.str ("b" : Str) = en (cs [98]) := by kernel_rfl
theorem sx11 : PyData.str ("word" : Str) = en (cs [119, 111, 114, 100]) := by kernel_rfl
theorem sx12 : PyData.str ("size" : Str) = en (cs [115, 105, 122, 101]) := by kernel_rfl
theorem sx13 : PyData.str ("range" : Str) = en (cs [114, 97, 110, 103, 101]) := by kernel_rfl
def tk_LETTERS : Tx := cs [97, 98, 99, 100, 101, 102, 103, 104, 105, 106, 107, 108, 109, 110, 111, 112, 113, 114, 115, 116, 117, 118, 119, 120, 121, 122]
theorem tkx_LETTERS : gd_LETTERS = en tk_LETTERS := by kernel_rfl
/-! is_word -/
def t0 (text1 : Tx) : R Bool :=
 ((if (decide (((1 : Int)) ≤ (((List.length text1 : Nat) : Int)))) = true then R.ok (decide ((((List.length text1 : Nat) : Int)) ≤ ((8 : Int)))) else R.ok false)).bind fun (x4 : Bool) => (if Tr.tr x4 = true then (tMap (fun (letter2 : Tx) => (tInS letter2 tk_LETTERS : Bool)) (lts text1)).bind fun (x3 : (List Bool)) => R.ok (List.all x3 id) else R.ok x4)
theorem tm0 (k : Nat) (hk : 1 ≤ k) (text1 : Tx) : RE (evN rows k 0 [en text1]) (t0 text1) := evT (f := f0) (n := 2) (m := 1) (by omega) rfl rfl (by unfold f0; exact cv (k_retM (r_And (r_Chain (fun _ _ => o_le_i _ _) (fun _ _ => o_le_i _ _) (r_c (a := (1 : Int)) rfl) (r_B1 (fun _ => o_len_s _) (r_var rfl)) (r_c (a := (8 : Int)) rfl)) (r_B1 (fun _ => o_all _) (r_LcP (g := fun (letter2 : Tx) => (tInS letter2 tk_LETTERS : Bool)) (r_iVal (fun _ => o_iter_s _) (r_var rfl)) fun letter2 => ⟨_, rfl, (r_e2 (fun _ _ => (o_in_s _ _)) (r_var rfl) (r_c tkx_LETTERS))⟩))) fun _ => Or.inl rfl) (by unfold t0; first | (simp only [R.bok, R.bind_okf, R.bind_okg]; done) | (simp only [R.bok, R.bind_okf, R.bind_okg]; rfl) | rfl))
/-! check_list -/
def t1_b1 (told9 : (List Tx)) (s7 : Unit) (p8 : (Int × Tx)) : R (Unit) :=
 ((((t0 p8.2).bind fun (x10 : Bool) => R.ok (Tr.tr x10)).bind fun (b11 : Bool) => R.ok (!b11)).bind fun (b13 : Bool) => (if b13 = true then R.ok true else (if (decide (p8.1 > ((0 : Int)))) = true then (tIx told9 (p8.1 - ((1 : Int)))).bind fun (x12 : Tx) => R.ok (tGeS x12 p8.2) else R.ok false))).bind fun (b14 : Bool) => if b14 = true then
  (R.exc 2 (en (p8.1 : Int)))
 else
  (R.ok (()))
def t1 (told5 : (List Tx)) : R Unit :=
 (((if (decide (((1 : Int)) ≤ (((List.length told5 : Nat) : Int)))) = true then R.ok (decide ((((List.length told5 : Nat) : Int)) ≤ ((24 : Int)))) else R.ok false)).bind fun (b6 : Bool) => R.ok (!b6)).bind fun (b24 : Bool) => if b24 = true then
  (R.exc 1 (en ((((List.length told5 : Nat) : Int)) : Int)))
 else
  ((forR (t1_b1 told5) (enu 0 told5) ()).bind fun (s20 : Unit) =>
 R.ok ())
theorem tm1 (k : Nat) (hk : 2 ≤ k) (told5 : (List Tx)) : RE (evN rows k 1 [en told5]) (t1 told5) := evT (f := f1) (n := 3) (m := 1) (by omega) rfl rfl (by unfold f1; exact cv (k_seq (k_if (r_TNot (r_TB (r_Chain (fun _ _ => o_le_i _ _) (fun _ _ => o_le_i _ _) (r_c (a := (1 : Int)) rfl) (r_B1 (fun _ => o_len_l _) (r_var rfl)) (r_c (a := (24 : Int)) rfl)))) (k_raise (r_B1 (fun _ => o_len_l _) (r_var rfl))) (k_nil (k_for (f := (t1_b1 told5)) (s0 := ()) (fun (s7 : Unit) (ρ : Rho) => ∃ (e1 : Ent) (e2 : Ent), ρ = [.fz (en (told5 : (List Tx))), e1, e2]) (r_i1 (fun _ => o_enum_l _) (r_var rfl)) (⟨_, _, rfl⟩) (fun p8 s7 ρ hP => by obtain ⟨e1, e2, rfl⟩ := hP; exact ⟨_, rfl, cv (k_if (r_TOr (r_TNot (r_T (r_call1 (fun _ => tm0 (k - 1) (by omega) _) (r_var rfl)))) (r_TAnd (r_TB (r_e2 (fun _ _ => (o_gt_i _ _)) (r_var rfl) (r_c (a := (0 : Int)) rfl))) (r_TB (r_e2 (fun _ _ => (o_ge_s _ _)) (r_e2 (fun _ _ => (o_ix_l _ _)) (r_var rfl) (r_e2 (fun _ _ => (o_sub_i _ _)) (r_var rfl) (r_c (a := (1 : Int)) rfl))) (r_var rfl))))) (k_raise (r_var rfl)) (k_nil (k_end (t := (())) ⟨_, rfl, ⟨_, _, rfl⟩⟩))) (by unfold t1_b1; first | (simp only [R.bok, R.bind_okf, R.bind_okg]; done) | (simp only [R.bok, R.bind_okf, R.bind_okg]; rfl) | rfl)⟩) (fun s20 ρ hP => by obtain ⟨e21, e22, rfl⟩ := hP; exact k_end (t := ()) (Or.inr ⟨rfl, _, rfl⟩)))))) (by unfold t1; first | (simp only [R.bok, R.bind_okf, R.bind_okg]; done) | (simp only [R.bok, R.bind_okf, R.bind_okg]; rfl) | rfl))
/-! classes -/
def t7_b1 (k : Nat)  (s27 : (Dc (Tu Int) (List Tx))) (text28 : Tx) : R ((Dc (Tu Int) (List Tx))) :=
 (((((evN rows (k - 1) 2 [en (text28 : Tx)]).bind (dc (α := (Tu Int)))).bind fun (x29 : (Tu Int)) => R.ok (Option.getD (dlk (Dc.l s27) x29) (([] : List Tx)))).bind fun (x30 : (List Tx)) => R.ok (x30 ++ (text28 :: (([] : List Tx))))).bind fun (l31 : List Tx) => gd (List.length l31 ≤ LIM) l31).bind fun (x33 : (List Tx)) => ((evN rows (k - 1) 2 [en (text28 : Tx)]).bind (dc (α := (Tu Int)))).bind fun (x34 : (Tu Int)) => (tPut s27 x34 x33).bind fun (found32 : (Dc (Tu Int) (List Tx))) =>
 R.ok (found32)
def t7 (k : Nat) (told25 : (List Tx)) : R (Dc (Tu Int) (List Tx)) :=
 (t1 told25).bind fun (_ : Unit) =>
 let found26 : (Dc (Tu Int) (List Tx)) := (Dc.mk [] : (Dc (Tu Int) (List Tx)))
 (forR (t7_b1 k) told25 found26).bind fun (s41 : (Dc (Tu Int) (List Tx))) =>
 ((tSort (List.map (·.1) (Dc.l s41))).bind fun (x43 : (List (Tu Int))) => R.ok (x43)).bind fun (l46 : List (Tu Int)) => (dcR (fun (there44 : (Tu Int)) => (R.ok (true) : R Bool)) (fun (there44 : (Tu Int)) => (R.ok (there44) : R (Tu Int))) (fun (there44 : (Tu Int)) => (tGet s41 there44 : R (List Tx))) [] l46).bind fun (y45 : List ((Tu Int) × (List Tx))) => R.ok (Dc.mk y45)
theorem tm7 (k : Nat) (hk : 3 ≤ k) (told25 : (List Tx)) : RE (evN rows k 7 [en told25]) (t7 k told25) := evT (f := f7) (n := 4) (m := 1) (by omega) rfl rfl (by unfold f7; exact cv (k_seq (k_expr (r_call1 (fun _ => tm1 (k - 1) (by omega) _) (r_var rfl)) (k_seq (k_set (n_D (r_c (a := (Dc.mk [] : (Dc (Tu Int) (List Tx)))) rfl)) fun found26 => k_seq (k_for (f := (t7_b1 k)) (s0 := found26) (fun (s27 : (Dc (Tu Int) (List Tx))) (ρ : Rho) => ∃ (e2 : Ent), ρ = [.fz (en (told25 : (List Tx))), .od (List.map enKV ((s27 : (Dc (Tu Int) (List Tx)))).l), e2, .no]) (r_iVal (fun _ => o_iter_l _) (r_var rfl)) (⟨_, rfl⟩) (fun text28 s27 ρ hP => by obtain ⟨e2, rfl⟩ := hP; exact ⟨_, rfl, cv (k_put (d := s27) rfl (r_call1 (fun _ => r_opq) (r_var rfl)) (r_Lst (r_starL (r_M2 isDc_en (fun _ _ _ => (o_get2 _ _ _)) (r_borD rfl) (r_call1 (fun _ => r_opq) (r_var rfl)) (r_LstQ (r_nil (α := Tx)) len_nil (by decide))) (r_cons (r_var rfl) (r_nil (α := Tx))))) fun found38 => k_end (t := (found38)) ⟨_, rfl, ⟨_, rfl⟩⟩) (by unfold t7_b1; first | (simp only [R.bok, R.bind_okf, R.bind_okg]; done) | (simp only [R.bok, R.bind_okf, R.bind_okg]; rfl) | rfl)⟩) (fun s41 ρ hP => by obtain ⟨e42, rfl⟩ := hP; exact k_retM (r_Dc (r_iVal (fun _ => o_iter_l _) (r_B1 (fun _ => o_sorted_d _) (r_borD rfl))) fun there44 => ⟨_, rfl, r_yes, (r_var rfl), (r_e2 (fun _ _ => (o_ix_d _ _)) (r_borD rfl) (r_var rfl))⟩) fun _ => Or.inl rfl)))))) (by unfold t7; first | (simp only [R.bok, R.bind_okf, R.bind_okg]; done) | (simp only [R.bok, R.bind_okf, R.bind_okg]; rfl) | rfl))
/-! _law_draws -/
def t14_b2 (script57 : (List Int)) (s55 : (List Int) × Int) (turn56 : Int) : R ((List Int) × Int) :=
 if (decide (s55.2 > ((0 : Int)))) = true then
  ((tPush s55.1 (Int.fmod s55.2 ((65536 : Int)))).bind fun (draws58 : (List Int)) =>
 let rest59 : Int := Int.fdiv s55.2 ((65536 : Int))
 R.ok ((draws58, rest59)))
 else
  (R.ok ((s55.1, s55.2)))
def t14_b1 (script52 : (List Int)) (s50 : (List Int)) (k51 : Int) : R ((List Int)) :=
 ((tIx script52 k51).bind fun (x53 : Int) => R.ok (tAbs x53)).bind fun (rest54 : Int) =>
 if (decide (rest54 ≥ ((1000000000000000000 : Int)))) = true then
  ((forR (t14_b2 script52) (rg 0 60) (s50, rest54)).bind fun (s62 : (List Int) × Int) =>
 R.ok (s62.1))
 else
  (let stirred66 : Int := Int.fmod (((rest54 * ((48271 : Int))) + ((k51 + ((1 : Int))) * ((69621 : Int))))) ((2147483647 : Int))
 let stirred67 : Int := Int.fmod ((((stirred66 * ((16807 : Int))) + (((11 : Int)) * k51)) + ((5 : Int)))) ((2147483629 : Int))
 (tPush s50 (Int.fmod stirred67 ((65536 : Int)))).bind fun (draws68 : (List Int)) =>
 (tPush draws68 (Int.fmod ((Int.fdiv stirred67 ((65536 : Int)))) ((32768 : Int)))).bind fun (draws69 : (List Int)) =>
 R.ok (draws69))
def t14 (script48 : (List Int)) : R (List Int) :=
 let draws49 : (List Int) := ([] : List Int)
 (tRng1 (min ((63 : Int)) (((List.length script48 : Nat) : Int)))).bind fun (l93 : List Int) => (forR (t14_b1 script48) l93 draws49).bind fun (s87 : (List Int)) =>
 R.ok (s87)
theorem tm14 (k : Nat) (hk : 1 ≤ k) (script48 : (List Int)) : RE (evN rows k 14 [en script48]) (t14 script48) := evT (f := f14) (n := 6) (m := 1) (by omega) rfl rfl (by unfold f14; exact cv (k_seq (k_set (n_L (r_LstQ (r_nil (α := Int)) len_nil (by decide))) fun draws49 => k_seq (k_for (f := (t14_b1 script48)) (s0 := draws49) (fun (s50 : (List Int)) (ρ : Rho) => ∃ (e2 : Ent) (e3 : Ent) (e4 : Ent) (e5 : Ent), ρ = [.fz (en (script48 : (List Int))), .ol (List.map en (s50 : (List Int))), e2, e3, e4, e5]) (r_i1 (fun _ => o_rng1 _) (r_B2 (fun _ _ => (o_min2_i _ _)) (r_c (a := (63 : Int)) rfl) (r_B1 (fun _ => o_len_l _) (r_var rfl)))) (⟨_, _, _, _, rfl⟩) (fun k51 s50 ρ hP => by obtain ⟨e2, e3, e4, e5, rfl⟩ := hP; exact ⟨_, rfl, cv (k_seq (k_set (n_V (r_B1 (fun _ => o_abs_i _) (r_e2 (fun _ _ => (o_ix_l _ _)) (r_var rfl) (r_var rfl)))) fun rest71 => k_if (r_TB (r_e2 (fun _ _ => (o_ge_i _ _)) (r_var rfl) (r_e2ab (r_c (a := (10 : Int)) rfl) (r_c (a := (18 : Int)) rfl) (o_pow_c (c := 1000000000000000000) (by decide) (by decide))))) (k_for (f := (t14_b2 script48)) (s0 := (s50, rest71)) (fun (s72 : (List Int) × Int) (ρ : Rho) => ∃ (e4 : Ent) (e5x : Ent), ρ = [.fz (en (script48 : (List Int))), .ol (List.map en (s72.1 : (List Int))), .fz (en (k51 : Int)), .fz (en (s72.2 : Int)), e4, e5x]) (r_i1c 60 (r_c (a := (60 : Int)) rfl) (by decide)) (⟨_, _, rfl⟩) (fun turn73 s72 ρ hP => by obtain ⟨e4, e5x, rfl⟩ := hP; exact ⟨_, rfl, cv (k_if (r_TB (r_e2 (fun _ _ => (o_gt_i _ _)) (r_var rfl) (r_c (a := (0 : Int)) rfl))) (k_seq (k_app (l := s72.1) rfl (r_e2b (r_B1 (fun _ => o_int_i _) (r_var rfl)) (r_c (a := (65536 : Int)) rfl) (fun _ => o_mod_c (by decide) _)) fun draws77 => k_set (n_V (r_e2b (r_var rfl) (r_c (a := (65536 : Int)) rfl) (fun _ => o_fdiv_c (by decide) _))) fun rest78 => k_end (t := ((draws77, rest78))) ⟨_, rfl, ⟨_, _, rfl⟩⟩)) (k_nil (k_end (t := ((s72.1, s72.2))) ⟨_, rfl, ⟨_, _, rfl⟩⟩))) (by unfold t14_b2; first | (simp only [R.bok, R.bind_okf, R.bind_okg]; done) | (simp only [R.bok, R.bind_okf, R.bind_okg]; rfl) | rfl)⟩) (fun s79 ρ hP => by obtain ⟨e80, e81, rfl⟩ := hP; exact k_end (t := (s79.1)) ⟨_, rfl, ⟨_, _, _, _, rfl⟩⟩)) (k_seq (k_set (n_V (r_e2b (r_B1 (fun _ => o_int_i _) (r_e2 (fun _ _ => (o_add_i _ _)) (r_e2b (r_var rfl) (r_c (a := (48271 : Int)) rfl) (fun _ => o_mul_c2 (by decide) _)) (r_e2b (r_e2 (fun _ _ => (o_add_i _ _)) (r_var rfl) (r_c (a := (1 : Int)) rfl)) (r_c (a := (69621 : Int)) rfl) (fun _ => o_mul_c2 (by decide) _)))) (r_c (a := (2147483647 : Int)) rfl) (fun _ => o_mod_c (by decide) _))) fun stirred83 => k_seq (k_set (n_V (r_e2b (r_B1 (fun _ => o_int_i _) (r_e2 (fun _ _ => (o_add_i _ _)) (r_e2 (fun _ _ => (o_add_i _ _)) (r_e2b (r_var rfl) (r_c (a := (16807 : Int)) rfl) (fun _ => o_mul_c2 (by decide) _)) (r_e2a (r_c (a := (11 : Int)) rfl) (r_var rfl) (fun _ => o_mul_c1 (by decide) _))) (r_c (a := (5 : Int)) rfl))) (r_c (a := (2147483629 : Int)) rfl) (fun _ => o_mod_c (by decide) _))) fun stirred84 => k_seq (k_app (l := s50) rfl (r_e2b (r_B1 (fun _ => o_int_i _) (r_var rfl)) (r_c (a := (65536 : Int)) rfl) (fun _ => o_mod_c (by decide) _)) fun draws85 => k_app (l := draws85) rfl (r_e2b (r_B1 (fun _ => o_int_i _) (r_e2b (r_var rfl) (r_c (a := (65536 : Int)) rfl) (fun _ => o_fdiv_c (by decide) _))) (r_c (a := (32768 : Int)) rfl) (fun _ => o_mod_c (by decide) _)) fun draws86 => k_end (t := (draws86)) ⟨_, rfl, ⟨_, _, _, _, rfl⟩⟩)))))) (by unfold t14_b1; first | (simp only [R.bok, R.bind_okf, R.bind_okg]; done) | (simp only [R.bok, R.bind_okf, R.bind_okg]; rfl) | rfl)⟩) (fun s87 ρ hP => by obtain ⟨e88, e89, e90, e91, rfl⟩ := hP; exact k_frz (k_ret (t := fun a => a) (r_var rfl) fun _ => Or.inl rfl))))) (by unfold t14; first | (simp only [R.bok, R.bind_okf, R.bind_okg]; done) | (simp only [R.bok, R.bind_okf, R.bind_okg]; rfl) | rfl))
/-! _law_mix -/
def t15 (draws94 : (List Int)) (k95 : Int) (many96 : Int) : R Int :=
 let cell97 : Int := (0 : Int)
 ((if (decide ((((List.length draws94 : Nat) : Int)) > ((0 : Int)))) = true then
  (((tMod k95 (((List.length draws94 : Nat) : Int))).bind fun (x99 : Int) => tIx draws94 x99).bind fun (cell100 : Int) =>
 R.ok (cell100))
 else
  (R.ok (cell97))) : R (Int)).bind fun (s101 : Int) =>
 if (decide (k95 < (((List.length draws94 : Nat) : Int)))) = true then
  (tMod s101 many96)
 else
  (tMod ((Int.fdiv (((s101 * ((7919 : Int))) + (k95 * ((104729 : Int))))) ((3 : Int)))) many96)
theorem tm15 (k : Nat) (hk : 1 ≤ k) (draws94 : (List Int)) (k95 : Int) (many96 : Int) : RE (evN rows k 15 [en draws94, en k95, en many96]) (t15 draws94 k95 many96) := evT (f := f15) (n := 4) (m := 3) (by omega) rfl rfl (by unfold f15; exact cv (k_seq (k_set (n_V (r_c (a := (0 : Int)) rfl)) fun cell97 => k_seq (k_merge (P := (fun (s98 : Int) (ρ : Rho) => ρ = [.fz (en (draws94 : (List Int))), .fz (en (k95 : Int)), .fz (en (many96 : Int)), .fz (en (s98 : Int))])) (k_if (r_TB (r_e2 (fun _ _ => (o_gt_i _ _)) (r_B1 (fun _ => o_len_l _) (r_var rfl)) (r_c (a := (0 : Int)) rfl))) (k_set (n_V (r_e2 (fun _ _ => (o_ix_l _ _)) (r_var rfl) (r_e2 (fun _ _ => (o_mod_i _ _)) (r_B1 (fun _ => o_int_i _) (r_var rfl)) (r_B1 (fun _ => o_len_l _) (r_var rfl))))) fun cell100 => k_end (t := (cell100)) ⟨_, rfl, rfl⟩) (k_nil (k_end (t := (cell97)) ⟨_, rfl, rfl⟩))) (fun s101 ρ hP => by cases hP; exact k_seq (k_if (r_TB (r_e2 (fun _ _ => (o_lt_i _ _)) (r_var rfl) (r_B1 (fun _ => o_len_l _) (r_var rfl)))) (k_retM (r_e2 (fun _ _ => (o_mod_i _ _)) (r_B1 (fun _ => o_int_i _) (r_var rfl)) (r_var rfl)) fun _ => Or.inl rfl) (k_nil (k_retM (r_e2 (fun _ _ => (o_mod_i _ _)) (r_B1 (fun _ => o_int_i _) (r_e2b (r_B1 (fun _ => o_int_i _) (r_e2 (fun _ _ => (o_add_i _ _)) (r_e2b (r_var rfl) (r_c (a := (7919 : Int)) rfl) (fun _ => o_mul_c2 (by decide) _)) (r_e2b (r_var rfl) (r_c (a := (104729 : Int)) rfl) (fun _ => o_mul_c2 (by decide) _)))) (r_c (a := (3 : Int)) rfl) (fun _ => o_fdiv_c (by decide) _))) (r_var rfl)) fun _ => Or.inl rfl))))))) (by unfold t15; first | (simp only [R.bok, R.bind_okf, R.bind_okg]; done) | (simp only [R.bok, R.bind_okf, R.bind_okg]; rfl) | rfl))
/-! _law_text -/
def t16 (draws102 : (List Int)) (k103 : Int) (size104 : Int) (signs105 : Tx) : R Tx :=
 ((tRng1 size104).bind fun (l108 : List Int) => tMapR (fun (t106 : Int) => ((t15 draws102 (k103 + t106) (((List.length signs105 : Nat) : Int))).bind fun (x107 : Int) => (tIx signs105 x107).bind fun c => R.ok [c] : R Tx)) l108).bind fun (x109 : (List Tx)) => tJoin ((cs [])) x109
theorem tm16 (k : Nat) (hk : 2 ≤ k) (draws102 : (List Int)) (k103 : Int) (size104 : Int) (signs105 : Tx) : RE (evN rows k 16 [en draws102, en k103, en size104, en signs105]) (t16 draws102 k103 size104 signs105) := evT (f := f16) (n := 5) (m := 4) (by omega) rfl rfl (by unfold f16; exact cv (k_retM (r_M1 isS_en (fun _ _ => (o_join _ _)) (r_c sx0) (r_LcM2 (r_i1 (fun _ => o_rng1 _) (r_var rfl)) fun t106 => ⟨_, rfl, (r_e2 (fun _ _ => (o_ix_s _ _)) (r_var rfl) (r_call3 (fun _ _ _ => tm15 (k - 1) (by omega) _ _ _) (r_var rfl) (r_e2 (fun _ _ => (o_add_i _ _)) (r_var rfl) (r_var rfl)) (r_B1 (fun _ => o_len_s _) (r_var rfl))))⟩)) fun _ => Or.inl rfl) (by unfold t16; first | (simp only [R.bok, R.bind_okf, R.bind_okg]; done) | (simp only [R.bok, R.bind_okf, R.bind_okg]; rfl) | rfl))
/-! _law_list -/
def t17_b1 (draws118 : (List Int)) (k119 : Int) (sizes120 : (List Int)) (signs121 : Tx) (s116 : (List Tx)) (t117 : Int) : R ((List Tx)) :=
 let at_122 : Int := k119 + (((11 : Int)) * t117)
 (((t15 draws118 (at_122 + ((8 : Int))) (((List.length sizes120 : Nat) : Int))).bind fun (x123 : Int) => tIx sizes120 x123).bind fun (x124 : Int) => t16 draws118 at_122 x124 signs121).bind fun (text125 : Tx) =>
 (((if ((!decide (s116 = (([] : List Tx))))) = true then (t15 draws118 (at_122 + ((9 : Int))) ((2 : Int))).bind fun (x127 : Int) => R.ok (decide (x127 = ((0 : Int)))) else R.ok false)).bind fun (b139 : Bool) => (if b139 = true then
  (((t15 draws118 (at_122 + ((10 : Int))) (((List.length s116 : Nat) : Int))).bind fun (x129 : Int) => tIx s116 x129).bind fun (old130 : Tx) =>
 (((t15 draws118 (at_122 + ((9 : Int))) (((List.length old130 : Nat) : Int))).bind fun (x131 : Int) => R.ok (x131 :: (((((List.length old130 : Nat) : Int)) - ((1 : Int))) :: (([] : List Int))))).bind fun (x132 : (List Int)) => (t15 draws118 (at_122 + ((10 : Int))) ((2 : Int))).bind fun (x133 : Int) => tIx x132 x133).bind fun (spot134 : Int) =>
 ((((t15 draws118 (at_122 + ((8 : Int))) (((List.length signs121 : Nat) : Int))).bind fun (x135 : Int) => (tIx signs121 x135).bind fun c => R.ok [c]).bind fun (x136 : Tx) => tCat (cutL old130 none (some spot134)) x136).bind fun (x137 : Tx) => tCat x137 (cutL old130 (some (spot134 + ((1 : Int)))) none)).bind fun (text138 : Tx) =>
 R.ok (text138))
 else
  (R.ok (text125))) : R (Tx)).bind fun (s140 : Tx) =>
 (tPush s116 s140).bind fun (found143 : (List Tx)) =>
 R.ok (found143)
def t17 (draws110 : (List Int)) (k111 : Int) (many112 : Int) (sizes113 : (List Int)) (signs114 : Tx) : R (List Tx) :=
 let found115 : (List Tx) := ([] : List Tx)
 (tRng1 many112).bind fun (l173 : List Int) => (forR (t17_b1 draws110 k111 sizes113 signs114) l173 found115).bind fun (s166 : (List Tx)) =>
 tSortSet s166
theorem tm17 (k : Nat) (hk : 3 ≤ k) (draws110 : (List Int)) (k111 : Int) (many112 : Int) (sizes113 : (List Int)) (signs114 : Tx) : RE (evN rows k 17 [en draws110, en k111, en many112, en sizes113, en signs114]) (t17 draws110 k111 many112 sizes113 signs114) := evT (f := f17) (n := 11) (m := 5) (by omega) rfl rfl (by unfold f17; exact cv (k_seq (k_set (n_L (r_LstQ (r_nil (α := Tx)) len_nil (by decide))) fun found115 => k_seq (k_for (f := (t17_b1 draws110 k111 sizes113 signs114)) (s0 := found115) (fun (s116 : (List Tx)) (ρ : Rho) => ∃ (e6 : Ent) (e7 : Ent) (e8 : Ent) (e9 : Ent) (e10 : Ent), ρ = [.fz (en (draws110 : (List Int))), .fz (en (k111 : Int)), .fz (en (many112 : Int)), .fz (en (sizes113 : (List Int))), .fz (en (signs114 : Tx)), .ol (List.map en (s116 : (List Tx))), e6, e7, e8, e9, e10]) (r_i1 (fun _ => o_rng1 _) (r_var rfl)) (⟨_, _, _, _, _, rfl⟩) (fun t117 s116 ρ hP => by obtain ⟨e6, e7, e8, e9, e10, rfl⟩ := hP; exact ⟨_, rfl, cv (k_seq (k_set (n_V (r_e2 (fun _ _ => (o_add_i _ _)) (r_var rfl) (r_e2a (r_c (a := (11 : Int)) rfl) (r_var rfl) (fun _ => o_mul_c1 (by decide) _)))) fun at_144 => k_seq (k_set (n_V (r_call4 (fun _ _ _ _ => tm16 (k - 1) (by omega) _ _ _ _) (r_var rfl) (r_var rfl) (r_e2 (fun _ _ => (o_ix_l _ _)) (r_var rfl) (r_call3 (fun _ _ _ => tm15 (k - 1) (by omega) _ _ _) (r_var rfl) (r_e2 (fun _ _ => (o_add_i _ _)) (r_var rfl) (r_c (a := (8 : Int)) rfl)) (r_B1 (fun _ => o_len_l _) (r_var rfl)))) (r_var rfl))) fun text147 => k_seq (k_merge (P := (fun (s150 : Tx) (ρ : Rho) => ∃ (e9 : Ent) (e10 : Ent), ρ = [.fz (en (draws110 : (List Int))), .fz (en (k111 : Int)), .fz (en (many112 : Int)), .fz (en (sizes113 : (List Int))), .fz (en (signs114 : Tx)), .ol (List.map en (s116 : (List Tx))), .fz (en (t117 : Int)), .fz (en (at_144 : Int)), .fz (en (s150 : Tx)), e9, e10])) (k_if (r_TAnd (r_TB (r_e2 (fun _ _ => (o_ne (by decide) _ _)) (r_borL rfl) (r_LstQ (r_nil (α := Tx)) len_nil (by decide)))) (r_TB (r_e2 (fun _ _ => (o_eq (by decide) _ _)) (r_call3 (fun _ _ _ => tm15 (k - 1) (by omega) _ _ _) (r_var rfl) (r_e2 (fun _ _ => (o_add_i _ _)) (r_var rfl) (r_c (a := (9 : Int)) rfl)) (r_c (a := (2 : Int)) rfl)) (r_c (a := (0 : Int)) rfl)))) (k_seq (k_set (n_V (r_e2 (fun _ _ => (o_ix_l _ _)) (r_borL rfl) (r_call3 (fun _ _ _ => tm15 (k - 1) (by omega) _ _ _) (r_var rfl) (r_e2 (fun _ _ => (o_add_i _ _)) (r_var rfl) (r_c (a := (10 : Int)) rfl)) (r_B1 (fun _ => o_len_l _) (r_borL rfl))))) fun old152 => k_seq (k_set (n_V (r_e2 (fun _ _ => (o_ix_l _ _)) (r_LstQ (r_cons (r_call3 (fun _ _ _ => tm15 (k - 1) (by omega) _ _ _) (r_var rfl) (r_e2 (fun _ _ => (o_add_i _ _)) (r_var rfl) (r_c (a := (9 : Int)) rfl)) (r_B1 (fun _ => o_len_s _) (r_var rfl))) (r_cons (r_e2 (fun _ _ => (o_sub_i _ _)) (r_B1 (fun _ => o_len_s _) (r_var rfl)) (r_c (a := (1 : Int)) rfl)) (r_nil (α := Int)))) (len_cons (len_cons len_nil)) (by decide)) (r_call3 (fun _ _ _ => tm15 (k - 1) (by omega) _ _ _) (r_var rfl) (r_e2 (fun _ _ => (o_add_i _ _)) (r_var rfl) (r_c (a := (10 : Int)) rfl)) (r_c (a := (2 : Int)) rfl)))) fun spot156 => k_set (n_V (r_e2 (fun _ _ => (o_add_s _ _)) (r_e2 (fun _ _ => (o_add_s _ _)) (r_Cut (fun _ _ _ => o_cut_s _ _ _) (r_var rfl) r_oN (r_oS (r_var rfl))) (r_e2 (fun _ _ => (o_ix_s _ _)) (r_var rfl) (r_call3 (fun _ _ _ => tm15 (k - 1) (by omega) _ _ _) (r_var rfl) (r_e2 (fun _ _ => (o_add_i _ _)) (r_var rfl) (r_c (a := (8 : Int)) rfl)) (r_B1 (fun _ => o_len_s _) (r_var rfl))))) (r_Cut (fun _ _ _ => o_cut_s _ _ _) (r_var rfl) (r_oS (r_e2 (fun _ _ => (o_add_i _ _)) (r_var rfl) (r_c (a := (1 : Int)) rfl))) r_oN))) fun text160 => k_end (t := (text160)) ⟨_, rfl, ⟨_, _, rfl⟩⟩))) (k_nil (k_end (t := (text147)) ⟨_, rfl, ⟨_, _, rfl⟩⟩))) (fun s162 ρ hP => by obtain ⟨e163, e164, rfl⟩ := hP; exact k_app (l := s116) rfl (r_var rfl) fun found165 => k_end (t := (found165)) ⟨_, rfl, ⟨_, _, _, _, _, rfl⟩⟩))))) (by unfold t17_b1; first | (simp only [R.bok, R.bind_okf, R.bind_okg]; done) | (simp only [R.bok, R.bind_okf, R.bind_okg]; rfl) | rfl)⟩) (fun s166 ρ hP => by obtain ⟨e167, e168, e169, e170, e171, rfl⟩ := hP; exact k_retM (r_e1 (fun _ => o_sortset_l _) (r_borL rfl)) fun _ => Or.inl rfl)))) (by unfold t17; first | (simp only [R.bok, R.bind_okf, R.bind_okg]; done) | (simp only [R.bok, R.bind_okf, R.bind_okg]; rfl) | rfl))
/-! _law_pattern -/
def t18_b1 (text178 : Tx) (s176 : (List Int)) (t177 : Int) : R ((List Int)) :=
 (((tIx text178 t177).bind fun c => R.ok [c]).bind fun (x179 : Tx) => tIndexS text178 x179).bind fun (first180 : Int) =>
 (tLenSet (lts (cutL text178 none (some first180)))).bind fun (x182 : Int) => (tPush s176 x182).bind fun (found181 : (List Int)) =>
 R.ok (found181)
def t18 (text174 : Tx) : R (Tu Int) :=
 let found175 : (List Int) := ([] : List Int)
 (tRng1 (((List.length text174 : Nat) : Int))).bind fun (l191 : List Int) => (forR (t18_b1 text174) l191 found175).bind fun (s187 : (List Int)) =>
 R.ok (Tu.mk s187)
theorem tm18 (k : Nat) (hk : 1 ≤ k) (text174 : Tx) : RE (evN rows k 18 [en text174]) (t18 text174) := evT (f := f18) (n := 4) (m := 1) (by omega) rfl rfl (by unfold f18; exact cv (k_seq (k_set (n_L (r_LstQ (r_nil (α := Int)) len_nil (by decide))) fun found175 => k_seq (k_for (f := (t18_b1 text174)) (s0 := found175) (fun (s176 : (List Int)) (ρ : Rho) => ∃ (e2 : Ent) (e3 : Ent), ρ = [.fz (en (text174 : Tx)), .ol (List.map en (s176 : (List Int))), e2, e3]) (r_i1 (fun _ => o_rng1 _) (r_B1 (fun _ => o_len_s _) (r_var rfl))) (⟨_, _, rfl⟩) (fun t177 s176 ρ hP => by obtain ⟨e2, e3, rfl⟩ := hP; exact ⟨_, rfl, cv (k_seq (k_set (n_V (r_MB isLS_en (fun _ _ => (o_index_s _ _)) (r_var rfl) (r_e2 (fun _ _ => (o_ix_s _ _)) (r_var rfl) (r_var rfl)))) fun first184 => k_app (l := s176) rfl (r_e1 (fun _ => o_lenset_s _) (r_Cut (fun _ _ _ => o_cut_s _ _ _) (r_var rfl) r_oN (r_oS (r_var rfl)))) fun found185 => k_end (t := (found185)) ⟨_, rfl, ⟨_, _, rfl⟩⟩)) (by unfold t18_b1; first | (simp only [R.bok, R.bind_okf, R.bind_okg]; done) | (simp only [R.bok, R.bind_okf, R.bind_okg]; rfl) | rfl)⟩) (fun s187 ρ hP => by obtain ⟨e188, e189, rfl⟩ := hP; exact k_ret (t := fun a => a) (r_B1 (fun _ => o_tuple _) (r_borL rfl)) fun _ => Or.inl rfl)))) (by unfold t18; first | (simp only [R.bok, R.bind_okf, R.bind_okg]; done) | (simp only [R.bok, R.bind_okf, R.bind_okg]; rfl) | rfl))
/-! _law_is_pattern -/
def t19 (told192 : (Tu Int)) : R Bool :=
 if (decide (told192 = (Tu.mk (([] : List Int))))) = true then
  (R.ok (false))
 else
  (((tRng1 (((List.length (Tu.l told192) : Nat) : Int))).bind fun (l199 : List Int) => tLcR (fun (t193 : Int) => (((tIx (Tu.l told192) t193).bind fun (x196 : Int) => (if (decide (((0 : Int)) ≤ x196)) = true then (((tAppT (Tu.mk ((-((1 : Int))) :: (([] : List Int)))) (Tu.mk (cutL (Tu.l told192) none (some t193)))).bind fun (x194 : (Tu Int)) => ofO (lMax (Tu.l x194))).bind fun (x195 : Int) => R.ok (x195 + ((1 : Int)))).bind fun (z197 : Int) => R.ok (decide (x196 ≤ z197)) else R.ok false)).bind fun (b198 : Bool) => R.ok (!b198) : R Bool)) (fun (t193 : Int) => (R.ok (t193) : R Int)) l199).bind fun (x200 : (List Int)) => R.ok (decide (x200 = (([] : List Int)))))
theorem tm19 (k : Nat) (hk : 1 ≤ k) (told192 : (Tu Int)) : RE (evN rows k 19 [en told192]) (t19 told192) := evT (f := f19) (n := 2) (m := 1) (by omega) rfl rfl (by unfold f19; exact cv (k_seq (k_if (r_TB (r_e2 (fun _ _ => (o_eq (by decide) _ _)) (r_var rfl) (r_TupQ (r_nil (α := Int)) len_nil (by decide)))) (k_ret (t := fun a => a) (r_c (a := false) rfl) fun _ => Or.inl rfl) (k_nil (k_retM (r_e2 (fun _ _ => (o_eq (by decide) _ _)) (r_Lc2 (r_i1 (fun _ => o_rng1 _) (r_B1 (fun _ => o_len_t _) (r_var rfl))) fun t193 => ⟨_, rfl, (r_TNot (r_TB (r_Chain (fun _ _ => o_le_i _ _) (fun _ _ => o_le_i _ _) (r_c (a := (0 : Int)) rfl) (r_e2 (fun _ _ => (o_ix_t _ _)) (r_var rfl) (r_var rfl)) (r_e2 (fun _ _ => (o_add_i _ _)) (r_B1 (fun _ => o_max_t _) (r_e2 (fun _ _ => (o_add_t _ _)) (r_TupQ (r_cons (r_e1 (fun _ => o_neg_i _) (r_c (a := (1 : Int)) rfl)) (r_nil (α := Int))) (len_cons len_nil) (by decide)) (r_Cut (fun _ _ _ => o_cut_t _ _ _) (r_var rfl) r_oN (r_oS (r_var rfl))))) (r_c (a := (1 : Int)) rfl))))), (r_var rfl)⟩) (r_LstQ (r_nil (α := Int)) len_nil (by decide))) fun _ => Or.inl rfl)))) (by unfold t19; first | (simp only [R.bok, R.bind_okf, R.bind_okg]; done) | (simp only [R.bok, R.bind_okf, R.bind_okg]; rfl) | rfl))
/-! _law_all -/
def t20_b2  (s206 : (List (Tu Int))) (row207 : (Tu Int)) : R ((List (Tu Int))) :=
 ((((((tAppT (Tu.mk ((-((1 : Int))) :: (([] : List Int)))) row207).bind fun (x208 : (Tu Int)) => ofO (lMax (Tu.l x208))).bind fun (x209 : Int) => R.ok (x209 + ((2 : Int)))).bind fun (x210 : Int) => tRng1 x210).bind fun (l212 : List Int) => tMapR (fun (number211 : Int) => (tAppT row207 (Tu.mk (number211 :: (([] : List Int)))) : R (Tu Int))) l212).bind fun (x213 : (List (Tu Int))) => tApp s206 x213).bind fun (more214 : (List (Tu Int))) =>
 R.ok (more214)
def t20_b1  (s203 : (List (Tu Int))) (turn204 : Int) : R ((List (Tu Int))) :=
 let more205 : (List (Tu Int)) := ([] : List (Tu Int))
 (forR t20_b2 s203 more205).bind fun (s222 : (List (Tu Int))) =>
 let found224 : (List (Tu Int)) := s222
 R.ok (found224)
def t20 (length201 : Int) : R (List (Tu Int)) :=
 let found202 : (List (Tu Int)) := (Tu.mk (([] : List Int))) :: (([] : List (Tu Int)))
 (tRng1 length201).bind fun (l252 : List Int) => (forR t20_b1 l252 found202).bind fun (s247 : (List (Tu Int))) =>
 R.ok (s247)
theorem tm20 (k : Nat) (hk : 1 ≤ k) (length201 : Int) : RE (evN rows k 20 [en length201]) (t20 length201) := evT (f := f20) (n := 6) (m := 1) (by omega) rfl rfl (by unfold f20; exact cv (k_seq (k_set (n_V (r_LstQ (r_cons (r_TupQ (r_nil (α := Int)) len_nil (by decide)) (r_nil (α := (Tu Int)))) (len_cons len_nil) (by decide))) fun found202 => k_seq (k_for (f := t20_b1) (s0 := found202) (fun (s203 : (List (Tu Int))) (ρ : Rho) => ∃ (e2 : Ent) (e3 : Ent) (e4 : Ent), ρ = [.fz (en (length201 : Int)), .fz (en (s203 : (List (Tu Int)))), e2, e3, e4, .no]) (r_i1 (fun _ => o_rng1 _) (r_var rfl)) (⟨_, _, _, rfl⟩) (fun turn204 s203 ρ hP => by obtain ⟨e2, e3, e4, rfl⟩ := hP; exact ⟨_, rfl, cv (k_seq (k_set (n_V (r_LstQ (r_nil (α := (Tu Int))) len_nil (by decide))) fun more226 => k_seq (k_for (f := t20_b2) (s0 := more226) (fun (s227 : (List (Tu Int))) (ρ : Rho) => ∃ (e4 : Ent), ρ = [.fz (en (length201 : Int)), .fz (en (s203 : (List (Tu Int)))), .fz (en (turn204 : Int)), .fz (en (s227 : (List (Tu Int)))), e4, .no]) (r_iVal (fun _ => o_iter_l _) (r_var rfl)) (⟨_, rfl⟩) (fun row228 s227 ρ hP => by obtain ⟨e4, rfl⟩ := hP; exact ⟨_, rfl, cv (k_set (n_V (r_e2 (fun _ _ => (o_add_l _ _)) (r_var rfl) (r_LcM2 (r_i1 (fun _ => o_rng1 _) (r_e2 (fun _ _ => (o_add_i _ _)) (r_B1 (fun _ => o_max_t _) (r_e2 (fun _ _ => (o_add_t _ _)) (r_TupQ (r_cons (r_e1 (fun _ => o_neg_i _) (r_c (a := (1 : Int)) rfl)) (r_nil (α := Int))) (len_cons len_nil) (by decide)) (r_var rfl))) (r_c (a := (2 : Int)) rfl))) fun number239 => ⟨_, rfl, (r_e2 (fun _ _ => (o_add_t _ _)) (r_var rfl) (r_TupQ (r_cons (r_var rfl) (r_nil (α := Int))) (len_cons len_nil) (by decide)))⟩))) fun more242 => k_end (t := (more242)) ⟨_, rfl, ⟨_, rfl⟩⟩) (by unfold t20_b2; first | (simp only [R.bok, R.bind_okf, R.bind_okg]; done) | (simp only [R.bok, R.bind_okf, R.bind_okg]; rfl) | rfl)⟩) (fun s243 ρ hP => by obtain ⟨e244, rfl⟩ := hP; exact k_set (n_V (r_var rfl)) fun found245 => k_end (t := (found245)) ⟨_, rfl, ⟨_, _, _, rfl⟩⟩)))) (by unfold t20_b1; first | (simp only [R.bok, R.bind_okf, R.bind_okg]; done) | (simp only [R.bok, R.bind_okf, R.bind_okg]; rfl) | rfl)⟩) (fun s247 ρ hP => by obtain ⟨e248, e249, e250, rfl⟩ := hP; exact k_ret (t := fun a => a) (r_var rfl) fun _ => Or.inl rfl)))) (by unfold t20; first | (simp only [R.bok, R.bind_okf, R.bind_okg]; done) | (simp only [R.bok, R.bind_okf, R.bind_okg]; rfl) | rfl))
/-! _law_bell -/
def t21_b2  (s259 : (List Int)) (one260 : Int) : R ((List Int)) :=
 ((tIx s259 (-((1 : Int)))).bind fun (x261 : Int) => R.ok (x261 + one260)).bind fun (x263 : Int) => (tPush s259 x263).bind fun (more262 : (List Int)) =>
 R.ok (more262)
def t21_b1  (s255 : (List Int)) (turn256 : Int) : R ((List Int)) :=
 ((tIx s255 (-((1 : Int)))).bind fun (x257 : Int) => R.ok (x257 :: (([] : List Int)))).bind fun (more258 : (List Int)) =>
 (forR t21_b2 s255 more258).bind fun (s267 : (List Int)) =>
 let row269 : (List Int) := s267
 R.ok (row269)
def t21 (length253 : Int) : R Int :=
 let row254 : (List Int) := ((1 : Int)) :: (([] : List Int))
 (tRng1 length253).bind fun (l290 : List Int) => (forR t21_b1 l290 row254).bind fun (s285 : (List Int)) =>
 tIx s285 ((0 : Int))
theorem tm21 (k : Nat) (hk : 1 ≤ k) (length253 : Int) : RE (evN rows k 21 [en length253]) (t21 length253) := evT (f := f21) (n := 5) (m := 1) (by omega) rfl rfl (by unfold f21; exact cv (k_seq (k_set (n_V (r_LstQ (r_cons (r_c (a := (1 : Int)) rfl) (r_nil (α := Int))) (len_cons len_nil) (by decide))) fun row254 => k_seq (k_for (f := t21_b1) (s0 := row254) (fun (s255 : (List Int)) (ρ : Rho) => ∃ (e2 : Ent) (e3 : Ent) (e4 : Ent), ρ = [.fz (en (length253 : Int)), .fz (en (s255 : (List Int))), e2, e3, e4]) (r_i1 (fun _ => o_rng1 _) (r_var rfl)) (⟨_, _, _, rfl⟩) (fun turn256 s255 ρ hP => by obtain ⟨e2, e3, e4, rfl⟩ := hP; exact ⟨_, rfl, cv (k_seq (k_set (n_L (r_LstQ (r_cons (r_e2 (fun _ _ => (o_ix_l _ _)) (r_var rfl) (r_e1 (fun _ => o_neg_i _) (r_c (a := (1 : Int)) rfl))) (r_nil (α := Int))) (len_cons len_nil) (by decide))) fun more272 => k_seq (k_for (f := t21_b2) (s0 := more272) (fun (s273 : (List Int)) (ρ : Rho) => ∃ (e4 : Ent), ρ = [.fz (en (length253 : Int)), .fz (en (s255 : (List Int))), .fz (en (turn256 : Int)), .ol (List.map en (s273 : (List Int))), e4]) (r_iVal (fun _ => o_iter_l _) (r_var rfl)) (⟨_, rfl⟩) (fun one274 s273 ρ hP => by obtain ⟨e4, rfl⟩ := hP; exact ⟨_, rfl, cv (k_app (l := s273) rfl (r_e2 (fun _ _ => (o_add_i _ _)) (r_e2 (fun _ _ => (o_ix_l _ _)) (r_borL rfl) (r_e1 (fun _ => o_neg_i _) (r_c (a := (1 : Int)) rfl))) (r_var rfl)) fun more279 => k_end (t := (more279)) ⟨_, rfl, ⟨_, rfl⟩⟩) (by unfold t21_b2; first | (simp only [R.bok, R.bind_okf, R.bind_okg]; done) | (simp only [R.bok, R.bind_okf, R.bind_okg]; rfl) | rfl)⟩) (fun s281 ρ hP => by obtain ⟨e282, rfl⟩ := hP; exact k_frz (k_set (n_V (r_var rfl)) fun row283 => k_end (t := (row283)) ⟨_, rfl, ⟨_, _, _, rfl⟩⟩))))) (by unfold t21_b1; first | (simp only [R.bok, R.bind_okf, R.bind_okg]; done) | (simp only [R.bok, R.bind_okf, R.bind_okg]; rfl) | rfl)⟩) (fun s285 ρ hP => by obtain ⟨e286, e287, e288, rfl⟩ := hP; exact k_retM (r_e2 (fun _ _ => (o_ix_l _ _)) (r_var rfl) (r_c (a := (0 : Int)) rfl)) fun _ => Or.inl rfl)))) (by unfold t21; first | (simp only [R.bok, R.bind_okf, R.bind_okg]; done) | (simp only [R.bok, R.bind_okf, R.bind_okg]; rfl) | rfl))
/-! _law_exchanged -/
def t22 (one291 : Tx) (two292 : Tx) : R Bool :=
 if ((!decide ((((List.length one291 : Nat) : Int)) = (((List.length two292 : Nat) : Int))))) = true then
  (R.ok (false))
 else
  ((((tRng1 (((List.length one291 : Nat) : Int))).bind fun (l296 : List Int) => tMapR (fun (t293 : Int) => (((tIx one291 t293).bind fun c => R.ok [c]).bind fun (x294 : Tx) => ((tIx two292 t293).bind fun c => R.ok [c]).bind fun (x295 : Tx) => R.ok ((x294, x295)) : R (Tx × Tx))) l296).bind fun (x297 : (List (Tx × Tx))) => tSortSet x297).bind fun (pairs298 : (List (Tx × Tx))) =>
 (((tMap (fun (p299 : (Tx × Tx)) => (p299.1 : Tx)) pairs298).bind fun (x300 : (List Tx)) => tLenSet x300).bind fun (x301 : Int) => R.ok (decide (x301 = (((List.length pairs298 : Nat) : Int))))).bind fun (x305 : Bool) => (if Tr.tr x305 = true then ((tMap (fun (p302 : (Tx × Tx)) => (p302.2 : Tx)) pairs298).bind fun (x303 : (List Tx)) => tLenSet x303).bind fun (x304 : Int) => R.ok (decide (x304 = (((List.length pairs298 : Nat) : Int)))) else R.ok x305))
theorem tm22 (k : Nat) (hk : 1 ≤ k) (one291 : Tx) (two292 : Tx) : RE (evN rows k 22 [en one291, en two292]) (t22 one291 two292) := evT (f := f22) (n := 6) (m := 2) (by omega) rfl rfl (by unfold f22; exact cv (k_seq (k_if (r_TB (r_e2 (fun _ _ => (o_ne (by decide) _ _)) (r_B1 (fun _ => o_len_s _) (r_var rfl)) (r_B1 (fun _ => o_len_s _) (r_var rfl)))) (k_ret (t := fun a => a) (r_c (a := false) rfl) fun _ => Or.inl rfl) (k_nil (k_seq (k_set (n_V (r_e1 (fun _ => o_sortset_l _) (r_LcM2 (r_i1 (fun _ => o_rng1 _) (r_B1 (fun _ => o_len_s _) (r_var rfl))) fun t293 => ⟨_, rfl, (r_Tup2 (r_e2 (fun _ _ => (o_ix_s _ _)) (r_var rfl) (r_var rfl)) (r_e2 (fun _ _ => (o_ix_s _ _)) (r_var rfl) (r_var rfl)))⟩))) fun pairs298 => k_retM (r_And (r_e2 (fun _ _ => (o_eq (by decide) _ _)) (r_e1 (fun _ => o_lenset_l _) (r_LcP (g := fun (p299 : (Tx × Tx)) => (p299.1 : Tx)) (r_iVal (fun _ => o_iter_l _) (r_var rfl)) fun p299 => ⟨_, rfl, (r_var rfl)⟩)) (r_B1 (fun _ => o_len_l _) (r_var rfl))) (r_e2 (fun _ _ => (o_eq (by decide) _ _)) (r_e1 (fun _ => o_lenset_l _) (r_LcP (g := fun (p302 : (Tx × Tx)) => (p302.2 : Tx)) (r_iVal (fun _ => o_iter_l _) (r_var rfl)) fun p302 => ⟨_, rfl, (r_var rfl)⟩)) (r_B1 (fun _ => o_len_l _) (r_var rfl)))) fun _ => Or.inl rfl))))) (by unfold t22; first | (simp only [R.bok, R.bind_okf, R.bind_okg]; done) | (simp only [R.bok, R.bind_okf, R.bind_okg]; rfl) | rfl))
/-! _law_words -/
def t23_b1 (signs311 : Tx) (s309 : (List Tx)) (turn310 : Int) : R ((List Tx)) :=
 ((tMapR (fun (text312 : Tx) => (tMapR (fun (sign313 : Tx) => (tCat text312 sign313 : R Tx)) (lts signs311) : R (List Tx))) s309).bind fun (x314 : (List (List Tx))) => tSum2 x314 (([] : List Tx))).bind fun (found315 : (List Tx)) =>
 R.ok (found315)
def t23 (length306 : Int) (signs307 : Tx) : R (List Tx) :=
 let found308 : (List Tx) := ((cs [])) :: (([] : List Tx))
 (tRng1 length306).bind fun (l323 : List Int) => (forR (t23_b1 signs307) l323 found308).bind fun (s320 : (List Tx)) =>
 R.ok (s320)
theorem tm23 (k : Nat) (hk : 1 ≤ k) (length306 : Int) (signs307 : Tx) : RE (evN rows k 23 [en length306, en signs307]) (t23 length306 signs307) := evT (f := f23) (n := 6) (m := 2) (by omega) rfl rfl (by unfold f23; exact cv (k_seq (k_set (n_V (r_LstQ (r_cons (r_c sx0) (r_nil (α := Tx))) (len_cons len_nil) (by decide))) fun found308 => k_seq (k_for (f := (t23_b1 signs307)) (s0 := found308) (fun (s309 : (List Tx)) (ρ : Rho) => ∃ (e3 : Ent), ρ = [.fz (en (length306 : Int)), .fz (en (signs307 : Tx)), .fz (en (s309 : (List Tx))), e3, .no, .no]) (r_i1 (fun _ => o_rng1 _) (r_var rfl)) (⟨_, rfl⟩) (fun turn310 s309 ρ hP => by obtain ⟨e3, rfl⟩ := hP; exact ⟨_, rfl, cv (k_set (n_V (r_B2 (fun _ _ => (o_sum2 _ _)) (r_LcM2 (r_iVal (fun _ => o_iter_l _) (r_var rfl)) fun text316 => ⟨_, rfl, (r_LcM2 (r_iVal (fun _ => o_iter_s _) (r_var rfl)) fun sign317 => ⟨_, rfl, (r_e2 (fun _ _ => (o_add_s _ _)) (r_var rfl) (r_var rfl))⟩)⟩) (r_LstQ (r_nil (α := Tx)) len_nil (by decide)))) fun found319 => k_end (t := (found319)) ⟨_, rfl, ⟨_, rfl⟩⟩) (by unfold t23_b1; first | (simp only [R.bok, R.bind_okf, R.bind_okg]; done) | (simp only [R.bok, R.bind_okf, R.bind_okg]; rfl) | rfl)⟩) (fun s320 ρ hP => by obtain ⟨e321, rfl⟩ := hP; exact k_ret (t := fun a => a) (r_var rfl) fun _ => Or.inl rfl)))) (by unfold t23; first | (simp only [R.bok, R.bind_okf, R.bind_okg]; done) | (simp only [R.bok, R.bind_okf, R.bind_okg]; rfl) | rfl))
/-! _law_refused -/
def t24 (k : Nat) (which324 : Int) (one325 : D) (two326 : D) : R (Option (Tx × Int)) :=
 tryR (β := (Option (Tx × Int))) [(2, "word"), (1, "size"), (3, "pattern"), (0, "range")] (if (decide (which324 = ((0 : Int)))) = true then
  (((dc (α := Tx) one325).bind fun (x328 : Tx) => (evN rows (k - 1) 4 [en (x328 : Tx)]).bind (dc (α := (Tu Int)))).bind fun (_ : (Tu Int)) =>
 R.ok (()))
 else
  (if (decide (which324 = ((1 : Int)))) = true then
  (((dc (α := Tx) one325).bind fun (x329 : Tx) => (dc (α := Tx) two326).bind fun (x330 : Tx) => (evN rows (k - 1) 5 [en (x329 : Tx), en (x330 : Tx)]).bind (dc (α := Bool))).bind fun (_ : Bool) =>
 R.ok (()))
 else
  (if (decide (which324 = ((2 : Int)))) = true then
  ((evN rows (k - 1) 7 [one325]).bind fun (_ : D) =>
 R.ok (()))
 else
  (if (decide (which324 = ((3 : Int)))) = true then
  (((dc (α := Int) one325).bind fun (x331 : Int) => (evN rows (k - 1) 9 [en (x331 : Int)]).bind (dc (α := Int))).bind fun (_ : Int) =>
 R.ok (()))
 else
  (if (decide (which324 = ((4 : Int)))) = true then
  (((dc (α := (Tu Int)) one325).bind fun (x332 : (Tu Int)) => (evN rows (k - 1) 11 [en (x332 : (Tu Int))]).bind (dc (α := Int))).bind fun (_ : Int) =>
 R.ok (()))
 else
  (if (decide (which324 = ((5 : Int)))) = true then
  (((dc (α := Int) one325).bind fun (x333 : Int) => (dc (α := Int) two326).bind fun (x334 : Int) => (evN rows (k - 1) 12 [en (x333 : Int), en (x334 : Int)]).bind (dc (α := (Tu Int)))).bind fun (_ : (Tu Int)) =>
 R.ok (()))
 else
  (((dc (α := (Tu Int)) one325).bind fun (x335 : (Tu Int)) => (dc (α := Int) two326).bind fun (x336 : Int) => (evN rows (k - 1) 13 [en (x335 : (Tu Int)), en (x336 : Int)]).bind (dc (α := Int))).bind fun (_ : Int) =>
 R.ok (()))))))) : R (Unit)) (fun (s337 : Unit) =>
 R.ok ((none : (Option (Tx × Int))))) (fun (b : (Option (Tx × Int))) => R.ok b)
theorem tm24 (k : Nat) (hk : 2 ≤ k) (which324 : Int) (one325 : D) (two326 : D) : RE (evN rows k 24 [en which324, en one325, en two326]) (t24 k which324 one325 two326) := evT (f := f24) (n := 4) (m := 3) (by omega) rfl rfl (by unfold f24; exact cv (k_seq (k_try (o := fun (b : (Option (Tx × Int))) => R.ok b) (P := (fun (s327 : Unit) (ρ : Rho) => ρ = [.fz (en (which324 : Int)), .fz (en (one325 : D)), .fz (en (two326 : D)), .no])) rfl (k_if (r_TB (r_e2 (fun _ _ => (o_eq (by decide) _ _)) (r_var rfl) (r_c (a := (0 : Int)) rfl))) (k_expr (r_call1 (fun _ => r_opq) (r_decx (r_var rfl))) (k_end (t := (())) ⟨_, rfl, rfl⟩)) (k_if (r_TB (r_e2 (fun _ _ => (o_eq (by decide) _ _)) (r_var rfl) (r_c (a := (1 : Int)) rfl))) (k_expr (r_call2 (fun _ _ => r_opq) (r_decx (r_var rfl)) (r_decx (r_var rfl))) (k_end (t := (())) ⟨_, rfl, rfl⟩)) (k_if (r_TB (r_e2 (fun _ _ => (o_eq (by decide) _ _)) (r_var rfl) (r_c (a := (2 : Int)) rfl))) (k_expr (r_call1 (fun _ => r_refl) (r_var rfl)) (k_end (t := (())) ⟨_, rfl, rfl⟩)) (k_if (r_TB (r_e2 (fun _ _ => (o_eq (by decide) _ _)) (r_var rfl) (r_c (a := (3 : Int)) rfl))) (k_expr (r_call1 (fun _ => r_opq) (r_decx (r_var rfl))) (k_end (t := (())) ⟨_, rfl, rfl⟩)) (k_if (r_TB (r_e2 (fun _ _ => (o_eq (by decide) _ _)) (r_var rfl) (r_c (a := (4 : Int)) rfl))) (k_expr (r_call1 (fun _ => r_opq) (r_decx (r_var rfl))) (k_end (t := (())) ⟨_, rfl, rfl⟩)) (k_if (r_TB (r_e2 (fun _ _ => (o_eq (by decide) _ _)) (r_var rfl) (r_c (a := (5 : Int)) rfl))) (k_expr (r_call2 (fun _ _ => r_opq) (r_decx (r_var rfl)) (r_decx (r_var rfl))) (k_end (t := (())) ⟨_, rfl, rfl⟩)) (k_expr (r_call2 (fun _ _ => r_opq) (r_decx (r_var rfl)) (r_decx (r_var rfl))) (k_end (t := (())) ⟨_, rfl, rfl⟩)))))))) (fun s337 ρ hP => by cases hP; exact k_ret (t := fun a => a) (r_c (a := (none : (Option (Tx × Int)))) rfl) fun _ => Or.inl rfl) (fun b => Or.inl rfl))) (by unfold t24; first | (simp only [R.bok, R.bind_okf, R.bind_okg]; done) | (simp only [R.bok, R.bind_okf, R.bind_okg]; rfl) | rfl))
/-! law -/
def t25_b2 (draws370 : (List Int)) (k371 : Int) (told372 : (List Tx)) (s368 : (Dc (Tu Int) (List Tx))) (word369 : Tx) : R ((Dc (Tu Int) (List Tx))) :=
 (((t18 word369).bind fun (x373 : (Tu Int)) => R.ok (Option.getD (dlk (Dc.l s368) x373) (([] : List Tx)))).bind fun (x374 : (List Tx)) => tApp x374 (word369 :: (([] : List Tx)))).bind fun (x376 : (List Tx)) => (t18 word369).bind fun (x377 : (Tu Int)) => (tPut s368 x377 x376).bind fun (due375 : (Dc (Tu Int) (List Tx))) =>
 R.ok (due375)
def t25_b4 (draws426 : (List Int)) (row427 : (Tu Int)) (k428 : Int) (told429 : (List Tx)) (number430 : Int) (s424 : Int) (t425 : Int) : R (Int) :=
 (tMul s424 (max ((0 : Int)) (number430 - t425))).bind fun (factor431 : Int) =>
 R.ok (factor431)
def t25_b3 (k : Nat) (draws405 : (List Int)) (k406 : Int) (told407 : (List Tx)) (s403 : Unit) (one404 : Tx) : R (Fl (Unit) Bool) :=
 (t18 one404).bind fun (row408 : (Tu Int)) =>
 ((((evN rows (k - 1) 6 [en (row408 : (Tu Int))]).bind (dc (α := Bool))).bind fun (x409 : Bool) => R.ok ((!(x409 == true)))).bind fun (b412 : Bool) => (if b412 = true then R.ok true else (((evN rows (k - 1) 11 [en (row408 : (Tu Int))]).bind (dc (α := Int))).bind fun (x410 : Int) => (evN rows (k - 1) 12 [en ((((List.length (Tu.l row408) : Nat) : Int)) : Int), en (x410 : Int)]).bind (dc (α := (Tu Int)))).bind fun (x411 : (Tu Int)) => R.ok ((!decide (x411 = row408))))).bind fun (b444 : Bool) => if b444 = true then
  (R.ok (Fl.out (σ := (Unit)) false))
 else
  ((tMapR (fun (two413 : Tx) => (t22 one404 two413 : R Bool)) told407).bind fun (alike414 : (List Bool)) =>
 (((tMapR (fun (two415 : Tx) => ((evN rows (k - 1) 5 [en (one404 : Tx), en (two415 : Tx)]).bind (dc (α := Bool)) : R Bool)) told407).bind fun (x416 : (List Bool)) => R.ok ((!decide (x416 = alike414)))).bind fun (b420 : Bool) => (if b420 = true then R.ok true else (tMapR (fun (two417 : Tx) => ((t18 two417).bind fun (x418 : (Tu Int)) => R.ok (decide (x418 = row408)) : R Bool)) told407).bind fun (x419 : (List Bool)) => R.ok ((!decide (x419 = alike414))))).bind fun (b443 : Bool) => if b443 = true then
  (R.ok (Fl.out (σ := (Unit)) false))
 else
  ((t15 draws405 ((k406 + ((250 : Int))) + (((List.length one404 : Nat) : Int))) ((27 : Int))).bind fun (number421 : Int) =>
 let factor422 : Int := (1 : Int)
 ((tLenSet (Tu.l row408)).bind fun (x423 : Int) => tRng1 x423).bind fun (l442 : List Int) => (forR (t25_b4 draws405 row408 k406 told407 number421) l442 factor422).bind fun (s433 : Int) =>
 (((evN rows (k - 1) 13 [en (row408 : (Tu Int)), en (number421 : Int)]).bind (dc (α := Int))).bind fun (x439 : Int) => R.ok ((!decide (x439 = s433)))).bind fun (b440 : Bool) => if b440 = true then
  (R.ok (Fl.out (σ := (Unit)) false))
 else
  (R.ok (Fl.on (β := Bool) (())))))
def t25_b6 (k : Nat) (draws528 : (List Int)) (k529 : Int) (told530 : (List Tx)) (s526 : Unit) (some_527 : (Tu Int)) : R (Fl (Unit) Bool) :=
 (((evN rows (k - 1) 6 [en (some_527 : (Tu Int))]).bind (dc (α := Bool))).bind fun (x531 : Bool) => (t19 some_527).bind fun (x532 : Bool) => R.ok ((!decide (x531 = x532)))).bind fun (b542 : Bool) => if b542 = true then
  (R.ok (Fl.out (σ := (Unit)) false))
 else
  (((if (decide ((((List.length (Tu.l some_527) : Nat) : Int)) > ((8 : Int)))) = true then R.ok true else ((t19 some_527).bind fun (x533 : Bool) => R.ok (Tr.tr x533)).bind fun (b534 : Bool) => R.ok (!b534))).bind fun (b541 : Bool) => if b541 = true then
  ((((t24 (k - 1) ((4 : Int)) ((en (some_527 : (Tu Int)) : D)) ((en (((0 : Int)) : Int) : D))).bind fun (x536 : (Option (Tx × Int))) => ((t24 (k - 1) ((6 : Int)) ((en (some_527 : (Tu Int)) : D)) ((en (((27 : Int)) : Int) : D))).bind fun (x535 : (Option (Tx × Int))) => R.ok (x535 :: (([] : List (Option (Tx × Int)))))).bind fun (x537 : List (Option (Tx × Int))) => R.ok (x536 :: x537)).bind fun (x538 : (List (Option (Tx × Int)))) => (tRep ((some ((((cs [112, 97, 116, 116, 101, 114, 110])), ((0 : Int))))) :: (([] : List (Option (Tx × Int))))) ((2 : Int))).bind fun (x539 : (List (Option (Tx × Int)))) => R.ok ((!decide (x538 = x539)))).bind fun (b540 : Bool) => if b540 = true then
  (R.ok (Fl.out (σ := (Unit)) false))
 else
  (R.ok (Fl.on (β := Bool) (()))))
 else
  (R.ok (Fl.on (β := Bool) (()))))
def t25_b5 (k : Nat) (draws495 : (List Int)) (k496 : Int) (told497 : (List Tx)) (s493 : Unit) (t494 : Int) : R (Fl (Unit) Bool) :=
 (((t15 draws495 ((k496 + ((260 : Int))) + t494) (((List.length told497 : Nat) : Int))).bind fun (x498 : Int) => tIx told497 x498).bind fun (x499 : Tx) => t18 x499).bind fun (row500 : (Tu Int)) =>
 (t15 draws495 ((k496 + ((270 : Int))) + t494) (((List.length (Tu.l row500) : Nat) : Int))).bind fun (at_501 : Int) =>
 ((((((t15 draws495 ((k496 + ((280 : Int))) + t494) ((10 : Int))).bind fun (x502 : Int) => R.ok (x502 - ((1 : Int)))).bind fun (x503 : Int) => R.ok (x503 :: (([] : List Int)))).bind fun (l504 : List Int) => R.ok (Tu.mk l504)).bind fun (x505 : (Tu Int)) => tAppT (Tu.mk (cutL (Tu.l row500) none (some at_501))) x505).bind fun (x506 : (Tu Int)) => tAppT x506 (Tu.mk (cutL (Tu.l row500) (some (at_501 + ((1 : Int)))) none))).bind fun (bent507 : (Tu Int)) =>
 ((((((((ofO (lMax (Tu.l row500))).bind fun (x508 : Int) => R.ok (x508 + ((1 : Int)))).bind fun (x509 : Int) => R.ok (x509 :: (([] : List Int)))).bind fun (l510 : List Int) => R.ok (Tu.mk l510)).bind fun (x511 : (Tu Int)) => tAppT row500 x511).bind fun (x522 : (Tu Int)) => ((((((ofO (lMax (Tu.l row500))).bind fun (x512 : Int) => R.ok (x512 + ((2 : Int)))).bind fun (x513 : Int) => R.ok (x513 :: (([] : List Int)))).bind fun (l514 : List Int) => R.ok (Tu.mk l514)).bind fun (x515 : (Tu Int)) => tAppT row500 x515).bind fun (x520 : (Tu Int)) => (((((tAppT row500 row500).bind fun (x516 : (Tu Int)) => tAppT x516 row500).bind fun (x517 : (Tu Int)) => R.ok (x517 :: (([] : List (Tu Int))))).bind fun (x518 : List (Tu Int)) => R.ok ((Tu.mk (cutL (Tu.l row500) (some ((1 : Int))) none)) :: x518)).bind fun (x519 : List (Tu Int)) => R.ok ((Tu.mk (List.reverse (Tu.l row500))) :: x519)).bind fun (x521 : List (Tu Int)) => R.ok (x520 :: x521)).bind fun (x523 : List (Tu Int)) => R.ok (x522 :: x523)).bind fun (x524 : List (Tu Int)) => R.ok (bent507 :: x524)).bind fun (x525 : (List (Tu Int))) => R.ok (x525)).bind fun (l563 : List (Tu Int)) => (forF (t25_b6 k draws495 k496 told497) l563 ()).bind (Fl.el (fun (s555 : Unit) =>
 R.ok (Fl.on (β := Bool) (()))) (fun (b : Bool) => R.ok (Fl.out (σ := (Unit)) b)))
def t25_b1 (k : Nat) (draws358 : (List Int)) (s356 : Unit) (turn357 : Int) : R (Fl (Unit) Bool) :=
 let k359 : Int := ((10 : Int)) + (((290 : Int)) * turn357)
 ((t15 draws358 (((5 : Int)) + turn357) ((3 : Int))).bind fun (x360 : Int) => tIx ((((8 : Int)) :: (([] : List Int))) :: ((((3 : Int)) :: (([] : List Int))) :: ((((1 : Int)) :: (((2 : Int)) :: (((5 : Int)) :: (((8 : Int)) :: (([] : List Int)))))) :: (([] : List (List Int)))))) x360).bind fun (sizes361 : (List Int)) =>
 ((t15 draws358 (((8 : Int)) + turn357) ((3 : Int))).bind fun (x362 : Int) => tIx (((cs [97, 98])) :: (((cs [97, 98, 99, 122])) :: (((cs [97, 98, 99, 100, 101, 102, 103, 104, 105, 106, 107, 108, 109])) :: (([] : List Tx))))) x362).bind fun (signs363 : Tx) =>
 (((t15 draws358 (((2 : Int)) + turn357) ((20 : Int))).bind fun (x364 : Int) => R.ok (((1 : Int)) + x364)).bind fun (x365 : Int) => t17 draws358 k359 x365 sizes361 signs363).bind fun (told366 : (List Tx)) =>
 let due367 : (Dc (Tu Int) (List Tx)) := (Dc.mk [] : (Dc (Tu Int) (List Tx)))
 (forR (t25_b2 draws358 k359 told366) told366 due367).bind fun (s383 : (Dc (Tu Int) (List Tx))) =>
 (t7 (k - 1) told366).bind fun (found395 : (Dc (Tu Int) (List Tx))) =>
 ((tNed found395 s383).bind fun (b402 : Bool) => (if b402 = true then R.ok true else ((tSort (List.map (·.1) (Dc.l s383))).bind fun (x396 : (List (Tu Int))) => R.ok ((!decide ((List.map (·.1) (Dc.l found395)) = x396)))).bind fun (b401 : Bool) => (if b401 = true then R.ok true else (tMapR (fun (word397 : Tx) => ((evN rows (k - 1) 4 [en (word397 : Tx)]).bind (dc (α := (Tu Int))) : R (Tu Int))) told366).bind fun (x399 : (List (Tu Int))) => (tMapR (fun (word398 : Tx) => (t18 word398 : R (Tu Int))) told366).bind fun (x400 : (List (Tu Int))) => R.ok ((!decide (x399 = x400)))))).bind fun (b643 : Bool) => if b643 = true then
  (R.ok (Fl.out (σ := (Unit)) false))
 else
  ((forF (t25_b3 k draws358 k359 told366) told366 ()).bind (Fl.el (fun (s482 : Unit) =>
 (forF (t25_b5 k draws358 k359 told366) (rg 0 8) ()).bind (Fl.el (fun (s630 : Unit) =>
 R.ok (Fl.on (β := Bool) (()))) (fun (b : Bool) => R.ok (Fl.out (σ := (Unit)) b)))) (fun (b : Bool) => R.ok (Fl.out (σ := (Unit)) b))))
def t25_b7 (k : Nat) (small953 : (List Tx)) (s951 : Unit) (row952 : (Tu Int)) : R (Fl (Unit) Bool) :=
 (((evN rows (k - 1) 13 [en (row952 : (Tu Int)), en (((4 : Int)) : Int)]).bind (dc (α := Int))).bind fun (x957 : Int) => ((tLcR (fun (text954 : Tx) => ((t18 text954).bind fun (x955 : (Tu Int)) => R.ok (decide (x955 = row952)) : R Bool)) (fun (text954 : Tx) => (R.ok (text954) : R Tx)) small953).bind fun (x956 : (List Tx)) => R.ok (((List.length x956 : Nat) : Int))).bind fun (x958 : Int) => R.ok ((!decide (x957 = x958)))).bind fun (b959 : Bool) => if b959 = true then
  (R.ok (Fl.out (σ := (Unit)) false))
 else
  (R.ok (Fl.on (β := Bool) (())))
def t25 (k : Nat) (script338 : (List Int)) : R Bool :=
 (t14 script338).bind fun (draws339 : (List Int)) =>
 ((tMapR (fun (length340 : Int) => ((evN rows (k - 1) 9 [en (length340 : Int)]).bind (dc (α := Int)) : R Int)) (rg 0 9)).bind fun (x342 : (List Int)) => (tMapR (fun (length341 : Int) => (t21 length341 : R Int)) (rg 0 9)).bind fun (x343 : (List Int)) => R.ok ((!decide (x342 = x343)))).bind fun (b1019 : Bool) => if b1019 = true then
  (R.ok (false))
 else
  (((t15 draws339 ((1 : Int)) ((6 : Int))).bind fun (x344 : Int) => R.ok (((1 : Int)) + x344)).bind fun (length345 : Int) =>
 (t20 length345).bind fun (every346 : (List (Tu Int))) =>
 (((t21 length345).bind fun (x347 : Int) => R.ok ((!decide ((((List.length every346 : Nat) : Int)) = x347)))).bind fun (b355 : Bool) => (if b355 = true then R.ok true else ((tMapR (fun (row348 : (Tu Int)) => ((evN rows (k - 1) 11 [en (row348 : (Tu Int))]).bind (dc (α := Int)) : R Int)) every346).bind fun (x349 : (List Int)) => (tLRng (((List.length every346 : Nat) : Int))).bind fun (x350 : (List Int)) => R.ok ((!decide (x349 = x350)))).bind fun (b354 : Bool) => (if b354 = true then R.ok true else ((tRng1 (((List.length every346 : Nat) : Int))).bind fun (l352 : List Int) => tMapR (fun (t351 : Int) => ((evN rows (k - 1) 12 [en (length345 : Int), en (t351 : Int)]).bind (dc (α := (Tu Int))) : R (Tu Int))) l352).bind fun (x353 : (List (Tu Int))) => R.ok ((!decide (x353 = every346)))))).bind fun (b1018 : Bool) => if b1018 = true then
  (R.ok (false))
 else
  ((forF (t25_b1 k draws339) (rg 0 3) ()).bind (Fl.el (fun (s931 : Unit) =>
 (t23 ((3 : Int)) ((cs [97, 98, 99, 100]))).bind fun (small949 : (List Tx)) =>
 ((t20 ((3 : Int))).bind fun (x950 : (List (Tu Int))) => R.ok (x950)).bind fun (l1016 : List (Tu Int)) => (forF (t25_b7 k small949) l1016 ()).bind (Fl.el (fun (s966 : Unit) =>
 ((tMapR (fun (bad984 : Tx) => (t24 (k - 1) ((0 : Int)) ((en (bad984 : Tx) : D)) ((en (((cs [])) : Tx) : D)) : R (Option (Tx × Int)))) ((((cs [])) :: (((cs [97, 98, 99, 100, 101, 102, 103, 104, 105])) :: (((cs [97, 66])) :: (([] : List Tx))))))).bind fun (x992 : (List (Option (Tx × Int)))) => ((t24 (k - 1) ((1 : Int)) ((en (((cs [])) : Tx) : D)) ((en (((cs [49])) : Tx) : D))).bind fun (x990 : (Option (Tx × Int))) => ((t24 (k - 1) ((1 : Int)) ((en (((cs [97])) : Tx) : D)) ((en (((cs [49])) : Tx) : D))).bind fun (x988 : (Option (Tx × Int))) => ((t24 (k - 1) ((2 : Int)) ((en ((([] : List Int)) : (List Int)) : D)) ((en (((0 : Int)) : Int) : D))).bind fun (x986 : (Option (Tx × Int))) => ((t24 (k - 1) ((2 : Int)) ((en ((((cs [98])) :: (((cs [97])) :: (([] : List Tx)))) : (List Tx)) : D)) ((en (((0 : Int)) : Int) : D))).bind fun (x985 : (Option (Tx × Int))) => R.ok (x985 :: (([] : List (Option (Tx × Int)))))).bind fun (x987 : List (Option (Tx × Int))) => R.ok (x986 :: x987)).bind fun (x989 : List (Option (Tx × Int))) => R.ok (x988 :: x989)).bind fun (x991 : List (Option (Tx × Int))) => R.ok (x990 :: x991)).bind fun (x993 : (List (Option (Tx × Int)))) => tApp x992 x993).bind fun (bads994 : (List (Option (Tx × Int)))) =>
 (((tMapR (fun (bad995 : Int) => (t24 (k - 1) ((3 : Int)) ((en (bad995 : Int) : D)) ((en (((0 : Int)) : Int) : D)) : R (Option (Tx × Int)))) (((-((1 : Int))) :: (((9 : Int)) :: (([] : List Int)))))).bind fun (x996 : (List (Option (Tx × Int)))) => tApp bads994 x996).bind fun (x998 : (List (Option (Tx × Int)))) => (tMapR (fun (bad997 : Int) => (t24 (k - 1) ((5 : Int)) ((en (bad997 : Int) : D)) ((en ((-((1 : Int))) : Int) : D)) : R (Option (Tx × Int)))) ((((0 : Int)) :: (((9 : Int)) :: (([] : List Int)))))).bind fun (x999 : (List (Option (Tx × Int)))) => tApp x998 x999).bind fun (bads1000 : (List (Option (Tx × Int)))) =>
 (((tMapR (fun (bad1001 : Int) => (t24 (k - 1) ((5 : Int)) ((en (((3 : Int)) : Int) : D)) ((en (bad1001 : Int) : D)) : R (Option (Tx × Int)))) (((-((1 : Int))) :: (((5 : Int)) :: (([] : List Int)))))).bind fun (x1002 : (List (Option (Tx × Int)))) => tApp bads1000 x1002).bind fun (x1004 : (List (Option (Tx × Int)))) => (tMapR (fun (bad1003 : Int) => (t24 (k - 1) ((6 : Int)) ((en ((Tu.mk (((0 : Int)) :: (([] : List Int)))) : (Tu Int)) : D)) ((en (bad1003 : Int) : D)) : R (Option (Tx × Int)))) (((-((1 : Int))) :: (((27 : Int)) :: (([] : List Int)))))).bind fun (x1005 : (List (Option (Tx × Int)))) => tApp x1004 x1005).bind fun (bads1006 : (List (Option (Tx × Int)))) =>
 ((tRep (((((cs [119, 111, 114, 100])), ((0 : Int)))) :: (([] : List (Tx × Int)))) ((4 : Int))).bind fun (x1007 : (List (Tx × Int))) => tApp x1007 (((((cs [119, 111, 114, 100])), ((1 : Int)))) :: (((((cs [115, 105, 122, 101])), ((0 : Int)))) :: (((((cs [119, 111, 114, 100])), ((1 : Int)))) :: (([] : List (Tx × Int))))))).bind fun (due1008 : (List (Tx × Int))) =>
 ((tMap (fun (bad1009 : Int) => ((((cs [114, 97, 110, 103, 101])), bad1009) : (Tx × Int))) (((-((1 : Int))) :: (((9 : Int)) :: (((0 : Int)) :: (((9 : Int)) :: ((-((1 : Int))) :: (((5 : Int)) :: ((-((1 : Int))) :: (((27 : Int)) :: (([] : List Int)))))))))))).bind fun (x1010 : (List (Tx × Int))) => tApp due1008 x1010).bind fun (due1011 : (List (Tx × Int))) =>
 (if Tr.tr (decide (bads1006 = (List.map some due1011))) = true then (((evN rows (k - 1) 12 [en (((8 : Int)) : Int), en (((4139 : Int)) : Int)]).bind (dc (α := (Tu Int)))).bind fun (x1012 : (Tu Int)) => R.ok (decide (x1012 = (Tu.mk (((0 : Int)) :: (((1 : Int)) :: (((2 : Int)) :: (((3 : Int)) :: (((4 : Int)) :: (((5 : Int)) :: (((6 : Int)) :: (((7 : Int)) :: (([] : List Int)))))))))))))).bind fun (x1014 : Bool) => (if Tr.tr x1014 = true then (t24 (k - 1) ((5 : Int)) ((en (((8 : Int)) : Int) : D)) ((en (((4140 : Int)) : Int) : D))).bind fun (x1013 : (Option (Tx × Int))) => R.ok (decide (x1013 = (some ((((cs [114, 97, 110, 103, 101])), ((4140 : Int))))))) else R.ok x1014) else R.ok (decide (bads1006 = (List.map some due1011))))) (fun (b : Bool) => R.ok b))) (fun (b : Bool) => R.ok b))))
theorem tm25 (k : Nat) (hk : 4 ≤ k) (script338 : (List Int)) : RE (evN rows k 25 [en script338]) (t25 k script338) := evT (f := f25) (n := 26) (m := 1) (by omega) rfl rfl (by unfold f25; exact cv (k_seq (k_set (n_V (r_call1 (fun _ => tm14 (k - 1) (by omega) _) (r_var rfl))) fun draws339 => k_seq (k_if (r_TB (r_e2 (fun _ _ => (o_ne (by decide) _ _)) (r_LcM2 (r_i1c 9 (r_c (a := (9 : Int)) rfl) (by decide)) fun length340 => ⟨_, rfl, (r_call1 (fun _ => r_opq) (r_var rfl))⟩) (r_LcM2 (r_i1c 9 (r_c (a := (9 : Int)) rfl) (by decide)) fun length341 => ⟨_, rfl, (r_call1 (fun _ => tm21 (k - 1) (by omega) _) (r_var rfl))⟩))) (k_ret (t := fun a => a) (r_c (a := false) rfl) fun _ => Or.inl rfl) (k_nil (k_seq (k_set (n_V (r_e2 (fun _ _ => (o_add_i _ _)) (r_c (a := (1 : Int)) rfl) (r_call3 (fun _ _ _ => tm15 (k - 1) (by omega) _ _ _) (r_var rfl) (r_c (a := (1 : Int)) rfl) (r_c (a := (6 : Int)) rfl)))) fun length345 => k_seq (k_set (n_V (r_call1 (fun _ => tm20 (k - 1) (by omega) _) (r_var rfl))) fun every346 => k_seq (k_if (r_TOr (r_TB (r_e2 (fun _ _ => (o_ne (by decide) _ _)) (r_B1 (fun _ => o_len_l _) (r_var rfl)) (r_call1 (fun _ => tm21 (k - 1) (by omega) _) (r_var rfl)))) (r_TOr (r_TB (r_e2 (fun _ _ => (o_ne (by decide) _ _)) (r_LcM2 (r_iVal (fun _ => o_iter_l _) (r_var rfl)) fun row348 => ⟨_, rfl, (r_call1 (fun _ => r_opq) (r_var rfl))⟩) (r_LRng1 (fun _ => o_lrng _) (r_B1 (fun _ => o_len_l _) (r_var rfl))))) (r_TB (r_e2 (fun _ _ => (o_ne (by decide) _ _)) (r_LcM2 (r_i1 (fun _ => o_rng1 _) (r_B1 (fun _ => o_len_l _) (r_var rfl))) fun t351 => ⟨_, rfl, (r_call2 (fun _ _ => r_opq) (r_var rfl) (r_var rfl))⟩) (r_var rfl))))) (k_ret (t := fun a => a) (r_c (a := false) rfl) fun _ => Or.inl rfl) (k_nil (k_seq (k_forF (o := fun (b : Bool) => R.ok b) (f := (t25_b1 k draws339)) (s0 := ()) (fun (s356 : Unit) (ρ : Rho) => ∃ (e4 : Ent) (e5 : Ent) (e6 : Ent) (e7 : Ent) (e8 : Ent) (e9 : Ent) (e10 : Ent) (e11 : Ent) (e12 : Ent) (e13 : Ent) (e14 : Ent) (e15 : Ent) (e16 : Ent) (e17 : Ent) (e18 : Ent) (e19 : Ent) (e20 : Ent), ρ = [.fz (en (script338 : (List Int))), .fz (en (draws339 : (List Int))), .fz (en (length345 : Int)), .fz (en (every346 : (List (Tu Int)))), e4, e5, e6, e7, e8, e9, e10, e11, e12, e13, e14, e15, e16, e17, e18, e19, e20, .no, .no, .no, .no, .no]) (r_i1c 3 (r_c (a := (3 : Int)) rfl) (by decide)) (⟨_, _, _, _, _, _, _, _, _, _, _, _, _, _, _, _, _, rfl⟩) (fun turn357 s356 ρ hP => by obtain ⟨e4, e5, e6, e7, e8, e9, e10, e11, e12, e13, e14, e15, e16, e17, e18, e19, e20, rfl⟩ := hP; exact ⟨_, rfl, cv (k_seq (k_set (n_V (r_e2 (fun _ _ => (o_add_i _ _)) (r_c (a := (10 : Int)) rfl) (r_e2a (r_c (a := (290 : Int)) rfl) (r_var rfl) (fun _ => o_mul_c1 (by decide) _)))) fun k645 => k_seq (k_par (n_V (r_e2 (fun _ _ => (o_ix_l _ _)) (r_LstQ (r_cons (r_LstQ (r_cons (r_c (a := (8 : Int)) rfl) (r_nil (α := Int))) (len_cons len_nil) (by decide)) (r_cons (r_LstQ (r_cons (r_c (a := (3 : Int)) rfl) (r_nil (α := Int))) (len_cons len_nil) (by decide)) (r_cons (r_LstQ (r_cons (r_c (a := (1 : Int)) rfl) (r_cons (r_c (a := (2 : Int)) rfl) (r_cons (r_c (a := (5 : Int)) rfl) (r_cons (r_c (a := (8 : Int)) rfl) (r_nil (α := Int)))))) (len_cons (len_cons (len_cons (len_cons len_nil)))) (by decide)) (r_nil (α := (List Int)))))) (len_cons (len_cons (len_cons len_nil))) (by decide)) (r_call3 (fun _ _ _ => tm15 (k - 1) (by omega) _ _ _) (r_var rfl) (r_e2 (fun _ _ => (o_add_i _ _)) (r_c (a := (5 : Int)) rfl) (r_var rfl)) (r_c (a := (3 : Int)) rfl)))) (n_V (r_e2 (fun _ _ => (o_ix_l _ _)) (r_LstQ (r_cons (r_c sx1) (r_cons (r_c sx2) (r_cons (r_c sx3) (r_nil (α := Tx))))) (len_cons (len_cons (len_cons len_nil))) (by decide)) (r_call3 (fun _ _ _ => tm15 (k - 1) (by omega) _ _ _) (r_var rfl) (r_e2 (fun _ _ => (o_add_i _ _)) (r_c (a := (8 : Int)) rfl) (r_var rfl)) (r_c (a := (3 : Int)) rfl)))) fun sizes647 signs649 => k_seq (k_set (n_V (r_call5 (fun _ _ _ _ _ => tm17 (k - 1) (by omega) _ _ _ _ _) (r_var rfl) (r_var rfl) (r_e2 (fun _ _ => (o_add_i _ _)) (r_c (a := (1 : Int)) rfl) (r_call3 (fun _ _ _ => tm15 (k - 1) (by omega) _ _ _) (r_var rfl) (r_e2 (fun _ _ => (o_add_i _ _)) (r_c (a := (2 : Int)) rfl) (r_var rfl)) (r_c (a := (20 : Int)) rfl))) (r_var rfl) (r_var rfl))) fun told652 => k_seq (k_set (n_D (r_c (a := (Dc.mk [] : (Dc (Tu Int) (List Tx)))) rfl)) fun due653 => k_seq (k_for (f := (t25_b2 draws339 k645 told652)) (s0 := due653) (fun (s654 : (Dc (Tu Int) (List Tx))) (ρ : Rho) => ∃ (e12 : Ent) (e4x : Ent) (e5x : Ent) (e13x : Ent) (e14x : Ent) (e15x : Ent) (e16x : Ent) (e17x : Ent) (e18x : Ent) (e19x : Ent) (e20x : Ent), ρ = [.fz (en (script338 : (List Int))), .fz (en (draws339 : (List Int))), .fz (en (length345 : Int)), .fz (en (every346 : (List (Tu Int)))), e4x, e5x, .fz (en (turn357 : Int)), .fz (en (k645 : Int)), .fz (en (sizes647 : (List Int))), .fz (en (signs649 : Tx)), .fz (en (told652 : (List Tx))), .od (List.map enKV ((s654 : (Dc (Tu Int) (List Tx)))).l), e12, e13x, e14x, e15x, e16x, e17x, e18x, e19x, e20x, .no, .no, .no, .no, .no]) (r_iVal (fun _ => o_iter_l _) (r_var rfl)) (⟨_, _, _, _, _, _, _, _, _, _, _, rfl⟩) (fun word655 s654 ρ hP => by obtain ⟨e12, e4x, e5x, e13x, e14x, e15x, e16x, e17x, e18x, e19x, e20x, rfl⟩ := hP; exact ⟨_, rfl, cv (k_put (d := s654) rfl (r_call1 (fun _ => tm18 (k - 1) (by omega) _) (r_var rfl)) (r_e2 (fun _ _ => (o_add_l _ _)) (r_M2 isDc_en (fun _ _ _ => (o_get2 _ _ _)) (r_borD rfl) (r_call1 (fun _ => tm18 (k - 1) (by omega) _) (r_var rfl)) (r_LstQ (r_nil (α := Tx)) len_nil (by decide))) (r_LstQ (r_cons (r_var rfl) (r_nil (α := Tx))) (len_cons len_nil) (by decide))) fun due666 => k_end (t := (due666)) ⟨_, rfl, ⟨_, _, _, _, _, _, _, _, _, _, _, rfl⟩⟩) (by unfold t25_b2; first | (simp only [R.bok, R.bind_okf, R.bind_okg]; done) | (simp only [R.bok, R.bind_okf, R.bind_okg]; rfl) | rfl)⟩) (fun s669 ρ hP => by obtain ⟨e670, e671, e672, e673, e674, e675, e676, e677, e678, e679, e680, rfl⟩ := hP; exact k_seq (k_set (n_V (r_call1 (fun _ => tm7 (k - 1) (by omega) _) (r_B1 (fun _ => o_list_l _) (r_var rfl)))) fun found681 => k_seq (k_if (r_TOr (r_TB (r_e2 (fun _ _ => (o_ned (by decide) _ _)) (r_var rfl) (r_borD rfl))) (r_TOr (r_TB (r_e2 (fun _ _ => (o_ne (by decide) _ _)) (r_B1 (fun _ => o_list_d _) (r_var rfl)) (r_B1 (fun _ => o_sorted_d _) (r_borD rfl)))) (r_TB (r_e2 (fun _ _ => (o_ne (by decide) _ _)) (r_LcM2 (r_iVal (fun _ => o_iter_l _) (r_var rfl)) fun word683 => ⟨_, rfl, (r_call1 (fun _ => r_opq) (r_var rfl))⟩) (r_LcM2 (r_iVal (fun _ => o_iter_l _) (r_var rfl)) fun word684 => ⟨_, rfl, (r_call1 (fun _ => tm18 (k - 1) (by omega) _) (r_var rfl))⟩))))) (k_ret (t := Fl.out (σ := (Unit))) (r_c (a := false) rfl) fun _ => rfl) (k_nil (k_seq (k_forF (o := fun (b : Bool) => R.ok (Fl.out (σ := (Unit)) b)) (f := (t25_b3 k draws339 k645 told652)) (s0 := ()) (fun (s689 : Unit) (ρ : Rho) => ∃ (e4 : Ent) (e5 : Ent) (e14 : Ent) (e15 : Ent) (e16 : Ent) (e17 : Ent) (e672x : Ent) (e678x : Ent) (e679x : Ent) (e680x : Ent), ρ = [.fz (en (script338 : (List Int))), .fz (en (draws339 : (List Int))), .fz (en (length345 : Int)), .fz (en (every346 : (List (Tu Int)))), e4, e5, .fz (en (turn357 : Int)), .fz (en (k645 : Int)), .fz (en (sizes647 : (List Int))), .fz (en (signs649 : Tx)), .fz (en (told652 : (List Tx))), .od (List.map enKV ((s669 : (Dc (Tu Int) (List Tx)))).l), e672x, .fz (en (found681 : (Dc (Tu Int) (List Tx)))), e14, e15, e16, e17, e678x, e679x, e680x, .no, .no, .no, .no, .no]) (r_iVal (fun _ => o_iter_l _) (r_var rfl)) (⟨_, _, _, _, _, _, _, _, _, _, rfl⟩) (fun one690 s689 ρ hP => by obtain ⟨e4, e5, e14, e15, e16, e17, e672x, e678x, e679x, e680x, rfl⟩ := hP; exact ⟨_, rfl, cv (k_seq (k_set (n_V (r_call1 (fun _ => tm18 (k - 1) (by omega) _) (r_var rfl))) fun row731 => k_seq (k_if (r_TOr (r_TB (r_e2 (fun _ _ => (o_isNotB _ _)) (r_call1 (fun _ => r_opq) (r_var rfl)) (r_c (a := true) rfl))) (r_TB (r_e2 (fun _ _ => (o_ne (by decide) _ _)) (r_call2 (fun _ _ => r_opq) (r_B1 (fun _ => o_len_t _) (r_var rfl)) (r_call1 (fun _ => r_opq) (r_var rfl))) (r_var rfl)))) (k_ret (t := Fl.out (σ := (Unit))) (r_c (a := false) rfl) fun _ => rfl) (k_nil (k_seq (k_set (n_V (r_LcM2 (r_iVal (fun _ => o_iter_l _) (r_var rfl)) fun two736 => ⟨_, rfl, (r_call2 (fun _ _ => tm22 (k - 1) (by omega) _ _) (r_var rfl) (r_var rfl))⟩)) fun alike737 => k_seq (k_if (r_TOr (r_TB (r_e2 (fun _ _ => (o_ne (by decide) _ _)) (r_LcM2 (r_iVal (fun _ => o_iter_l _) (r_var rfl)) fun two738 => ⟨_, rfl, (r_call2 (fun _ _ => r_opq) (r_var rfl) (r_var rfl))⟩) (r_var rfl))) (r_TB (r_e2 (fun _ _ => (o_ne (by decide) _ _)) (r_LcM2 (r_iVal (fun _ => o_iter_l _) (r_var rfl)) fun two740 => ⟨_, rfl, (r_e2 (fun _ _ => (o_eq (by decide) _ _)) (r_call1 (fun _ => tm18 (k - 1) (by omega) _) (r_var rfl)) (r_var rfl))⟩) (r_var rfl)))) (k_ret (t := Fl.out (σ := (Unit))) (r_c (a := false) rfl) fun _ => rfl) (k_nil (k_seq (k_par (n_V (r_call3 (fun _ _ _ => tm15 (k - 1) (by omega) _ _ _) (r_var rfl) (r_e2 (fun _ _ => (o_add_i _ _)) (r_e2 (fun _ _ => (o_add_i _ _)) (r_var rfl) (r_c (a := (250 : Int)) rfl)) (r_B1 (fun _ => o_len_s _) (r_var rfl))) (r_c (a := (27 : Int)) rfl))) (n_V (r_c (a := (1 : Int)) rfl)) fun number744 factor745 => k_seq (k_for (f := (t25_b4 draws339 row731 k645 told652 number744)) (s0 := factor745) (fun (s747 : Int) (ρ : Rho) => ∃ (e5 : Ent) (e672xx : Ent) (e678xx : Ent) (e679xx : Ent) (e680xx : Ent), ρ = [.fz (en (script338 : (List Int))), .fz (en (draws339 : (List Int))), .fz (en (length345 : Int)), .fz (en (every346 : (List (Tu Int)))), .fz (en (row731 : (Tu Int))), e5, .fz (en (turn357 : Int)), .fz (en (k645 : Int)), .fz (en (sizes647 : (List Int))), .fz (en (signs649 : Tx)), .fz (en (told652 : (List Tx))), .od (List.map enKV ((s669 : (Dc (Tu Int) (List Tx)))).l), e672xx, .fz (en (found681 : (Dc (Tu Int) (List Tx)))), .fz (en (one690 : Tx)), .fz (en (alike737 : (List Bool))), .fz (en (number744 : Int)), .fz (en (s747 : Int)), e678xx, e679xx, e680xx, .no, .no, .no, .no, .no]) (r_i1 (fun _ => o_rng1 _) (r_e1 (fun _ => o_lenset_t _) (r_var rfl))) (⟨_, _, _, _, _, rfl⟩) (fun t748 s747 ρ hP => by obtain ⟨e5, e672xx, e678xx, e679xx, e680xx, rfl⟩ := hP; exact ⟨_, rfl, cv (k_set (n_V (r_e2 (fun _ _ => (o_mul_i _ _)) (r_var rfl) (r_B2 (fun _ _ => (o_max2_i _ _)) (r_c (a := (0 : Int)) rfl) (r_e2 (fun _ _ => (o_sub_i _ _)) (r_var rfl) (r_var rfl))))) fun factor755 => k_end (t := (factor755)) ⟨_, rfl, ⟨_, _, _, _, _, rfl⟩⟩) (by unfold t25_b4; first | (simp only [R.bok, R.bind_okf, R.bind_okg]; done) | (simp only [R.bok, R.bind_okf, R.bind_okg]; rfl) | rfl)⟩) (fun s756 ρ hP => by obtain ⟨e757, e758, e759, e760, e761, rfl⟩ := hP; exact k_if (r_TB (r_e2 (fun _ _ => (o_ne (by decide) _ _)) (r_call2 (fun _ _ => r_opq) (r_var rfl) (r_var rfl)) (r_var rfl))) (k_ret (t := Fl.out (σ := (Unit))) (r_c (a := false) rfl) fun _ => rfl) (k_nil (k_end (t := (Fl.on (β := Bool) (()))) ⟨_, rfl, ⟨_, _, _, _, _, _, _, _, _, _, rfl⟩⟩)))))))))))))) (by unfold t25_b3; first | (simp only [R.bok, R.bind_okf, R.bind_okg]; done) | (simp only [R.bok, R.bind_okf, R.bind_okg]; rfl) | rfl)⟩) (fun s768 ρ hP => by obtain ⟨e769, e770, e771, e772, e773, e774, e775, e776, e777, e778, rfl⟩ := hP; exact k_forF (o := fun (b : Bool) => R.ok (Fl.out (σ := (Unit)) b)) (f := (t25_b5 k draws339 k645 told652)) (s0 := ()) (fun (s779 : Unit) (ρ : Rho) => ∃ (e4 : Ent) (e5 : Ent) (e18 : Ent) (e19 : Ent) (e20 : Ent) (e771x : Ent) (e772x : Ent) (e773x : Ent) (e774x : Ent) (e775x : Ent), ρ = [.fz (en (script338 : (List Int))), .fz (en (draws339 : (List Int))), .fz (en (length345 : Int)), .fz (en (every346 : (List (Tu Int)))), e4, e5, .fz (en (turn357 : Int)), .fz (en (k645 : Int)), .fz (en (sizes647 : (List Int))), .fz (en (signs649 : Tx)), .fz (en (told652 : (List Tx))), .od (List.map enKV ((s669 : (Dc (Tu Int) (List Tx)))).l), e771x, .fz (en (found681 : (Dc (Tu Int) (List Tx)))), e772x, e773x, e774x, e775x, e18, e19, e20, .no, .no, .no, .no, .no]) (r_i1c 8 (r_c (a := (8 : Int)) rfl) (by decide)) (⟨_, _, _, _, _, _, _, _, _, _, rfl⟩) (fun t780 s779 ρ hP => by obtain ⟨e4, e5, e18, e19, e20, e771x, e772x, e773x, e774x, e775x, rfl⟩ := hP; exact ⟨_, rfl, cv (k_seq (k_set (n_V (r_call1 (fun _ => tm18 (k - 1) (by omega) _) (r_e2 (fun _ _ => (o_ix_l _ _)) (r_var rfl) (r_call3 (fun _ _ _ => tm15 (k - 1) (by omega) _ _ _) (r_var rfl) (r_e2 (fun _ _ => (o_add_i _ _)) (r_e2 (fun _ _ => (o_add_i _ _)) (r_var rfl) (r_c (a := (260 : Int)) rfl)) (r_var rfl)) (r_B1 (fun _ => o_len_l _) (r_var rfl)))))) fun row852 => k_seq (k_set (n_V (r_call3 (fun _ _ _ => tm15 (k - 1) (by omega) _ _ _) (r_var rfl) (r_e2 (fun _ _ => (o_add_i _ _)) (r_e2 (fun _ _ => (o_add_i _ _)) (r_var rfl) (r_c (a := (270 : Int)) rfl)) (r_var rfl)) (r_B1 (fun _ => o_len_t _) (r_var rfl)))) fun at_853 => k_seq (k_set (n_V (r_e2 (fun _ _ => (o_add_t _ _)) (r_e2 (fun _ _ => (o_add_t _ _)) (r_Cut (fun _ _ _ => o_cut_t _ _ _) (r_var rfl) r_oN (r_oS (r_var rfl))) (r_TupQ (r_cons (r_e2 (fun _ _ => (o_sub_i _ _)) (r_call3 (fun _ _ _ => tm15 (k - 1) (by omega) _ _ _) (r_var rfl) (r_e2 (fun _ _ => (o_add_i _ _)) (r_e2 (fun _ _ => (o_add_i _ _)) (r_var rfl) (r_c (a := (280 : Int)) rfl)) (r_var rfl)) (r_c (a := (10 : Int)) rfl)) (r_c (a := (1 : Int)) rfl)) (r_nil (α := Int))) (len_cons len_nil) (by decide))) (r_Cut (fun _ _ _ => o_cut_t _ _ _) (r_var rfl) (r_oS (r_e2 (fun _ _ => (o_add_i _ _)) (r_var rfl) (r_c (a := (1 : Int)) rfl))) r_oN))) fun bent859 => k_forF (o := fun (b : Bool) => R.ok (Fl.out (σ := (Unit)) b)) (f := (t25_b6 k draws339 k645 told652)) (s0 := ()) (fun (s878 : Unit) (ρ : Rho) => ∃ (e20 : Ent) (e771xx : Ent) (e772xx : Ent) (e773xx : Ent) (e774xx : Ent) (e775xx : Ent), ρ = [.fz (en (script338 : (List Int))), .fz (en (draws339 : (List Int))), .fz (en (length345 : Int)), .fz (en (every346 : (List (Tu Int)))), .fz (en (row852 : (Tu Int))), .fz (en (t780 : Int)), .fz (en (turn357 : Int)), .fz (en (k645 : Int)), .fz (en (sizes647 : (List Int))), .fz (en (signs649 : Tx)), .fz (en (told652 : (List Tx))), .od (List.map enKV ((s669 : (Dc (Tu Int) (List Tx)))).l), e771xx, .fz (en (found681 : (Dc (Tu Int) (List Tx)))), e772xx, e773xx, e774xx, e775xx, .fz (en (at_853 : Int)), .fz (en (bent859 : (Tu Int))), e20, .no, .no, .no, .no, .no]) (r_iVal (fun _ => o_iter_l _) (r_LstQ (r_cons (r_var rfl) (r_cons (r_e2 (fun _ _ => (o_add_t _ _)) (r_var rfl) (r_TupQ (r_cons (r_e2 (fun _ _ => (o_add_i _ _)) (r_B1 (fun _ => o_max_t _) (r_var rfl)) (r_c (a := (1 : Int)) rfl)) (r_nil (α := Int))) (len_cons len_nil) (by decide))) (r_cons (r_e2 (fun _ _ => (o_add_t _ _)) (r_var rfl) (r_TupQ (r_cons (r_e2 (fun _ _ => (o_add_i _ _)) (r_B1 (fun _ => o_max_t _) (r_var rfl)) (r_c (a := (2 : Int)) rfl)) (r_nil (α := Int))) (len_cons len_nil) (by decide))) (r_cons (r_e1 (fun _ => o_rv_t _) (r_var rfl)) (r_cons (r_Cut (fun _ _ _ => o_cut_t _ _ _) (r_var rfl) (r_oS (r_c (a := (1 : Int)) rfl)) r_oN) (r_cons (r_e2 (fun _ _ => (o_add_t _ _)) (r_e2 (fun _ _ => (o_add_t _ _)) (r_var rfl) (r_var rfl)) (r_var rfl)) (r_nil (α := (Tu Int))))))))) (len_cons (len_cons (len_cons (len_cons (len_cons (len_cons len_nil)))))) (by decide))) (⟨_, _, _, _, _, _, rfl⟩) (fun some_879 s878 ρ hP => by obtain ⟨e20, e771xx, e772xx, e773xx, e774xx, e775xx, rfl⟩ := hP; exact ⟨_, rfl, cv (k_seq (k_if (r_TB (r_e2 (fun _ _ => (o_ne (by decide) _ _)) (r_call1 (fun _ => r_opq) (r_var rfl)) (r_call1 (fun _ => tm19 (k - 1) (by omega) _) (r_var rfl)))) (k_ret (t := Fl.out (σ := (Unit))) (r_c (a := false) rfl) fun _ => rfl) (k_nil (k_if (r_TOr (r_TB (r_e2 (fun _ _ => (o_gt_i _ _)) (r_B1 (fun _ => o_len_t _) (r_var rfl)) (r_c (a := (8 : Int)) rfl))) (r_TNot (r_T (r_call1 (fun _ => tm19 (k - 1) (by omega) _) (r_var rfl))))) (k_if (r_TB (r_e2 (fun _ _ => (o_ne (by decide) _ _)) (r_LstQ (r_cons (r_call3 (fun _ _ _ => tm24 (k - 1) (by omega) _ _ _) (r_c (a := (4 : Int)) rfl) (r_dynx (α := (Tu Int)) (r_var rfl)) (r_dynx (α := Int) (r_c (a := (0 : Int)) rfl))) (r_cons (r_call3 (fun _ _ _ => tm24 (k - 1) (by omega) _ _ _) (r_c (a := (6 : Int)) rfl) (r_dynx (α := (Tu Int)) (r_var rfl)) (r_dynx (α := Int) (r_c (a := (27 : Int)) rfl))) (r_nil (α := (Option (Tx × Int)))))) (len_cons (len_cons len_nil)) (by decide)) (r_e2 (fun _ _ => (o_mul_l _ _)) (r_LstQ (r_cons (r_some (r_Tup2 (r_c sx4) (r_c (a := (0 : Int)) rfl))) (r_nil (α := (Option (Tx × Int))))) (len_cons len_nil) (by decide)) (r_c (a := (2 : Int)) rfl)))) (k_ret (t := Fl.out (σ := (Unit))) (r_c (a := false) rfl) fun _ => rfl) (k_nil (k_end (t := (Fl.on (β := Bool) (()))) ⟨_, rfl, ⟨_, _, _, _, _, _, rfl⟩⟩))) (k_nil (k_end (t := (Fl.on (β := Bool) (()))) ⟨_, rfl, ⟨_, _, _, _, _, _, rfl⟩⟩)))))) (by unfold t25_b6; first | (simp only [R.bok, R.bind_okf, R.bind_okg]; done) | (simp only [R.bok, R.bind_okf, R.bind_okg]; rfl) | rfl)⟩) (fun s907 ρ hP => by obtain ⟨e908, e909, e910, e911, e912, e913, rfl⟩ := hP; exact k_end (t := (Fl.on (β := Bool) (()))) ⟨_, rfl, ⟨_, _, _, _, _, _, _, _, _, _, rfl⟩⟩) (fun b => rfl))))) (by unfold t25_b5; first | (simp only [R.bok, R.bind_okf, R.bind_okg]; done) | (simp only [R.bok, R.bind_okf, R.bind_okg]; rfl) | rfl)⟩) (fun s916 ρ hP => by obtain ⟨e917, e918, e919, e920, e921, e922, e923, e924, e925, e926, rfl⟩ := hP; exact k_end (t := (Fl.on (β := Bool) (()))) ⟨_, rfl, ⟨_, _, _, _, _, _, _, _, _, _, _, _, _, _, _, _, _, rfl⟩⟩) (fun b => rfl)) (fun b => rfl))))))))))))) (by unfold t25_b1; first | (simp only [R.bok, R.bind_okf, R.bind_okg]; done) | (simp only [R.bok, R.bind_okf, R.bind_okg]; rfl) | rfl)⟩) (fun s931 ρ hP => by obtain ⟨e932, e933, e934, e935, e936, e937, e938, e939, e940, e941, e942, e943, e944, e945, e946, e947, e948, rfl⟩ := hP; exact k_seq (k_set (n_V (r_call2 (fun _ _ => tm23 (k - 1) (by omega) _ _) (r_c (a := (3 : Int)) rfl) (r_c sx5))) fun small949 => k_seq (k_forF (o := fun (b : Bool) => R.ok b) (f := (t25_b7 k small949)) (s0 := ()) (fun (s951 : Unit) (ρ : Rho) => ∃ (e4 : Ent) (e933x : Ent) (e934x : Ent) (e935x : Ent) (e936x : Ent) (e937x : Ent) (e938x : Ent) (e939x : Ent) (e940x : Ent) (e941x : Ent) (e942x : Ent) (e943x : Ent) (e944x : Ent) (e945x : Ent) (e946x : Ent) (e947x : Ent) (e948x : Ent), ρ = [.fz (en (script338 : (List Int))), .fz (en (draws339 : (List Int))), .fz (en (length345 : Int)), .fz (en (every346 : (List (Tu Int)))), e4, e933x, e934x, e935x, e936x, e937x, e938x, e939x, e940x, e941x, e942x, e943x, e944x, e945x, e946x, e947x, e948x, .fz (en (small949 : (List Tx))), .no, .no, .no, .no]) (r_iVal (fun _ => o_iter_l _) (r_call1 (fun _ => tm20 (k - 1) (by omega) _) (r_c (a := (3 : Int)) rfl))) (⟨_, _, _, _, _, _, _, _, _, _, _, _, _, _, _, _, _, rfl⟩) (fun row952 s951 ρ hP => by obtain ⟨e4, e933x, e934x, e935x, e936x, e937x, e938x, e939x, e940x, e941x, e942x, e943x, e944x, e945x, e946x, e947x, e948x, rfl⟩ := hP; exact ⟨_, rfl, cv (k_if (r_TB (r_e2 (fun _ _ => (o_ne (by decide) _ _)) (r_call2 (fun _ _ => r_opq) (r_var rfl) (r_c (a := (4 : Int)) rfl)) (r_B1 (fun _ => o_len_l _) (r_Lc2 (r_iVal (fun _ => o_iter_l _) (r_var rfl)) fun text960 => ⟨_, rfl, (r_TB (r_e2 (fun _ _ => (o_eq (by decide) _ _)) (r_call1 (fun _ => tm18 (k - 1) (by omega) _) (r_var rfl)) (r_var rfl))), (r_var rfl)⟩)))) (k_ret (t := Fl.out (σ := (Unit))) (r_c (a := false) rfl) fun _ => rfl) (k_nil (k_end (t := (Fl.on (β := Bool) (()))) ⟨_, rfl, ⟨_, _, _, _, _, _, _, _, _, _, _, _, _, _, _, _, _, rfl⟩⟩))) (by unfold t25_b7; first | (simp only [R.bok, R.bind_okf, R.bind_okg]; done) | (simp only [R.bok, R.bind_okf, R.bind_okg]; rfl) | rfl)⟩) (fun s966 ρ hP => by obtain ⟨e967, e968, e969, e970, e971, e972, e973, e974, e975, e976, e977, e978, e979, e980, e981, e982, e983, rfl⟩ := hP; exact k_seq (k_set (n_V (r_e2 (fun _ _ => (o_add_l _ _)) (r_LcM2 (r_iVal (fun _ => o_iter_l _) (r_LstQ (r_cons (r_c sx0) (r_cons (r_c sx6) (r_cons (r_c sx7) (r_nil (α := Tx))))) (len_cons (len_cons (len_cons len_nil))) (by decide))) fun bad984 => ⟨_, rfl, (r_call3 (fun _ _ _ => tm24 (k - 1) (by omega) _ _ _) (r_c (a := (0 : Int)) rfl) (r_dynx (α := Tx) (r_var rfl)) (r_dynx (α := Tx) (r_c sx0)))⟩) (r_LstQ (r_cons (r_call3 (fun _ _ _ => tm24 (k - 1) (by omega) _ _ _) (r_c (a := (1 : Int)) rfl) (r_dynx (α := Tx) (r_c sx0)) (r_dynx (α := Tx) (r_c sx8))) (r_cons (r_call3 (fun _ _ _ => tm24 (k - 1) (by omega) _ _ _) (r_c (a := (1 : Int)) rfl) (r_dynx (α := Tx) (r_c sx9)) (r_dynx (α := Tx) (r_c sx8))) (r_cons (r_call3 (fun _ _ _ => tm24 (k - 1) (by omega) _ _ _) (r_c (a := (2 : Int)) rfl) (r_dynx (α := (List Int)) (r_LstQ (r_nil (α := Int)) len_nil (by decide))) (r_dynx (α := Int) (r_c (a := (0 : Int)) rfl))) (r_cons (r_call3 (fun _ _ _ => tm24 (k - 1) (by omega) _ _ _) (r_c (a := (2 : Int)) rfl) (r_dynx (α := (List Tx)) (r_LstQ (r_cons (r_c sx10) (r_cons (r_c sx9) (r_nil (α := Tx)))) (len_cons (len_cons len_nil)) (by decide))) (r_dynx (α := Int) (r_c (a := (0 : Int)) rfl))) (r_nil (α := (Option (Tx × Int)))))))) (len_cons (len_cons (len_cons (len_cons len_nil)))) (by decide)))) fun bads994 => k_seq (k_set (n_V (r_e2 (fun _ _ => (o_add_l _ _)) (r_e2 (fun _ _ => (o_add_l _ _)) (r_var rfl) (r_LcM2 (r_iVal (fun _ => o_iter_l _) (r_LstQ (r_cons (r_e1 (fun _ => o_neg_i _) (r_c (a := (1 : Int)) rfl)) (r_cons (r_c (a := (9 : Int)) rfl) (r_nil (α := Int)))) (len_cons (len_cons len_nil)) (by decide))) fun bad995 => ⟨_, rfl, (r_call3 (fun _ _ _ => tm24 (k - 1) (by omega) _ _ _) (r_c (a := (3 : Int)) rfl) (r_dynx (α := Int) (r_var rfl)) (r_dynx (α := Int) (r_c (a := (0 : Int)) rfl)))⟩)) (r_LcM2 (r_iVal (fun _ => o_iter_l _) (r_LstQ (r_cons (r_c (a := (0 : Int)) rfl) (r_cons (r_c (a := (9 : Int)) rfl) (r_nil (α := Int)))) (len_cons (len_cons len_nil)) (by decide))) fun bad997 => ⟨_, rfl, (r_call3 (fun _ _ _ => tm24 (k - 1) (by omega) _ _ _) (r_c (a := (5 : Int)) rfl) (r_dynx (α := Int) (r_var rfl)) (r_dynx (α := Int) (r_e1 (fun _ => o_neg_i _) (r_c (a := (1 : Int)) rfl))))⟩))) fun bads1000 => k_seq (k_set (n_V (r_e2 (fun _ _ => (o_add_l _ _)) (r_e2 (fun _ _ => (o_add_l _ _)) (r_var rfl) (r_LcM2 (r_iVal (fun _ => o_iter_l _) (r_LstQ (r_cons (r_e1 (fun _ => o_neg_i _) (r_c (a := (1 : Int)) rfl)) (r_cons (r_c (a := (5 : Int)) rfl) (r_nil (α := Int)))) (len_cons (len_cons len_nil)) (by decide))) fun bad1001 => ⟨_, rfl, (r_call3 (fun _ _ _ => tm24 (k - 1) (by omega) _ _ _) (r_c (a := (5 : Int)) rfl) (r_dynx (α := Int) (r_c (a := (3 : Int)) rfl)) (r_dynx (α := Int) (r_var rfl)))⟩)) (r_LcM2 (r_iVal (fun _ => o_iter_l _) (r_LstQ (r_cons (r_e1 (fun _ => o_neg_i _) (r_c (a := (1 : Int)) rfl)) (r_cons (r_c (a := (27 : Int)) rfl) (r_nil (α := Int)))) (len_cons (len_cons len_nil)) (by decide))) fun bad1003 => ⟨_, rfl, (r_call3 (fun _ _ _ => tm24 (k - 1) (by omega) _ _ _) (r_c (a := (6 : Int)) rfl) (r_dynx (α := (Tu Int)) (r_TupQ (r_cons (r_c (a := (0 : Int)) rfl) (r_nil (α := Int))) (len_cons len_nil) (by decide))) (r_dynx (α := Int) (r_var rfl)))⟩))) fun bads1006 => k_seq (k_set (n_L (r_e2 (fun _ _ => (o_addL _ _)) (r_e2 (fun _ _ => (o_mul_l _ _)) (r_LstQ (r_cons (r_Tup2 (r_c sx11) (r_c (a := (0 : Int)) rfl)) (r_nil (α := (Tx × Int)))) (len_cons len_nil) (by decide)) (r_c (a := (4 : Int)) rfl)) (r_LstQ (r_cons (r_Tup2 (r_c sx11) (r_c (a := (1 : Int)) rfl)) (r_cons (r_Tup2 (r_c sx12) (r_c (a := (0 : Int)) rfl)) (r_cons (r_Tup2 (r_c sx11) (r_c (a := (1 : Int)) rfl)) (r_nil (α := (Tx × Int)))))) (len_cons (len_cons (len_cons len_nil))) (by decide)))) fun due1008 => k_seq (k_frz (k_set (n_L (r_e2 (fun _ _ => (o_addL _ _)) (r_var rfl) (r_LcP (g := fun (bad1009 : Int) => ((((cs [114, 97, 110, 103, 101])), bad1009) : (Tx × Int))) (r_iVal (fun _ => o_iter_l _) (r_LstQ (r_cons (r_e1 (fun _ => o_neg_i _) (r_c (a := (1 : Int)) rfl)) (r_cons (r_c (a := (9 : Int)) rfl) (r_cons (r_c (a := (0 : Int)) rfl) (r_cons (r_c (a := (9 : Int)) rfl) (r_cons (r_e1 (fun _ => o_neg_i _) (r_c (a := (1 : Int)) rfl)) (r_cons (r_c (a := (5 : Int)) rfl) (r_cons (r_e1 (fun _ => o_neg_i _) (r_c (a := (1 : Int)) rfl)) (r_cons (r_c (a := (27 : Int)) rfl) (r_nil (α := Int)))))))))) (len_cons (len_cons (len_cons (len_cons (len_cons (len_cons (len_cons (len_cons len_nil)))))))) (by decide))) fun bad1009 => ⟨_, rfl, (r_Tup2 (r_c sx13) (r_var rfl))⟩))) fun due1011 => k_retM (r_And (r_e2 (fun _ _ => (o_eq (by decide) _ _)) (r_var rfl) (r_someL (r_borL rfl))) (r_And (r_e2 (fun _ _ => (o_eq (by decide) _ _)) (r_call2 (fun _ _ => r_opq) (r_c (a := (8 : Int)) rfl) (r_c (a := (4139 : Int)) rfl)) (r_TupQ (r_cons (r_c (a := (0 : Int)) rfl) (r_cons (r_c (a := (1 : Int)) rfl) (r_cons (r_c (a := (2 : Int)) rfl) (r_cons (r_c (a := (3 : Int)) rfl) (r_cons (r_c (a := (4 : Int)) rfl) (r_cons (r_c (a := (5 : Int)) rfl) (r_cons (r_c (a := (6 : Int)) rfl) (r_cons (r_c (a := (7 : Int)) rfl) (r_nil (α := Int)))))))))) (len_cons (len_cons (len_cons (len_cons (len_cons (len_cons (len_cons (len_cons len_nil)))))))) (by decide))) (r_e2 (fun _ _ => (o_eq (by decide) _ _)) (r_call3 (fun _ _ _ => tm24 (k - 1) (by omega) _ _ _) (r_c (a := (5 : Int)) rfl) (r_dynx (α := Int) (r_c (a := (8 : Int)) rfl)) (r_dynx (α := Int) (r_c (a := (4140 : Int)) rfl))) (r_some (r_Tup2 (r_c sx13) (r_c (a := (4140 : Int)) rfl)))))) fun _ => Or.inl rfl))))))) (fun b => Or.inl rfl)))) (fun b => Or.inl rfl)))))))))))) (by unfold t25; first | (simp only [R.bok, R.bind_okf, R.bind_okg]; done) | (simp only [R.bok, R.bind_okf, R.bind_okg]; rfl) | rfl))

end PV
namespace PV
open PySem
open En (en de)
theorem t14_eq : t14 = gDraws := rfl
theorem t15_eq : t15 = gMix := rfl
theorem t16_eq : t16 = gText := rfl
theorem t17_eq : t17 = gList := rfl
/-! _law_pattern is pg -/
abbrev Z (ps : List Nat) : List Int := ps.map fun (n : Nat) => (n : Int)
def lpC (w : Tx) (c : Ch) : Nat := (dd (w.take (w.idxOf c))).length
theorem t18_run {w : Tx} (h : w.length < 64) : t18 w = .ok ⟨w.map fun c => ((lpC w c : Nat) : Int)⟩ := by
  unfold t18
  rw [tRng1_nat (by omega), R.bok]
  have key : ∀ (n : Nat) (c : Ch), w[n]? = some c → ∀ s : List Int, s.length < 16000000 → t18_b1 w s (n : Int) = .ok (s ++ [((lpC w c : Nat) : Int)]) := fun n c hc s hs => by
    unfold t18_b1
    have hm := List.mem_of_getElem? hc
    rw [tIx_nat hc, R.bok, R.bok, tIndexS_one hm, R.bok, cutL_to]
    have hi := List.idxOf_lt_length_of_mem hm
    have e : tLenSet (lts (w.take (w.idxOf c))) = .ok ((lpC w c : Nat) : Int) := by
      unfold tLenSet
      rw [gd_pos (by unfold lts; rw [List.length_map, List.length_take]; omega)]
      unfold lts lpC
      rw [dd_mapW (fun c : Ch => [c]) (fun a b h => by simpa using h), List.length_map]
    rw [e, R.bok, tPush_ok (lim_lt hs), R.bok]
  have run := forR_push (f := t18_b1 w) (g := fun t : Int => match w[t.toNat]? with | some c => ((lpC w c : Nat) : Int) | none => 0) (l := rg 0 w.length) [] (fun t ht s hs => by
    have := mem_rg.mp ht
    obtain ⟨n, rfl⟩ : ∃ n : Nat, t = n := ⟨t.toNat, by omega⟩
    have hn : n < w.length := by omega
    rw [key n w[n] (List.getElem?_eq_getElem hn) s hs, Int.toNat_natCast, List.getElem?_eq_getElem hn]) (by rw [rg_length]; simp; omega)
  rw [run, R.bok, List.nil_append, map_rg_get w (fun c => ((lpC w c : Nat) : Int)) _ fun n a ha => by rw [Int.toNat_natCast, ha]]
/-! firsts -/
def firsts (l : List Nat) : List Nat := l.foldl addL []
theorem firsts_snoc (l : List Nat) (c : Nat) : firsts (l ++ [c]) = addL (firsts l) c := by unfold firsts; rw [List.foldl_append]; rfl
theorem mem_foldl_addL (x : Nat) : ∀ (l seen : List Nat), x ∈ l.foldl addL seen ↔ x ∈ seen ∨ x ∈ l
  | [], seen => by simp
  | c :: l, seen => by
    rw [List.foldl_cons, mem_foldl_addL x l]
    unfold addL
    by_cases h : c ∈ seen
    · rw [if_pos h]
      constructor
      · rintro (a | a)
        · exact .inl a
        · exact .inr (List.mem_cons_of_mem _ a)
      · rintro (a | a)
        · exact .inl a
        · rcases List.mem_cons.mp a with e | e
          · subst e; exact .inl h
          · exact .inr e
    · rw [if_neg h, List.mem_append, List.mem_singleton, List.mem_cons]
      constructor
      · rintro ((a | a) | a)
        · exact .inl a
        · exact .inr (.inl a)
        · exact .inr (.inr a)
      · rintro (a | a | a)
        · exact .inl (.inl a)
        · exact .inl (.inr a)
        · exact .inr a
theorem mem_firsts {x : Nat} {l : List Nat} : x ∈ firsts l ↔ x ∈ l := by unfold firsts; rw [mem_foldl_addL]; simp
theorem nodup_addL {seen : List Nat} {c : Nat} (h : seen.Nodup) : (addL seen c).Nodup := by
  unfold addL
  by_cases k : c ∈ seen
  · rw [if_pos k]; exact h
  · rw [if_neg k, List.nodup_append]
    refine ⟨h, by simp, fun a ha b hb e => ?_⟩
    rw [List.mem_singleton.mp hb] at e
    subst e
    exact k ha
theorem nodup_firsts (l : List Nat) : (firsts l).Nodup := by
  unfold firsts
  have : ∀ (l seen : List Nat), seen.Nodup → (l.foldl addL seen).Nodup := by
    intro l
    induction l with
    | nil => exact fun _ h => h
    | cons c l ih => exact fun seen h => ih _ (nodup_addL h)
  exact this l [] List.nodup_nil
theorem firsts_len (l : List Nat) : (firsts l).length = (dd l).length := by
  have p : (firsts l).Perm (dd l) := (List.perm_ext_iff_of_nodup (nodup_firsts l) (nodup_dd l)).mpr fun a => by rw [mem_firsts, mem_dd]
  exact p.length_eq
theorem addL_pre (c : Nat) : ∀ (seen : List Nat), seen <+: addL seen c := fun seen => by
  unfold addL
  by_cases k : c ∈ seen
  · rw [if_pos k]; exact List.prefix_refl _
  · rw [if_neg k]; exact List.prefix_append _ _
theorem foldl_addL_pre : ∀ (l seen : List Nat), seen <+: l.foldl addL seen
  | [], seen => List.prefix_refl _
  | c :: l, seen => (addL_pre c seen).trans (foldl_addL_pre l _)
theorem firsts_pre (a b : List Nat) : firsts a <+: firsts (a ++ b) := by unfold firsts; rw [List.foldl_append]; exact foldl_addL_pre b _
theorem idxOf_pre {c : Nat} : ∀ {a b : List Nat}, a <+: b → c ∈ a → b.idxOf c = a.idxOf c
  | a, b, ⟨t, e⟩, h => by subst e; rw [List.idxOf_append, if_pos h]
theorem take_idxOf {c : Nat} : ∀ {l : List Nat}, c ∈ l → l.take (l.idxOf c + 1) = l.take (l.idxOf c) ++ [c] ∧ c ∉ l.take (l.idxOf c)
  | [], h => by cases h
  | x :: l, h => by
    by_cases e : x = c
    · subst e; simp
    · have hm : c ∈ l := by
        rcases List.mem_cons.mp h with z | z
        · exact absurd z.symm e
        · exact z
      obtain ⟨h1, h2⟩ := take_idxOf hm
      have hb : (x == c) = false := by simpa using e
      rw [List.idxOf_cons, hb]
      simp only [cond_false]
      rw [List.take_succ_cons, List.take_succ_cons, h1]
      refine ⟨rfl, fun z => ?_⟩
      rcases List.mem_cons.mp z with z | z
      · exact e z.symm
      · exact h2 z
/-- the place of a letter among the unlike ones -/
theorem idxOf_firsts {c : Nat} {l : List Nat} (h : c ∈ l) : (firsts l).idxOf c = (dd (l.take (l.idxOf c))).length := by
  obtain ⟨h1, h2⟩ := take_idxOf h
  have hp : firsts (l.take (l.idxOf c + 1)) <+: firsts l := by
    have := firsts_pre (l.take (l.idxOf c + 1)) (l.drop (l.idxOf c + 1))
    rw [List.take_append_drop] at this
    exact this
  have e : firsts (l.take (l.idxOf c + 1)) = firsts (l.take (l.idxOf c)) ++ [c] := by
    rw [h1, firsts_snoc]
    unfold addL
    rw [if_neg (fun z => h2 (mem_firsts.mp z))]
  have n2 : c ∉ firsts (l.take (l.idxOf c)) := fun z => h2 (mem_firsts.mp z)
  rw [idxOf_pre hp (by rw [e]; simp), e, idxOf_snoc n2, firsts_len]
theorem pg_eq : ∀ (cs pre : List Nat), pg (firsts pre) cs = cs.map fun c => (firsts (pre ++ cs)).idxOf c
  | [], _ => rfl
  | c :: cs, pre => by
    rw [pg, List.map_cons, ← firsts_snoc, pg_eq cs (pre ++ [c])]
    rw [show pre ++ [c] ++ cs = pre ++ c :: cs by simp]
    congr 1
    have hp : firsts (pre ++ [c]) <+: firsts (pre ++ c :: cs) := by
      have := firsts_pre (pre ++ [c]) cs
      rw [show pre ++ [c] ++ cs = pre ++ c :: cs by simp] at this
      exact this
    exact (idxOf_pre hp (mem_firsts.mpr (by simp))).symm
theorem idxOf_vs (c : Ch) : ∀ w : Tx, (vs w).idxOf c.v = w.idxOf c
  | [] => rfl
  | x :: w => by
    show (x.v :: vs w).idxOf c.v = _
    rw [List.idxOf_cons, List.idxOf_cons, idxOf_vs c w]
    by_cases h : x = c
    · subst h; simp
    · have h2 : ¬ x.v = c.v := fun z => h (Ch.ext z)
      have a1 : (x.v == c.v) = false := by simpa using h2
      have a2 : (x == c) = false := by simpa using h
      rw [a1, a2]
theorem pg_lp (w : Tx) : pg [] (vs w) = w.map (lpC w) := by
  have := pg_eq (vs w) []
  rw [show firsts [] = [] from rfl, List.nil_append] at this
  rw [this]
  unfold vs
  rw [List.map_map]
  refine List.map_congr_left fun c hc => ?_
  show (firsts (vs w)).idxOf c.v = lpC w c
  rw [idxOf_firsts (by unfold vs; exact List.mem_map.mpr ⟨c, hc, rfl⟩), idxOf_vs]
  unfold lpC vs
  rw [← List.map_take, dd_mapW Ch.v (fun a b h => Ch.ext h), List.length_map]
abbrev pt (w : Tx) : List Nat := pg [] (vs w)
theorem t18_ok {w : Tx} (h : w.length < 64) : t18 w = .ok ⟨Z (pt w)⟩ := by
  rw [t18_run h]
  show _ = R.ok (Tu.mk ((pg [] (vs w)).map _))
  rw [pg_lp, List.map_map]; rfl

end PV
namespace PV
open PySem
open En (en de)
theorem t0_eq : t0 = gWord := rfl
theorem t1_eq : t1 = gChk 1 2 := rfl
/-! alike by an exchange -/
def Alk (u v : Tx) : Prop := u.length = v.length ∧ ∀ p ∈ u.zip v, ∀ q ∈ u.zip v, (p.1 = q.1 ↔ p.2 = q.2)
theorem pg_map (f : Nat → Nat) : ∀ (cs seen : List Nat), (∀ a ∈ seen ++ cs, ∀ b ∈ seen ++ cs, f a = f b → a = b) → pg (seen.map f) (cs.map f) = pg seen cs
  | [], _, _ => rfl
  | c :: cs, seen, h => by
    have e : addL (seen.map f) (f c) = (addL seen c).map f := by
      unfold addL
      by_cases k : c ∈ seen
      · rw [if_pos k, if_pos (List.mem_map.mpr ⟨c, k, rfl⟩)]
      · rw [if_neg k, if_neg, List.map_append]; · rfl
        intro z
        obtain ⟨b, hb, hf⟩ := List.mem_map.mp z
        have := h b (by simp [hb]) c (by simp) hf
        subst this; exact k hb
    have sub : ∀ x ∈ addL seen c ++ cs, x ∈ seen ++ c :: cs := fun x hx => by
      rcases List.mem_append.mp hx with z | z
      · unfold addL at z
        by_cases k : c ∈ seen
        · rw [if_pos k] at z; simp [z]
        · rw [if_neg k] at z
          rcases List.mem_append.mp z with z | z
          · simp [z]
          · rw [List.mem_singleton.mp z]; simp
      · simp [z]
    rw [List.map_cons, pg, pg, e, pg_map f cs (addL seen c) fun a ha b hb => h a (sub a ha) b (sub b hb)]
    congr 1
    have inj : ∀ l : List Nat, (∀ x ∈ l, x ∈ seen ++ c :: cs) → (l.map f).idxOf (f c) = l.idxOf c := by
      intro l
      induction l with
      | nil => intro _; rfl
      | cons x l ih =>
        intro hl
        rw [List.map_cons, List.idxOf_cons, List.idxOf_cons, ih fun y hy => hl y (List.mem_cons_of_mem _ hy)]
        by_cases k : x = c
        · subst k; simp
        · have k2 : ¬ f x = f c := fun z => k (h x (hl x List.mem_cons_self) c (by simp) z)
          have a1 : (f x == f c) = false := by simpa using k2
          have a2 : (x == c) = false := by simpa using k
          rw [a1, a2]
    exact inj _ fun x hx => sub x (by simp [hx])
theorem pt_of_alk {u v : Tx} (h : Alk u v) : pt u = pt v := by
  obtain ⟨hl, h⟩ := h
  let f : Nat → Nat := fun a => match v[(vs u).idxOf a]? with | some c => c.v | none => 0
  have hf : ∀ p ∈ u.zip v, f p.1.v = p.2.v := fun p hp => by
    show (match v[(vs u).idxOf p.1.v]? with | some c => c.v | none => 0) = _
    rw [idxOf_vs]
    have hm : p.1 ∈ u := (List.of_mem_zip hp).1
    have hi := List.idxOf_lt_length_of_mem hm
    have hv : u.idxOf p.1 < v.length := by omega
    rw [List.getElem?_eq_getElem hv]
    have hz : (u[u.idxOf p.1], v[u.idxOf p.1]) ∈ u.zip v := by
      have : (u.zip v)[u.idxOf p.1]'(by rw [List.length_zip]; omega) = (u[u.idxOf p.1], v[u.idxOf p.1]) := List.getElem_zip
      rw [← this]; exact List.getElem_mem _
    have := (h _ hz p hp).mp (List.getElem_idxOf hi)
    exact congrArg Ch.v this
  have ev : vs v = (vs u).map f := by
    apply List.ext_getElem
    · unfold vs; simp [hl]
    · intro i h1 h2
      have hu : i < u.length := by unfold vs at h2; simpa using h2
      have hv : i < v.length := by unfold vs at h1; simpa using h1
      simp only [vs, List.getElem_map]
      have hz : (u[i], v[i]) ∈ u.zip v := by
        have : (u.zip v)[i]'(by rw [List.length_zip]; omega) = (u[i], v[i]) := List.getElem_zip
        rw [← this]; exact List.getElem_mem _
      exact (hf _ hz).symm
  show pg [] (vs u) = pg [] (vs v)
  rw [ev]
  refine (pg_map f (vs u) [] fun a ha b hb e => ?_).symm
  rw [List.nil_append] at ha hb
  obtain ⟨ca, hca, rfl⟩ := List.mem_map.mp ha
  obtain ⟨cb, hcb, rfl⟩ := List.mem_map.mp hb
  have wit : ∀ c ∈ u, ∃ d, (c, d) ∈ u.zip v := fun c hc => by
    obtain ⟨i, hi, rfl⟩ := List.getElem_of_mem hc
    have hv : i < v.length := by omega
    refine ⟨v[i], ?_⟩
    have : (u.zip v)[i]'(by rw [List.length_zip]; omega) = (u[i], v[i]) := List.getElem_zip
    rw [← this]; exact List.getElem_mem _
  obtain ⟨da, hda⟩ := wit ca hca
  obtain ⟨db, hdb⟩ := wit cb hcb
  have e1 := hf _ hda
  have e2 := hf _ hdb
  simp only at e1 e2
  rw [e1, e2] at e
  have := (h _ hda _ hdb).mpr (Ch.ext e)
  exact congrArg Ch.v this
theorem alk_of_pt {u v : Tx} (h : pt u = pt v) : Alk u v := by
  have hl : u.length = v.length := by
    have := congrArg List.length h
    rw [pg_len, pg_len] at this
    unfold vs at this; simpa using this
  refine ⟨hl, fun p hp q hq => ?_⟩
  have e := h
  show p.1 = q.1 ↔ p.2 = q.2
  have pe : ∀ w : Tx, pg [] (vs w) = w.map fun c => (firsts (vs w)).idxOf c.v := fun w => by
    have := pg_eq (vs w) []
    rw [show firsts [] = [] from rfl, List.nil_append] at this
    rw [this]
    show ((w.map Ch.v).map _) = _
    rw [List.map_map]; rfl
  have e : pg [] (vs u) = pg [] (vs v) := h
  rw [pe, pe] at e
  have at_ : ∀ r ∈ u.zip v, (firsts (vs u)).idxOf r.1.v = (firsts (vs v)).idxOf r.2.v := fun r hr => by
    obtain ⟨i, hi, rfl⟩ := List.getElem_of_mem hr
    rw [List.length_zip] at hi
    have := congrArg (fun l => l[i]?) e
    simp only [List.getElem?_map] at this
    rw [List.getElem?_eq_getElem (show i < u.length by omega), List.getElem?_eq_getElem (show i < v.length by omega)] at this
    rw [List.getElem_zip]
    simpa using this
  have inj : ∀ (w : Tx) (a b : Ch), a ∈ w → b ∈ w → ((firsts (vs w)).idxOf a.v = (firsts (vs w)).idxOf b.v ↔ a = b) := fun w a b ha hb => by
    constructor
    · intro z
      have ma : a.v ∈ firsts (vs w) := mem_firsts.mpr (mem_vs.mp ha)
      have mb : b.v ∈ firsts (vs w) := mem_firsts.mpr (mem_vs.mp hb)
      have g1 := List.getElem_idxOf (List.idxOf_lt_length_of_mem ma)
      have g2 := List.getElem_idxOf (List.idxOf_lt_length_of_mem mb)
      have : (firsts (vs w))[(firsts (vs w)).idxOf a.v]'(List.idxOf_lt_length_of_mem ma) = (firsts (vs w))[(firsts (vs w)).idxOf b.v]'(List.idxOf_lt_length_of_mem mb) := by congr 1
      rw [g1, g2] at this
      exact Ch.ext this
    · intro z; rw [z]
  have mp := List.of_mem_zip hp
  have mq := List.of_mem_zip hq
  rw [← inj u p.1 q.1 mp.1 mq.1, ← inj v p.2 q.2 mp.2 mq.2, at_ p hp, at_ q hq]
theorem nodup_dd_len {α : Type} [DecidableEq α] : ∀ {l : List α}, (dd l).length = l.length ↔ l.Nodup
  | [] => by simp [dd]
  | x :: l => by
    have ih := nodup_dd_len (l := l)
    show (if x ∈ dd l then dd l else x :: dd l).length = _ ↔ _
    rw [List.nodup_cons, List.length_cons]
    have le := dd_len_le l
    by_cases h : x ∈ dd l
    · rw [if_pos h]
      constructor
      · intro z; omega
      · rintro ⟨z, _⟩; exact absurd (mem_dd.mp h) z
    · rw [if_neg h, List.length_cons]
      constructor
      · intro z; exact ⟨fun m => h (mem_dd.mpr m), ih.mp (by omega)⟩
      · rintro ⟨_, z⟩; rw [ih.mpr z]
theorem inj_of_nodup_map {α β : Type} {f : α → β} : ∀ {l : List α}, (l.map f).Nodup → ∀ a ∈ l, ∀ b ∈ l, f a = f b → a = b
  | [], _, a, ha, _, _, _ => by cases ha
  | x :: l, h, a, ha, b, hb, e => by
    rw [List.map_cons, List.nodup_cons] at h
    rcases List.mem_cons.mp ha with ha | ha
    · rcases List.mem_cons.mp hb with hb | hb
      · rw [ha, hb]
      · have m : f b ∈ l.map f := List.mem_map.mpr ⟨b, hb, rfl⟩
        rw [← e, ha] at m; exact absurd m h.1
    · rcases List.mem_cons.mp hb with hb | hb
      · have m : f a ∈ l.map f := List.mem_map.mpr ⟨a, ha, rfl⟩
        rw [e, hb] at m; exact absurd m h.1
      · exact inj_of_nodup_map h.2 a ha b hb e
theorem nodup_map_iff {α β : Type} {f : α → β} {l : List α} (hn : l.Nodup) : (l.map f).Nodup ↔ ∀ a ∈ l, ∀ b ∈ l, f a = f b → a = b := by
  constructor
  · exact inj_of_nodup_map
  · intro h
    rw [List.nodup_iff_pairwise_ne, List.pairwise_map]
    refine (List.Pairwise.and_mem.mp hn).imp fun {a b} z e => ?_
    exact z.2.2 (h a z.1 b z.2.1 e)
theorem t22_ok {u v : Tx} (hu : u.length < 64) (hv : v.length < 64) : t22 u v = .ok (decide (pt u = pt v)) := by
  unfold t22
  by_cases hl : u.length = v.length
  · rw [if_neg (by simp [hl]), tRng1_nat (by omega), R.bok]
    have ez : ∀ t ∈ rg 0 u.length, (((tIx u t).bind fun c => R.ok [c]).bind fun (x270 : Tx) => ((tIx v t).bind fun c => R.ok [c]).bind fun (x271 : Tx) => R.ok ((x270, x271)) : R (Tx × Tx)) = .ok ((match (u.zip v)[t.toNat]? with | some p => ([p.1], [p.2]) | none => ([], []) : Tx × Tx)) := fun t ht => by
      have := mem_rg.mp ht
      obtain ⟨n, rfl⟩ : ∃ n : Nat, t = n := ⟨t.toNat, by omega⟩
      have h1 : n < u.length := by omega
      have h2 : n < v.length := by omega
      rw [tIx_nat (List.getElem?_eq_getElem h1), tIx_nat (List.getElem?_eq_getElem h2), Int.toNat_natCast, List.getElem?_eq_getElem (by rw [List.length_zip]; omega), List.getElem_zip]
      rfl
    rw [tMapR_ok (by rw [rg_length]; exact lim_of (by omega)) ez, R.bok]
    have hz : (u.zip v).length = u.length := by rw [List.length_zip]; omega
    have e2 := map_rg_get (u.zip v) (fun p => (([p.1], [p.2]) : Tx × Tx)) (fun t => (match (u.zip v)[t.toNat]? with | some p => ([p.1], [p.2]) | none => ([], []) : Tx × Tx)) fun n a ha => by rw [Int.toNat_natCast, ha]
    rw [hz] at e2
    rw [e2, tSortSet_ok (by rw [List.length_map]; omega) fun _ _ => rfl, R.bok]
    generalize hS : sset ((u.zip v).map fun p => (([p.1], [p.2]) : Tx × Tx)) = S
    have hSl : S.length < 64 := by
      rw [← hS]
      refine Nat.lt_of_le_of_lt (sset_len_le _) ?_
      rw [List.length_map]; omega
    have hn : S.Nodup := by rw [← hS]; exact sset_nodup _
    have hm : ∀ x, x ∈ S ↔ ∃ p ∈ u.zip v, ([p.1], [p.2]) = x := fun x => by rw [← hS, mem_sset, List.mem_map]
    have tl : ∀ l : List Tx, l.length < 64 → tLenSet l = .ok ((dd l).length : Int) := fun l h => gd_pos h
    rw [tMap_ok (lim_of (by omega)), R.bok, tl _ (by rw [List.length_map]; exact hSl), R.bok, R.bok, tMap_ok (lim_of (by omega)), R.bok, tl _ (by rw [List.length_map]; exact hSl), R.bok]
    have side : ∀ f : Tx × Tx → Tx, (((dd (S.map f)).length : Int) = (S.length : Int)) ↔ ∀ a ∈ S, ∀ b ∈ S, f a = f b → a = b := fun f => by
      rw [← nodup_map_iff hn, ← nodup_dd_len, List.length_map]
      omega
    have goal : (∀ a ∈ S, ∀ b ∈ S, a.1 = b.1 → a = b) ∧ (∀ a ∈ S, ∀ b ∈ S, a.2 = b.2 → a = b) ↔ pt u = pt v := by
      constructor
      · rintro ⟨h1, h2⟩
        refine pt_of_alk ⟨hl, fun p hp q hq => ⟨fun e => ?_, fun e => ?_⟩⟩
        · have := h1 _ ((hm _).mpr ⟨p, hp, rfl⟩) _ ((hm _).mpr ⟨q, hq, rfl⟩) (by simp [e])
          simpa using (congrArg Prod.snd this)
        · have := h2 _ ((hm _).mpr ⟨p, hp, rfl⟩) _ ((hm _).mpr ⟨q, hq, rfl⟩) (by simp [e])
          simpa using (congrArg Prod.fst this)
      · intro h
        obtain ⟨_, k⟩ := alk_of_pt h
        constructor
        · intro a ha b hb e
          obtain ⟨p, hp, rfl⟩ := (hm _).mp ha
          obtain ⟨q, hq, rfl⟩ := (hm _).mp hb
          have e1 : p.1 = q.1 := by simpa using e
          rw [e1, (k p hp q hq).mp e1]
        · intro a ha b hb e
          obtain ⟨p, hp, rfl⟩ := (hm _).mp ha
          obtain ⟨q, hq, rfl⟩ := (hm _).mp hb
          have e1 : p.2 = q.2 := by simpa using e
          rw [e1, (k p hp q hq).mpr e1]
    by_cases c1 : (((dd (S.map fun p => p.1)).length : Int) = (S.length : Int))
    · rw [decide_eq_true c1, if_pos (show Tr.tr true = true from rfl)]
      congr 1
      rw [decide_eq_decide, side fun p => p.2, ← goal]
      exact ⟨fun h => ⟨(side fun p => p.1).mp c1, h⟩, fun h => h.2⟩
    · rw [decide_eq_false c1, if_neg (show ¬ Tr.tr false = true by decide)]
      congr 1
      symm
      rw [decide_eq_false_iff_not, ← goal]
      exact fun h => c1 ((side fun p => p.1).mpr h.1)
  · rw [if_pos (by simp; omega)]
    congr 1
    symm
    rw [decide_eq_false_iff_not]
    exact fun h => hl (alk_of_pt h).1

end PV
namespace PV
open PySem
open En (en de)
/-! _law_is_pattern -/
theorem isGo_iff : ∀ (xs : List Int) (m : Int), isGo m xs = true ↔ ∀ (n : Nat) (x : Int), xs[n]? = some x → 0 ≤ x ∧ x ≤ (xs.take n).foldl max m + 1
  | [], m => by simp [isGo]
  | y :: xs, m => by
    rw [isGo, Bool.and_eq_true, Bool.and_eq_true, decide_eq_true_eq, decide_eq_true_eq, isGo_iff xs (max m y)]
    constructor
    · rintro ⟨⟨h1, h2⟩, h3⟩ n x hx
      cases n with
      | zero =>
        have : y = x := by simpa using hx
        subst this; exact ⟨h1, h2⟩
      | succ n =>
        have := h3 n x (by simpa using hx)
        rw [List.take_succ_cons, List.foldl_cons]
        exact this
    · intro h
      refine ⟨h 0 y rfl, fun n x hx => ?_⟩
      have := h (n + 1) x (by simpa using hx)
      rw [List.take_succ_cons, List.foldl_cons] at this
      exact this
theorem lMax_cons (x : Int) (xs : List Int) : lMax (x :: xs) = some (xs.foldl max x) := rfl
theorem t19_ok {told : Tu Int} (h : told.l.length < 1000) : t19 told = .ok (isPat told.l) := by
  obtain ⟨xs⟩ := told
  have h : xs.length < 1000 := h
  show t19 ⟨xs⟩ = .ok (isPat xs)
  unfold t19
  dsimp only
  by_cases e : xs = []
  · subst e
    rw [if_pos (by decide)]; rfl
  · have e1 : ¬ (Tu.mk xs = Tu.mk ([] : List Int)) := fun z => e (by injection z)
    rw [decide_eq_false e1, if_neg (by decide), tRng1_nat (by omega), R.bok]
    have el : ∀ t ∈ rg 0 xs.length, ((tIx xs t).bind fun (x172 : Int) => (if (decide ((0 : Int) ≤ x172)) = true then (((tAppT (Tu.mk [-(1 : Int)]) (Tu.mk (cutL xs none (some t)))).bind fun (x170 : Tu Int) => ofO (lMax (Tu.l x170))).bind fun (x171 : Int) => R.ok (x171 + (1 : Int))).bind fun (z173 : Int) => R.ok (decide (x172 ≤ z173)) else R.ok false)).bind (fun (b174 : Bool) => R.ok (!b174)) = (.ok (match xs[t.toNat]? with | some x => !(decide (0 ≤ x) && decide (x ≤ (xs.take t.toNat).foldl max (-1) + 1)) | none => true) : R Bool) := fun t ht => by
      have := mem_rg.mp ht
      obtain ⟨n, rfl⟩ : ∃ n : Nat, t = n := ⟨t.toNat, by omega⟩
      have hn : n < xs.length := by omega
      rw [tIx_nat (List.getElem?_eq_getElem hn), R.bok, Int.toNat_natCast, List.getElem?_eq_getElem hn, cutL_to]
      by_cases h0 : 0 ≤ xs[n]
      · rw [if_pos (decide_eq_true h0), tAppT_ok (lim_of (by simp; omega)), R.bok]
        dsimp only
        simp only [List.singleton_append, lMax_cons, ofO, R.bok, decide_eq_true h0, Bool.true_and]
      · rw [if_neg (by rw [decide_eq_true_eq]; exact h0), R.bok]
        dsimp only
        simp only [decide_eq_false h0, Bool.false_and]
    rw [tLcR_ok (h := fun t => t) (by rw [rg_length]; exact lim_of (by omega)) el fun _ _ _ => rfl, R.bok]
    congr 1
    have hne : (!xs.isEmpty) = true := by cases xs with | nil => exact absurd rfl e | cons _ _ => rfl
    unfold isPat
    rw [hne, Bool.and_true, List.map_id']
    cases hg : isGo (-1) xs with
    | true =>
      rw [decide_eq_true_eq, List.filter_eq_nil_iff]
      intro t ht
      have := mem_rg.mp ht
      obtain ⟨n, rfl⟩ : ∃ n : Nat, t = n := ⟨t.toNat, by omega⟩
      have hn : n < xs.length := by omega
      rw [Int.toNat_natCast, List.getElem?_eq_getElem hn]
      have := (isGo_iff xs (-1)).mp hg n xs[n] (List.getElem?_eq_getElem hn)
      simp [this.1, this.2]
    | false =>
      rw [decide_eq_false_iff_not, List.filter_eq_nil_iff]
      intro z
      have : isGo (-1) xs = true := (isGo_iff xs (-1)).mpr fun n x hx => by
        have hn := (List.getElem?_eq_some_iff.mp hx).1
        have := z (n : Int) (mem_rg.mpr (by omega))
        rw [Int.toNat_natCast, hx] at this
        simpa using this
      rw [hg] at this; cases this
/-! what is refused -/
theorem ev11_bad (k : Nat) (xs : List Int) (h : ¬ (isPat xs = true ∧ xs.length ≤ 8)) : evN rows (k + 3) 11 [tI xs] = .exc 3 (.int 0) := by
  rw [evS (f := f11) (n := 7) (m := 1) rfl rfl]
  have hc := ev10 k xs
  rw [if_neg h] at hc
  have run : f11 (evN rows (k + 2)) [.fz (tI xs), .no, .no, .no, .no, .no, .no] = .exc 3 (.int 0) := by
    unfold f11
    show RS.seq (RS.ofR (evN rows (k + 2) 10 [tI xs]) _) _ = _
    rw [hc]; rfl
  show (match f11 (evN rows (k + 2)) [.fz (tI xs), .no, .no, .no, .no, .no, .no] with | .next _ => R.ok PyData.none | .ret d => .ok d | .exc c z => .exc c z | .bad => .bad) = _
  rw [run]
theorem ev13_bad (k : Nat) (xs : List Int) (n : Int) (h : ¬ (isPat xs = true ∧ xs.length ≤ 8)) : evN rows (k + 3) 13 [tI xs, .int n] = .exc 3 (.int 0) := by
  rw [evS (f := f13) (n := 4) (m := 2) rfl rfl]
  have hc := ev10 k xs
  rw [if_neg h] at hc
  have run : f13 (evN rows (k + 2)) [.fz (tI xs), .fz (.int n), .no, .no] = .exc 3 (.int 0) := by
    unfold f13
    show RS.seq (RS.ofR (evN rows (k + 2) 10 [tI xs]) _) _ = _
    rw [hc]; rfl
  show (match f13 (evN rows (k + 2)) [.fz (tI xs), .fz (.int n), .no, .no] with | .next _ => R.ok PyData.none | .ret d => .ok d | .exc c z => .exc c z | .bad => .bad) = _
  rw [run]
abbrev PT : Tx := cs [112, 97, 116, 116, 101, 114, 110]
theorem try_pat (k : Unit → R (Option (Tx × Int))) : tryR (β := (Option (Tx × Int))) [(2, "word"), (1, "size"), (3, "pattern"), (0, "range")] (R.exc 3 (.int 0) : R Unit) k (fun (b : Option (Tx × Int)) => R.ok b) = .ok (some (PT, 0)) := by
  have : (de (α := Option (Tx × Int)) (.tuple [.str ("pattern" : Str), .int 0])) = some (some (PT, 0)) := by kernel_rfl
  show (match de (α := Option (Tx × Int)) (.tuple [.str ("pattern" : Str), .int 0]) with | some b => R.ok b | none => .bad) = _
  rw [this]
theorem t24_4 (k : Nat) (xs : List Int) (d : D) (h : ¬ (isPat xs = true ∧ xs.length ≤ 8)) : t24 (k + 4) 4 (en (Tu.mk xs)) d = .ok (some (PT, 0)) := by
  unfold t24
  rw [if_neg (by decide), if_neg (by decide), if_neg (by decide), if_neg (by decide), if_pos (by decide)]
  rw [dc_en, R.bok]
  have := ev11_bad k xs h
  rw [show evN rows (k + 4 - 1) 11 [en (Tu.mk xs)] = .exc 3 (.int 0) from this]
  exact try_pat _
theorem t24_6 (k : Nat) (xs : List Int) (n : Int) (h : ¬ (isPat xs = true ∧ xs.length ≤ 8)) : t24 (k + 4) 6 (en (Tu.mk xs)) (en n) = .ok (some (PT, 0)) := by
  unfold t24
  rw [if_neg (by decide), if_neg (by decide), if_neg (by decide), if_neg (by decide), if_neg (by decide), if_neg (by decide)]
  rw [dc_en, R.bok, dc_en, R.bok]
  have := ev13_bad k xs n h
  rw [show evN rows (k + 4 - 1) 13 [en (Tu.mk xs), en n] = .exc 3 (.int 0) from this]
  exact try_pat _
/-! letters of a pattern -/
theorem mem_rgs : ∀ (ps : List Nat) (M : Nat), rgs M ps = true → ∀ x, (x < M ∨ x ∈ ps) ↔ x < lett M ps
  | [], M, _, x => by simp [lett]
  | p :: ps, M, h, x => by
    rw [rgs, Bool.and_eq_true, decide_eq_true_eq] at h
    have ih := mem_rgs ps (max M (p + 1)) h.2 x
    rw [lett, ← ih, List.mem_cons]
    constructor
    · rintro (h1 | h1 | h1)
      · left; omega
      · left; omega
      · right; exact h1
    · rintro (h1 | h1)
      · by_cases c : x < M
        · exact .inl c
        · right; left; omega
      · right; right; exact h1
theorem dd_lett (ps : List Nat) (h : rgs 0 ps = true) : (dd ps).length = lett 0 ps := by
  have p : (dd ps).Perm (List.range (lett 0 ps)) := (List.perm_ext_iff_of_nodup (nodup_dd ps) List.nodup_range).mpr fun x => by
    rw [mem_dd, List.mem_range, ← mem_rgs ps 0 h x]
    simp
  rw [p.length_eq, List.length_range]
theorem facF_run (dr : List Int) (row : Tu Int) (k : Int) (told : List Tx) (n : Int) (h0 : 0 ≤ n) (h1 : n ≤ 26) : ∀ (m i : Nat) (acc : Int), forR (t25_b4 dr row k told n) ((List.range' i m).map fun (j : Nat) => (j : Int)) acc = .ok (facF n i m acc)
  | 0, i, acc => rfl
  | m + 1, i, acc => by
    have hW := W64_ge
    rw [List.range'_succ, List.map_cons, forR_cons]
    unfold t25_b4 tMul
    rw [gd_pos (.inr ⟨by omega, by omega⟩), R.bok, R.bok]
    have := facF_run dr row k told n h0 h1 m (i + 1) (acc * max 0 (n - (i : Int)))
    unfold t25_b4 tMul at this
    rw [this, facF]

end PV
namespace PV
open PySem
open En (en de)
theorem okw_of {w : Tx} (h : isW w = true) : okw (vs w) := by
  unfold isW at h
  rw [Bool.and_eq_true, Bool.and_eq_true, decide_eq_true_eq, decide_eq_true_eq, List.all_eq_true] at h
  refine ⟨fun y hy => ?_, by unfold vs; rw [List.length_map]; exact h.1.1, by unfold vs; rw [List.length_map]; exact h.1.2⟩
  obtain ⟨c, hc, rfl⟩ := List.mem_map.mp hy
  have := h.2 c hc
  unfold lowC at this
  rw [Bool.and_eq_true, decide_eq_true_eq, decide_eq_true_eq] at this
  exact this
theorem len_of {w : Tx} (h : isW w = true) : 1 ≤ w.length ∧ w.length ≤ 8 := by
  have := okw_of h
  unfold okw vs at this
  rw [List.length_map] at this
  exact this.2
theorem pt_len (w : Tx) : (pt w).length = w.length := by rw [pg_len]; unfold vs; rw [List.length_map]
theorem pt_ne {w : Tx} (h : isW w = true) : pt w ≠ [] := fun e => by
  have := pt_len w
  rw [e] at this
  have := (len_of h).1
  simp at *; omega
theorem pt_rgs (w : Tx) : rgs 0 (pt w) = true := pg_rgs (vs w) []
theorem Z_inj {a b : List Nat} (h : Z a = Z b) : a = b := by
  induction a generalizing b with
  | nil => cases b with
    | nil => rfl
    | cons _ _ => cases h
  | cons x a ih => cases b with
    | nil => cases h
    | cons y b =>
      unfold Z at h
      rw [List.map_cons, List.map_cons, List.cons.injEq] at h
      rw [ih h.2, show x = y by omega]
theorem isPat_Z {ps : List Nat} (h : rgs 0 ps = true) (hn : ps ≠ []) : isPat (Z ps) = true := by
  have := isPat_rgs ps
  rw [h] at this
  cases ps with
  | nil => exact absurd rfl hn
  | cons _ _ => exact this
theorem wv6 (xs : List Int) : (evN rows (12 - 1) 6 [en (Tu.mk xs)]).bind (dc (α := Bool)) = .ok (isPat xs) := dc_ok (ev6 10 xs)
theorem wv4 {w : Tx} (h : isW w = true) : (evN rows (12 - 1) 4 [en w]).bind (dc (α := Tu Int)) = .ok ⟨Z (pt w)⟩ := dc_ok (a := (⟨Z (pt w)⟩ : Tu Int)) (ev4 8 (vs w) (okw_of h))
theorem wv5 {u v : Tx} (hu : isW u = true) (hv : isW v = true) : (evN rows (12 - 1) 5 [en u, en v]).bind (dc (α := Bool)) = .ok (decide (pt u = pt v)) := dc_ok (a := decide (pt u = pt v)) (ev5 8 (vs u) (vs v) (okw_of hu) (okw_of hv))
theorem wv11 {ps : List Nat} (h : rgs 0 ps = true) (hn : ps ≠ []) (hl : ps.length ≤ 8) : (evN rows (12 - 1) 11 [en (Tu.mk (Z ps))]).bind (dc (α := Int)) = .ok ((rank 0 ps : Nat) : Int) := dc_ok (a := ((rank 0 ps : Nat) : Int)) (ev11 8 ps h hn hl)
theorem wv12 {ps : List Nat} (h : rgs 0 ps = true) (hn : ps ≠ []) (hl : ps.length ≤ 8) : (evN rows (12 - 1) 12 [en ((ps.length : Nat) : Int), en ((rank 0 ps : Nat) : Int)]).bind (dc (α := Tu Int)) = .ok ⟨Z ps⟩ := dc_ok (a := (⟨Z ps⟩ : Tu Int)) (ev12 8 ps h hn hl)
theorem wv13 {ps : List Nat} (h : rgs 0 ps = true) (hn : ps ≠ []) (hl : ps.length ≤ 8) {n : Int} (h0 : 0 ≤ n) (h1 : n ≤ 26) : (evN rows (12 - 1) 13 [en (Tu.mk (Z ps)), en n]).bind (dc (α := Int)) = .ok (facF n 0 (lett 0 ps) 1) := by
  cases ps with
  | nil => exact absurd rfl hn
  | cons p ps => exact dc_ok (a := facF n 0 (lett 0 (p :: ps)) 1) (ev13 8 p ps h hl n h0 h1)
theorem wv2 {w : Tx} (h : isW w = true) : (evN rows (12 - 1 - 1) 2 [en w]).bind (dc (α := Tu Int)) = .ok ⟨Z (pt w)⟩ := dc_ok (a := (⟨Z (pt w)⟩ : Tu Int)) (ev2 9 (vs w) (okw_of h).1 (by have := (okw_of h).2.2; omega))
theorem t18_w {w : Tx} (h : isW w = true) : t18 w = .ok ⟨Z (pt w)⟩ := t18_ok (by have := (len_of h).2; omega)
theorem rg_range' (n : Nat) : rg 0 n = (List.range' 0 n).map fun (j : Nat) => (j : Int) := by rw [rg_nats, List.range_eq_range']
/-! one word -/
theorem b3_ok {dr : List Int} {k : Int} {told : List Tx} (hk : 0 ≤ k) (hl : told.length ≤ 1000) (hw : ∀ w ∈ told, isW w = true) {one : Tx} (h1 : one ∈ told) : t25_b3 12 dr k told () one = .ok (Fl.on ()) := by
  have ho := hw one h1
  have hlen := len_of ho
  have hpl := pt_len one
  have hr := pt_rgs one
  have hne := pt_ne ho
  unfold t25_b3
  rw [t18_w ho, R.bok, wv6, R.bok, isPat_Z hr hne, R.bok, if_neg (by decide), wv11 hr hne (by omega), R.bok]
  have e12 := wv12 hr hne (by omega)
  have el : (List.length (Tu.l (Tu.mk (Z (pt one)))) : Nat) = (pt one).length := by show (Z (pt one)).length = _; exact List.length_map _
  rw [el, e12, R.bok, R.bok, if_neg (by simp)]
  have a1 : tMapR (fun (two389 : Tx) => (t22 one two389 : R Bool)) told = .ok (told.map fun v => decide (pt one = pt v)) := tMapR_ok (lim_of (by omega)) fun v hv => t22_ok (by omega) (by have := len_of (hw v hv); omega)
  have a2 : tMapR (fun (two391 : Tx) => ((evN rows (12 - 1) 5 [en (one : Tx), en (two391 : Tx)]).bind (dc (α := Bool)) : R Bool)) told = .ok (told.map fun v => decide (pt one = pt v)) := tMapR_ok (lim_of (by omega)) fun v hv => wv5 ho (hw v hv)
  have a3 : tMapR (fun (two393 : Tx) => ((t18 two393).bind fun (x394 : Tu Int) => R.ok (decide (x394 = (Tu.mk (Z (pt one))))) : R Bool)) told = .ok (told.map fun v => decide (pt one = pt v)) := tMapR_ok (lim_of (by omega)) fun v hv => by
    rw [t18_w (hw v hv), R.bok]
    congr 1
    rw [decide_eq_decide]
    constructor
    · intro h; exact (Z_inj (by injection h)).symm
    · intro h; rw [h]
  rw [a1, R.bok, a2, R.bok, R.bok, if_neg (by simp), a3, R.bok, R.bok, if_neg (by simp), t15_eq]
  obtain ⟨g1, g2, g3⟩ := gMix_ok dr (k + 250 + ((List.length one : Nat) : Int)) (many := 27) (by decide)
  rw [g1, R.bok]
  have tl : tLenSet (Tu.l (Tu.mk (Z (pt one)))) = .ok ((lett 0 (pt one) : Nat) : Int) := by
    show tLenSet (Z (pt one)) = _
    unfold tLenSet
    rw [gd_pos (by unfold Z; rw [List.length_map]; omega)]
    unfold Z
    rw [dd_mapW (fun (n : Nat) => (n : Int)) (fun a b h => by omega), List.length_map, dd_lett _ hr]
  have hlt := lett_le (pt one) 0 hr
  rw [tl, R.bok, tRng1_nat (by omega), R.bok, rg_range', facF_run dr _ k told _ g2 (by omega), R.bok, wv13 hr hne (by omega) g2 (by omega), R.bok, R.bok, if_neg (by simp)]
/-! bent patterns -/
theorem tRep_ok {α : Type} {a : List α} {k : Nat} (hk : k ≤ 16000000) (h : a.length * k ≤ 16000000) : tRep a (k : Int) = .ok (List.replicate k a).flatten := by
  have hL := LIM_ge
  unfold tRep
  rw [gd_pos ⟨by omega, by omega, by rw [Int.toNat_natCast]; omega⟩, Int.toNat_natCast]
theorem b6_ok {dr : List Int} {k : Int} {told : List Tx} {xs : List Int} (h : xs.length < 1000) : t25_b6 12 dr k told () ⟨xs⟩ = .ok (Fl.on ()) := by
  unfold t25_b6
  rw [wv6, R.bok, t19_ok h, R.bok, R.bok, if_neg (by simp)]
  dsimp only
  have tail : ¬ (isPat xs = true ∧ xs.length ≤ 8) → (((t24 (12 - 1) (4 : Int) (en (Tu.mk xs) : D) (en (0 : Int) : D)).bind fun (x512 : Option (Tx × Int)) => ((t24 (12 - 1) (6 : Int) (en (Tu.mk xs) : D) (en (27 : Int) : D)).bind fun (x511 : Option (Tx × Int)) => R.ok [x511]).bind fun (x513 : List (Option (Tx × Int))) => R.ok (x512 :: x513)).bind fun (x514 : List (Option (Tx × Int))) => (tRep [some (cs [112, 97, 116, 116, 101, 114, 110], (0 : Int))] (2 : Int)).bind fun (x515 : List (Option (Tx × Int))) => R.ok (!decide (x514 = x515))) = .ok false := fun z => by
    rw [show t24 (12 - 1) (4 : Int) (en (Tu.mk xs) : D) (en (0 : Int) : D) = .ok (some (PT, 0)) from t24_4 7 xs _ z, R.bok]
    rw [show t24 (12 - 1) (6 : Int) (en (Tu.mk xs) : D) (en (27 : Int) : D) = .ok (some (PT, 0)) from t24_6 7 xs 27 z, R.bok, R.bok, R.bok]
    rw [show (2 : Int) = ((2 : Nat) : Int) from rfl, tRep_ok (by decide) (by simp), R.bok]
    simp [List.replicate]
  by_cases c : xs.length ≤ 8
  · rw [if_neg (by simp; omega), R.bok, R.bok, R.bok]
    by_cases p : isPat xs = true
    · rw [show Tr.tr (isPat xs) = true from p, if_neg (by decide)]
    · have p2 : isPat xs = false := by simpa using p
      rw [show Tr.tr (isPat xs) = false from p2, if_pos (by decide), tail (fun z => p z.1), R.bok, if_neg (by decide)]
  · rw [if_pos (by simp; omega), R.bok, if_pos rfl, tail (fun z => c z.2), R.bok, if_neg (by decide)]
theorem lMax_some {xs : List Int} (h : xs ≠ []) : ∃ m, lMax xs = some m := by
  cases xs with
  | nil => exact absurd rfl h
  | cons x xs => exact ⟨_, rfl⟩
theorem b5_ok {dr : List Int} {k : Int} {told : List Tx} (hk : 0 ≤ k) (hne : told ≠ []) (hl : told.length ≤ 1000) (hw : ∀ w ∈ told, isW w = true) {t : Int} (ht : 0 ≤ t) : t25_b5 12 dr k told () t = .ok (Fl.on ()) := by
  unfold t25_b5
  rw [t15_eq]
  have hp : 0 < ((List.length told : Nat) : Int) := by
    have := List.length_pos_iff.mpr hne
    omega
  obtain ⟨a1, a2, a3⟩ := gMix_ok dr (k + 260 + t) hp
  obtain ⟨w, wm, we⟩ := tIx_mem (l := told) a2 a3
  have ho := hw w wm
  have hlen := len_of ho
  rw [a1, R.bok, we, R.bok, t18_w ho, R.bok]
  have hz : (Z (pt w)).length = w.length := by unfold Z; rw [List.length_map, pt_len]
  generalize Z (pt w) = xs at hz ⊢
  obtain ⟨b1, b2, b3⟩ := gMix_ok dr (k + 270 + t) (many := ((List.length (Tu.l (Tu.mk xs)) : Nat) : Int)) (by show 0 < ((xs.length : Nat) : Int); omega)
  dsimp only at b1 b2 b3 ⊢
  rw [b1, R.bok]
  generalize mixv dr (k + 270 + t) (xs.length : Int) = at_ at b2 b3
  obtain ⟨c1, c2, c3⟩ := gMix_ok dr (k + 280 + t) (many := 10) (by decide)
  obtain ⟨n, rfl⟩ : ∃ n : Nat, at_ = n := ⟨at_.toNat, by omega⟩
  obtain ⟨m, hm⟩ := lMax_some (xs := xs) (fun e => by rw [e] at hz; simp at hz; omega)
  rw [c1, R.bok, R.bok, R.bok, cutL_to, tAppT_ok (lim_of (by simp; omega)), R.bok, show ((n : Int) + 1) = ((n + 1 : Nat) : Int) by omega, cutL_from, tAppT_ok (lim_of (by simp; omega)), R.bok, hm]
  simp only [ofO, R.bok]
  rw [tAppT_ok (lim_of (by simp; omega)), R.bok, tAppT_ok (lim_of (by simp; omega)), R.bok, tAppT_ok (lim_of (by simp; omega)), R.bok, tAppT_ok (lim_of (by simp; omega)), R.bok]
  rw [show (1 : Int) = ((1 : Nat) : Int) from rfl, cutL_from]
  simp only [R.bok]
  rw [forF_on]
  · rfl
  · intro a ha
    simp only [List.mem_cons, List.not_mem_nil, or_false] at ha
    rcases ha with rfl | rfl | rfl | rfl | rfl | rfl <;> exact b6_ok (by simp; omega)

end PV
namespace PV
open PySem
open En (en de)
abbrev Pk (w : Tx) : Tu Int := ⟨Z (pt w)⟩
theorem t7_ok {told : List Tx} (h1 : 1 ≤ told.length) (h2 : told.length ≤ 24) (hw : ∀ w ∈ told, isW w = true) (hs : told.Pairwise (fun a b => a < b)) : t7 (12 - 1) told = .ok ⟨(ssort ((grp Pk told).map (·.1))).map fun k => (k, (dlk (grp Pk told) k).getD [])⟩ := by
  unfold t7
  rw [t1_eq, gChk_ok h1 h2 hw hs, R.bok]
  dsimp only
  have run : forR (t7_b1 (12 - 1)) told ⟨[]⟩ = .ok ⟨grp Pk told⟩ := forR_grp (by omega) fun w hm d hd hv => by
    have hv : ((dlk d (⟨Z (pt w)⟩ : Tu Int)).getD []).length < 16000000 := hv
    unfold t7_b1
    rw [wv2 (hw w hm)]
    simp only [R.bok]
    rw [gd_pos (lim_of (by rw [List.length_append, List.length_singleton]; omega)), R.bok, tPut_ok hd, R.bok]
    rfl
  rw [run, R.bok]
  dsimp only
  have hlen := grp_len Pk told
  have hne : ∀ k ∈ (grp Pk told).map (·.1), Srt.ne k = true := fun k hk => by
    obtain ⟨w, hm, rfl⟩ := (mem_grp_keys _ _ _).mp hk
    show (!(Z (pt w)).isEmpty) = true
    have := pt_ne (hw w hm)
    cases hp : pt w with
    | nil => exact absurd hp this
    | cons _ _ => rfl
  rw [tSort_ok (by rw [List.length_map]; omega) hne, R.bok, R.bok]
  have hperm := ssort_perm ((grp Pk told).map (·.1))
  have hnd : (ssort ((grp Pk told).map (·.1))).Nodup := hperm.nodup_iff.mpr (grp_nodup _ _)
  rw [dcR_ok (f := fun k => k) (g := fun k => (dlk (grp Pk told) k).getD []) [] (fun _ _ => rfl) (fun _ _ => rfl) (fun k hk => ?_) (by simpa using hnd) (by rw [hperm.length_eq, List.length_map]; simp; omega), R.bok]
  · rfl
  · have := dlk_isSome.mpr (hperm.mem_iff.mp hk)
    obtain ⟨v, hv⟩ := Option.isSome_iff_exists.mp this
    rw [tGet_ok (d := ⟨grp Pk told⟩) hv, hv]; rfl
def szs : List (List Int) := [[8], [3], [1, 2, 5, 8]]
def sgs : List Tx := [cs [97, 98], cs [97, 98, 99, 122], cs [97, 98, 99, 100, 101, 102, 103, 104, 105, 106, 107, 108, 109]]
theorem szs_ok : ∀ z ∈ szs, z ≠ [] ∧ ∀ x ∈ z, 1 ≤ x ∧ x ≤ 8 := by decide
theorem sgs_ok : ∀ z ∈ sgs, z ≠ [] ∧ ∀ c ∈ z, lowC c = true := by decide +kernel
theorem words_isW {sizes : List Int} {signs : Tx} {n : Nat} {told : List Tx} (h : WordsOk sizes signs n told) (hz : ∀ x ∈ sizes, 1 ≤ x ∧ x ≤ 8) (hg : ∀ c ∈ signs, lowC c = true) : ∀ w ∈ told, isW w = true := fun w hw => by
  have h1 := hz _ (h.size w hw)
  unfold isW
  rw [decide_eq_true (show 1 ≤ w.length by omega), decide_eq_true (show w.length ≤ 8 by omega)]
  simp only [Bool.true_and, List.all_eq_true]
  exact fun c hc => hg c (h.let_ w hw c hc)
theorem b1_ok {dr : List Int} {t : Int} (h0 : 0 ≤ t) : t25_b1 12 dr () t = .ok (Fl.on ()) := by
  unfold t25_b1
  rw [t15_eq, t17_eq]
  dsimp only
  obtain ⟨a1, a2, a3⟩ := gMix_ok dr (5 + t) (many := 3) (by decide)
  obtain ⟨sz, zm, ze⟩ := tIx_mem (l := szs) a2 a3
  have hz := szs_ok sz zm
  obtain ⟨b1, b2, b3⟩ := gMix_ok dr (8 + t) (many := 3) (by decide)
  obtain ⟨sg, gm, ge⟩ := tIx_mem (l := sgs) b2 b3
  have hg := sgs_ok sg gm
  obtain ⟨c1, c2, c3⟩ := gMix_ok dr (2 + t) (many := 20) (by decide)
  rw [a1, R.bok]
  rw [show tIx ([[8], [3], [1, 2, 5, 8]] : List (List Int)) (mixv dr (5 + t) 3) = .ok sz from ze, R.bok, b1, R.bok]
  rw [show tIx ([cs [97, 98], cs [97, 98, 99, 122], cs [97, 98, 99, 100, 101, 102, 103, 104, 105, 106, 107, 108, 109]] : List Tx) (mixv dr (8 + t) 3) = .ok sg from ge, R.bok, c1, R.bok, R.bok]
  obtain ⟨n, hn⟩ : ∃ n : Nat, 1 + mixv dr (2 + t) 20 = n := ⟨(1 + mixv dr (2 + t) 20).toNat, by omega⟩
  obtain ⟨told, te, tw⟩ := gList_ok dr (10 + 290 * t) (n := n) (sizes := sz) (signs := sg) (by omega) (by omega) hg.1 hz.1 (fun z hzz => by have := hz.2 z hzz; omega)
  rw [hn, te, R.bok]
  have hw := words_isW tw hz.2 hg.2
  have hl := tw.few
  have hpos : 1 ≤ told.length := List.length_pos_iff.mpr tw.ne
  have due : forR (t25_b2 dr (10 + 290 * t) told) told ⟨[]⟩ = .ok ⟨grp Pk told⟩ := forR_grp (by omega) fun w hm d hd hv => by
    have hv : ((dlk d (⟨Z (pt w)⟩ : Tu Int)).getD []).length < 16000000 := hv
    unfold t25_b2
    rw [t18_w (hw w hm)]
    simp only [R.bok]
    rw [tApp_ok (lim_of (by rw [List.length_singleton]; omega)), R.bok, tPut_ok hd, R.bok]
    rfl
  rw [due, R.bok, t7_ok hpos (by omega) hw tw.sorted, R.bok]
  have hperm := ssort_perm ((grp Pk told).map (·.1))
  have hlen := grp_len Pk told
  have hkey : (ssort ((grp Pk told).map (·.1))) ≠ [] := fun e => by
    have hw0 : told[0]'(by omega) ∈ told := List.getElem_mem _
    have := hperm.mem_iff.mpr ((mem_grp_keys Pk told (Pk (told[0]'(by omega)))).mpr ⟨_, hw0, rfl⟩)
    rw [e] at this; cases this
  have ne : tNed (⟨(ssort ((grp Pk told).map (·.1))).map fun k => (k, (dlk (grp Pk told) k).getD [])⟩ : Dc (Tu Int) (List Tx)) ⟨grp Pk told⟩ = .ok false := by
    unfold tNed
    rw [if_pos]
    unfold dEqT
    dsimp only
    rw [List.length_map, hperm.length_eq, List.length_map, beq_self_eq_true]
    have e1 : (!((ssort ((grp Pk told).map (·.1))).map fun k => (k, (dlk (grp Pk told) k).getD [])).isEmpty) = true := by
      cases hk : ssort ((grp Pk told).map (·.1)) with
      | nil => exact absurd hk hkey
      | cons _ _ => rfl
    rw [e1, Bool.true_and, Bool.true_and, List.all_eq_true]
    intro p hp
    obtain ⟨k, hk, rfl⟩ := List.mem_map.mp hp
    have := dlk_isSome.mpr (hperm.mem_iff.mp hk)
    obtain ⟨v, hv⟩ := Option.isSome_iff_exists.mp this
    rw [decide_eq_true_eq]
    show dlk (grp Pk told) k = some ((dlk (grp Pk told) k).getD [])
    rw [hv]; rfl
  have hne : ∀ k ∈ (grp Pk told).map (·.1), Srt.ne k = true := fun k hk => by
    obtain ⟨w, hm, rfl⟩ := (mem_grp_keys _ _ _).mp hk
    show (!(Z (pt w)).isEmpty) = true
    have := pt_ne (hw w hm)
    cases hp : pt w with
    | nil => exact absurd hp this
    | cons _ _ => rfl
  rw [ne, R.bok, if_neg (by decide)]
  dsimp only
  rw [tSort_ok (by rw [List.length_map]; omega) hne, R.bok, R.bok]
  have ek : ((ssort ((grp Pk told).map (·.1))).map fun k => (k, (dlk (grp Pk told) k).getD [])).map (·.1) = ssort ((grp Pk told).map (·.1)) := by
    rw [List.map_map]
    exact List.map_id' _
  rw [ek, if_neg (by simp)]
  rw [tMapR_ok (h := fun w => Pk w) (lim_of (by omega)) fun w hm => wv4 (hw w hm), R.bok]
  rw [tMapR_ok (h := fun w => Pk w) (lim_of (by omega)) fun w hm => t18_w (hw w hm), R.bok, R.bok, if_neg (by simp)]
  rw [forF_on fun w hm => b3_ok (by omega) (by omega) hw hm, R.bok]
  dsimp only [Fl.el]
  rw [forF_on fun s hs => b5_ok (by omega) tw.ne (by omega) hw (by have := mem_rg.mp hs; omega), R.bok]
  rfl

end PV
namespace PV
open PySem
open En (en de)
def depth : Nat := 12
theorem partA : ((tMapR (fun (length316 : Int) => ((evN rows (12 - 1) 9 [en (length316 : Int)]).bind (dc (α := Int)) : R Int)) (rg 0 9)).bind fun (x318 : List Int) => (tMapR (fun (length317 : Int) => (t21 length317 : R Int)) (rg 0 9)).bind fun (x319 : List Int) => R.ok ((!decide (x318 = x319)))) = R.ok false := by kernel_rfl
def evy (n : Int) : List (Tu Int) := match t20 n with
  | .ok e => e
  | _ => []
def condB (n : Int) (every322 : List (Tu Int)) : R Bool := (((t21 n).bind fun (x323 : Int) => R.ok ((!decide ((((List.length every322 : Nat) : Int)) = x323)))).bind fun (b331 : Bool) => (if b331 = true then R.ok true else ((tMapR (fun (row324 : (Tu Int)) => ((evN rows (12 - 1) 11 [en (row324 : (Tu Int))]).bind (dc (α := Int)) : R Int)) every322).bind fun (x325 : (List Int)) => (tLRng (((List.length every322 : Nat) : Int))).bind fun (x326 : (List Int)) => R.ok ((!decide (x325 = x326)))).bind fun (b330 : Bool) => (if b330 = true then R.ok true else ((tRng1 (((List.length every322 : Nat) : Int))).bind fun (l328 : List Int) => tMapR (fun (t327 : Int) => ((evN rows (12 - 1) 12 [en (n : Int), en (t327 : Int)]).bind (dc (α := (Tu Int))) : R (Tu Int))) l328).bind fun (x329 : (List (Tu Int))) => R.ok ((!decide (x329 = every322))))))
theorem partB1 : t20 1 = .ok (evy 1) ∧ condB 1 (evy 1) = .ok false := ⟨by kernel_rfl, by kernel_rfl⟩
theorem partB2 : t20 2 = .ok (evy 2) ∧ condB 2 (evy 2) = .ok false := ⟨by kernel_rfl, by kernel_rfl⟩
theorem partB3 : t20 3 = .ok (evy 3) ∧ condB 3 (evy 3) = .ok false := ⟨by kernel_rfl, by kernel_rfl⟩
theorem partB4 : t20 4 = .ok (evy 4) ∧ condB 4 (evy 4) = .ok false := ⟨by kernel_rfl, by kernel_rfl⟩
theorem partB5 : t20 5 = .ok (evy 5) ∧ condB 5 (evy 5) = .ok false := ⟨by kernel_rfl, by kernel_rfl⟩
theorem partB6 : t20 6 = .ok (evy 6) ∧ condB 6 (evy 6) = .ok false := ⟨by kernel_rfl, by kernel_rfl⟩
theorem partB {n : Int} (h1 : 1 ≤ n) (h2 : n ≤ 6) : t20 n = .ok (evy n) ∧ condB n (evy n) = .ok false := by
  have : n = 1 ∨ n = 2 ∨ n = 3 ∨ n = 4 ∨ n = 5 ∨ n = 6 := by omega
  rcases this with rfl | rfl | rfl | rfl | rfl | rfl
  · exact partB1
  · exact partB2
  · exact partB3
  · exact partB4
  · exact partB5
  · exact partB6
theorem t25_ok (script : List Int) (hs : script.length ≤ 63) : t25 12 script = .ok true := by
  unfold t25
  rw [t14_eq, t15_eq]
  obtain ⟨dr, hd, _⟩ := gDraws_ok script hs
  rw [hd, R.bok, partA, R.bok, if_neg (by decide)]
  obtain ⟨a1, a2, a3⟩ := gMix_ok dr 1 (many := 6) (by decide)
  rw [a1, R.bok, R.bok]
  obtain ⟨e1, e2⟩ := partB (n := 1 + mixv dr 1 6) (by omega) (by omega)
  rw [e1, R.bok]
  unfold condB at e2
  rw [e2, R.bok, if_neg (by decide)]
  rw [forF_on fun t ht => b1_ok (by have := mem_rg.mp ht; omega)]
  kernel_rfl
theorem math : ∀ ns : List Int, ns.length ≤ 63 → evN rows depth 25 [.list (ns.map PyData.int)] = .ok (.bool true) := fun ns h => RE_ok (a := true) (tm25 12 (by decide) ns) (t25_ok ns h)

end PV
namespace PV
open PySem L2 PySem.W PyProof.Rows
theorem gAt_mk {K : PySem.W.Frag} {x : Str} {v : V} {u : Value} (q : nsIn K mainGlobals x = some (some u)) (r : RelV v u) : ∃ u, nsIn K mainGlobals x = some (some u) ∧ RelV v u := ⟨u, q, r⟩
theorem bn0 : BindsSo ⟨"is_word", ["text"]⟩ st0 := fun _ _ _ _ _ _ us hl => match us, hl with | [_], _ => rfl
theorem bn1 : BindsSo ⟨"check_list", ["told"]⟩ st1 := fun _ _ _ _ _ _ us hl => match us, hl with | [_], _ => rfl
theorem bn2 : BindsSo ⟨"pattern_of_text", ["text"]⟩ st2 := fun _ _ _ _ _ _ us hl => match us, hl with | [_], _ => rfl
theorem bn3 : BindsSo ⟨"check_words", ["words"]⟩ st3 := fun _ _ _ _ _ _ us hl => match us, hl with | [_], _ => rfl
theorem bn4 : BindsSo ⟨"pattern", ["text"]⟩ st4 := fun _ _ _ _ _ _ us hl => match us, hl with | [_], _ => rfl
theorem bn5 : BindsSo ⟨"are_alike", ["one", "two"]⟩ st5 := fun _ _ _ _ _ _ us hl => match us, hl with | [_, _], _ => rfl
theorem bn6 : BindsSo ⟨"is_pattern", ["told"]⟩ st6 := fun _ _ _ _ _ _ us hl => match us, hl with | [_], _ => rfl
theorem bn7 : BindsSo ⟨"classes", ["told"]⟩ st7 := fun _ _ _ _ _ _ us hl => match us, hl with | [_], _ => rfl
theorem bn8 : BindsSo ⟨"ways_on", ["most", "left"]⟩ st8 := fun _ _ _ _ _ _ us hl => match us, hl with | [_, _], _ => rfl
theorem bn9 : BindsSo ⟨"bell", ["length"]⟩ st9 := fun _ _ _ _ _ _ us hl => match us, hl with | [_], _ => rfl
theorem bn10 : BindsSo ⟨"check_pattern", ["told"]⟩ st10 := fun _ _ _ _ _ _ us hl => match us, hl with | [_], _ => rfl
theorem bn11 : BindsSo ⟨"number_of", ["told"]⟩ st11 := fun _ _ _ _ _ _ us hl => match us, hl with | [_], _ => rfl
theorem bn12 : BindsSo ⟨"pattern_of", ["length", "number"]⟩ st12 := fun _ _ _ _ _ _ us hl => match us, hl with | [_, _], _ => rfl
theorem bn13 : BindsSo ⟨"words_with", ["told", "letters"]⟩ st13 := fun _ _ _ _ _ _ us hl => match us, hl with | [_, _], _ => rfl
theorem bn14 : BindsSo ⟨"_law_draws", ["script"]⟩ st14 := fun _ _ _ _ _ _ us hl => match us, hl with | [_], _ => rfl
theorem bn15 : BindsSo ⟨"_law_mix", ["draws", "k", "many"]⟩ st15 := fun _ _ _ _ _ _ us hl => match us, hl with | [_, _, _], _ => rfl
theorem bn16 : BindsSo ⟨"_law_text", ["draws", "k", "size", "signs"]⟩ st16 := fun _ _ _ _ _ _ us hl => match us, hl with | [_, _, _, _], _ => rfl
theorem bn17 : BindsSo ⟨"_law_list", ["draws", "k", "many", "sizes", "signs"]⟩ st17 := fun _ _ _ _ _ _ us hl => match us, hl with | [_, _, _, _, _], _ => rfl
theorem bn18 : BindsSo ⟨"_law_pattern", ["text"]⟩ st18 := fun _ _ _ _ _ _ us hl => match us, hl with | [_], _ => rfl
theorem bn19 : BindsSo ⟨"_law_is_pattern", ["told"]⟩ st19 := fun _ _ _ _ _ _ us hl => match us, hl with | [_], _ => rfl
theorem bn20 : BindsSo ⟨"_law_all", ["length"]⟩ st20 := fun _ _ _ _ _ _ us hl => match us, hl with | [_], _ => rfl
theorem bn21 : BindsSo ⟨"_law_bell", ["length"]⟩ st21 := fun _ _ _ _ _ _ us hl => match us, hl with | [_], _ => rfl
theorem bn22 : BindsSo ⟨"_law_exchanged", ["one", "two"]⟩ st22 := fun _ _ _ _ _ _ us hl => match us, hl with | [_, _], _ => rfl
theorem bn23 : BindsSo ⟨"_law_words", ["length", "signs"]⟩ st23 := fun _ _ _ _ _ _ us hl => match us, hl with | [_, _], _ => rfl
theorem bn24 : BindsSo ⟨"_law_refused", ["which", "one", "two"]⟩ st24 := fun _ _ _ _ _ _ us hl => match us, hl with | [_, _, _], _ => rfl
theorem bn25 : BindsSo ⟨"law", ["script"]⟩ st25 := fun _ _ _ _ _ _ us hl => match us, hl with | [_], _ => rfl
theorem facts {P : Program} {K : PySem.W.Frag} {h : Heap} {mg : Str → Option Value} (X : K.In h) (G : h.Ns mainGlobals mg) {fI D : Addr}
    (F0 : FnAt K "is_word" st0)
    (F1 : FnAt K "check_list" st1)
    (F2 : FnAt K "pattern_of_text" st2)
    (F3 : FnAt K "check_words" st3)
    (F4 : FnAt K "pattern" st4)
    (F5 : FnAt K "are_alike" st5)
    (F6 : FnAt K "is_pattern" st6)
    (F7 : FnAt K "classes" st7)
    (F8 : FnAt K "ways_on" st8)
    (F9 : FnAt K "bell" st9)
    (F10 : FnAt K "check_pattern" st10)
    (F11 : FnAt K "number_of" st11)
    (F12 : FnAt K "pattern_of" st12)
    (F13 : FnAt K "words_with" st13)
    (F14 : FnAt K "_law_draws" st14)
    (F15 : FnAt K "_law_mix" st15)
    (F16 : FnAt K "_law_text" st16)
    (F17 : FnAt K "_law_list" st17)
    (F18 : FnAt K "_law_pattern" st18)
    (F19 : FnAt K "_law_is_pattern" st19)
    (F20 : FnAt K "_law_all" st20)
    (F21 : FnAt K "_law_bell" st21)
    (F22 : FnAt K "_law_exchanged" st22)
    (F23 : FnAt K "_law_words" st23)
    (F24 : FnAt K "_law_refused" st24)
    (F25 : FnAt K "law" st25)
    (E : Nonempty (PErr P K fI D)) (tI : typeIn K (.ref fI) = some (.type "function")) {C0 : Addr} {C1 : Addr} {C2 : Addr} {C3 : Addr}
    (c0 : ClsP K fI D "OutOfRange" C0)
    (c1 : ClsP K fI D "WrongSize" C1)
    (c2 : ClsP K fI D "BadWord" C2)
    (c3 : ClsP K fI D "BadPattern" C3)
    (dif : difB K [C0, C1, C2, C3] = true)
    (z_abs : nsIn K mainGlobals "abs" = some none)
    (z_all : nsIn K mainGlobals "all" = some none)
    (z_enumerate : nsIn K mainGlobals "enumerate" = some none)
    (z_int : nsIn K mainGlobals "int" = some none)
    (z_len : nsIn K mainGlobals "len" = some none)
    (z_list : nsIn K mainGlobals "list" = some none)
    (z_max : nsIn K mainGlobals "max" = some none)
    (z_min : nsIn K mainGlobals "min" = some none)
    (z_range : nsIn K mainGlobals "range" = some none)
    (z_set : nsIn K mainGlobals "set" = some none)
    (z_sorted : nsIn K mainGlobals "sorted" = some none)
    (z_sum : nsIn K mainGlobals "sum" = some none)
    (z_super : nsIn K mainGlobals "super" = some none)
    (z_tuple : nsIn K mainGlobals "tuple" = some none)
    (g_LETTERS : ∃ u, nsIn K mainGlobals "LETTERS" = some (some u) ∧ RelV (.str ("abcdefghijklmnopqrstuvwxyz" : Str)) u)
    (g_MOST_LETTERS : ∃ u, nsIn K mainGlobals "MOST_LETTERS" = some (some u) ∧ RelV (.int 8) u)
    (g_MOST_WORDS : ∃ u, nsIn K mainGlobals "MOST_WORDS" = some (some u) ∧ RelV (.int 24) u)
    (g_ALPHABET : ∃ u, nsIn K mainGlobals "ALPHABET" = some (some u) ∧ RelV (.int 26) u)
    : Facts tab P K mg rows where
  fns := fun j fi hj => by
    match j, hj with
    | 0, hj => cases hj; exact stands_of X G F0 bn0 rfl w0
    | 1, hj => cases hj; exact stands_of X G F1 bn1 rfl w1
    | 2, hj => cases hj; exact stands_of X G F2 bn2 rfl w2
    | 3, hj => cases hj; exact stands_of X G F3 bn3 rfl w3
    | 4, hj => cases hj; exact stands_of X G F4 bn4 rfl w4
    | 5, hj => cases hj; exact stands_of X G F5 bn5 rfl w5
    | 6, hj => cases hj; exact stands_of X G F6 bn6 rfl w6
    | 7, hj => cases hj; exact stands_of X G F7 bn7 rfl w7
    | 8, hj => cases hj; exact stands_of X G F8 bn8 rfl w8
    | 9, hj => cases hj; exact stands_of X G F9 bn9 rfl w9
    | 10, hj => cases hj; exact stands_of X G F10 bn10 rfl w10
    | 11, hj => cases hj; exact stands_of X G F11 bn11 rfl w11
    | 12, hj => cases hj; exact stands_of X G F12 bn12 rfl w12
    | 13, hj => cases hj; exact stands_of X G F13 bn13 rfl w13
    | 14, hj => cases hj; exact stands_of X G F14 bn14 rfl w14
    | 15, hj => cases hj; exact stands_of X G F15 bn15 rfl w15
    | 16, hj => cases hj; exact stands_of X G F16 bn16 rfl w16
    | 17, hj => cases hj; exact stands_of X G F17 bn17 rfl w17
    | 18, hj => cases hj; exact stands_of X G F18 bn18 rfl w18
    | 19, hj => cases hj; exact stands_of X G F19 bn19 rfl w19
    | 20, hj => cases hj; exact stands_of X G F20 bn20 rfl w20
    | 21, hj => cases hj; exact stands_of X G F21 bn21 rfl w21
    | 22, hj => cases hj; exact stands_of X G F22 bn22 rfl w22
    | 23, hj => cases hj; exact stands_of X G F23 bn23 rfl w23
    | 24, hj => cases hj; exact stands_of X G F24 bn24 rfl w24
    | 25, hj => cases hj; exact stands_of X G F25 bn25 rfl w25
    | n + 26, hj => exact absurd hj (by unfold tab; simp)
  blt := fun x hx => by
    unfold tab at hx
    simp only [List.mem_cons, List.not_mem_nil, or_false] at hx
    rcases hx with rfl | rfl | rfl | rfl | rfl | rfl | rfl | rfl | rfl | rfl | rfl | rfl | rfl | rfl
    · exact mg_none_of X G z_abs
    · exact mg_none_of X G z_all
    · exact mg_none_of X G z_enumerate
    · exact mg_none_of X G z_int
    · exact mg_none_of X G z_len
    · exact mg_none_of X G z_list
    · exact mg_none_of X G z_max
    · exact mg_none_of X G z_min
    · exact mg_none_of X G z_range
    · exact mg_none_of X G z_set
    · exact mg_none_of X G z_sorted
    · exact mg_none_of X G z_sum
    · exact mg_none_of X G z_super
    · exact mg_none_of X G z_tuple
  glb := fun p hp => by
    unfold tab at hp
    simp only [List.mem_cons, List.not_mem_nil, or_false] at hp
    rcases hp with rfl | rfl | rfl | rfl
    · obtain ⟨u, hu, ru⟩ := g_LETTERS
      exact ⟨u, _, mg_of X G hu, ru, fun _ => .str _ ok_LETTERS⟩
    · obtain ⟨u, hu, ru⟩ := g_MOST_LETTERS
      exact ⟨u, _, mg_of X G hu, ru, fun _ => .int _⟩
    · obtain ⟨u, hu, ru⟩ := g_MOST_WORDS
      exact ⟨u, _, mg_of X G hu, ru, fun _ => .int _⟩
    · obtain ⟨u, hu, ru⟩ := g_ALPHABET
      exact ⟨u, _, mg_of X G hu, ru, fun _ => .int _⟩
  errs := errs_of X G E tI (mg_none_of X G z_super) [C0, C1, C2, C3] (by intro c x hc; match c, hc with
    | 0, hc => cases hc; exact ⟨C0, rfl, c0⟩
    | 1, hc => cases hc; exact ⟨C1, rfl, c1⟩
    | 2, hc => cases hc; exact ⟨C2, rfl, c2⟩
    | 3, hc => cases hc; exact ⟨C3, rfl, c3⟩
    | n + 4, hc => exact absurd hc (by unfold tab; simp)) (by unfold tab; rfl) dif

end PV
open PySem PySem.W PyProof.Rows
set_option maxHeartbeats 0 in
theorem PySem.Challenge.cw_wordsatplay_k04_main_patterns_of_words_c_holds : PySem.Challenge.rw_wordsatplay_k04_main_patterns_of_words_c.Holds := by
  w_on; o_law; k_head; (case hw => w_witness2)
  k_fill
  refine L2.walk_of (l := PySem.Challenge.rw_wordsatplay_k04_main_patterns_of_words_c) (n := 63) (k := PV.depth + 2) (x := "script") (CX := fun w => L2.CX (PySem.Challenge.rw_wordsatplay_k04_main_patterns_of_words_c).prog w) (sp := fun w => PV.spLaw _) rfl (by decide) rfl ⟨rfl, by decide, by decide⟩ (fun w h Y => PySem.W.kIn_of Y) ?F (fun _ _ a ns hl _ hS => ⟨a, ns, rfl, hS, hl, fun _ => rfl⟩) (fun _ _ _ _ _ h => PV.cx_no h)
  case F =>
    intro w mg fa h KX G hmg
    refine PV.law_ok (T := PV.tab) (rows := PV.rows) (k := PV.depth) (j := 25) (x := "law") (y := "script") ?FF rfl PV.math hmg
    refine' PV.facts KX G ?F0 ?F1 ?F2 ?F3 ?F4 ?F5 ?F6 ?F7 ?F8 ?F9 ?F10 ?F11 ?F12 ?F13 ?F14 ?F15 ?F16 ?F17 ?F18 ?F19 ?F20 ?F21 ?F22 ?F23 ?F24 ?F25 ?E ?tI ?c0 ?c1 ?c2 ?c3 ?dif ?z_abs ?z_all ?z_enumerate ?z_int ?z_len ?z_list ?z_max ?z_min ?z_range ?z_set ?z_sorted ?z_sum ?z_super ?z_tuple ?g_LETTERS ?g_MOST_LETTERS ?g_MOST_WORDS ?g_ALPHABET
    (case F0 => (refine' PV.fnAt_mk ?a ?l ?c ?k; (case a => k_is); (case l => k_is); (case c => k_is); (case k => k_is)))
    (case F1 => (refine' PV.fnAt_mk ?a ?l ?c ?k; (case a => k_is); (case l => k_is); (case c => k_is); (case k => k_is)))
    (case F2 => (refine' PV.fnAt_mk ?a ?l ?c ?k; (case a => k_is); (case l => k_is); (case c => k_is); (case k => k_is)))
    (case F3 => (refine' PV.fnAt_mk ?a ?l ?c ?k; (case a => k_is); (case l => k_is); (case c => k_is); (case k => k_is)))
    (case F4 => (refine' PV.fnAt_mk ?a ?l ?c ?k; (case a => k_is); (case l => k_is); (case c => k_is); (case k => k_is)))
    (case F5 => (refine' PV.fnAt_mk ?a ?l ?c ?k; (case a => k_is); (case l => k_is); (case c => k_is); (case k => k_is)))
    (case F6 => (refine' PV.fnAt_mk ?a ?l ?c ?k; (case a => k_is); (case l => k_is); (case c => k_is); (case k => k_is)))
    (case F7 => (refine' PV.fnAt_mk ?a ?l ?c ?k; (case a => k_is); (case l => k_is); (case c => k_is); (case k => k_is)))
    (case F8 => (refine' PV.fnAt_mk ?a ?l ?c ?k; (case a => k_is); (case l => k_is); (case c => k_is); (case k => k_is)))
    (case F9 => (refine' PV.fnAt_mk ?a ?l ?c ?k; (case a => k_is); (case l => k_is); (case c => k_is); (case k => k_is)))
    (case F10 => (refine' PV.fnAt_mk ?a ?l ?c ?k; (case a => k_is); (case l => k_is); (case c => k_is); (case k => k_is)))
    (case F11 => (refine' PV.fnAt_mk ?a ?l ?c ?k; (case a => k_is); (case l => k_is); (case c => k_is); (case k => k_is)))
    (case F12 => (refine' PV.fnAt_mk ?a ?l ?c ?k; (case a => k_is); (case l => k_is); (case c => k_is); (case k => k_is)))
    (case F13 => (refine' PV.fnAt_mk ?a ?l ?c ?k; (case a => k_is); (case l => k_is); (case c => k_is); (case k => k_is)))
    (case F14 => (refine' PV.fnAt_mk ?a ?l ?c ?k; (case a => k_is); (case l => k_is); (case c => k_is); (case k => k_is)))
    (case F15 => (refine' PV.fnAt_mk ?a ?l ?c ?k; (case a => k_is); (case l => k_is); (case c => k_is); (case k => k_is)))
    (case F16 => (refine' PV.fnAt_mk ?a ?l ?c ?k; (case a => k_is); (case l => k_is); (case c => k_is); (case k => k_is)))
    (case F17 => (refine' PV.fnAt_mk ?a ?l ?c ?k; (case a => k_is); (case l => k_is); (case c => k_is); (case k => k_is)))
    (case F18 => (refine' PV.fnAt_mk ?a ?l ?c ?k; (case a => k_is); (case l => k_is); (case c => k_is); (case k => k_is)))
    (case F19 => (refine' PV.fnAt_mk ?a ?l ?c ?k; (case a => k_is); (case l => k_is); (case c => k_is); (case k => k_is)))
    (case F20 => (refine' PV.fnAt_mk ?a ?l ?c ?k; (case a => k_is); (case l => k_is); (case c => k_is); (case k => k_is)))
    (case F21 => (refine' PV.fnAt_mk ?a ?l ?c ?k; (case a => k_is); (case l => k_is); (case c => k_is); (case k => k_is)))
    (case F22 => (refine' PV.fnAt_mk ?a ?l ?c ?k; (case a => k_is); (case l => k_is); (case c => k_is); (case k => k_is)))
    (case F23 => (refine' PV.fnAt_mk ?a ?l ?c ?k; (case a => k_is); (case l => k_is); (case c => k_is); (case k => k_is)))
    (case F24 => (refine' PV.fnAt_mk ?a ?l ?c ?k; (case a => k_is); (case l => k_is); (case c => k_is); (case k => k_is)))
    (case F25 => (refine' PV.fnAt_mk ?a ?l ?c ?k; (case a => k_is); (case l => k_is); (case c => k_is); (case k => k_is)))
    (case' c0 => (refine' ⟨?a0, ?e0, ?i0, ⟨?x1, ?x2, ?x3, ?x4⟩⟩; (case a0 => k_is); (case i0 => k_is); (case x1 => k_is); (case x2 => k_is); (case x3 => k_is); (case x4 => k_is)))
    (case' c1 => (refine' ⟨?a1, ?e1, ?i1, ⟨?x1, ?x2, ?x3, ?x4⟩⟩; (case a1 => k_is); (case i1 => k_is); (case x1 => k_is); (case x2 => k_is); (case x3 => k_is); (case x4 => k_is)))
    (case' c2 => (refine' ⟨?a2, ?e2, ?i2, ⟨?x1, ?x2, ?x3, ?x4⟩⟩; (case a2 => k_is); (case i2 => k_is); (case x1 => k_is); (case x2 => k_is); (case x3 => k_is); (case x4 => k_is)))
    (case' c3 => (refine' ⟨?a3, ?e3, ?i3, ⟨?x1, ?x2, ?x3, ?x4⟩⟩; (case a3 => k_is); (case i3 => k_is); (case x1 => k_is); (case x2 => k_is); (case x3 => k_is); (case x4 => k_is)))
    (case tI => k_is)
    (case E => (refine' PV.pErr_mk ?hf ?hcd ?hcode ?hvs ?hfile ?hcell ?hD ?hbody ?hcall ?har ?hself ?hbind ?hks ?hkc ?hka ?hkb ?hk ?hco ?hgen ?hnoc ?htop ?hany; (case hf => k_is); (case hcd => k_is); (case hcode => k_is); (case hvs => rfl); (case hcell => k_is); (case hD => k_is); (case hbody => rfl); (case hcall => exact fun _ => rfl); (case har => rfl); (case hself => rfl); (case hbind => exact fun _ _ => rfl); (case hks => rfl); (case hkc => rfl); (case hka => rfl); (case hkb => rfl); (case hk => rfl); (case hco => rfl); (case hgen => rfl); (case hnoc => decide); (case hany => k_is); (case hfile => kernel_rfl); (case htop => kernel_rfl)))
    (case e0 => (refine' PV.pErrC_mk ?h1 ?h2 ?h3 ?h4 ?h5 ?h6 ?h7 ?h8 ?h9 ?h10; (case h1 => k_is); (case h2 => rfl); (case h3 => k_is); (case h4 => k_is); (case h5 => k_is); (case h6 => k_is); (case h7 => ks_is); (case h8 => k_is); (case h9 => k_is); (case h10 => k_is)))
    (case e1 => (refine' PV.pErrC_mk ?h1 ?h2 ?h3 ?h4 ?h5 ?h6 ?h7 ?h8 ?h9 ?h10; (case h1 => k_is); (case h2 => rfl); (case h3 => k_is); (case h4 => k_is); (case h5 => k_is); (case h6 => k_is); (case h7 => ks_is); (case h8 => k_is); (case h9 => k_is); (case h10 => k_is)))
    (case e2 => (refine' PV.pErrC_mk ?h1 ?h2 ?h3 ?h4 ?h5 ?h6 ?h7 ?h8 ?h9 ?h10; (case h1 => k_is); (case h2 => rfl); (case h3 => k_is); (case h4 => k_is); (case h5 => k_is); (case h6 => k_is); (case h7 => ks_is); (case h8 => k_is); (case h9 => k_is); (case h10 => k_is)))
    (case e3 => (refine' PV.pErrC_mk ?h1 ?h2 ?h3 ?h4 ?h5 ?h6 ?h7 ?h8 ?h9 ?h10; (case h1 => k_is); (case h2 => rfl); (case h3 => k_is); (case h4 => k_is); (case h5 => k_is); (case h6 => k_is); (case h7 => ks_is); (case h8 => k_is); (case h9 => k_is); (case h10 => k_is)))
    (case dif => kernel_rfl)
    (case z_abs => k_is)
    (case z_all => k_is)
    (case z_enumerate => k_is)
    (case z_int => k_is)
    (case z_len => k_is)
    (case z_list => k_is)
    (case z_max => k_is)
    (case z_min => k_is)
    (case z_range => k_is)
    (case z_set => k_is)
    (case z_sorted => k_is)
    (case z_sum => k_is)
    (case z_super => k_is)
    (case z_tuple => k_is)
    (case g_LETTERS => (refine' PV.gAt_mk ?gq_LETTERS ?gr_LETTERS; (case gq_LETTERS => k_is); (case gr_LETTERS => exact ⟨_, rfl⟩)))
    (case g_MOST_LETTERS => (refine' PV.gAt_mk ?gq_MOST_LETTERS ?gr_MOST_LETTERS; (case gq_MOST_LETTERS => k_is); (case gr_MOST_LETTERS => exact ⟨_, rfl⟩)))
    (case g_MOST_WORDS => (refine' PV.gAt_mk ?gq_MOST_WORDS ?gr_MOST_WORDS; (case gq_MOST_WORDS => k_is); (case gr_MOST_WORDS => exact ⟨_, rfl⟩)))
    (case g_ALPHABET => (refine' PV.gAt_mk ?gq_ALPHABET ?gr_ALPHABET; (case gq_ALPHABET => k_is); (case gr_ALPHABET => exact ⟨_, rfl⟩)))

