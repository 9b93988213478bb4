import PyProof.Rows.All
import Wide.All
import OpenK.AllK
import Wide.FinOn
import HandS.ForMost
import HandS.IsInst
import HandS.Wide
import HandS.WideBits
import HandS.Defaults
import PyProof.ReprRoads
import HandS.TupAny
import HandS.Style
import HandS.Zip
import HandS.EndBits
import KE.GoesMore
import KE.GoesEnum
import PySem.Challenge.RW_curvepieces_k84_any_value_as_form
set_option Elab.async false
set_option linter.all false
section
set_option maxRecDepth 100000
set_option maxHeartbeats 4000000
/-! data layer: values as trees, frames as lists of slots -/
namespace DL
open PySem PySem.Spec L2
open PyProof.Rows hiding St

abbrev D := PyData
abbrev Fg := PySem.W.Frag

def keyD : Key → D
  | .inl i => .int i
  | .inr x => .str x

mutual
inductive Tr (K : Fg) (H : Hp) : V → D → Prop
  | non : Tr K H .non .none
  | bl (b : Bool) : Tr K H (.bl b) (.bool b)
  | int (i : Int) : Tr K H (.int i) (.int i)
  | str (x : Str) : Tr K H (.str x) (.str x)
  | lst {a : Addr} {xs : List V} {ds : List D} : H a = some (.lst xs) → TrAll K H xs ds → Tr K H (.ref a) (.list ds)
  | tup {a : Addr} {xs : List V} {ds : List D} : SqT K H a xs → TrAll K H xs ds → Tr K H (.ref a) (.tuple ds)
  | dic {a : Addr} {kvs : List (Key × V)} {es : List (D × D)} : H a = some (.dK kvs) → TrKV K H kvs es → Tr K H (.ref a) (.dict es)
  | scr {a : Addr} {ns : List Int} : SqL K H a (ns.map V.int) → Tr K H (.ref a) (.dict [(.none, .list (ns.map .int))])
inductive TrAll (K : Fg) (H : Hp) : List V → List D → Prop
  | nil : TrAll K H [] []
  | cons {v : V} {vs : List V} {d : D} {ds : List D} : Tr K H v d → TrAll K H vs ds → TrAll K H (v :: vs) (d :: ds)
inductive TrKV (K : Fg) (H : Hp) : List (Key × V) → List (D × D) → Prop
  | nil : TrKV K H [] []
  | cons {k : Key} {v : V} {vs : List (Key × V)} {d : D} {ds : List (D × D)} : Tr K H v d → TrKV K H vs ds → TrKV K H ((k, v) :: vs) ((keyD k, d) :: ds)
end

theorem Same.tup {K : Fg} {H H' : Hp} {a : Addr} {xs : List V} (e : Same H H') (h : SqT K H a xs) : SqT K H' a xs := by
  rcases h with (h | ⟨o, h⟩) | h
  · exact .inl (.inl (e _ _ h))
  · exact .inl (.inr ⟨o, e _ _ h⟩)
  · exact .inr h
theorem Same.rd {H H' : Hp} {a : Addr} {u : HO} (e : Same H H') (h : Rd H a u) : Rd H' a u := by
  rcases h with h | ⟨o, h⟩
  · exact .inl (e _ _ h)
  · exact .inr ⟨o, e _ _ h⟩

mutual
theorem Tr.mono {K : Fg} {H H' : Hp} (s : Same H H') : ∀ {v : V} {d : D}, Tr K H v d → Tr K H' v d
  | _, _, .non => .non
  | _, _, .bl b => .bl b
  | _, _, .int i => .int i
  | _, _, .str x => .str x
  | _, _, .lst a b => .lst (s _ _ a) (TrAll.mono s b)
  | _, _, .tup a b => .tup (Same.tup s a) (TrAll.mono s b)
  | _, _, .dic a b => .dic (s _ _ a) (TrKV.mono s b)
  | _, _, .scr a => .scr (s.seq a)
theorem TrAll.mono {K : Fg} {H H' : Hp} (s : Same H H') : ∀ {v : List V} {d : List D}, TrAll K H v d → TrAll K H' v d
  | _, _, .nil => .nil
  | _, _, .cons a b => .cons (Tr.mono s a) (TrAll.mono s b)
theorem TrKV.mono {K : Fg} {H H' : Hp} (s : Same H H') : ∀ {v : List (Key × V)} {d : List (D × D)}, TrKV K H v d → TrKV K H' v d
  | _, _, .nil => .nil
  | _, _, .cons a b => .cons (Tr.mono s a) (TrKV.mono s b)
end

section
variable {K : Fg} {H : Hp}
theorem TrAll.len : ∀ {vs : List V} {ds : List D}, TrAll K H vs ds → vs.length = ds.length
  | _, _, .nil => rfl
  | _, _, .cons _ b => by simp [TrAll.len b]
theorem TrAll.get : ∀ {vs : List V} {ds : List D} {i : Nat} {d : D}, TrAll K H vs ds → ds[i]? = some d → ∃ v, vs[i]? = some v ∧ Tr K H v d
  | _, _, _, _, .nil, h => by simp at h
  | _, _, 0, _, .cons a _, h => by
    simp only [List.getElem?_cons_zero, Option.some.injEq] at h
    subst h
    exact ⟨_, rfl, a⟩
  | _, _, i + 1, _, .cons _ b, h => by
    simp only [List.getElem?_cons_succ] at h
    obtain ⟨v, e, t⟩ := TrAll.get b h
    exact ⟨v, by simpa using e, t⟩
theorem TrAll.getV : ∀ {vs : List V} {ds : List D} {i : Nat} {v : V}, TrAll K H vs ds → vs[i]? = some v → ∃ d, ds[i]? = some d ∧ Tr K H v d
  | _, _, _, _, .nil, h => by simp at h
  | _, _, 0, _, .cons a _, h => by
    simp only [List.getElem?_cons_zero, Option.some.injEq] at h
    subst h
    exact ⟨_, rfl, a⟩
  | _, _, i + 1, _, .cons _ b, h => by
    simp only [List.getElem?_cons_succ] at h
    obtain ⟨v, e, t⟩ := TrAll.getV b h
    exact ⟨v, by simpa using e, t⟩
theorem TrAll.append : ∀ {vs ws : List V} {ds es : List D}, TrAll K H vs ds → TrAll K H ws es → TrAll K H (vs ++ ws) (ds ++ es)
  | _, _, _, _, .nil, h => h
  | _, _, _, _, .cons a b, h => .cons a (TrAll.append b h)
theorem TrAll.take (n : Nat) : ∀ {vs : List V} {ds : List D}, TrAll K H vs ds → TrAll K H (vs.take n) (ds.take n) := by
  induction n with
  | zero => intro _ _ _; exact .nil
  | succ n ih =>
    intro vs ds h
    cases h with
    | nil => exact .nil
    | cons a b => exact .cons a (ih b)
theorem TrAll.drop (n : Nat) : ∀ {vs : List V} {ds : List D}, TrAll K H vs ds → TrAll K H (vs.drop n) (ds.drop n) := by
  induction n with
  | zero => intro _ _ h; exact h
  | succ n ih =>
    intro vs ds h
    cases h with
    | nil => exact .nil
    | cons a b => exact ih b
theorem TrAll.set {v : V} {d : D} (t : Tr K H v d) : ∀ {vs : List V} {ds : List D} (i : Nat), TrAll K H vs ds → TrAll K H (vs.set i v) (ds.set i d)
  | _, _, _, .nil => .nil
  | _, _, 0, .cons _ b => .cons t b
  | _, _, i + 1, .cons a b => .cons a (TrAll.set t i b)
theorem TrAll.reverse : ∀ {vs : List V} {ds : List D}, TrAll K H vs ds → TrAll K H vs.reverse ds.reverse
  | _, _, .nil => .nil
  | _, _, .cons a b => by
    rw [List.reverse_cons, List.reverse_cons]
    exact TrAll.append (TrAll.reverse b) (.cons a .nil)
theorem TrAll.replicate {vs : List V} {ds : List D} (h : TrAll K H vs ds) : ∀ n : Nat, TrAll K H (List.replicate n vs).flatten (List.replicate n ds).flatten
  | 0 => .nil
  | n + 1 => by
    rw [List.replicate_succ, List.replicate_succ, List.flatten_cons, List.flatten_cons]
    exact TrAll.append h (TrAll.replicate h n)
theorem TrAll.ints : ∀ {ns : List Int}, TrAll K H (ns.map V.int) (ns.map PyData.int)
  | [] => .nil
  | n :: r => .cons (.int n) TrAll.ints
end

theorem keyD_ne (k : Key) : keyD k ≠ .none := by cases k <;> exact fun h => nomatch h
theorem TrKV.key {K : Fg} {H : Hp} : ∀ {kvs : List (Key × V)} {es : List (D × D)}, TrKV K H kvs es → ∀ p ∈ es, p.1 ≠ .none
  | _, _, .nil, p, h => by cases h
  | _, _, .cons (k := k) (ds := ds) a b, p, h => by
    rcases List.mem_cons.mp h with h | h
    · rw [h]; exact keyD_ne k
    · exact TrKV.key b p h
/-- the root of a value in H, what hangs on it in G -/
inductive View (K : Fg) (G H : Hp) : V → D → Prop
  | sc {v : V} {d : D} : Tr K G v d → View K G H v d
  | lst {a : Addr} {xs : List V} {ds : List D} : H a = some (.lst xs) → TrAll K G xs ds → View K G H (.ref a) (.list ds)
  | dic {a : Addr} {kvs : List (Key × V)} {es : List (D × D)} : H a = some (.dK kvs) → TrKV K G kvs es → View K G H (.ref a) (.dict es)

section
variable {K : Fg} {G H : Hp}
theorem View.tr (s : Same G H) {v : V} {d : D} (h : View K G H v d) : Tr K H v d := by
  cases h with
  | sc h => exact Tr.mono s h
  | lst a b => exact .lst a (TrAll.mono s b)
  | dic a b => exact .dic a (TrKV.mono s b)
theorem View.list (s : Same G H) {v : V} {ds : List D} (h : View K G H v (.list ds)) : ∃ a xs, v = .ref a ∧ H a = some (.lst xs) ∧ TrAll K G xs ds := by
  cases h with
  | sc h =>
    cases h with
    | lst a b => exact ⟨_, _, rfl, s _ _ a, b⟩
  | lst a b => exact ⟨_, _, rfl, a, b⟩
theorem View.tuple (s : Same G H) {v : V} {ds : List D} (h : View K G H v (.tuple ds)) : ∃ a xs, v = .ref a ∧ SqT K H a xs ∧ TrAll K G xs ds := by
  cases h with
  | sc h =>
    cases h with
    | tup a b => exact ⟨_, _, rfl, Same.tup s a, b⟩
/-- the script: a list of ints that is read alone -/
def scrD (ns : List Int) : D := .dict [(.none, .list (ns.map .int))]
theorem ints_inj : ∀ {a b : List Int}, a.map PyData.int = b.map PyData.int → a = b
  | [], [], _ => rfl
  | [], _ :: _, h => by cases h
  | _ :: _, [], h => by cases h
  | x :: a, y :: b, h => by
    rw [List.map_cons, List.map_cons] at h
    injection h with h1 h2
    injection h1 with h1
    rw [h1, ints_inj h2]
theorem View.scr (s : Same G H) {v : V} {ns : List Int} (h : View K G H v (scrD ns)) : ∃ a, v = .ref a ∧ SqL K H a (ns.map V.int) := by
  unfold scrD at h
  generalize hz : (PyData.dict [(.none, .list (ns.map .int))]) = z at h
  cases h with
  | sc h =>
    cases h with
    | dic a b =>
      injection hz with hz
      subst hz
      exact (TrKV.key b _ List.mem_cons_self rfl).elim
    | scr a =>
      injection hz with hz
      injection hz with hz
      injection hz with _ hz
      injection hz with hz
      rw [ints_inj hz]
      exact ⟨_, rfl, s.seq a⟩
    | _ => cases hz
  | lst a b => cases hz
  | dic a b =>
    injection hz with hz
    subst hz
    exact (TrKV.key b _ List.mem_cons_self rfl).elim
theorem View.tupT {v : V} {ds : List D} (h : View K G H v (.tuple ds)) : Tr K G v (.tuple ds) := by cases h with | sc h => exact h
theorem View.up {H' : Hp} (s : Same H H') {v : V} {d : D} (h : View K G H v d) : View K G H' v d := by
  cases h with
  | sc h => exact .sc h
  | lst a b => exact .lst (s _ _ a) b
  | dic a b => exact .dic (s _ _ a) b
theorem View.int {v : V} {i : Int} (h : View K G H v (.int i)) : v = .int i := by
  cases h with | sc h => cases h; rfl
theorem View.bool {v : V} {b : Bool} (h : View K G H v (.bool b)) : v = .bl b := by
  cases h with | sc h => cases h; rfl
theorem View.str {v : V} {x : Str} (h : View K G H v (.str x)) : v = .str x := by
  cases h with | sc h => cases h; rfl
theorem View.none {v : V} (h : View K G H v .none) : v = .non := by
  cases h with | sc h => cases h; rfl
end

/-- the heap has grown -/
structure Ex (G H G' H' : Hp) : Prop where
  g : Same G G'
  gh : Same G' H'
  h : Same H H'
  nw : ∀ a o, G' a = some o → G a = none → H a = none
theorem Ex.refl {G H : Hp} (s : Same G H) : Ex G H G H := ⟨Same.refl _, s, Same.refl _, fun a o h n => by rw [h] at n; cases n⟩
theorem same_upd {H : Hp} {p : Addr} {o : HO} (free : H p = none) : Same H (upd H p o) := fun b x e => by
  rw [upd_ne (ne_of_none e free)]
  exact e
theorem Ex.push {G H : Hp} (s : Same G H) {p : Addr} (o : HO) (h : H p = none) : Ex G H G (upd H p o) := ⟨Same.refl _, s.trans (same_upd h), same_upd h, fun a o h n => by rw [h] at n; cases n⟩
theorem same_upd2 {G H : Hp} (s : Same G H) {p : Addr} {o : HO} : Same (upd G p o) (upd H p o) := fun b x e => by
  by_cases hb : b = p
  · subst hb
    rw [upd_same] at e ⊢
    exact e
  · rw [upd_ne hb] at e ⊢
    exact s _ _ e
theorem Ex.pushF {G H : Hp} (s : Same G H) {p : Addr} (o : HO) (h : H p = none) : Ex G H (upd G p o) (upd H p o) where
  g := same_upd (s.free h)
  gh := same_upd2 s
  h := same_upd h
  nw := fun a u e n => by
    by_cases hb : a = p
    · rw [hb]; exact h
    · rw [upd_ne hb] at e
      rw [e] at n
      cases n
/-- an object of H is given to G -/
theorem Ex.give {G H : Hp} (s : Same G H) {p : Addr} {o : HO} (h : H p = some o) : Same (upd G p o) H := fun b x e => by
  by_cases hb : b = p
  · subst hb
    rw [upd_same] at e
    rw [h]
    exact e
  · rw [upd_ne hb] at e
    exact s _ _ e

/-- a slot: unset; a tree that stays; a list, a dict of one's own (b: handed in, given back) -/
inductive Sl where
  | un
  | dat (d : D)
  | own (b : Bool) (d : D)
inductive Val where
  | fz (d : D)
  | ow (d : D)
  | sl (i : Nat)
abbrev DS := List Sl
abbrev Me (α : Type) := DS → Option (α × DS)

structure Bs where
  G0 : Hp
  H0 : Hp
  io : List (Nat × Addr)
  lo : Addr → Prop

inductive Root (K : Fg) (G H : Hp) (a : Addr) : D → Prop
  | lst {xs : List V} {ds : List D} : H a = some (.lst xs) → TrAll K G xs ds → Root K G H a (.list ds)
  | dic {kvs : List (Key × V)} {es : List (D × D)} : H a = some (.dK kvs) → TrKV K G kvs es → Root K G H a (.dict es)
theorem Root.mono {K : Fg} {G H G' H' : Hp} (s : Same G G') {a : Addr} (e : ∀ o, H a = some o → H' a = some o) {d : D} (h : Root K G H a d) : Root K G' H' a d := by
  cases h with
  | lst x y => exact .lst (e _ x) (TrAll.mono s y)
  | dic x y => exact .dic (e _ x) (TrKV.mono s y)
theorem Root.ex {K : Fg} {G H : Hp} {a : Addr} {d : D} (h : Root K G H a d) : ∃ o, H a = some o := by
  cases h with
  | lst x y => exact ⟨_, x⟩
  | dic x y => exact ⟨_, x⟩
theorem Root.view {K : Fg} {G H : Hp} {a : Addr} {d : D} (h : Root K G H a d) : View K G H (.ref a) d := by
  cases h with
  | lst x y => exact .lst x y
  | dic x y => exact .dic x y
/-- given to G the root is a tree -/
theorem Root.give {K : Fg} {G H : Hp} {a : Addr} {d : D} (s : Same G H) (n : G a = none) (h : Root K G H a d) : ∃ o, H a = some o ∧ Tr K (upd G a o) (.ref a) d := by
  cases h with
  | lst x y => exact ⟨_, x, .lst upd_same (TrAll.mono (same_upd n) y)⟩
  | dic x y => exact ⟨_, x, .dic upd_same (TrKV.mono (same_upd n) y)⟩

structure RelS (K : Fg) (B : Bs) (G H : Hp) (δ : DS) (σ : L2.St) : Prop where
  len : δ.length = σ.length
  same : Same G H
  g0 : Same B.G0 G
  nw : ∀ a o, G a = some o → B.G0 a = none → (B.H0 a = none ∨ B.lo a)
  frame : ∀ b o, B.H0 b = some o → (∀ p ∈ B.io, p.2 ≠ b) → ¬ B.lo b → H b = some o
  dom : ∀ b o, B.H0 b = some o → ∃ o', H b = some o'
  iod : ∀ p ∈ B.io, ∃ o, B.H0 p.2 = some o
  dat : ∀ (i : Nat) (d : D), δ[i]? = some (.dat d) → ∃ v, σ[i]? = some (some v) ∧ Tr K G v d
  own : ∀ (i : Nat) (b : Bool) (d : D), δ[i]? = some (.own b d) → ∃ a, σ[i]? = some (some (V.ref a)) ∧ G a = none ∧ (if b = true then (i, a) ∈ B.io else (B.H0 a = none ∨ B.lo a)) ∧ Root K G H a d
  inj : ∀ (i j : Nat) (b b' : Bool) (a : Addr) (d d' : D), δ[i]? = some (.own b d) → δ[j]? = some (.own b' d') → σ[i]? = some (some (V.ref a)) → σ[j]? = some (some (V.ref a)) → i = j

section
variable {K : Fg} {B : Bs} {G H G' H' : Hp} {δ δ' : DS} {σ : L2.St}
theorem RelS.none0 (R : RelS K B G H δ σ) {a : Addr} (h : H a = none) : B.H0 a = none := by
  cases e : B.H0 a with
  | none => rfl
  | some o =>
    obtain ⟨o', e'⟩ := R.dom a o e
    rw [h] at e'
    cases e'
theorem RelS.ex (R : RelS K B G H δ σ) (x : Ex G H G' H') : RelS K B G' H' δ σ where
  len := R.len
  same := x.gh
  g0 := R.g0.trans x.g
  nw := fun a o e n => by
    cases q : G a with
    | some u => exact R.nw a u q n
    | none => exact .inl (R.none0 (x.nw a o e q))
  frame := fun b o e n l => x.h _ _ (R.frame b o e n l)
  iod := R.iod
  dom := fun b o e => by
    obtain ⟨o', e'⟩ := R.dom b o e
    exact ⟨o', x.h _ _ e'⟩
  dat := fun i d e => by
    obtain ⟨v, e1, t⟩ := R.dat i d e
    exact ⟨v, e1, Tr.mono x.g t⟩
  own := fun i b d e => by
    obtain ⟨a, e1, n, m, r⟩ := R.own i b d e
    refine ⟨a, e1, ?_, m, Root.mono x.g (fun o q => x.h _ _ q) r⟩
    cases q : G' a with
    | none => rfl
    | some o =>
      obtain ⟨o', e'⟩ := r.ex
      rw [x.nw a o q n] at e'
      cases e'
  inj := R.inj
end

/-- a value's relation -/
def RV (K : Fg) (B : Bs) (G H : Hp) (δ : DS) (σ : L2.St) : V → Val → Prop
  | v, .fz d => Tr K G v d
  | v, .sl i => σ[i]? = some (some v)
  | v, .ow d => ∃ a, v = .ref a ∧ G a = none ∧ (B.H0 a = none ∨ B.lo a) ∧ Root K G H a d ∧ ∀ (i : Nat) (b : Bool) (d' : D), δ[i]? = some (.own b d') → σ[i]? ≠ some (some (V.ref a))

def ownAt (δ : DS) (i : Nat) : Option D := match δ[i]? with
  | some (.own _ d) => some d
  | _ => none
def dv (δ : DS) : Val → Option D
  | .fz d => some d
  | .ow d => some d
  | .sl i => ownAt δ i
def fzv : Val → Val
  | .ow d => .fz d
  | v => v

def tOf (K : Fg) (B : Bs) (f : Me Val) : TE := fun σ H Q => ∃ G δ r δ', RelS K B G H δ σ ∧ f δ = some (r, δ') ∧
  ∀ v G' H', Same G G' → RelS K B G' H' δ' σ → RV K B G' H' δ' σ v r → Q v H'
def ttOf (K : Fg) (B : Bs) (f : Me Bool) : TT := fun σ H Q => ∃ G δ r δ', RelS K B G H δ σ ∧ f δ = some (r, δ') ∧
  ∀ G' H', Same G G' → RelS K B G' H' δ' σ → Q r H'
def RVs (K : Fg) (B : Bs) (G H : Hp) (δ : DS) (σ : L2.St) : List V → List Val → Prop := Paired fun v r => RV K B G H δ σ v (fzv r)
def taOf (K : Fg) (B : Bs) (f : Me (List Val)) : TA := fun σ H Q => ∃ G δ r δ', RelS K B G H δ σ ∧ f δ = some (r, δ') ∧
  ∀ vs G' H', Same G G' → RelS K B G' H' δ' σ → RVs K B G' H' δ' σ vs r → Q vs H'

abbrev DE (X : Cx) (B : Bs) (e : Expr) (f : Me Val) : Prop := PE X e (tOf X.K B f)
abbrev DT (X : Cx) (B : Bs) (e : Expr) (f : Me Bool) : Prop := PT X e (ttOf X.K B f)
abbrev DA (X : Cx) (B : Bs) (es : List Expr) (f : Me (List Val)) : Prop := PA X es (taOf X.K B f)

section
variable {K : Fg} {B : Bs} {G H G' H' : Hp} {δ δ' : DS} {σ : L2.St}
theorem RV.view (R : RelS K B G H δ σ) {v : V} {r : Val} {d : D} (h : RV K B G H δ σ v r) (e : dv δ r = some d) : View K G H v d := by
  cases r with
  | fz c =>
    cases e
    exact .sc h
  | ow c =>
    cases e
    obtain ⟨a, rfl, _, _, r, _⟩ := h
    exact r.view
  | sl i =>
    have e : ownAt δ i = some d := e
    unfold ownAt at e
    cases q : δ[i]? with
    | none => rw [q] at e; cases e
    | some s =>
      rw [q] at e
      cases s with
      | own b c =>
        cases e
        obtain ⟨a, e1, _, _, r⟩ := R.own i b _ q
        have h' : σ[i]? = some (some v) := h
        rw [e1] at h'
        cases h'
        exact r.view
      | un => cases e
      | dat c => cases e
/-- a new root is frozen -/
theorem RV.freeze (R : RelS K B G H δ σ) {v : V} {r : Val} (h : RV K B G H δ σ v r) : ∃ G', Same G G' ∧ RelS K B G' H δ σ ∧ RV K B G' H δ σ v (fzv r) := by
  cases r with
  | fz c => exact ⟨G, Same.refl _, R, h⟩
  | sl i => exact ⟨G, Same.refl _, R, h⟩
  | ow c =>
    obtain ⟨a, rfl, n, n0, r, u⟩ := h
    obtain ⟨o, e, t⟩ := r.give R.same n
    refine ⟨upd G a o, same_upd n, ⟨R.len, Ex.give R.same e, R.g0.trans (same_upd n), fun b p q m => ?_, R.frame, R.dom, R.iod, fun i d q => ?_, fun i b d q => ?_, R.inj⟩, t⟩
    · by_cases hb : b = a
      · rw [hb]; exact n0
      · rw [upd_ne hb] at q
        exact R.nw b p q m
    · obtain ⟨v, e1, t⟩ := R.dat i d q
      exact ⟨v, e1, Tr.mono (same_upd n) t⟩
    · obtain ⟨c, e1, m, k, r'⟩ := R.own i b d q
      have hc : c ≠ a := fun z => u i b d q (z ▸ e1)
      exact ⟨c, e1, by rw [upd_ne hc]; exact m, k, Root.mono (same_upd n) (fun _ z => z) r'⟩
theorem dv_fzv (δ : DS) (r : Val) : dv δ (fzv r) = dv δ r := by cases r <;> rfl
/-- what stays of a value that is no new root -/
theorem RV.stay {r : Val} {v : V} (s : Same G G') (h : RV K B G H δ σ v (fzv r)) : RV K B G' H' δ' σ v (fzv r) := by
  cases r with
  | fz c => exact Tr.mono s h
  | ow c => exact Tr.mono s h
  | sl i => exact h
end
end DL
end
section
set_option maxRecDepth 100000
set_option maxHeartbeats 4000000
namespace DL
open PySem PySem.Spec L2
open PyProof.Rows hiding St

def mr {α : Type} (a : α) : Me α := fun δ => some (a, δ)
def mb {α β : Type} (f : Me α) (g : α → Me β) : Me β := fun δ => match f δ with
  | some (a, δ') => g a δ'
  | none => none
theorem mb_some {α β : Type} {f : Me α} {g : α → Me β} {δ δ' : DS} {b : β} (h : mb f g δ = some (b, δ')) : ∃ a δ1, f δ = some (a, δ1) ∧ g a δ1 = some (b, δ') := by
  unfold mb at h
  cases q : f δ with
  | none => rw [q] at h; cases h
  | some p =>
    obtain ⟨a, δ1⟩ := p
    rw [q] at h
    exact ⟨a, δ1, rfl, h⟩
/-- a value reckoned of others, the frame as it is -/
def mo {α : Type} (f : DS → Option α) : Me α := fun δ => match f δ with
  | some a => some (a, δ)
  | none => none
theorem mo_some {α : Type} {f : DS → Option α} {δ δ' : DS} {b : α} (h : mo f δ = some (b, δ')) : f δ = some b ∧ δ' = δ := by
  unfold mo at h
  cases q : f δ with
  | none => rw [q] at h; cases h
  | some p => rw [q] at h; cases h; exact ⟨rfl, rfl⟩

theorem ite_some {α : Type} {c : Bool} {a r : α} (h : (if c = true then some a else none) = some r) : c = true ∧ a = r := by
  cases c with
  | true => rw [if_pos rfl] at h; exact ⟨rfl, Option.some.inj h⟩
  | false => rw [if_neg Bool.false_ne_true] at h; cases h
theorem PE.weak {X : Cx} {e : Expr} {t t' : TE} (h : PE X e t) (i : ∀ σ H Q, t' σ H Q → t σ H Q) : PE X e t' := ⟨fun pins s σ H Q I w => h.run pins s σ H Q I (i _ _ _ w)⟩
theorem PT.weak {X : Cx} {e : Expr} {t t' : TT} (h : PT X e t) (i : ∀ σ H Q, t' σ H Q → t σ H Q) : PT X e t' := ⟨fun pins s σ H Q I w => h.run pins s σ H Q I (i _ _ _ w)⟩
theorem PW.weak {X : Cx} {e : Expr} {t t' : TT} (h : PW X e t) (i : ∀ σ H Q, t' σ H Q → t σ H Q) : PW X e t' := ⟨fun wh pins s σ H Q I w => h.run wh pins s σ H Q I (i _ _ _ w)⟩
theorem PA.weak {X : Cx} {e : List Expr} {t t' : TA} (h : PA X e t) (i : ∀ σ H Q, t' σ H Q → t σ H Q) : PA X e t' := ⟨fun p pins s σ H Q I w => h.run p pins s σ H Q I (i _ _ _ w)⟩
theorem PS.weak {X : Cx} {e : Stmt} {t t' : TS} (h : PS X e t) (i : ∀ D σ H, t' D σ H → t D σ H) : PS X e t' := ⟨fun pins s σ H D I w => h.run pins s σ H D I (i _ _ _ w)⟩
theorem PSs.weak {X : Cx} {e : List Stmt} {t t' : TS} (h : PSs X e t) (i : ∀ D σ H, t' D σ H → t D σ H) : PSs X e t' := ⟨fun pins s σ H D I w => h.run pins s σ H D I (i _ _ _ w)⟩

section
variable {X : Cx} {B : Bs} {pos : Pos}

/-! ### names, constants -/
def nameM (i : Nat) : Me Val := fun δ => match δ[i]? with
  | some (.dat d) => some (.fz d, δ)
  | some (.own _ _) => some (.sl i, δ)
  | _ => none
theorem de_name (i : Nat) {x : Str} (hN : X.N[i]? = some x := by rfl) (hv : Vis X.env.scope x := by first | exact Or.inl rfl | exact Or.inr (Or.inl rfl) | exact Or.inr (Or.inr rfl)) (hd : (x == ("__debug__" : Str)) = false := by decide)
    (hcd : (x == ("__classdict__" : Str)) = false := by decide) : DE X B (.Name x pos) (nameM i) := by
  refine PE.weak (pe_var hN hv hd hcd) fun σ H Q h => ?_
  obtain ⟨G, δ, r, δ', R, e, k⟩ := h
  unfold nameM at e
  split at e
  · rename_i d q
    cases e
    obtain ⟨v, e1, t⟩ := R.dat i d q
    exact ⟨v, e1, k v G H (Same.refl _) R t⟩
  · rename_i b d q
    cases e
    obtain ⟨a, e1, _⟩ := R.own i b d q
    exact ⟨_, e1, k _ G H (Same.refl _) R e1⟩
  · cases e
def conM (d : D) : Me Val := fun δ => some (.fz d, δ)
theorem de_con {e : Expr} {v : V} {d : D} (h : PE X e (tC v)) (t : ∀ G : Hp, Tr X.K G v d) : DE X B e (conM d) := by
  refine PE.weak h fun σ H Q h => ?_
  obtain ⟨G, δ, r, δ', R, e, k⟩ := h
  cases e
  exact k v G H (Same.refl _) R (t G)
theorem de_int {i j} : DE X B (.Constant (.int i) j pos) (conM (.int i)) := de_con pe_int fun _ => .int i
theorem de_bl {i j} : DE X B (.Constant (.bool i) j pos) (conM (.bool i)) := de_con pe_bl fun _ => .bl i
theorem de_str {i j} : DE X B (.Constant (.str i) j pos) (conM (.str i)) := de_con pe_str fun _ => .str i
theorem de_non {j} : DE X B (.Constant .none j pos) (conM .none) := de_con pe_non fun _ => .non
/-- a module's int, text -/
theorem de_gint {x : Str} {n : Int} {u : Value} (hg : Gl X x) (hm : X.mg x = some u) (r : ∃ t, u = .int n t) (hd : (x == ("__debug__" : Str)) = false := by decide) : DE X B (.Name x pos) (conM (.int n)) := de_con (pe_glob (v := .int n) hg hm r hd) fun _ => .int n
theorem de_gstr {x : Str} {n : Str} {u : Value} (hg : Gl X x) (hm : X.mg x = some u) (r : ∃ t, u = .str n t) (hd : (x == ("__debug__" : Str)) = false := by decide) : DE X B (.Name x pos) (conM (.str n)) := de_con (pe_glob (v := .str n) hg hm r hd) fun _ => .str n

/-! ### operators -/
/-- a result: what a rule hands back -/
def RO (K : Fg) (G' H H' : Hp) (v : V) : Val → Prop
  | .fz d => Tr K G' v d
  | .ow d => ∃ a, v = .ref a ∧ H a = none ∧ G' a = none ∧ Root K G' H' a d
  | .sl _ => False
theorem RO.rv {K : Fg} {G H G' H' : Hp} {δ : DS} {σ : L2.St} (R : RelS K B G H δ σ) {v : V} {r : Val} (h : RO K G' H H' v r) : RV K B G' H' δ σ v r := by
  cases r with
  | fz d => exact h
  | sl i => exact h.elim
  | ow d =>
    obtain ⟨a, rfl, n, n', r⟩ := h
    refine ⟨a, rfl, n', .inl (R.none0 n), r, fun i b d' q z => ?_⟩
    obtain ⟨c, e1, _, _, r'⟩ := R.own i b d' q
    rw [e1] at z
    cases z
    obtain ⟨o, e⟩ := r'.ex
    rw [n] at e
    cases e
/-- flat: no address -/
def flat : D → Bool
  | .none => true
  | .bool _ => true
  | .int _ => true
  | .str _ => true
  | _ => false
theorem Tr.flat {K : Fg} {H H' : Hp} {v : V} {d : D} (h : Tr K H v d) (f : DL.flat d = true) : Tr K H' v d := by
  cases h with
  | non => exact .non
  | bl b => exact .bl b
  | int i => exact .int i
  | str x => exact .str x
  | lst _ _ => cases f
  | tup _ _ => cases f
  | dic _ _ => cases f
  | scr _ => cases f

def OpD (K : Fg) (r : R2) (h : D → D → Option Val) : Prop := ∀ (G H : Hp) (x y : V) (d e : D) (res : Val) (Q : VK), Same G H → View K G H x d → View K G H y e → h d e = some res →
  (∀ v G' H', Ex G H G' H' → RO K G' H H' v res → Q v H') → r x y H Q
def binM (h : D → D → Option Val) (f g : Me Val) : Me Val := mb f fun x => mb g fun y => mo fun δ => (dv δ x).bind fun a => (dv δ y).bind fun b => h a b
theorem tOp_of {K : Fg} {r : R2} {h : D → D → Option Val} {f g : Me Val} (hd : OpD K r h) : ∀ σ H Q, tOf K B (binM h f g) σ H Q → tOp r (tOf K B f) (tOf K B g) σ H Q := by
  intro σ H Q hq
  obtain ⟨G, δ, res, δ', R, e, k⟩ := hq
  obtain ⟨x, δ1, e1, e⟩ := mb_some e
  obtain ⟨y, δ2, e2, e⟩ := mb_some e
  obtain ⟨e3, rfl⟩ := mo_some e
  obtain ⟨a, ea, e3⟩ := Option.bind_eq_some_iff.mp e3
  obtain ⟨b, eb, e3⟩ := Option.bind_eq_some_iff.mp e3
  refine ⟨G, δ, x, δ1, R, e1, fun v G1 H1 s1 R1 v1 => ?_⟩
  obtain ⟨G1', s1', R1', v1'⟩ := v1.freeze R1
  refine ⟨G1', δ1, y, δ', R1', e2, fun w G2 H2 s2 R2 v2 => ?_⟩
  have v1'' := RV.stay (B := B) (G' := G2) (H' := H2) (δ' := δ') s2 v1'
  refine hd G2 H2 v w a b res Q R2.same (v1''.view R2 (by rw [dv_fzv]; exact ea)) (v2.view R2 eb) e3 fun u G' H' x ro => ?_
  exact k u G' H' (((s1.trans s1').trans s2).trans x.g) (R2.ex x) (ro.rv R2)
theorem de_op {a b : Expr} {op : Operator} {r : R2} {h : D → D → Option Val} {f g : Me Val} (ho : OpR X (binaryOp op) r) (hd : OpD X.K r h) (ha : DE X B a f) (hb : DE X B b g) : DE X B (.BinOp a op b pos) (binM h f g) :=
  PE.weak (pe_op ho ha hb) (tOp_of hd)
theorem de_cmp {a b : Expr} {op : CmpOp} {r : R2} {h : D → D → Option Val} {f g : Me Val} (ho : OpR X (compareOp op) r) (hd : OpD X.K r h) (ha : DE X B a f) (hb : DE X B b g) (hm : behindInMarks op b = false := by first | exact nomark _ | rfl) :
    DE X B (.Compare a [op] [b] pos) (binM h f g) := PE.weak (pe_cmpR ho ha hb hm) (tOp_of hd)
/-- a test's bool -/
def boolM (f : Me Val) : Me Bool := fun δ => match f δ with
  | some (.fz (.bool b), δ') => some (b, δ')
  | _ => none
theorem boolM_some {f : Me Val} {δ δ' : DS} {b : Bool} (h : boolM f δ = some (b, δ')) : f δ = some (.fz (.bool b), δ') := by
  unfold boolM at h
  split at h
  · rename_i b' δ1 q
    cases h
    exact q
  · cases h
theorem tTest_of {K : Fg} {f : Me Val} : ∀ σ H Q, ttOf K B (boolM f) σ H Q → tOf K B f σ H fun x H' => ∃ k, x = .bl k ∧ Q k H' := by
  intro σ H Q h
  obtain ⟨G, δ, r, δ', R, e, k⟩ := h
  refine ⟨G, δ, _, δ', R, boolM_some e, fun v G' H' s R' t => ?_⟩
  have t : Tr K G' v (.bool r) := t
  cases t
  exact ⟨r, rfl, k G' H' s R'⟩
theorem dt_cmp {a b : Expr} {op : CmpOp} {r : R2} {h : D → D → Option Val} {f g : Me Val} (ho : OpR X (compareOp op) r) (hd : OpD X.K r h) (ha : DE X B a f) (hb : DE X B b g) (hm : behindInMarks op b = false := by first | exact nomark _ | rfl) :
    DT X B (.Compare a [op] [b] pos) (boolM (binM h f g)) := PT.weak (pt_cmpR ho ha hb hm) fun σ H Q q => tOp_of hd σ H _ (tTest_of σ H Q q)
theorem dt_val {e : Expr} {f : Me Val} (h : DE X B e f) (he : ∀ whole, isTrue e X.env whole = (do let v ← whole; standAt e.pos; holding [v] (truthy v)) := by intro _; rfl) : DT X B e (boolM f) :=
  PT.weak (pt_val h he) fun σ H Q q => tTest_of σ H Q q
/-- unary -/
def UnD (K : Fg) (r : V → Hp → VK → Prop) (h : D → Option Val) : Prop := ∀ (G H : Hp) (x : V) (d : D) (res : Val) (Q : VK), Same G H → View K G H x d → h d = some res →
  (∀ v G' H', Ex G H G' H' → RO K G' H H' v res → Q v H') → r x H Q
def unM (h : D → Option Val) (f : Me Val) : Me Val := mb f fun x => mo fun δ => (dv δ x).bind h
theorem tUn_of {K : Fg} {r : V → Hp → VK → Prop} {h : D → Option Val} {f : Me Val} (hd : UnD K r h) : ∀ σ H Q, tOf K B (unM h f) σ H Q → tUn r (tOf K B f) σ H Q := by
  intro σ H Q hq
  obtain ⟨G, δ, res, δ', R, e, k⟩ := hq
  obtain ⟨x, δ1, e1, e⟩ := mb_some e
  obtain ⟨e3, rfl⟩ := mo_some e
  obtain ⟨a, ea, e3⟩ := Option.bind_eq_some_iff.mp e3
  refine ⟨G, δ, x, _, R, e1, fun v G1 H1 s1 R1 v1 => ?_⟩
  refine hd G1 H1 v a res Q R1.same (v1.view R1 ea) e3 fun u G' H' x ro => ?_
  exact k u G' H' (s1.trans x.g) (R1.ex x) (ro.rv R1)
theorem de_un {a : Expr} {op : UnaryOp} {r : V → Hp → VK → Prop} {h : D → Option Val} {f : Me Val} (ho : UnR X (unaryOp op) r) (hd : UnD X.K r h) (ha : DE X B a f) : DE X B (.UnaryOp op a pos) (unM h f) :=
  PE.weak (pe_un ho ha) (tUn_of hd)

/-! ### the operators by kinds -/
def intB (g : Int → Int → Option D) : D → D → Option Val
  | .int i, .int j => (g i j).map .fz
  | _, _ => none
theorem opd_int {K : Fg} {C : Int → Int → Prop} {g : Int → Int → V} {h : Int → Int → Option D} (hh : ∀ i j d, h i j = some d → C i j ∧ ∀ G, Tr K G (g i j) d) : OpD K (rI C g) (intB h) := by
  intro G H x y d e res Q s vx vy hr k
  cases d with
  | int i =>
    cases e with
    | int j =>
      obtain ⟨z, hz, rfl⟩ := Option.map_eq_some_iff.mp hr
      obtain ⟨c, t⟩ := hh i j z hz
      exact ⟨i, j, vx.int, vy.int, c, k _ G H (Ex.refl s) (t G)⟩
    | _ => cases hr
  | _ => cases hr
theorem opd_int0 {K : Fg} {g : Int → Int → V} {h : Int → Int → Option D} (hh : ∀ i j d, h i j = some d → ∀ G, Tr K G (g i j) d) : OpD K (rI0 g) (intB h) := by
  intro G H x y d e res Q s vx vy hr k
  cases d with
  | int i =>
    cases e with
    | int j =>
      obtain ⟨z, hz, rfl⟩ := Option.map_eq_some_iff.mp hr
      exact ⟨i, j, vx.int, vy.int, k _ G H (Ex.refl s) (hh i j z hz G)⟩
    | _ => cases hr
  | _ => cases hr
def addI : D → D → Option Val := intB fun i j => some (.int (i + j))
def subI : D → D → Option Val := intB fun i j => some (.int (i - j))
/-- both together below a million bits -/
def mulOk (i j : Int) : Bool := decide (i.natAbs.log2 + j.natAbs.log2 < 1000000)
def mulI : D → D → Option Val := intB fun i j => if mulOk i j then some (.int (i * j)) else none
def divOk (j : Int) : Bool := decide (0 < j) && decide (j.natAbs.log2 < 9000)
def fdivI : D → D → Option Val := intB fun i j => if divOk j then some (.int (i / j)) else none
def modI : D → D → Option Val := intB fun i j => if decide (0 < j) then some (.int (i % j)) else none
def ltI : D → D → Option Val := intB fun i j => some (.bool (decide (i < j)))
def leI : D → D → Option Val := intB fun i j => some (.bool (decide (i ≤ j)))
def gtI : D → D → Option Val := intB fun i j => some (.bool (decide (j < i)))
def geI : D → D → Option Val := intB fun i j => some (.bool (decide (j ≤ i)))
theorem od_add {K : Fg} : OpD K (rI0 fun i j => .int (i + j)) addI := opd_int0 fun i j d h G => by cases h; exact .int _
theorem od_sub {K : Fg} : OpD K (rI0 fun i j => .int (i - j)) subI := opd_int0 fun i j d h G => by cases h; exact .int _
theorem od_mul {K : Fg} : OpD K (rI CMulW fun i j => .int (i * j)) mulI := opd_int fun i j d h => by
  split at h
  · rename_i c
    cases h
    have c2 : i.natAbs.log2 + j.natAbs.log2 < 1000000 := of_decide_eq_true c
    exact ⟨c2, fun _ => .int _⟩
  · cases h
theorem od_fdiv {K : Fg} : OpD K (rI CDivW fun i j => .int (i / j)) fdivI := opd_int fun i j d h => by
  split at h
  · rename_i c
    cases h
    unfold divOk at c
    rw [Bool.and_eq_true] at c
    exact ⟨⟨of_decide_eq_true c.1, of_decide_eq_true c.2⟩, fun _ => .int _⟩
  · cases h
theorem od_mod {K : Fg} : OpD K (rI (fun _ j => 0 < j) fun i j => .int (i % j)) modI := opd_int fun i j d h => by
  split at h
  · rename_i c
    cases h
    exact ⟨of_decide_eq_true c, fun _ => .int _⟩
  · cases h
theorem od_lt {K : Fg} : OpD K (rI0 fun i j => .bl (decide (i < j))) ltI := opd_int0 fun i j d h G => by cases h; exact .bl _
theorem od_le {K : Fg} : OpD K (rI0 fun i j => .bl (decide (i ≤ j))) leI := opd_int0 fun i j d h G => by cases h; exact .bl _
theorem od_gt {K : Fg} : OpD K (rI0 fun i j => .bl (decide (j < i))) gtI := opd_int0 fun i j d h G => by cases h; exact .bl _
theorem od_ge {K : Fg} : OpD K (rI0 fun i j => .bl (decide (j ≤ i))) geI := opd_int0 fun i j d h G => by cases h; exact .bl _
def negI : D → Option Val
  | .int i => some (.fz (.int (-i)))
  | _ => none
theorem ud_neg {K : Fg} : UnD K (rU fun i => .int (-i)) negI := by
  intro G H x d res Q s vx hr k
  cases d with
  | int i =>
    cases hr
    exact ⟨i, vx.int, k _ G H (Ex.refl s) (.int _)⟩
  | _ => cases hr
def szOk (n : Nat) : Bool := decide (n ≤ 16777216)
theorem szOk_le {n : Nat} (h : szOk n = true) : n ≤ sizeLine := by
  rw [sizeLine_eq]
  exact of_decide_eq_true h
end

/-! ### either of two rules -/
def orD (h h' : D → D → Option Val) : D → D → Option Val := fun a b => match h a b with
  | some r => some r
  | none => h' a b
theorem OpD.or {K : Fg} {r r' : R2} {h h' : D → D → Option Val} (a : OpD K r h) (b : OpD K r' h') : OpD K (fun x y H Q => r x y H Q ∨ r' x y H Q) (orD h h') := by
  intro G H x y d e res Q s vx vy hr k
  unfold orD at hr
  split at hr
  · rename_i z q
    cases hr
    exact .inl (a G H x y d e _ Q s vx vy q k)
  · exact .inr (b G H x y d e _ Q s vx vy hr k)
theorem OpD.eq {K : Fg} {r : R2} {h h' : D → D → Option Val} (a : OpD K r h) (e : ∀ x y z, h' x y = some z → h x y = some z) : OpD K r h' :=
  fun G H x y d e' res Q s vx vy hr k => a G H x y d e' res Q s vx vy (e _ _ _ hr) k
/-- a new list, a new tuple of trees -/
theorem RO.newL {K : Fg} {G H : Hp} (s : Same G H) {xs : List V} {ds : List D} (t : TrAll K G xs ds) {p : Addr} (n : H p = none) : RO K G H (upd H p (.lst xs)) (.ref p) (.ow (.list ds)) := ⟨p, rfl, n, s.free n, .lst upd_same t⟩
theorem RO.newT {K : Fg} {G H : Hp} (s : Same G H) {xs : List V} {ds : List D} (t : TrAll K G xs ds) {p : Addr} (n : H p = none) : RO K (upd G p (.tup xs)) H (upd H p (.tup xs)) (.ref p) (.fz (.tuple ds)) :=
  Tr.tup (.inl (.inl upd_same)) (TrAll.mono (same_upd (s.free n)) t)

def addD : D → D → Option Val
  | .int i, .int j => some (.fz (.int (i + j)))
  | .list a, .list b => if szOk (a.length + b.length) then some (.ow (.list (a ++ b))) else none
  | .tuple a, .tuple b => if szOk (a.length + b.length) then some (.fz (.tuple (a ++ b))) else none
  | .str a, .str b => if szOk (a.length + b.length) then some (.fz (.str (a ++ b))) else none
  | _, _ => none
def rAdd (K : Fg) : R2 := fun x y H Q => rI0 (fun i j => .int (i + j)) x y H Q ∨ rCat x y H Q ∨ rCatA K x y H Q ∨ (∃ i j, x = .str i ∧ y = .str j ∧ i.length + j.length ≤ sizeLine ∧ Q (.str (i ++ j)) H)
theorem op_addA {X : Cx} : OpR X (binaryOp .Add) (rAdd X.K) := op_add.or (op_cat.or (op_catA.or op_add_str))
theorem od_addA {K : Fg} : OpD K (rAdd K) addD := by
  intro G H x y d e res Q s vx vy hr k
  cases d with
  | int i =>
    cases e with
    | int j => cases hr; exact .inl ⟨i, j, vx.int, vy.int, k _ G H (Ex.refl s) (.int _)⟩
    | _ => cases hr
  | list a =>
    cases e with
    | list b =>
      obtain ⟨c, hr⟩ := ite_some hr
      subst hr
      obtain ⟨p, xs, rfl, hx, tx⟩ := vx.list s
      obtain ⟨q, ys, rfl, hy, ty⟩ := vy.list s
      refine .inr (.inl ⟨p, q, xs, ys, rfl, rfl, hx, hy, by rw [tx.len, ty.len]; exact szOk_le c, fun z n => ?_⟩)
      exact k _ G _ (Ex.push s _ n) (RO.newL s (tx.append ty) n)
    | _ => cases hr
  | tuple a =>
    cases e with
    | tuple b =>
      obtain ⟨c, hr⟩ := ite_some hr
      subst hr
      obtain ⟨p, xs, ep, hx, tx⟩ := vx.tuple s
      obtain ⟨q, ys, eq, hy, ty⟩ := vy.tuple s
      have fx : Tr K G x (.tuple a) := by cases vx with | sc h => exact h
      have fy : Tr K G y (.tuple b) := by cases vy with | sc h => exact h
      subst ep eq
      refine .inr (.inr (.inl ⟨p, q, xs, ys, rfl, rfl, hx, hy, by rw [tx.len, ty.len]; exact szOk_le c, fun z => ?_, fun _ z => ?_, fun _ _ z n => ?_⟩))
      · subst z
        cases tx
        exact k _ G H (Ex.refl s) fy
      · subst z
        cases ty
        rw [List.append_nil] at k
        exact k _ G H (Ex.refl s) fx
      · exact k _ _ _ (Ex.pushF s _ n) (RO.newT s (tx.append ty) n)
    | _ => cases hr
  | str a =>
    cases e with
    | str b =>
      obtain ⟨c, hr⟩ := ite_some hr
      subst hr
      exact .inr (.inr (.inr ⟨a, b, vx.str, vy.str, szOk_le c, k _ G H (Ex.refl s) (.str _)⟩))
    | _ => cases hr
  | _ => cases hr
def ixOk (k : Int) : Bool := decide (-(2 ^ 63) ≤ k) && decide (k < 2 ^ 63)
theorem ixOk_le {k : Int} (h : ixOk k = true) : -(2 ^ 63) ≤ k ∧ k < 2 ^ 63 := by
  unfold ixOk at h
  rw [Bool.and_eq_true] at h
  exact ⟨of_decide_eq_true h.1, of_decide_eq_true h.2⟩
def mulD : D → D → Option Val
  | .int i, .int j => if mulOk i j then some (.fz (.int (i * j))) else none
  | .list a, .int k => if ixOk k && szOk (a.length * k.toNat) then some (.ow (.list (List.replicate k.toNat a).flatten)) else none
  | _, _ => none
def rMulA : R2 := fun x y H Q => rI CMulW (fun i j => .int (i * j)) x y H Q ∨ rRep x y H Q
theorem op_mulA {X : Cx} : OpR X (binaryOp .Mult) rMulA := op_mulW.or op_rep
theorem od_mulA {K : Fg} : OpD K rMulA mulD := by
  intro G H x y d e res Q s vx vy hr k
  cases d with
  | int i =>
    cases e with
    | int j =>
      obtain ⟨c, hr⟩ := ite_some hr
      subst hr
      have c2 : i.natAbs.log2 + j.natAbs.log2 < 1000000 := of_decide_eq_true c
      exact .inl ⟨i, j, vx.int, vy.int, c2, k _ G H (Ex.refl s) (.int _)⟩
    | _ => cases hr
  | list a =>
    cases e with
    | int j =>
      obtain ⟨c, hr⟩ := ite_some hr
      subst hr
      rw [Bool.and_eq_true] at c
      obtain ⟨p, xs, rfl, hx, tx⟩ := vx.list s
      have b := ixOk_le c.1
      refine .inr ⟨p, j, xs, rfl, vy.int, hx, b.1, b.2, by rw [tx.len]; exact szOk_le c.2, fun z n => ?_⟩
      exact k _ G _ (Ex.push s _ n) (RO.newL s (tx.replicate _) n)
    | _ => cases hr
  | _ => cases hr
/-- // and % of any signs -/
def CDivZ (_ j : Int) : Prop := j ≠ 0 ∧ j.natAbs.log2 < 9000
theorem op_fdivZ {X : Cx} : OpR X (binaryOp .FloorDiv) (rI CDivZ fun i j => .int (i.fdiv j)) := opI fun i j _ _ _ _ _ hc q => floordiv_int hc.1 q (.inl (PyProof.noPylong_of_log2 hc.2))
def fdivD : D → D → Option Val := intB fun i j => if decide (j ≠ 0) && decide (j.natAbs.log2 < 9000) then some (.int (i.fdiv j)) else none
theorem od_fdivZ {K : Fg} : OpD K (rI CDivZ fun i j => .int (i.fdiv j)) fdivD := opd_int fun i j d h => by
  obtain ⟨c, rfl⟩ := ite_some h
  rw [Bool.and_eq_true] at c
  exact ⟨⟨of_decide_eq_true c.1, of_decide_eq_true c.2⟩, fun _ => .int _⟩
def modD : D → D → Option Val := intB fun i j => if decide (j ≠ 0) then some (.int (i.fmod j)) else none
theorem od_modN {K : Fg} : OpD K (rI (fun _ j => j ≠ 0) fun i j => .int (i.fmod j)) modD := opd_int fun i j d h => by
  obtain ⟨c, rfl⟩ := ite_some h
  exact ⟨of_decide_eq_true c, fun _ => .int _⟩
def powD : D → D → Option Val := intB fun i j => if decide (0 ≤ j) && decide (j ≤ 1000000) && decide (i.natAbs < 2 ^ 64) then some (.int (i ^ j.toNat)) else none
theorem od_pow {K : Fg} : OpD K (rI CPow fun i j => .int (i ^ j.toNat)) powD := opd_int fun i j d h => by
  obtain ⟨c, rfl⟩ := ite_some h
  rw [Bool.and_eq_true, Bool.and_eq_true] at c
  exact ⟨⟨of_decide_eq_true c.1.1, of_decide_eq_true c.1.2, of_decide_eq_true c.2⟩, fun _ => .int _⟩

/-! ### == and != -/
mutual
theorem Tr.dp {K : Fg} {H : Hp} : ∀ {v : V} {d : D}, Tr K H v d → d.canLay0 = true → Dp K H v d
  | _, _, .non, _ => .non
  | _, _, .bl b, _ => .bl b
  | _, _, .int i, _ => .int i
  | _, _, .str x, _ => .str x
  | _, _, .lst a b, h => .lst (.inl (.inl a)) (TrAll.dp b (by simpa [PyData.canLay0] using h))
  | _, _, .tup a b, h => .tup a (TrAll.dp b (by simpa [PyData.canLay0] using h))
  | _, _, .dic _ _, h => by simp [PyData.canLay0] at h
  | _, _, .scr _, h => by simp [PyData.canLay0] at h
theorem TrAll.dp {K : Fg} {H : Hp} : ∀ {v : List V} {d : List D}, TrAll K H v d → PyData.canLayAll0 d = true → DpAll K H v d
  | _, _, .nil, _ => .nil
  | _, _, .cons (d := d) (ds := ds) a b, h => by
    have h' : d.canLay0 = true ∧ PyData.canLayAll0 ds = true := by simpa [PyData.canLayAll0] using h
    exact .cons (Tr.dp a h'.1) (TrAll.dp b h'.2)
end
def eqD : D → D → Option Val := fun d e => if SeqAt.shaped d && SeqAt.shaped e then some (.fz (.bool (PyData.eqv d e))) else none
def neD : D → D → Option Val := fun d e => if SeqAt.shaped d && SeqAt.shaped e then some (.fz (.bool (!PyData.eqv d e))) else none
theorem od_eq {K : Fg} : OpD K (rEqD K) eqD := by
  intro G H x y d e res Q s vx vy hr k
  obtain ⟨c, rfl⟩ := ite_some hr
  rw [Bool.and_eq_true] at c
  exact ⟨d, e, Tr.dp (vx.tr s) (SeqAt.canLay_of_shaped c.1), Tr.dp (vy.tr s) (SeqAt.canLay_of_shaped c.2), c.1, c.2, k _ G H (Ex.refl s) (.bl _)⟩
theorem od_ne {K : Fg} : OpD K (rNeD K) neD := by
  intro G H x y d e res Q s vx vy hr k
  obtain ⟨c, rfl⟩ := ite_some hr
  rw [Bool.and_eq_true] at c
  exact ⟨d, e, Tr.dp (vx.tr s) (SeqAt.canLay_of_shaped c.1), Tr.dp (vy.tr s) (SeqAt.canLay_of_shaped c.2), c.1, c.2, k _ G H (Ex.refl s) (.bl _)⟩
def isNone : D → Bool
  | .none => true
  | _ => false
theorem View.isNone {K : Fg} {G H : Hp} {v : V} {d : D} (h : View K G H v d) : decide (v = .non) = DL.isNone d := by
  cases h with
  | sc h => cases h <;> rfl
  | lst _ _ => rfl
  | dic _ _ => rfl
def isD : D → D → Option Val
  | d, .none => some (.fz (.bool (isNone d)))
  | _, _ => none
def isnotD : D → D → Option Val
  | d, .none => some (.fz (.bool (!isNone d)))
  | _, _ => none
theorem od_is {K : Fg} : OpD K (fun x y H Q => y = .non ∧ Q (.bl (decide (x = .non))) H) isD := by
  intro G H x y d e res Q s vx vy hr k
  cases e with
  | none => cases hr; exact ⟨vy.none, k _ G H (Ex.refl s) (by rw [vx.isNone]; exact .bl _)⟩
  | _ => cases hr
theorem od_isnot {K : Fg} : OpD K (fun x y H Q => y = .non ∧ Q (.bl (!decide (x = .non))) H) isnotD := by
  intro G H x y d e res Q s vx vy hr k
  cases e with
  | none => cases hr; exact ⟨vy.none, k _ G H (Ex.refl s) (by rw [vx.isNone]; exact .bl _)⟩
  | _ => cases hr
end DL
end
section
set_option maxRecDepth 100000
set_option maxHeartbeats 4000000
namespace DL
open PySem PySem.Spec L2
open PyProof.Rows hiding St

section
variable {X : Cx} {B : Bs} {pos : Pos}

/-! ### if, and, or, not -/
def ifM {α : Type} (c : Me Bool) (f g : Me α) : Me α := mb c fun b => if b = true then f else g
theorem de_if {c a b : Expr} {fc : Me Bool} {f g : Me Val} (hc : DT X B c fc) (ha : DE X B a f) (hb : DE X B b g) : DE X B (.IfExp c a b pos) (ifM fc f g) := by
  refine PE.weak (pe_ifExp hc ha hb) fun σ H Q h => ?_
  obtain ⟨G, δ, r, δ', R, e, k⟩ := h
  obtain ⟨x, δ1, e1, e⟩ := mb_some e
  refine ⟨G, δ, x, δ1, R, e1, fun G1 H1 s1 R1 => ?_⟩
  cases x with
  | true => exact ⟨G1, δ1, r, δ', R1, e, fun v G' H' s R' q => k v G' H' (s1.trans s) R' q⟩
  | false => exact ⟨G1, δ1, r, δ', R1, e, fun v G' H' s R' q => k v G' H' (s1.trans s) R' q⟩
def andM (f g : Me Bool) : Me Bool := mb f fun b => if b = true then g else mr false
def orM (f g : Me Bool) : Me Bool := mb f fun b => if b = true then mr true else g
def notM (f : Me Bool) : Me Bool := mb f fun b => mr (!b)
abbrev DW (X : Cx) (B : Bs) (e : Expr) (f : Me Bool) : Prop := PW X e (ttOf X.K B f)
theorem dw_pt {e : Expr} {f : Me Bool} (h : DW X B e f) : DT X B e f := PW.pt h
theorem dw_and1 {a : Expr} {f : Me Bool} (ha : DT X B a f) : DW X B (.BoolOp .And [a] pos) f := pw_and1 ha
theorem dw_or1 {a : Expr} {f : Me Bool} (ha : DT X B a f) : DW X B (.BoolOp .Or [a] pos) f := pw_or1 ha
theorem dw_and {a b : Expr} {rest : List Expr} {f g : Me Bool} (ha : DT X B a f) (hb : DW X B (.BoolOp .And (b :: rest) pos) g) : DW X B (.BoolOp .And (a :: b :: rest) pos) (andM f g) := by
  refine PW.weak (pw_and ha hb) fun σ H Q h => ?_
  obtain ⟨G, δ, r, δ', R, e, k⟩ := h
  obtain ⟨x, δ1, e1, e⟩ := mb_some e
  refine ⟨G, δ, x, δ1, R, e1, fun G1 H1 s1 R1 => ?_⟩
  cases x with
  | true => exact ⟨G1, δ1, r, δ', R1, e, fun G' H' s R' => k G' H' (s1.trans s) R'⟩
  | false =>
    cases e
    exact k G1 H1 s1 R1
theorem dw_or {a b : Expr} {rest : List Expr} {f g : Me Bool} (ha : DT X B a f) (hb : DW X B (.BoolOp .Or (b :: rest) pos) g) : DW X B (.BoolOp .Or (a :: b :: rest) pos) (orM f g) := by
  refine PW.weak (pw_or ha hb) fun σ H Q h => ?_
  obtain ⟨G, δ, r, δ', R, e, k⟩ := h
  obtain ⟨x, δ1, e1, e⟩ := mb_some e
  refine ⟨G, δ, x, δ1, R, e1, fun G1 H1 s1 R1 => ?_⟩
  cases x with
  | false => exact ⟨G1, δ1, r, δ', R1, e, fun G' H' s R' => k G' H' (s1.trans s) R'⟩
  | true =>
    cases e
    exact k G1 H1 s1 R1
theorem dt_not {a : Expr} {f : Me Bool} (ha : DT X B a f) : DT X B (.UnaryOp .Not a pos) (notM f) := by
  refine PT.weak (pt_not ha) fun σ H Q h => ?_
  obtain ⟨G, δ, r, δ', R, e, k⟩ := h
  obtain ⟨x, δ1, e1, e⟩ := mb_some e
  cases e
  exact ⟨G, δ, x, _, R, e1, fun G1 H1 s1 R1 => k G1 H1 s1 R1⟩
/-- a bool as a value -/
def valM (f : Me Bool) : Me Val := mb f fun b => mr (.fz (.bool b))
theorem valM_bool {f : Me Val} : ∀ {δ δ' : DS} {b : Bool}, f δ = some (.fz (.bool b), δ') → boolM f δ = some (b, δ') := fun h => by
  unfold boolM
  rw [h]
theorem tOf_bool {K : Fg} {f : Me Val} {σ : L2.St} {H : Hp} {Q : Bool → Hp → Prop} (h : ttOf K B (boolM f) σ H Q) : tOf K B f σ H fun x H' => ∃ k, x = .bl k ∧ Q k H' := tTest_of σ H Q h
/-- and, or, not as values -/
def andV (f g : Me Val) : Me Val := mb (boolM f) fun b => if b = true then g else mr (.fz (.bool false))
def orV (f g : Me Val) : Me Val := mb (boolM f) fun b => if b = true then mr (.fz (.bool true)) else g
def notV (f : Me Val) : Me Val := mb (boolM f) fun b => mr (.fz (.bool (!b)))
theorem de_one {op : BoolOp} {a : Expr} {f : Me Val} (h : DE X B a f) : DE X B (.BoolOp op [a] pos) f := pe_one h
theorem boolM_of {K : Fg} {f : Me Val} {σ : L2.St} {H : Hp} {δ δ1 : DS} {b : Bool} {G : Hp} {Q : VK} (R : RelS K B G H δ σ) (e1 : boolM f δ = some (b, δ1)) (k : ∀ G' H', Same G G' → RelS K B G' H' δ1 σ → Q (.bl b) H') : tOf K B f σ H Q := by
  refine ⟨G, δ, _, δ1, R, boolM_some e1, fun v G' H' s R' t => ?_⟩
  have t : Tr K G' v (.bool b) := t
  cases t
  exact k G' H' s R'
theorem de_and {a b : Expr} {rest : List Expr} {f g : Me Val} (ha : DE X B a f) (hb : DE X B (.BoolOp .And (b :: rest) pos) g) : DE X B (.BoolOp .And (a :: b :: rest) pos) (andV f g) := by
  refine PE.weak (pe_and ha hb) fun σ H Q h => ?_
  obtain ⟨G, δ, r, δ', R, e, k⟩ := h
  obtain ⟨x, δ1, e1, e⟩ := mb_some e
  refine boolM_of R e1 fun G1 H1 s1 R1 => ⟨x, rfl, ?_⟩
  cases x with
  | true => exact ⟨G1, δ1, r, δ', R1, e, fun v G' H' s R' q => k v G' H' (s1.trans s) R' q⟩
  | false =>
    cases e
    exact k _ G1 H1 s1 R1 (.bl false)
theorem de_or {a b : Expr} {rest : List Expr} {f g : Me Val} (ha : DE X B a f) (hb : DE X B (.BoolOp .Or (b :: rest) pos) g) : DE X B (.BoolOp .Or (a :: b :: rest) pos) (orV f g) := by
  refine PE.weak (pe_or ha hb) fun σ H Q h => ?_
  obtain ⟨G, δ, r, δ', R, e, k⟩ := h
  obtain ⟨x, δ1, e1, e⟩ := mb_some e
  refine boolM_of R e1 fun G1 H1 s1 R1 => ⟨x, rfl, ?_⟩
  cases x with
  | false => exact ⟨G1, δ1, r, δ', R1, e, fun v G' H' s R' q => k v G' H' (s1.trans s) R' q⟩
  | true =>
    cases e
    exact k _ G1 H1 s1 R1 (.bl true)
theorem de_not {a : Expr} {f : Me Val} (ha : DE X B a f) : DE X B (.UnaryOp .Not a pos) (notV f) := by
  refine PE.weak (pe_not ha) fun σ H Q h => ?_
  obtain ⟨G, δ, r, δ', R, e, k⟩ := h
  obtain ⟨x, δ1, e1, e⟩ := mb_some e
  cases e
  exact boolM_of R e1 fun G1 H1 s1 R1 => ⟨x, rfl, k _ G1 H1 s1 R1 (.bl _)⟩
/-- a < b < c -/
def chainM (h h' : D → D → Option Val) (f g m : Me Val) : Me Val := mb f fun x => mb g fun y => mb (boolM (mo fun δ => (dv δ x).bind fun a => (dv δ y).bind fun b => h a b)) fun c =>
  if c = true then mb m fun z => mo fun δ => (dv δ y).bind fun a => (dv δ z).bind fun b => h' a b else mr (.fz (.bool false))
theorem tChain_of {K : Fg} {r r' : R2} {h h' : D → D → Option Val} {f g m : Me Val} (hd : OpD K r h) (hd' : OpD K r' h') : ∀ σ H Q, tOf K B (chainM h h' f g m) σ H Q → tChain r r' (tOf K B f) (tOf K B g) (tOf K B m) σ H Q := by
  intro σ H Q hq
  obtain ⟨G, δ, res, δ', R, e, k⟩ := hq
  obtain ⟨x, δ1, e1, e⟩ := mb_some e
  obtain ⟨y, δ2, e2, e⟩ := mb_some e
  obtain ⟨c, δ3, e3, e⟩ := mb_some e
  obtain ⟨e3, rfl⟩ := mo_some (boolM_some e3)
  obtain ⟨a, ea, e3⟩ := Option.bind_eq_some_iff.mp e3
  obtain ⟨b, eb, e3⟩ := Option.bind_eq_some_iff.mp e3
  refine ⟨G, δ, x, δ1, R, e1, fun v G1 H1 s1 R1 v1 => ?_⟩
  obtain ⟨G1', s1', R1', v1'⟩ := v1.freeze R1
  refine ⟨G1', δ1, y, _, R1', e2, fun w G2 H2 s2 R2 v2 => ?_⟩
  obtain ⟨G2', s2', R2', v2'⟩ := v2.freeze R2
  have v1'' := RV.stay (B := B) (G' := G2') (H' := H2) (δ' := δ3) (s2.trans s2') v1'
  refine hd G2' H2 v w a b _ _ R2'.same (v1''.view R2' (by rw [dv_fzv]; exact ea)) (v2'.view R2' (by rw [dv_fzv]; exact eb)) e3 fun u G3 H3 x3 ro => ?_
  have ro : Tr K G3 u (.bool c) := ro
  cases ro
  refine ⟨c, rfl, ?_⟩
  have R3 := R2'.ex x3
  cases c with
  | false =>
    cases e
    exact k _ G3 H3 ((((s1.trans s1').trans s2).trans s2').trans x3.g) R3 (.bl false)
  | true =>
    obtain ⟨z, δ4, e4, e⟩ := mb_some e
    obtain ⟨e5, rfl⟩ := mo_some e
    obtain ⟨a', ea', e5⟩ := Option.bind_eq_some_iff.mp e5
    obtain ⟨b', eb', e5⟩ := Option.bind_eq_some_iff.mp e5
    refine ⟨G3, δ3, z, _, R3, e4, fun w4 G4 H4 s4 R4 v4 => ?_⟩
    have v2'' := RV.stay (B := B) (G' := G4) (H' := H4) (δ' := δ') (x3.g.trans s4) v2'
    refine hd' G4 H4 w w4 a' b' _ _ R4.same (v2''.view R4 (by rw [dv_fzv]; exact ea')) (v4.view R4 eb') e5 fun u5 G5 H5 x5 ro5 => ?_
    exact k u5 G5 H5 ((((((s1.trans s1').trans s2).trans s2').trans x3.g).trans s4).trans x5.g) (R4.ex x5) (ro5.rv R4)
theorem de_chain {a b c : Expr} {op op' : CmpOp} {r r' : R2} {h h' : D → D → Option Val} {f g m : Me Val} (ho : OpR X (compareOp op) r) (hd : OpD X.K r h) (ho' : OpR X (compareOp op') r') (hd' : OpD X.K r' h') (ha : DE X B a f) (hb : DE X B b g) (hc : DE X B c m)
    (hm : lastMarks [op, op'] [b, c] = false := by with_unfolding_all rfl) : DE X B (.Compare a [op, op'] [b, c] pos) (chainM h h' f g m) := PE.weak (pe_chain ho ho' ha hb hc hm) (tChain_of hd hd')
theorem dt_chain {a b c : Expr} {op op' : CmpOp} {r r' : R2} {h h' : D → D → Option Val} {f g m : Me Val} (ho : OpR X (compareOp op) r) (hd : OpD X.K r h) (ho' : OpR X (compareOp op') r') (hd' : OpD X.K r' h') (ha : DE X B a f) (hb : DE X B b g) (hc : DE X B c m)
    (hm : lastMarks [op, op'] [b, c] = false := by with_unfolding_all rfl) : DT X B (.Compare a [op, op'] [b, c] pos) (boolM (chainM h h' f g m)) := PT.weak (pt_chain ho ho' ha hb hc hm) fun σ H Q q => tChain_of hd hd' σ H _ (tTest_of σ H Q q)

/-! ### argument lists -/
theorem RVs.stay {K : Fg} {G G' H H' : Hp} {δ δ' : DS} {σ : L2.St} (s : Same G G') : ∀ {vs : List V} {rs : List Val}, RVs K B G H δ σ vs rs → RVs K B G' H' δ' σ vs rs
  | _, _, .nil => .nil
  | _, _, .cons a b => .cons (RV.stay s a) (RVs.stay s b)
def nilA : Me (List Val) := mr []
def consA (f : Me Val) (g : Me (List Val)) : Me (List Val) := mb f fun x => mb g fun xs => mr (x :: xs)
theorem da_nil : DA X B [] nilA := by
  refine PA.weak pa_nil fun σ H Q h => ?_
  obtain ⟨G, δ, r, δ', R, e, k⟩ := h
  cases e
  exact k [] G H (Same.refl _) R .nil
theorem da_cons {e : Expr} {es : List Expr} {f : Me Val} {g : Me (List Val)} (ha : DE X B e f) (hr : DA X B es g) (hs : starEach (e :: es) X.env = (false, eval e X.env) :: starEach es X.env := by rfl) : DA X B (e :: es) (consA f g) := by
  refine PA.weak (pa_cons ha hr hs) fun σ H Q h => ?_
  obtain ⟨G, δ, r, δ', R, e, k⟩ := h
  obtain ⟨x, δ1, e1, e⟩ := mb_some e
  obtain ⟨xs, δ2, e2, e⟩ := mb_some e
  cases e
  refine ⟨G, δ, x, δ1, R, e1, fun v G1 H1 s1 R1 v1 => ?_⟩
  obtain ⟨G1', s1', R1', v1'⟩ := v1.freeze R1
  refine ⟨G1', δ1, xs, _, R1', e2, fun vs G2 H2 s2 R2 v2 => ?_⟩
  exact k (v :: vs) G2 H2 ((s1.trans s1').trans s2) R2 (.cons (RV.stay s2 v1') v2)
def dvs (δ : DS) : List Val → Option (List D)
  | [] => some []
  | r :: rs => (dv δ r).bind fun d => (dvs δ rs).bind fun ds => some (d :: ds)
theorem RVs.view {K : Fg} {G H : Hp} {δ : DS} {σ : L2.St} (R : RelS K B G H δ σ) : ∀ {vs : List V} {rs : List Val} {ds : List D}, RVs K B G H δ σ vs rs → dvs δ rs = some ds → Paired (View K G H) vs ds
  | _, _, _, .nil, h => by cases h; exact .nil
  | _, _, _, .cons a b, h => by
    obtain ⟨d, h1, h⟩ := Option.bind_eq_some_iff.mp h
    obtain ⟨es, h2, h⟩ := Option.bind_eq_some_iff.mp h
    cases h
    exact .cons (a.view R (by rw [dv_fzv]; exact h1)) (RVs.view R b h2)
/-- all trees -/
def fzs : List Val → Option (List D)
  | [] => some []
  | .sl _ :: _ => none
  | .fz d :: rs => (fzs rs).bind fun ds => some (d :: ds)
  | .ow d :: rs => (fzs rs).bind fun ds => some (d :: ds)
theorem RVs.trees {K : Fg} {G H : Hp} {δ : DS} {σ : L2.St} : ∀ {vs : List V} {rs : List Val} {ds : List D}, RVs K B G H δ σ vs rs → fzs rs = some ds → TrAll K G vs ds
  | _, _, _, .nil, h => by cases h; exact .nil
  | _, _, _, .cons (b := r) a b, h => by
    cases r with
    | sl i => cases h
    | fz d =>
      obtain ⟨es, h2, h⟩ := Option.bind_eq_some_iff.mp h
      cases h
      exact .cons a (RVs.trees b h2)
    | ow d =>
      obtain ⟨es, h2, h⟩ := Option.bind_eq_some_iff.mp h
      cases h
      exact .cons a (RVs.trees b h2)
/-! ### displays -/
def lstM (fa : Me (List Val)) : Me Val := mb fa fun xs => mo fun _ => (fzs xs).bind fun ds => if szOk ds.length then some (.ow (.list ds)) else none
def tupM (fa : Me (List Val)) : Me Val := mb fa fun xs => mo fun _ => (fzs xs).bind fun ds => if szOk ds.length then some (.fz (.tuple ds)) else none
theorem de_lst {es : List Expr} {fa : Me (List Val)} (h : DA X B es fa) : DE X B (.List es pos) (lstM fa) := by
  refine PE.weak (pe_lst h) fun σ H Q h => ?_
  obtain ⟨G, δ, r, δ', R, e, k⟩ := h
  obtain ⟨xs, δ1, e1, e⟩ := mb_some e
  obtain ⟨e2, rfl⟩ := mo_some e
  obtain ⟨ds, ed, e2⟩ := Option.bind_eq_some_iff.mp e2
  obtain ⟨c, rfl⟩ := ite_some e2
  refine ⟨G, δ, xs, _, R, e1, fun vs G1 H1 s1 R1 v1 => ?_⟩
  have t := v1.trees ed
  refine ⟨by rw [t.len]; exact szOk_le c, fun p n => ?_⟩
  have x := Ex.push R1.same (.lst vs) n
  exact k _ _ _ (s1.trans x.g) (R1.ex x) ((RO.newL R1.same t n).rv R1)
theorem de_tup {es : List Expr} {x1} {fa : Me (List Val)} (h : DA X B es fa) : DE X B (.Tuple es x1 pos) (tupM fa) := by
  refine PE.weak (pe_tup h) fun σ H Q h => ?_
  obtain ⟨G, δ, r, δ', R, e, k⟩ := h
  obtain ⟨xs, δ1, e1, e⟩ := mb_some e
  obtain ⟨e2, rfl⟩ := mo_some e
  obtain ⟨ds, ed, e2⟩ := Option.bind_eq_some_iff.mp e2
  obtain ⟨c, rfl⟩ := ite_some e2
  refine ⟨G, δ, xs, _, R, e1, fun vs G1 H1 s1 R1 v1 => ?_⟩
  have t := v1.trees ed
  refine ⟨by rw [t.len]; exact szOk_le c, fun p n => ?_⟩
  have x := Ex.pushF R1.same (.tup vs) n
  exact k _ _ _ (s1.trans x.g) (R1.ex x) (RO.rv (H := H1) R1 (RO.newT R1.same t n))

/-! ### built-in functions -/
def FnD (K : Fg) (r : List V → Hp → VK → Prop) (h : List D → Option Val) : Prop := ∀ (G H : Hp) (vs : List V) (ds : List D) (res : Val) (Q : VK), Same G H → Paired (View K G H) vs ds → h ds = some res →
  (∀ v G' H', Ex G H G' H' → RO K G' H H' v res → Q v H') → r vs H Q
def callM (h : List D → Option Val) (fa : Me (List Val)) : Me Val := mb fa fun xs => mo fun δ => (dvs δ xs).bind h
theorem tCB_of {K : Fg} {r : List V → Hp → VK → Prop} {h : List D → Option Val} {fa : Me (List Val)} (hd : FnD K r h) : ∀ σ H Q, tOf K B (callM h fa) σ H Q → tCB r (taOf K B fa) σ H Q := by
  intro σ H Q hq
  obtain ⟨G, δ, res, δ', R, e, k⟩ := hq
  obtain ⟨xs, δ1, e1, e⟩ := mb_some e
  obtain ⟨e2, rfl⟩ := mo_some e
  obtain ⟨ds, ed, e2⟩ := Option.bind_eq_some_iff.mp e2
  refine ⟨G, δ, xs, _, R, e1, fun vs G1 H1 s1 R1 v1 => ?_⟩
  refine hd G1 H1 vs ds res Q R1.same (v1.view R1 ed) e2 fun u G' H' x ro => ?_
  exact k u G' H' (s1.trans x.g) (R1.ex x) (ro.rv R1)
theorem de_callB {x : Str} {id : String} {r : List V → Hp → VK → Prop} {h : List D → Option Val} {e : Expr} {es : List Expr} {fa : Me (List Val)} {p : Pos} (hc : CallR X (.builtin id) r) (hd : FnD X.K r h) (hg : Gl X x) (hm : X.mg x = none) (hv : bootBuiltins x = some (.builtin id)) (ha : DA X B (e :: es) fa) (hn : x ≠ "__name__" := by decide) (hdb : (x == ("__debug__" : Str)) = false := by decide)
    (he : starEach (e :: es) X.env = (false, eval e X.env) :: starEach es X.env := by rfl) (hpl : (backTo pos (starEach es X.env)).any (·.1) = false := by rfl) : DE X B (.Call (.Name x p) (e :: es) [] pos) (callM h fa) :=
  PE.weak (pe_callB hc hg hm hv ha hn hdb he hpl) (tCB_of hd)
theorem de_callT {x : Str} {T : String} {r : List V → Hp → VK → Prop} {h : List D → Option Val} {e : Expr} {es : List Expr} {fa : Me (List Val)} {p : Pos} (hc : CallR X (.type T) r) (hd : FnD X.K r h) (hg : Gl X x) (hm : X.mg x = none) (hv : bootBuiltins x = some (.type T)) (ha : DA X B (e :: es) fa) (hn : x ≠ "__name__" := by decide) (hdb : (x == ("__debug__" : Str)) = false := by decide)
    (he : starEach (e :: es) X.env = (false, eval e X.env) :: starEach es X.env := by rfl) (hpl : (backTo pos (starEach es X.env)).any (·.1) = false := by rfl) : DE X B (.Call (.Name x p) (e :: es) [] pos) (callM h fa) :=
  PE.weak (pe_callTy hc hg hm hv ha hn hdb he hpl) (tCB_of hd)
theorem view1 {K : Fg} {G H : Hp} {vs : List V} {d : D} (h : Paired (View K G H) vs [d]) : ∃ v, vs = [v] ∧ View K G H v d := by
  cases h with
  | cons a b => cases b; exact ⟨_, rfl, a⟩
theorem view2 {K : Fg} {G H : Hp} {vs : List V} {d e : D} (h : Paired (View K G H) vs [d, e]) : ∃ v w, vs = [v, w] ∧ View K G H v d ∧ View K G H w e := by
  cases h with
  | cons a b =>
    obtain ⟨w, rfl, c⟩ := view1 b
    exact ⟨_, _, rfl, a, c⟩
/-- len -/
def lenD : List D → Option Val
  | [.list ds] => some (.fz (.int ds.length))
  | [.tuple ds] => some (.fz (.int ds.length))
  | [.str x] => if szOk x.length then some (.fz (.int x.length)) else none
  | [.dict [(.none, .list ds)]] => some (.fz (.int ds.length))
  | _ => none
theorem ints_of : ∀ {ds : List D} {vs : List V} {K : Fg} {H : Hp}, TrAll K H vs ds → ∀ {ns : List Int}, vs = ns.map V.int → ds = ns.map PyData.int
  | _, _, _, _, .nil, [], _ => rfl
  | _, _, _, _, .nil, _ :: _, h => by cases h
  | _, _, _, _, .cons a b, [], h => by cases h
  | _, _, _, _, .cons a b, n :: r, h => by
    rw [List.map_cons] at h
    injection h with h1 h2
    subst h1
    cases a
    rw [List.map_cons, ints_of b h2]
theorem View.scr' {K : Fg} {G H : Hp} (s : Same G H) {v : V} {ds : List D} (h : View K G H v (.dict [(.none, .list ds)])) : ∃ (a : Addr) (ns : List Int), v = .ref a ∧ SqL K H a (ns.map V.int) ∧ ds = ns.map PyData.int := by
  generalize hz : (PyData.dict [(PyData.none, PyData.list ds)]) = z at h
  cases h with
  | sc h =>
    cases h with
    | dic a b =>
      injection hz with hz
      subst hz
      exact (TrKV.key b _ List.mem_cons_self rfl).elim
    | scr a =>
      injection hz with hz
      injection hz with hz
      injection hz with _ hz
      injection hz with hz
      exact ⟨_, _, rfl, s.seq a, hz⟩
    | _ => cases hz
  | lst a b => cases hz
  | dic a b =>
    injection hz with hz
    subst hz
    exact (TrKV.key b _ List.mem_cons_self rfl).elim
theorem fd_len {K : Fg} : FnD K (fun xs H Q => ∃ x n, xs = [x] ∧ LenV K x H n ∧ Q (.int n) H) lenD := by
  intro G H vs ds res Q s vv hr k
  unfold lenD at hr
  split at hr
  · cases hr
    obtain ⟨v, rfl, v1⟩ := view1 vv
    obtain ⟨a, xs, rfl, hx, t⟩ := v1.list s
    exact ⟨_, _, rfl, .inl ⟨xs, .inl (.inl hx), t.len.symm⟩, k _ G H (Ex.refl s) (.int _)⟩
  · cases hr
    obtain ⟨v, rfl, v1⟩ := view1 vv
    obtain ⟨a, xs, rfl, hx, t⟩ := v1.tuple s
    exact ⟨_, _, rfl, .inr ⟨xs, hx, t.len.symm⟩, k _ G H (Ex.refl s) (.int _)⟩
  · obtain ⟨c, rfl⟩ := ite_some hr
    obtain ⟨v, rfl, v1⟩ := view1 vv
    cases v1.str
    exact ⟨_, _, rfl, ⟨szOk_le c, rfl⟩, k _ G H (Ex.refl s) (.int _)⟩
  · cases hr
    obtain ⟨v, rfl, v1⟩ := view1 vv
    obtain ⟨a, ns, rfl, hx, rfl⟩ := v1.scr' s
    refine ⟨_, _, rfl, .inl ⟨_, hx, rfl⟩, ?_⟩
    rw [List.length_map] at k ⊢
    exact k _ G H (Ex.refl s) (.int _)
  · cases hr
/-- list(x), tuple(x) -/
def listD : List D → Option Val
  | [.list ds] => some (.ow (.list ds))
  | [.tuple ds] => some (.ow (.list ds))
  | _ => none
theorem fd_list {K : Fg} : FnD K (fun xs H Q => ∃ p ys, xs = [.ref p] ∧ (SqL K H p ys ∨ SqT K H p ys) ∧ ∀ l, H l = none → Q (.ref l) (upd H l (.lst ys))) listD := by
  intro G H vs ds res Q s vv hr k
  unfold listD at hr
  split at hr
  · cases hr
    obtain ⟨v, rfl, v1⟩ := view1 vv
    obtain ⟨a, xs, rfl, hx, t⟩ := v1.list s
    exact ⟨a, xs, rfl, .inl (.inl (.inl hx)), fun l n => k _ G _ (Ex.push s _ n) (RO.newL s t n)⟩
  · cases hr
    obtain ⟨v, rfl, v1⟩ := view1 vv
    obtain ⟨a, xs, rfl, hx, t⟩ := v1.tuple s
    exact ⟨a, xs, rfl, .inr hx, fun l n => k _ G _ (Ex.push s _ n) (RO.newL s t n)⟩
  · cases hr
def tupleD : List D → Option Val
  | [.list ds] => some (.fz (.tuple ds))
  | [.tuple ds] => some (.fz (.tuple ds))
  | _ => none
theorem fd_tuple {K : Fg} : FnD K (fun xs H Q => ∃ p ys, xs = [.ref p] ∧ ((SqL K H p ys ∧ ∀ l, H l = none → Q (.ref l) (upd H l (.tup ys))) ∨ (SqT K H p ys ∧ Q (.ref p) H))) tupleD := by
  intro G H vs ds res Q s vv hr k
  unfold tupleD at hr
  split at hr
  · cases hr
    obtain ⟨v, rfl, v1⟩ := view1 vv
    obtain ⟨a, xs, rfl, hx, t⟩ := v1.list s
    exact ⟨a, xs, rfl, .inl ⟨.inl (.inl hx), fun l n => k _ _ _ (Ex.pushF s _ n) (RO.newT s t n)⟩⟩
  · cases hr
    obtain ⟨v, rfl, v1⟩ := view1 vv
    have f := v1.tupT
    obtain ⟨a, xs, rfl, hx, t⟩ := v1.tuple s
    exact ⟨a, xs, rfl, .inr ⟨hx, k _ G H (Ex.refl s) f⟩⟩
  · cases hr
/-- int(x), abs(x), max(a, b), min(a, b), divmod(a, b) -/
def intD : List D → Option Val
  | [.int i] => some (.fz (.int i))
  | [.bool b] => some (.fz (.int (if b then 1 else 0)))
  | _ => none
theorem fd_int {K : Fg} : FnD K (fun xs H Q => (∃ i, xs = [.int i] ∧ Q (.int i) H) ∨ ∃ k, xs = [.bl k] ∧ Q (.int (if k then 1 else 0)) H) intD := by
  intro G H vs ds res Q s vv hr k
  unfold intD at hr
  split at hr
  · cases hr
    obtain ⟨v, rfl, v1⟩ := view1 vv
    cases v1.int
    exact .inl ⟨_, rfl, k _ G H (Ex.refl s) (.int _)⟩
  · cases hr
    obtain ⟨v, rfl, v1⟩ := view1 vv
    cases v1.bool
    exact .inr ⟨_, rfl, k _ G H (Ex.refl s) (.int _)⟩
  · cases hr
def absD : List D → Option Val
  | [.int i] => some (.fz (.int (if i < 0 then -i else i)))
  | _ => none
theorem fd_abs {K : Fg} : FnD K (fun xs H Q => ∃ i, xs = [.int i] ∧ Q (.int (if i < 0 then -i else i)) H) absD := by
  intro G H vs ds res Q s vv hr k
  unfold absD at hr
  split at hr
  · cases hr
    obtain ⟨v, rfl, v1⟩ := view1 vv
    cases v1.int
    exact ⟨_, rfl, k _ G H (Ex.refl s) (.int _)⟩
  · cases hr
def max2D : List D → Option Val
  | [.int i, .int j] => some (.fz (.int (if j > i then j else i)))
  | _ => none
theorem fd_max2 {K : Fg} : FnD K (fun xs H Q => ∃ i j, xs = [.int i, .int j] ∧ Q (.int (if j > i then j else i)) H) max2D := by
  intro G H vs ds res Q s vv hr k
  unfold max2D at hr
  split at hr
  · cases hr
    obtain ⟨v, w, rfl, v1, v2⟩ := view2 vv
    cases v1.int
    cases v2.int
    exact ⟨_, _, rfl, k _ G H (Ex.refl s) (.int _)⟩
  · cases hr
def min2D : List D → Option Val
  | [.int i, .int j] => some (.fz (.int (if j < i then j else i)))
  | _ => none
theorem fd_min2 {K : Fg} : FnD K (fun xs H Q => ∃ i j, xs = [.int i, .int j] ∧ Q (.int (if j < i then j else i)) H) min2D := by
  intro G H vs ds res Q s vv hr k
  unfold min2D at hr
  split at hr
  · cases hr
    obtain ⟨v, w, rfl, v1, v2⟩ := view2 vv
    cases v1.int
    cases v2.int
    exact ⟨_, _, rfl, k _ G H (Ex.refl s) (.int _)⟩
  · cases hr
def divmodD : List D → Option Val
  | [.int i, .int j] => if decide (0 < j) && decide (j < 1073741824) then some (.fz (.tuple [.int (i / j), .int (i % j)])) else none
  | _ => none
theorem fd_divmod {K : Fg} : FnD K (fun xs H Q => ∃ i j, xs = [.int i, .int j] ∧ CDiv i j ∧ ∀ p, H p = none → Q (.ref p) (upd H p (.tup [.int (i / j), .int (i % j)]))) divmodD := by
  intro G H vs ds res Q s vv hr k
  unfold divmodD at hr
  split at hr
  · obtain ⟨c, rfl⟩ := ite_some hr
    rw [Bool.and_eq_true] at c
    obtain ⟨v, w, rfl, v1, v2⟩ := view2 vv
    cases v1.int
    cases v2.int
    exact ⟨_, _, rfl, ⟨of_decide_eq_true c.1, of_decide_eq_true c.2⟩, fun p n => k _ _ _ (Ex.pushF s _ n) (RO.newT s (.cons (.int _) (.cons (.int _) .nil)) n)⟩
  · cases hr
/-- lists of ints, of bools -/
def intsOf : List D → Option (List Int)
  | [] => some []
  | .int i :: r => (intsOf r).bind fun l => some (i :: l)
  | _ => none
def boolsOf : List D → Option (List Bool)
  | [] => some []
  | .bool i :: r => (boolsOf r).bind fun l => some (i :: l)
  | _ => none
theorem intsOf_map : ∀ ns : List Int, intsOf (ns.map PyData.int) = some ns
  | [] => rfl
  | n :: r => by rw [List.map_cons]; unfold intsOf; rw [intsOf_map r]; rfl
theorem boolsOf_map : ∀ ns : List Bool, boolsOf (ns.map PyData.bool) = some ns
  | [] => rfl
  | n :: r => by rw [List.map_cons]; unfold boolsOf; rw [boolsOf_map r]; rfl
theorem TrAll.intsOf {K : Fg} {G : Hp} : ∀ {vs : List V} {ds : List D} {ns : List Int}, TrAll K G vs ds → DL.intsOf ds = some ns → vs = ns.map V.int
  | _, _, _, .nil, h => by cases h; rfl
  | _, _, _, .cons a b, h => by
    cases a with
    | int i =>
      obtain ⟨l, h1, h⟩ := Option.bind_eq_some_iff.mp h
      cases h
      rw [TrAll.intsOf b h1]
      rfl
    | _ => cases h
theorem TrAll.boolsOf {K : Fg} {G : Hp} : ∀ {vs : List V} {ds : List D} {ns : List Bool}, TrAll K G vs ds → DL.boolsOf ds = some ns → vs = ns.map V.bl
  | _, _, _, .nil, h => by cases h; rfl
  | _, _, _, .cons a b, h => by
    cases a with
    | bl i =>
      obtain ⟨l, h1, h⟩ := Option.bind_eq_some_iff.mp h
      cases h
      rw [TrAll.boolsOf b h1]
      rfl
    | _ => cases h
def allD : List D → Option Val
  | [.list ds] => (boolsOf ds).bind fun bs => some (.fz (.bool (bs.all id)))
  | _ => none
def anyD : List D → Option Val
  | [.list ds] => (boolsOf ds).bind fun bs => some (.fz (.bool (bs.any id)))
  | _ => none
def sumD : List D → Option Val
  | [.list ds] => (intsOf ds).bind fun bs => some (.fz (.int bs.sum))
  | _ => none
theorem fd_all {K : Fg} : FnD K (rAll K) allD := by
  intro G H vs ds res Q s vv hr k
  unfold allD at hr
  split at hr
  · obtain ⟨bs, hb, hr⟩ := Option.bind_eq_some_iff.mp hr
    cases hr
    obtain ⟨v, rfl, v1⟩ := view1 vv
    obtain ⟨a, xs, rfl, hx, t⟩ := v1.list s
    cases t.boolsOf hb
    exact ⟨a, bs, rfl, .inl (.inl hx), k _ G H (Ex.refl s) (.bl _)⟩
  · cases hr
theorem fd_any {K : Fg} : FnD K (rAny K) anyD := by
  intro G H vs ds res Q s vv hr k
  unfold anyD at hr
  split at hr
  · obtain ⟨bs, hb, hr⟩ := Option.bind_eq_some_iff.mp hr
    cases hr
    obtain ⟨v, rfl, v1⟩ := view1 vv
    obtain ⟨a, xs, rfl, hx, t⟩ := v1.list s
    cases t.boolsOf hb
    exact ⟨a, bs, rfl, .inl (.inl hx), k _ G H (Ex.refl s) (.bl _)⟩
  · cases hr
theorem fd_sum {K : Fg} : FnD K (rSum K) sumD := by
  intro G H vs ds res Q s vv hr k
  unfold sumD at hr
  split at hr
  · obtain ⟨bs, hb, hr⟩ := Option.bind_eq_some_iff.mp hr
    cases hr
    obtain ⟨v, rfl, v1⟩ := view1 vv
    obtain ⟨a, xs, rfl, hx, t⟩ := v1.list s
    cases t.intsOf hb
    exact ⟨a, bs, rfl, .inl (.inl hx), k _ G H (Ex.refl s) (.int _)⟩
  · cases hr
/-- the greatest of a list -/
def maxOf : List Int → Option Int
  | [] => none
  | n :: r => match maxOf r with
    | none => some n
    | some m => some (if n ≤ m then m else n)
theorem maxOf_spec : ∀ {ns : List Int} {m : Int}, maxOf ns = some m → m ∈ ns ∧ ∀ y ∈ ns, y ≤ m
  | [], _, h => by cases h
  | n :: r, m, h => by
    unfold maxOf at h
    cases q : maxOf r with
    | none =>
      rw [q] at h
      cases h
      cases r with
      | nil => exact ⟨List.mem_cons_self, fun y hy => by cases hy with | head => exact Int.le_refl _ | tail _ h => cases h⟩
      | cons a b =>
        unfold maxOf at q
        split at q <;> cases q
    | some k =>
      rw [q] at h
      obtain ⟨h1, h2⟩ := maxOf_spec q
      have h : (if n ≤ k then k else n) = m := Option.some.inj h
      by_cases c : n ≤ k
      · rw [if_pos c] at h
        subst h
        exact ⟨List.mem_cons_of_mem _ h1, fun y hy => by cases hy with | head => exact c | tail _ z => exact h2 y z⟩
      · rw [if_neg c] at h
        subst h
        exact ⟨List.mem_cons_self, fun y hy => by
          cases hy with
          | head => exact Int.le_refl _
          | tail _ z => have := h2 y z; omega⟩
theorem maxOf_eq {ns : List Int} {m k : Int} (h : maxOf ns = some m) (h1 : k ∈ ns) (h2 : ∀ y ∈ ns, y ≤ k) : k = m := by
  obtain ⟨a, b⟩ := maxOf_spec h
  have := h2 m a
  have := b k h1
  omega
def maxLD : List D → Option Val
  | [.list ds] => (intsOf ds).bind fun ns => (maxOf ns).bind fun m => some (.fz (.int m))
  | _ => none
theorem fd_maxL {K : Fg} : FnD K (rMax K) maxLD := by
  intro G H vs ds res Q s vv hr k
  unfold maxLD at hr
  split at hr
  · obtain ⟨ns, hb, hr⟩ := Option.bind_eq_some_iff.mp hr
    obtain ⟨m, hm, hr⟩ := Option.bind_eq_some_iff.mp hr
    cases hr
    obtain ⟨v, rfl, v1⟩ := view1 vv
    obtain ⟨a, xs, rfl, hx, t⟩ := v1.list s
    cases t.intsOf hb
    refine ⟨a, ns, rfl, .inl (.inl hx), ?_, fun j h1 h2 => ?_⟩
    · cases ns with
      | nil => cases hm
      | cons => exact Nat.zero_lt_succ _
    · rw [maxOf_eq hm h1 h2]
      exact k _ G H (Ex.refl s) (.int _)
  · cases hr

/-! ### isinstance -/
def tyName : D → Option String
  | .none => some "NoneType"
  | .bool _ => some "bool"
  | .int _ => some "int"
  | .str _ => some "str"
  | .list _ => some "list"
  | .tuple _ => some "tuple"
  | .dict [] => some "dict"
  | .dict ((.none, _) :: _) => none
  | .dict _ => some "dict"
theorem View.ty {K : Fg} {G H : Hp} (s : Same G H) {v : V} {d : D} {T : String} (h : View K G H v d) (e : tyName d = some T) : TyX K H v (.type T) := by
  cases h with
  | sc h =>
    cases h with
    | non => cases e; exact .base .non
    | bl b => cases e; exact .base (.bl b)
    | int i => cases e; exact .base (.int i)
    | str x => cases e; exact .base (.str x)
    | lst a b => cases e; exact .base (.lst (s _ _ a))
    | tup a b =>
      cases e
      rcases a with (a | ⟨o, a⟩) | ⟨o, its, n, a, c, _⟩
      · exact .base (.tup (s _ _ a))
      · exact .fTuple (s _ _ a)
      · exact .kTuple a c
    | dic a b =>
      cases b with
      | nil => cases e; exact .base (.dK (s _ _ a))
      | @cons q _ _ _ _ t r => cases q <;> (cases e; exact .base (.dK (s _ _ a)))
    | scr a => cases e
  | lst a b => cases e; exact .base (.lst a)
  | dic a b =>
    cases b with
    | nil => cases e; exact .base (.dK a)
    | @cons q _ _ _ _ t r => cases q <;> (cases e; exact .base (.dK a))
def isT (a b : String) : Bool := a == b || (a == "bool" && b == "int")
theorem kit_table : (["NoneType", "bool", "int", "str", "list", "tuple", "dict"].all fun a => ["bool", "int", "str", "list", "tuple", "dict"].all fun b => kitB a b == some (isT a b)) = true := by decide +kernel
theorem kit_isT {a b : String} (ha : a ∈ ["NoneType", "bool", "int", "str", "list", "tuple", "dict"]) (hb : b ∈ ["bool", "int", "str", "list", "tuple", "dict"]) : kitB a b = some (isT a b) := by
  have h := List.all_eq_true.mp (List.all_eq_true.mp kit_table a ha) b hb
  exact eq_of_beq h
theorem tyName_mem {d : D} {T : String} (e : tyName d = some T) : T ∈ ["NoneType", "bool", "int", "str", "list", "tuple", "dict"] := by
  unfold tyName at e
  split at e <;> first | (cases e; simp; done) | cases e
def isiD (T : String) (d : D) : Option Val := (tyName d).bind fun t => some (.fz (.bool (isT t T)))
theorem de_isi {e : Expr} {f : Me Val} {p p2 : Pos} {T : Str} {Ts : String} (hg : Gl X "isinstance") (hm : X.mg "isinstance" = none) (ha : DE X B e f) (hg2 : Gl X T) (hm2 : X.mg T = none) (hv : bootBuiltins T = some (.type Ts)) (hT : Ts ∈ ["bool", "int", "str", "list", "tuple", "dict"] := by decide)
    (hn : T ≠ "__name__" := by decide) (hd : (T == ("__debug__" : Str)) = false := by decide)
    (he : starEach [e, .Name T p2] X.env = (false, eval e X.env) :: starEach [.Name T p2] X.env := by rfl) (he2 : starEach [.Name T p2] X.env = (false, eval (.Name T p2) X.env) :: starEach [] X.env := by rfl) (hpl : (backTo pos (starEach [.Name T p2] X.env)).any (·.1) = false := by rfl) :
    DE X B (.Call (.Name "isinstance" p) [e, .Name T p2] [] pos) (unM (isiD Ts) f) := by
  refine PE.weak (pe_callB call_isi hg hm (by decide +kernel) (pa_cons ha (pa_cons (pe_bltn (v := .ty Ts) hg2 hm2 hv rfl hn hd) pa_nil he2) he) (by decide) (by decide) he hpl) fun σ H Q h => ?_
  obtain ⟨G, δ, res, δ', R, e, k⟩ := h
  obtain ⟨x, δ1, e1, e⟩ := mb_some e
  obtain ⟨e3, rfl⟩ := mo_some e
  obtain ⟨a, ea, e3⟩ := Option.bind_eq_some_iff.mp e3
  obtain ⟨t, et, e3⟩ := Option.bind_eq_some_iff.mp e3
  cases e3
  refine ⟨G, δ, x, _, R, e1, fun v G1 H1 s1 R1 v1 => ?_⟩
  exact ⟨v, .ty Ts, .type t, .type Ts, _, rfl, .ty Ts, (v1.view R1 ea).ty R1.same et, kit_ty (kit_isT (tyName_mem et) hT), k _ G1 H1 s1 R1 (.bl _)⟩
def isiD2 (T U : String) (d : D) : Option Val := (tyName d).bind fun t => some (.fz (.bool (isT t T || isT t U)))
theorem de_isi2 {e : Expr} {f : Me Val} {p p2 p3 pt : Pos} {kt} {T U : Str} {Ts Us : String} (hg : Gl X "isinstance") (hm : X.mg "isinstance" = none) (ha : DE X B e f) (hg2 : Gl X T) (hm2 : X.mg T = none) (hv : bootBuiltins T = some (.type Ts)) (hg3 : Gl X U) (hm3 : X.mg U = none) (hv3 : bootBuiltins U = some (.type Us)) (hT : Ts ∈ ["bool", "int", "str", "list", "tuple", "dict"] := by decide) (hU : Us ∈ ["bool", "int", "str", "list", "tuple", "dict"] := by decide)
    (hn : T ≠ "__name__" := by decide) (hd : (T == ("__debug__" : Str)) = false := by decide) (hn3 : U ≠ "__name__" := by decide) (hd3 : (U == ("__debug__" : Str)) = false := by decide)
    (he : starEach [e, .Tuple [.Name T p2, .Name U p3] kt pt] X.env = (false, eval e X.env) :: starEach [.Tuple [.Name T p2, .Name U p3] kt pt] X.env := by rfl)
    (he2 : starEach [.Tuple [.Name T p2, .Name U p3] kt pt] X.env = (false, eval (.Tuple [.Name T p2, .Name U p3] kt pt) X.env) :: starEach [] X.env := by rfl) (hpl : (backTo pos (starEach [.Tuple [.Name T p2, .Name U p3] kt pt] X.env)).any (·.1) = false := by rfl)
    (he3 : starEach [.Name T p2, .Name U p3] X.env = (false, eval (.Name T p2) X.env) :: starEach [.Name U p3] X.env := by rfl) (he4 : starEach [.Name U p3] X.env = (false, eval (.Name U p3) X.env) :: starEach [] X.env := by rfl) :
    DE X B (.Call (.Name "isinstance" p) [e, .Tuple [.Name T p2, .Name U p3] kt pt] [] pos) (unM (isiD2 Ts Us) f) := by
  refine PE.weak (pe_callB call_isiT hg hm (by decide +kernel) (pa_cons ha (pa_cons (pe_tup (pa_cons (pe_bltn (v := .ty Ts) hg2 hm2 hv rfl hn hd) (pa_cons (pe_bltn (v := .ty Us) hg3 hm3 hv3 rfl hn3 hd3) pa_nil he4) he3)) pa_nil he2) he) (by decide) (by decide) he hpl) fun σ H Q h => ?_
  obtain ⟨G, δ, res, δ', R, e, k⟩ := h
  obtain ⟨x, δ1, e1, e⟩ := mb_some e
  obtain ⟨e3, rfl⟩ := mo_some e
  obtain ⟨a, ea, e3⟩ := Option.bind_eq_some_iff.mp e3
  obtain ⟨t, et, e3⟩ := Option.bind_eq_some_iff.mp e3
  cases e3
  refine ⟨G, δ, x, _, R, e1, fun v G1 H1 s1 R1 v1 => ?_⟩
  refine ⟨by show 2 ≤ sizeLine; decide, fun p n => ?_⟩
  have x := Ex.push R1.same (.tup [.ty Ts, .ty Us]) n
  have ty := ((v1.view R1 ea).ty R1.same et)
  refine ⟨v, p, [.ty Ts, .ty Us], .type t, [.type Ts, .type Us], _, rfl, upd_same, .cons (.ty Ts) (.cons (.ty Us) .nil), ?_, kitAny_cons (b := isT t Ts) (r := isT t Ts || isT t Us) (kit_ty (kit_isT (tyName_mem et) hT)) (fun h => ?_) (fun h => by rw [h]; rfl), k _ G1 _ (s1.trans x.g) (R1.ex x) (.bl _)⟩
  · exact View.ty x.gh ((v1.view R1 ea).up x.h) et
  · rw [h, Bool.false_or]
    refine kitAny_cons (b := isT t Us) (kit_ty (kit_isT (tyName_mem et) hU)) (fun h => by rw [h]; exact kitAny_nil) fun h => h
end
end DL
end
section
set_option maxRecDepth 100000
set_option maxHeartbeats 4000000
namespace DL
open PySem PySem.Spec L2
open PyProof.Rows hiding St

section
variable {X : Cx} {B : Bs} {pos : Pos}

/-! ### items, slices -/
theorem atI_tr {K : Fg} {G : Hp} {xs : List V} {ds : List D} {i : Int} {d : D} (t : TrAll K G xs ds) (h : atI ds i = some d) : ∃ v, atI xs i = some v ∧ Tr K G v d := by
  unfold atI at h ⊢
  rw [t.len]
  obtain ⟨j, e, h⟩ := Option.bind_eq_some_iff.mp h
  obtain ⟨v, e2, t2⟩ := t.get h
  exact ⟨v, by rw [e]; exact e2, t2⟩
def ixD : D → D → Option Val
  | .list ds, .int i => (atI ds i).bind fun d => some (.fz d)
  | .tuple ds, .int i => (atI ds i).bind fun d => some (.fz d)
  | .str x, .int i => if szOk x.length then (atI x.cps.toList i).bind fun c => some (.fz (.str ⟨#[c]⟩)) else none
  | .dict [(.none, .list ds)], .int i => (atI ds i).bind fun d => some (.fz d)
  | _, _ => none
theorem atI_ints {ns : List Int} {i : Int} {d : D} (h : atI (ns.map PyData.int) i = some d) : ∃ n : Int, atI (ns.map V.int) i = some (.int n) ∧ d = .int n := by
  unfold atI at h ⊢
  rw [List.length_map] at h ⊢
  obtain ⟨j, e, h⟩ := Option.bind_eq_some_iff.mp h
  rw [List.getElem?_map] at h
  obtain ⟨n, e2, rfl⟩ := Option.map_eq_some_iff.mp h
  exact ⟨n, by rw [e]; show (ns.map V.int)[j]? = _; rw [List.getElem?_map, e2]; rfl, rfl⟩
theorem od_ix {K : Fg} : OpD K (rIx K) ixD := by
  intro G H x y d e res Q s vx vy hr k
  unfold ixD at hr
  split at hr
  · obtain ⟨c, hc, hr⟩ := Option.bind_eq_some_iff.mp hr
    cases hr
    obtain ⟨a, xs, rfl, hx, t⟩ := vx.list s
    obtain ⟨v, e1, t1⟩ := atI_tr t hc
    exact .inl ⟨a, xs, _, v, rfl, vy.int, .inl (.inl hx), e1, k _ G H (Ex.refl s) t1⟩
  · obtain ⟨c, hc, hr⟩ := Option.bind_eq_some_iff.mp hr
    cases hr
    obtain ⟨a, xs, rfl, hx, t⟩ := vx.tuple s
    obtain ⟨v, e1, t1⟩ := atI_tr t hc
    exact .inr (.inl ⟨a, xs, _, v, rfl, vy.int, hx, e1, k _ G H (Ex.refl s) t1⟩)
  · rename_i z i
    by_cases hz : szOk z.length = true
    · rw [if_pos hz] at hr
      obtain ⟨c, hc, hr⟩ := Option.bind_eq_some_iff.mp hr
      cases hr
      exact .inr (.inr ⟨z, i, c, vx.str, vy.int, szOk_le hz, hc, k _ G H (Ex.refl s) (.str _)⟩)
    · rw [if_neg hz] at hr
      cases hr
  · obtain ⟨c, hc, hr⟩ := Option.bind_eq_some_iff.mp hr
    cases hr
    obtain ⟨a, ns, rfl, hx, rfl⟩ := vx.scr' s
    obtain ⟨n, e1, rfl⟩ := atI_ints hc
    exact .inl ⟨a, _, _, _, rfl, vy.int, hx, e1, k _ G H (Ex.refl s) (.int _)⟩
  · cases hr
theorem de_ix {a b : Expr} {f g : Me Val} (ha : DE X B a f) (hb : DE X B b g) (hs : PlainIx b := by exact fun _ _ => rfl) : DE X B (.Subscript a b pos) (binM ixD f g) := PE.weak (pe_ix ix_seq ha hb hs) (tOp_of od_ix)

/-- a part of a slice -/
def toOf (K : Fg) (B : Bs) (f : Me (Option Int)) : TO := fun σ H Q => ∃ G δ r δ', RelS K B G H δ σ ∧ f δ = some (r, δ') ∧
  ∀ G' H', Same G G' → RelS K B G' H' δ' σ → Q r H'
abbrev DP (X : Cx) (B : Bs) (e : Option Expr) (f : Me (Option Int)) : Prop := PO X e (toOf X.K B f)
theorem PO.weak {X : Cx} {e : Option Expr} {t t' : TO} (h : PO X e t) (i : ∀ σ H Q, t' σ H Q → t σ H Q) : PO X e t' := ⟨fun pins s σ H Q I w => h.run pins s σ H Q I (i _ _ _ w)⟩
def partM (f : Me Val) : Me (Option Int) := fun δ => match f δ with
  | some (.fz (.int i), δ') => some (some i, δ')
  | _ => none
theorem dp_none : DP X B none (mr none) := PO.weak po_none fun σ H Q h => by
  obtain ⟨G, δ, r, δ', R, e, k⟩ := h
  cases e
  exact k G H (Same.refl _) R
theorem dp_some {e : Expr} {f : Me Val} (h : DE X B e f) : DP X B (some e) (partM f) := PO.weak (po_some h) fun σ H Q h => by
  obtain ⟨G, δ, r, δ', R, e, k⟩ := h
  unfold partM at e
  split at e
  · rename_i i δ1 q
    cases e
    refine ⟨G, δ, _, _, R, q, fun v G' H' s R' t => ?_⟩
    have t : Tr X.K G' v (.int i) := t
    cases t
    exact ⟨i, rfl, k G' H' s R'⟩
  · cases e
def cutD (ds : List D) (lo hi : Option Int) : List D := (ds.drop (HT.sIx ds.length 0 lo)).take (HT.sIx ds.length ds.length hi - HT.sIx ds.length 0 lo)
theorem cut_tr {K : Fg} {G : Hp} {xs : List V} {ds : List D} (lo hi : Option Int) (t : TrAll K G xs ds) : TrAll K G (cutV xs lo hi) (cutD ds lo hi) := by
  unfold cutV cutD
  rw [t.len]
  exact (t.drop _).take _
def slD (d : D) (lo hi : Option Int) : Option Val := match d with
  | .list ds => some (.ow (.list (cutD ds lo hi)))
  | .tuple ds => some (.fz (.tuple (cutD ds lo hi)))
  | .str x => if szOk x.length then some (.fz (.str (cutS x lo hi))) else none
  | _ => none
def rSlAll (K : Fg) : V → Option Int → Option Int → Hp → VK → Prop := fun x lo hi H Q => rSlL K x lo hi H Q ∨ rSlA K x lo hi H Q ∨ rSlS x lo hi H Q
theorem sl_all {X : Cx} : SlR X (rSlAll X.K) := sl_list.or (sl_tupA.or sl_str)
theorem cutV_whole {xs : List V} {lo hi : Option Int} (h : HT.sIx xs.length 0 lo = 0 ∧ HT.sIx xs.length xs.length hi = xs.length) : cutV xs lo hi = xs := by
  unfold cutV
  rw [h.1, h.2]
  simp
theorem cutD_whole {xs : List D} {lo hi : Option Int} (h : HT.sIx xs.length 0 lo = 0 ∧ HT.sIx xs.length xs.length hi = xs.length) : cutD xs lo hi = xs := by
  unfold cutD
  rw [h.1, h.2]
  simp
def slM (f : Me Val) (l u : Me (Option Int)) : Me Val := mb f fun x => mb l fun lo => mb u fun hi => mo fun δ => (dv δ x).bind fun d => slD d lo hi
theorem de_slice {e : Expr} {lo hi : Option Expr} {p2 : Pos} {f : Me Val} {l u : Me (Option Int)} (he : DE X B e f) (hl : DP X B lo l) (hu : DP X B hi u) : DE X B (.Subscript e (.Slice lo hi none p2) pos) (slM f l u) := by
  refine PE.weak (pe_slice sl_all he hl hu) fun σ H Q h => ?_
  obtain ⟨G, δ, r, δ', R, e, k⟩ := h
  obtain ⟨x, δ1, e1, e⟩ := mb_some e
  obtain ⟨a, δ2, e2, e⟩ := mb_some e
  obtain ⟨b, δ3, e3, e⟩ := mb_some e
  obtain ⟨e4, rfl⟩ := mo_some e
  obtain ⟨d, ed, e4⟩ := Option.bind_eq_some_iff.mp e4
  refine ⟨G, δ, x, δ1, R, e1, fun v G1 H1 s1 R1 v1 => ?_⟩
  obtain ⟨G1', s1', R1', v1'⟩ := v1.freeze R1
  refine ⟨G1', δ1, a, δ2, R1', e2, fun G2 H2 s2 R2 => ?_⟩
  refine ⟨G2, δ2, b, _, R2, e3, fun G3 H3 s3 R3 => ?_⟩
  have v3 := RV.stay (B := B) (G' := G3) (H' := H3) (δ' := δ') (s2.trans s3) v1'
  have vw := v3.view R3 (by rw [dv_fzv]; exact ed)
  have sg := ((s1.trans s1').trans s2).trans s3
  cases d with
  | list ds =>
    cases e4
    obtain ⟨p, xs, rfl, hx, t⟩ := vw.list R3.same
    refine .inl ⟨p, xs, rfl, .inl (.inl hx), fun q n => ?_⟩
    have x := Ex.push R3.same (.lst (cutV xs a b)) n
    exact k _ _ _ (sg.trans x.g) (R3.ex x) (RO.rv R3 (RO.newL R3.same (cut_tr a b t) n))
  | tuple ds =>
    cases e4
    have ft := vw.tupT
    obtain ⟨p, xs, rfl, hx, t⟩ := vw.tuple R3.same
    refine .inr (.inl ⟨p, xs, rfl, hx, fun z => ?_, fun _ q n => ?_⟩)
    · rw [t.len] at z
      rw [cutD_whole z] at k
      exact k _ G3 H3 sg R3 ft
    · have x := Ex.pushF R3.same (.tup (cutV xs a b)) n
      exact k _ _ _ (sg.trans x.g) (R3.ex x) (RO.rv (H := H3) R3 (RO.newT R3.same (cut_tr a b t) n))
  | str z =>
    obtain ⟨c, rfl⟩ := ite_some e4
    cases vw.str
    exact .inr (.inr ⟨z, rfl, szOk_le c, k _ G3 H3 sg R3 (.str _)⟩)
  | _ => cases e4
/-- xs[::-1] of a list -/
def revD : D → Option Val
  | .list ds => some (.ow (.list ds.reverse))
  | _ => none
theorem de_rev {e : Expr} {kk : Nat} {p1 p2 p3 : Pos} {f : Me Val} (he : DE X B e f) : DE X B (.Subscript e (.Slice none none (some (.UnaryOp .USub (.Constant (.int 1) kk p1) p2)) p3) pos) (unM revD f) := by
  refine PE.weak (pe_revL he) fun σ H Q h => ?_
  obtain ⟨G, δ, res, δ', R, e, k⟩ := h
  obtain ⟨x, δ1, e1, e⟩ := mb_some e
  obtain ⟨e3, rfl⟩ := mo_some e
  obtain ⟨a, ea, e3⟩ := Option.bind_eq_some_iff.mp e3
  refine ⟨G, δ, x, _, R, e1, fun v G1 H1 s1 R1 v1 => ?_⟩
  have vw := v1.view R1 ea
  cases a with
  | list ds =>
    cases e3
    obtain ⟨p, xs, rfl, hx, t⟩ := vw.list R1.same
    refine ⟨p, xs, rfl, .inl (.inl hx), fun q n => ?_⟩
    have x := Ex.push R1.same (.lst xs.reverse) n
    exact k _ _ _ (s1.trans x.g) (R1.ex x) (RO.rv R1 (RO.newL R1.same t.reverse n))
  | _ => cases e3

/-! ### statements -/
inductive Fl where
  | nx
  | bk
  | ct
  | rt (v : Val)
abbrev Ss := DS → Option (Fl × DS)
def FlPost (K : Fg) (B : Bs) (E : Ends) (G H : Hp) (δ : DS) (σ : L2.St) : Fl → Prop
  | .nx => E.nx σ H
  | .bk => E.bk σ H
  | .ct => E.ct σ H
  | .rt r => ∀ v, RV K B G H δ σ v r → E.rt v H
def SOf (K : Fg) (B : Bs) (g : Ss) : TS := fun E σ H => ∃ G δ fl δ', RelS K B G H δ σ ∧ g δ = some (fl, δ') ∧ ∀ σ' G' H', Same G G' → RelS K B G' H' δ' σ' → FlPost K B E G' H' δ' σ' fl
abbrev SS (X : Cx) (B : Bs) (st : Stmt) (g : Ss) : Prop := PS X st (SOf X.K B g)
abbrev SB (X : Cx) (B : Bs) (st : List Stmt) (g : Ss) : Prop := PSs X st (SOf X.K B g)
def skipS : Ss := fun δ => some (.nx, δ)
def seqS (g h : Ss) : Ss := fun δ => match g δ with
  | some (.nx, δ1) => h δ1
  | r => r
theorem SOf.skip {K : Fg} {E : Ends} {σ : L2.St} {H : Hp} {fl : Fl} (h : SOf K B (fun δ => some (fl, δ)) E σ H) : ∃ G δ, RelS K B G H δ σ ∧ FlPost K B E G H δ σ fl := by
  obtain ⟨G, δ, fl', δ', R, e, k⟩ := h
  cases e
  exact ⟨G, δ, R, k σ G H (Same.refl _) R⟩
theorem sb_nil : SB X B [] skipS := PSs.weak pss_nil fun E σ H h => by
  obtain ⟨G, δ, R, k⟩ := SOf.skip h
  exact k
theorem sb_cons {st : Stmt} {rest : List Stmt} {g h : Ss} (h1 : SS X B st g) (h2 : SB X B rest h) : SB X B (st :: rest) (seqS g h) := PSs.weak (pss_cons h1 h2) fun E σ H q => by
  obtain ⟨G, δ, fl, δ', R, e, k⟩ := q
  unfold seqS at e
  cases hg : g δ with
  | none => rw [hg] at e; cases e
  | some p =>
    obtain ⟨f1, δ1⟩ := p
    rw [hg] at e
    refine ⟨G, δ, f1, δ1, R, hg, fun σ' G' H' s R' => ?_⟩
    cases f1 with
    | nx => exact ⟨G', δ1, fl, δ', R', e, fun σ2 G2 H2 s2 R2 => k σ2 G2 H2 (s.trans s2) R2⟩
    | bk =>
      cases e
      exact k σ' G' H' s R'
    | ct =>
      cases e
      exact k σ' G' H' s R'
    | rt v =>
      cases e
      exact k σ' G' H' s R'
theorem sb_one {st : Stmt} {g : Ss} (h : SS X B st g) : SB X B [st] g := pss_one h
theorem ss_pass : SS X B (.Pass pos) skipS := PS.weak ps_pass fun E σ H h => by
  obtain ⟨G, δ, R, k⟩ := SOf.skip h
  exact k
theorem ss_break : SS X B (.Break pos) (fun δ => some (.bk, δ)) := PS.weak ps_break fun E σ H h => by
  obtain ⟨G, δ, R, k⟩ := SOf.skip h
  exact k
theorem ss_continue : SS X B (.Continue pos) (fun δ => some (.ct, δ)) := PS.weak ps_continue fun E σ H h => by
  obtain ⟨G, δ, R, k⟩ := SOf.skip h
  exact k
/-- never come to -/
theorem ss_never {st : Stmt} : SS X B st (fun _ => none) := PS.weak ps_never fun E σ H h => by
  obtain ⟨G, δ, fl, δ', R, e, k⟩ := h
  cases e
theorem sb_never {st : List Stmt} : SB X B st (fun _ => none) := PSs.weak pss_never fun E σ H h => by
  obtain ⟨G, δ, fl, δ', R, e, k⟩ := h
  cases e
def ifS (c : Me Bool) (g h : Ss) : Ss := fun δ => match c δ with
  | some (true, δ1) => g δ1
  | some (false, δ1) => h δ1
  | none => none
theorem ss_if {c : Expr} {a b : List Stmt} {fc : Me Bool} {g h : Ss} (hc : DT X B c fc) (ha : SB X B a g) (hb : SB X B b h) : SS X B (.If c a b pos) (ifS fc g h) := PS.weak (ps_if hc ha hb) fun E σ H q => by
  obtain ⟨G, δ, fl, δ', R, e, k⟩ := q
  unfold ifS at e
  cases hg : fc δ with
  | none => rw [hg] at e; cases e
  | some p =>
    obtain ⟨x, δ1⟩ := p
    rw [hg] at e
    refine ⟨G, δ, x, δ1, R, hg, fun G1 H1 s1 R1 => ?_⟩
    cases x with
    | true => exact ⟨G1, δ1, fl, δ', R1, e, fun σ2 G2 H2 s2 R2 => k σ2 G2 H2 (s1.trans s2) R2⟩
    | false => exact ⟨G1, δ1, fl, δ', R1, e, fun σ2 G2 H2 s2 R2 => k σ2 G2 H2 (s1.trans s2) R2⟩

/-! ### slots stored -/
/-- a slot may be stored: it is no handed-in list -/
def freeAt (δ : DS) (i : Nat) : Bool := match δ[i]? with
  | some (.own true _) => false
  | _ => true
def asg (i : Nat) (v : Val) (δ : DS) : Option DS := if freeAt δ i then (match v with
  | .fz d => some (δ.set i (.dat d))
  | .ow d => some (δ.set i (.own false d))
  | .sl _ => none) else none
theorem RelS.set {K : Fg} {G H : Hp} {δ δ' : DS} {σ : L2.St} {i : Nat} {v : V} {r : Val} (R : RelS K B G H δ σ) (h : RV K B G H δ σ v r) (e : asg i r δ = some δ') : RelS K B G H δ' (σ.set i (some v)) := by
  have other : ∀ {s s' : Sl} {j : Nat}, (δ.set i s)[j]? = some s' → (j = i ∧ s = s') ∨ (j ≠ i ∧ δ[j]? = some s') := fun {s s' j} q => by
    by_cases hj : j = i
    · subst hj
      have hl : j < δ.length := by
        have := (List.getElem?_eq_some_iff.mp q).1
        rwa [List.length_set] at this
      rw [List.getElem?_set_self hl] at q
      exact .inl ⟨rfl, Option.some.inj q⟩
    · rw [List.getElem?_set_ne (Ne.symm hj)] at q
      exact .inr ⟨hj, q⟩
  have hs : ∀ {s : Sl} {j : Nat} {s' : Sl}, (δ.set i s)[j]? = some s' → j = i → (σ.set i (some v))[j]? = some (some v) := fun {s j s'} q hj => by
    subst hj
    have hl : j < δ.length := by
      have := (List.getElem?_eq_some_iff.mp q).1
      rwa [List.length_set] at this
    rw [List.getElem?_set_self (by rw [← R.len]; exact hl)]
  unfold asg at e
  split at e
  · rename_i hfree
    cases r with
    | fz d =>
      cases e
      refine ⟨by rw [List.length_set, List.length_set]; exact R.len, R.same, R.g0, R.nw, R.frame, R.dom, R.iod, fun j d' q => ?_, fun j b d' q => ?_, fun j k b b' a d1 d2 q1 q2 z1 z2 => ?_⟩
      · rcases other q with ⟨hj, hd⟩ | ⟨hj, q'⟩
        · cases hd
          exact ⟨v, hs q hj, h⟩
        · rw [List.getElem?_set_ne (Ne.symm hj)]
          exact R.dat j d' q'
      · rcases other q with ⟨hj, hd⟩ | ⟨hj, q'⟩
        · cases hd
        · rw [List.getElem?_set_ne (Ne.symm hj)]
          exact R.own j b d' q'
      · rcases other q1 with ⟨hj, hd⟩ | ⟨hj, q1'⟩
        · cases hd
        · rcases other q2 with ⟨hk, hd⟩ | ⟨hk, q2'⟩
          · cases hd
          · rw [List.getElem?_set_ne (Ne.symm hj)] at z1
            rw [List.getElem?_set_ne (Ne.symm hk)] at z2
            exact R.inj j k b b' a d1 d2 q1' q2' z1 z2
    | sl j => cases e
    | ow d =>
      cases e
      obtain ⟨a0, rfl, n, n0, rt, u⟩ := h
      refine ⟨by rw [List.length_set, List.length_set]; exact R.len, R.same, R.g0, R.nw, R.frame, R.dom, R.iod, fun j d' q => ?_, fun j b d' q => ?_, fun j k b b' a d1 d2 q1 q2 z1 z2 => ?_⟩
      · rcases other q with ⟨hj, hd⟩ | ⟨hj, q'⟩
        · cases hd
        · rw [List.getElem?_set_ne (Ne.symm hj)]
          exact R.dat j d' q'
      · rcases other q with ⟨hj, hd⟩ | ⟨hj, q'⟩
        · cases hd
          exact ⟨a0, hs q hj, n, n0, rt⟩
        · rw [List.getElem?_set_ne (Ne.symm hj)]
          exact R.own j b d' q'
      · rcases other q1 with ⟨hj, hd⟩ | ⟨hj, q1'⟩
        · rcases other q2 with ⟨hk, hd'⟩ | ⟨hk, q2'⟩
          · rw [hj, hk]
          · have z1' := hs q1 hj
            rw [z1'] at z1
            cases z1
            rw [List.getElem?_set_ne (Ne.symm hk)] at z2
            exact (u k b' d2 q2' z2).elim
        · rcases other q2 with ⟨hk, hd'⟩ | ⟨hk, q2'⟩
          · have z2' := hs q2 hk
            rw [z2'] at z2
            cases z2
            rw [List.getElem?_set_ne (Ne.symm hj)] at z1
            exact (u j b d1 q1' z1).elim
          · rw [List.getElem?_set_ne (Ne.symm hj)] at z1
            rw [List.getElem?_set_ne (Ne.symm hk)] at z2
            exact R.inj j k b b' a d1 d2 q1' q2' z1 z2
  · cases e
/-- a slot is forgotten, or its list given to what stays -/
theorem RelS.drop {K : Fg} {G H : Hp} {δ : DS} {σ : L2.St} (i : Nat) (R : RelS K B G H δ σ) : RelS K B G H (δ.set i .un) σ := by
  have other : ∀ {s' : Sl} {j : Nat}, s' ≠ .un → (δ.set i .un)[j]? = some s' → δ[j]? = some s' := fun {s' j} hn q => by
    by_cases hj : j = i
    · subst hj
      have hl : j < δ.length := by
        have := (List.getElem?_eq_some_iff.mp q).1
        rwa [List.length_set] at this
      rw [List.getElem?_set_self hl] at q
      exact (hn (Option.some.inj q).symm).elim
    · rw [List.getElem?_set_ne (Ne.symm hj)] at q
      exact q
  exact ⟨by rw [List.length_set]; exact R.len, R.same, R.g0, R.nw, R.frame, R.dom, R.iod, fun j d q => R.dat j d (other (fun z => nomatch z) q), fun j b d q => R.own j b d (other (fun z => nomatch z) q), fun j k b b' a d1 d2 q1 q2 => R.inj j k b b' a d1 d2 (other (fun z => nomatch z) q1) (other (fun z => nomatch z) q2)⟩
def setS (i : Nat) (f : Me Val) : Ss := fun δ => match f δ with
  | some (v, δ1) => (asg i v δ1).bind fun δ2 => some (.nx, δ2)
  | none => none
theorem ss_set {i : Nat} {x : Str} {e : Expr} {f : Me Val} {pos' : Pos} (hN : X.N.Nodup) (hi : X.N[i]? = some x) (hx : Loc X.env.scope x) (he : DE X B e f) (hs : swapsWith e (some (.Name x pos')) pos.line X.env = pure false := by rfl) (hf : X.fn x = true ∨ X.env.scope.names.lookup x = some .local := by first | exact .inl rfl | exact .inr rfl | assumption) :
    SS X B (.Assign [.Name x pos'] e pos) (setS i f) := PS.weak (ps_set hN hi hx he hs hf) fun E σ H q => by
  obtain ⟨G, δ, fl, δ', R, e, k⟩ := q
  unfold setS at e
  cases hg : f δ with
  | none => rw [hg] at e; cases e
  | some p =>
    obtain ⟨v, δ1⟩ := p
    rw [hg] at e
    obtain ⟨δ2, e2, e3⟩ := Option.bind_eq_some_iff.mp e
    cases e3
    exact ⟨G, δ, v, δ1, R, hg, fun u G1 H1 s1 R1 v1 => k _ G1 H1 s1 (R1.set v1 e2)⟩
/-- return -/
def retV (v : Val) (δ : DS) : Option (Fl × DS) := match v with
  | .fz d => some (.rt (.fz d), δ)
  | .ow d => some (.rt (.ow d), δ)
  | .sl i => match δ[i]? with
    | some (.own false d) => some (.rt (.ow d), δ.set i .un)
    | _ => none
def retS (f : Me Val) : Ss := fun δ => match f δ with
  | some (v, δ1) => retV v δ1
  | none => none
theorem ss_ret {e : Expr} {f : Me Val} (he : DE X B e f) : SS X B (.Return (some e) pos) (retS f) := PS.weak (ps_ret he) fun E σ H q => by
  obtain ⟨G, δ, fl, δ', R, e, k⟩ := q
  unfold retS at e
  cases hg : f δ with
  | none => rw [hg] at e; cases e
  | some p =>
    obtain ⟨v, δ1⟩ := p
    rw [hg] at e
    refine ⟨G, δ, v, δ1, R, hg, fun u G1 H1 s1 R1 v1 => ?_⟩
    cases v with
    | fz d =>
      cases e
      exact k σ G1 H1 s1 R1 u v1
    | ow d =>
      cases e
      exact k σ G1 H1 s1 R1 u v1
    | sl i =>
      have e : (match δ1[i]? with | some (.own false d) => some (Fl.rt (.ow d), δ1.set i .un) | _ => none) = some (fl, δ') := e
      split at e
      · rename_i d q
        cases e
        have v1 : σ[i]? = some (some u) := v1
        obtain ⟨a, e1, n, m, rt⟩ := R1.own i false d q
        rw [v1] at e1
        cases e1
        refine k σ G1 H1 s1 (R1.drop i) _ ⟨a, rfl, n, m, rt, fun j b d' q' z => ?_⟩
        by_cases hj : j = i
        · subst hj
          have hl : j < δ1.length := (List.getElem?_eq_some_iff.mp q).1
          rw [List.getElem?_set_self hl] at q'
          cases q'
        · rw [List.getElem?_set_ne (Ne.symm hj)] at q'
          exact hj (R1.inj j i b false a d' d q' q z v1)
      · cases e
theorem ss_retN : SS X B (.Return none pos) (fun δ => some (.rt (.fz .none), δ)) := PS.weak ps_retN fun E σ H h => by
  obtain ⟨G, δ, R, k⟩ := SOf.skip h
  exact k .non .non
/-- an expression for its effect -/
def dropS (f : Me Val) : Ss := fun δ => match f δ with
  | some (_, δ1) => some (.nx, δ1)
  | none => none
theorem ss_expr {e : Expr} {f : Me Val} (he : DE X B e f) (hs : swapsWith e none pos.line X.env = pure false := by rfl) : SS X B (.Expr e pos) (dropS f) := PS.weak (ps_expr he hs) fun E σ H q => by
  obtain ⟨G, δ, fl, δ', R, e, k⟩ := q
  unfold dropS at e
  cases hg : f δ with
  | none => rw [hg] at e; cases e
  | some p =>
    obtain ⟨v, δ1⟩ := p
    rw [hg] at e
    cases e
    exact ⟨G, δ, v, _, R, hg, fun u G1 H1 s1 R1 v1 => k σ G1 H1 s1 R1⟩
/-- ahead of a statement a list is given to what stays -/
def frz (i : Nat) (δ : DS) : DS := match δ[i]? with
  | some (.own false d) => δ.set i (.dat d)
  | _ => δ
def frzS (i : Nat) (g : Ss) : Ss := fun δ => g (frz i δ)
theorem RelS.frz {K : Fg} {G H : Hp} {δ : DS} {σ : L2.St} (i : Nat) (R : RelS K B G H δ σ) : ∃ G', Same G G' ∧ RelS K B G' H (frz i δ) σ := by
  unfold DL.frz
  split
  · rename_i d q
    obtain ⟨a, e1, n, m, rt⟩ := R.own i false d q
    have r : RV K B G H (δ.set i .un) σ (.ref a) (.ow d) := ⟨a, rfl, n, m, rt, fun j b d' q' z => by
      by_cases hj : j = i
      · subst hj
        have hl : j < δ.length := (List.getElem?_eq_some_iff.mp q).1
        rw [List.getElem?_set_self hl] at q'
        cases q'
      · rw [List.getElem?_set_ne (Ne.symm hj)] at q'
        exact hj (R.inj j i b false a d' d q' q z e1)⟩
    obtain ⟨G', s, R', t⟩ := r.freeze (R.drop i)
    have hl : i < δ.length := (List.getElem?_eq_some_iff.mp q).1
    have hfree : freeAt (δ.set i .un) i = true := by
      unfold freeAt
      rw [List.getElem?_set_self hl]
    have R2 := R'.set (i := i) (δ' := δ.set i (.dat d)) t (by unfold asg; rw [if_pos hfree]; show some ((δ.set i .un).set i (.dat d)) = _; rw [List.set_set])
    have es : σ.set i (some (.ref a)) = σ := by
      apply List.ext_getElem?
      intro j
      by_cases hj : j = i
      · subst hj
        rw [List.getElem?_set_self (by rw [← R.len]; exact hl), e1]
      · rw [List.getElem?_set_ne (Ne.symm hj)]
    rw [es] at R2
    exact ⟨G', s, R2⟩
  · exact ⟨G, Same.refl _, R⟩
theorem ss_frz {st : Stmt} {g : Ss} (i : Nat) (h : SS X B st g) : SS X B st (frzS i g) := PS.weak h fun E σ H q => by
  obtain ⟨G, δ, fl, δ', R, e, k⟩ := q
  obtain ⟨G', s, R'⟩ := R.frz i
  exact ⟨G', _, fl, δ', R', e, fun σ2 G2 H2 s2 R2 => k σ2 G2 H2 (s.trans s2) R2⟩

/-! ### targets -/
abbrev Tg := Val → DS → Option DS
abbrev Tgs := List D → DS → Option DS
/-- but for the slots ws the frame is as it was -/
def Off (ws : List Nat) (σ σ' : L2.St) : Prop := σ'.length = σ.length ∧ ∀ j, j ∉ ws → σ'[j]? = σ[j]?
theorem Off.refl (ws : List Nat) (σ : L2.St) : Off ws σ σ := ⟨rfl, fun _ _ => rfl⟩
theorem Off.set {i : Nat} {σ : L2.St} {v : Option V} : Off [i] σ (σ.set i v) := ⟨List.length_set, fun j hj => List.getElem?_set_ne (fun h => hj (by simp [h]))⟩
theorem Off.trans {w1 w2 : List Nat} {a b c : L2.St} (h : Off w1 a b) (h' : Off w2 b c) : Off (w1 ++ w2) a c :=
  ⟨h'.1.trans h.1, fun j hj => (h'.2 j fun z => hj (List.mem_append_right _ z)).trans (h.2 j fun z => hj (List.mem_append_left _ z))⟩
def tgOf (K : Fg) (B : Bs) (ws : List Nat) (g : Tg) : TG := fun v σ H Q => ∃ G δ r δ', RelS K B G H δ σ ∧ RV K B G H δ σ v r ∧ g r δ = some δ' ∧ ∀ σ' G' H', Same G G' → RelS K B G' H' δ' σ' → Off ws σ σ' → Q σ' H'
def tgsOf (K : Fg) (B : Bs) (ws : List Nat) (g : Tgs) : TGs := fun vs σ H Q => ∃ G δ ds δ', RelS K B G H δ σ ∧ TrAll K G vs ds ∧ g ds δ = some δ' ∧ ∀ σ' G' H', Same G G' → RelS K B G' H' δ' σ' → Off ws σ σ' → Q σ' H'
abbrev DG (X : Cx) (B : Bs) (ws : List Nat) (e : Expr) (g : Tg) : Prop := PG X e (tgOf X.K B ws g)
abbrev DGs (X : Cx) (B : Bs) (ws : List Nat) (e : List Expr) (g : Tgs) : Prop := PGs X e (tgsOf X.K B ws g)
theorem PG.weak {X : Cx} {e : Expr} {t t' : TG} (h : PG X e t) (i : ∀ v σ H Q, t' v σ H Q → t v σ H Q) : PG X e t' := ⟨fun pins s σ H v u Q I r w => h.run pins s σ H v u Q I r (i _ _ _ _ w)⟩
theorem PGs.weak {X : Cx} {e : List Expr} {t t' : TGs} (h : PGs X e t) (i : ∀ v σ H Q, t' v σ H Q → t v σ H Q) : PGs X e t' := ⟨fun pins s σ H v u Q I r w => h.run pins s σ H v u Q I r (i _ _ _ _ w)⟩
theorem dg_name (i : Nat) {x : Str} (hN : X.N.Nodup) (hi : X.N[i]? = some x) (hx : Loc X.env.scope x) (hf : X.fn x = true ∨ X.env.scope.names.lookup x = some .local := by first | exact .inl rfl | exact .inr rfl | assumption) : DG X B [i] (.Name x pos) (asg i) :=
  PG.weak (pg_name hN hi hx hf) fun v σ H Q q => by
    obtain ⟨G, δ, r, δ', R, rv, e, k⟩ := q
    exact k _ G H (Same.refl _) (R.set rv e) Off.set
def nilG : Tgs := fun ds δ => match ds with
  | [] => some δ
  | _ => none
def consG (g : Tg) (h : Tgs) : Tgs := fun ds δ => match ds with
  | d :: r => (g (.fz d) δ).bind (h r)
  | _ => none
theorem dgs_nil : DGs X B [] [] nilG := PGs.weak pgs_nil fun vs σ H Q q => by
  obtain ⟨G, δ, ds, δ', R, t, e, k⟩ := q
  unfold nilG at e
  split at e
  · cases e
    cases t
    exact ⟨rfl, k σ G H (Same.refl _) R (Off.refl _ _)⟩
  · cases e
theorem dgs_cons {e : Expr} {es : List Expr} {g : Tg} {h : Tgs} {w1 w2 : List Nat} (h1 : DG X B w1 e g) (h2 : DGs X B w2 es h) (hs : (assignEach (e :: es) X.env).map (·.2) = assign e X.env :: (assignEach es X.env).map (·.2) := by rfl) : DGs X B (w1 ++ w2) (e :: es) (consG g h) := PGs.weak (pgs_cons h1 h2 hs) fun vs σ H Q q => by
  obtain ⟨G, δ, ds, δ', R, t, e, k⟩ := q
  unfold consG at e
  split at e
  · rename_i d r
    obtain ⟨δ1, e1, e2⟩ := Option.bind_eq_some_iff.mp e
    cases t with
    | cons a b => exact ⟨_, _, rfl, G, δ, .fz d, δ1, R, a, e1, fun σ1 G1 H1 s1 R1 o1 => ⟨G1, δ1, r, δ', R1, TrAll.mono s1 b, e2, fun σ2 G2 H2 s2 R2 o2 => k σ2 G2 H2 (s1.trans s2) R2 (o1.trans o2)⟩⟩
  · cases e
def tupG (n : Nat) (g : Tgs) : Tg := fun v δ => match v with
  | .fz (.tuple ds) => if ds.length = n then g ds δ else none
  | _ => none
theorem dg_tup {es : List Expr} {kk : Nat} {g : Tgs} {n : Nat} {ws : List Nat} (hc : X.calm = true) (h : DGs X B ws es g) (hn : (assignEach es X.env).length = n := by rfl) (hst : (assignEach es X.env).findIdx? (·.1) = none := by rfl) : DG X B ws (.Tuple es kk pos) (tupG n g) := PG.weak (pg_tup hc h hn hst) fun v σ H Q q => by
  obtain ⟨G, δ, r, δ', R, rv, e, k⟩ := q
  unfold tupG at e
  split at e
  · rename_i ds
    split at e
    · rename_i hl
      have rv : Tr X.K G v (.tuple ds) := rv
      cases rv with
      | @tup a xs _ hx t => exact ⟨a, xs, rfl, Same.tup R.same hx, by rw [t.len]; exact hl, G, δ, ds, δ', R, t, e, k⟩
    · cases e
  · cases e
/-- x[i] = .., x a list of one's own -/
theorem RelS.wr {K : Fg} {G H : Hp} {δ : DS} {σ : L2.St} {j : Nat} {b : Bool} {d d' : D} {a : Addr} {o : HO} (R : RelS K B G H δ σ) (q : δ[j]? = some (.own b d)) (e1 : σ[j]? = some (some (V.ref a))) (n : G a = none) (m : if b = true then (j, a) ∈ B.io else (B.H0 a = none ∨ B.lo a)) (rt : Root K G (upd H a o) a d') :
    RelS K B G (upd H a o) (δ.set j (.own b d')) σ := by
  have hl : j < δ.length := (List.getElem?_eq_some_iff.mp q).1
  have other : ∀ {s' : Sl} {i : Nat}, (δ.set j (.own b d'))[i]? = some s' → (i = j ∧ s' = .own b d') ∨ (i ≠ j ∧ δ[i]? = some s') := fun {s' i} z => by
    by_cases hj : i = j
    · subst hj
      rw [List.getElem?_set_self hl] at z
      exact .inl ⟨rfl, (Option.some.inj z).symm⟩
    · rw [List.getElem?_set_ne (Ne.symm hj)] at z
      exact .inr ⟨hj, z⟩
  have sm : Same G (upd H a o) := fun c x z => by
    have hc : c ≠ a := fun w => by rw [w, n] at z; cases z
    rw [upd_ne hc]
    exact R.same _ _ z
  refine ⟨by rw [List.length_set]; exact R.len, sm, R.g0, R.nw, fun c x z hio hlo => ?_, fun c x z => ?_, R.iod, fun i e z => ?_, fun i b' e z => ?_, fun i k b1 b2 c e e' z1 z2 y1 y2 => ?_⟩
  · have hc : c ≠ a := fun w => by
      subst w
      cases b with
      | true => exact hio (j, c) m rfl
      | false =>
        rcases (show B.H0 c = none ∨ B.lo c from m) with m' | m'
        · rw [m'] at z
          cases z
        · exact hlo m'
    rw [upd_ne hc]
    exact R.frame c x z hio hlo
  · by_cases hc : c = a
    · subst hc
      exact ⟨o, upd_same⟩
    · rw [upd_ne hc]
      exact R.dom c x z
  · rcases other z with ⟨_, w⟩ | ⟨_, z'⟩
    · cases w
    · exact R.dat i e z'
  · rcases other z with ⟨hj, w⟩ | ⟨hj, z'⟩
    · cases w
      rw [hj]
      exact ⟨a, e1, n, m, rt⟩
    · obtain ⟨c, f1, f2, f3, f4⟩ := R.own i b' e z'
      have hc : c ≠ a := fun w => by
        subst w
        exact hj (R.inj i j b' b c e d z' q f1 e1)
      exact ⟨c, f1, f2, f3, Root.mono (Same.refl _) (fun x y => by rw [upd_ne hc]; exact y) f4⟩
  · rcases other z1 with ⟨hi, w⟩ | ⟨hi, z1'⟩
    · rcases other z2 with ⟨hk, w'⟩ | ⟨hk, z2'⟩
      · rw [hi, hk]
      · subst hi
        exact R.inj i k b b2 c d e' q z2' y1 y2
    · rcases other z2 with ⟨hk, w'⟩ | ⟨hk, z2'⟩
      · subst hk
        exact R.inj i k b1 b c e d z1' q y1 y2
      · exact R.inj i k b1 b2 c e e' z1' z2' y1 y2
/-- the own list in a slot -/
def listAt (δ : DS) (j : Nat) : Option (Bool × List D) := match δ[j]? with
  | some (.own b (.list ds)) => some (b, ds)
  | _ => none
theorem listAt_some {δ : DS} {j : Nat} {p : Bool × List D} (h : listAt δ j = some p) : δ[j]? = some (.own p.1 (.list p.2)) := by
  unfold listAt at h
  split at h
  · rename_i b ds q
    cases h
    exact q
  · cases h
def subG (j : Nat) (fi : Me Val) : Tg := fun v δ => match v with
  | .sl _ => none
  | .fz d | .ow d => (listAt δ j).bind fun _ => match fi δ with
    | some (.fz (.int k), δ1) => (listAt δ1 j).bind fun p => (ixN p.2.length k).bind fun m => some (δ1.set j (.own p.1 (.list (p.2.set m d))))
    | _ => none
theorem subG_fz {j : Nat} {fi : Me Val} {v : Val} {δ δ' : DS} (h : subG j fi v δ = some δ') : ∃ p0 d k δ1 p m, listAt δ j = some p0 ∧ fzv v = .fz d ∧ fi δ = some (.fz (.int k), δ1) ∧ listAt δ1 j = some p ∧ ixN p.2.length k = some m ∧ δ' = δ1.set j (.own p.1 (.list (p.2.set m d))) := by
  have go : ∀ d, ((listAt δ j).bind fun _ => match fi δ with
    | some (.fz (.int k), δ1) => (listAt δ1 j).bind fun p => (ixN p.2.length k).bind fun m => some (δ1.set j (.own p.1 (.list (p.2.set m d))))
    | _ => none) = some δ' → ∃ p0 k δ1 p m, listAt δ j = some p0 ∧ fi δ = some (.fz (.int k), δ1) ∧ listAt δ1 j = some p ∧ ixN p.2.length k = some m ∧ δ' = δ1.set j (.own p.1 (.list (p.2.set m d))) := fun d h => by
    obtain ⟨p0, e0, h⟩ := Option.bind_eq_some_iff.mp h
    split at h
    · rename_i k δ1 q
      obtain ⟨p, e1, h⟩ := Option.bind_eq_some_iff.mp h
      obtain ⟨m, e2, h⟩ := Option.bind_eq_some_iff.mp h
      cases h
      exact ⟨p0, k, δ1, p, m, e0, q, e1, e2, rfl⟩
    · cases h
  cases v with
  | sl i => cases h
  | fz d =>
    obtain ⟨p0, k, δ1, p, m, h0, h⟩ := go d h
    exact ⟨p0, d, k, δ1, p, m, h0, rfl, h⟩
  | ow d =>
    obtain ⟨p0, k, δ1, p, m, h0, h⟩ := go d h
    exact ⟨p0, d, k, δ1, p, m, h0, rfl, h⟩
theorem dg_sub (j : Nat) {o i : Expr} {fi : Me Val} (ho : PE X o (tVar j)) (hi : DE X B i fi) (ha : ∀ v, assign (.Subscript o i pos) X.env v = (do
      let z ← holding [v] (eval o X.env)
      let k ← holding [v, z] (eval i X.env)
      standAt pos
      holding [v, z, k] (setItem z k v)
      release [v, z, k] []) := by intro _; rfl) : DG X B [] (.Subscript o i pos) (subG j fi) := PG.weak (pg_sub ho hi set_list ha) fun v σ H Q q => by
  obtain ⟨G, δ, r, δ', R, rv, e, k⟩ := q
  obtain ⟨p0, d, n, δ1, p, m, e0, ev, e1, e2, e3, rfl⟩ := subG_fz e
  obtain ⟨G0, s0, R0, rv0⟩ := rv.freeze R
  rw [ev] at rv0
  obtain ⟨a, hx, _⟩ := R0.own j p0.1 _ (listAt_some e0)
  refine ⟨_, hx, G0, δ, _, δ1, R0, e1, fun u G1 H1 s1 R1 v1 => ?_⟩
  have v1 : Tr X.K G1 u (.int n) := v1
  cases v1
  have q0 := listAt_some e2
  obtain ⟨a', f1, f2, f3, f4⟩ := R1.own j p.1 _ q0
  rw [hx] at f1
  cases f1
  cases f4 with
  | @lst xs ds h1 h2 => exact ⟨a, xs, n, m, rfl, rfl, h1, by rw [h2.len]; exact e3, k σ G1 _ (s0.trans s1) (R1.wr q0 hx f2 f3 (.lst upd_same (TrAll.set (Tr.mono s1 rv0) m h2))) (Off.refl _ _)⟩
def asgS (f : Me Val) (g : Tg) : Ss := fun δ => match f δ with
  | some (v, δ1) => (g v δ1).bind fun δ2 => some (.nx, δ2)
  | none => none
theorem ss_asg {tg e : Expr} {f : Me Val} {g : Tg} {ws : List Nat} (he : DE X B e f) (hg : DG X B ws tg g) (hs : swapsWithSole [tg] e pos.line X.env = pure false := by rfl) (hw : swappedStores [tg] e X.env = pure none := by rfl)
    (h1 : (assignEach [tg] X.env).map (·.2) = [assign tg X.env] := by rfl) : SS X B (.Assign [tg] e pos) (asgS f g) := PS.weak (ps_asg he hg hs hw h1) fun E σ H q => by
  obtain ⟨G, δ, fl, δ', R, e, k⟩ := q
  unfold asgS at e
  cases hg : f δ with
  | none => rw [hg] at e; cases e
  | some p =>
    obtain ⟨v, δ1⟩ := p
    rw [hg] at e
    obtain ⟨δ2, e2, e3⟩ := Option.bind_eq_some_iff.mp e
    cases e3
    exact ⟨G, δ, v, δ1, R, hg, fun u G1 H1 s1 R1 v1 => ⟨G1, δ1, v, _, R1, v1, e2, fun σ2 G2 H2 s2 R2 _ => k σ2 G2 H2 (s1.trans s2) R2⟩⟩
/-- a, b = x, y -/
def parS (i j : Nat) (fa : Me (List Val)) : Ss := fun δ => match fa δ with
  | some ([v, w], δ1) => (asg i (fzv v) δ1).bind fun δ2 => (asg j (fzv w) δ2).bind fun δ3 => some (.nx, δ3)
  | _ => none
theorem ss_par {i j : Nat} {x y : Str} {a b : Expr} {fa : Me (List Val)} {px py pt : Pos} {kt k2 pt2} (hc : X.calm = true) (hN : X.N.Nodup) (hi : X.N[i]? = some x) (hj : X.N[j]? = some y) (hij : i ≠ j)
    (hx : X.env.scope.names.lookup x = some .local) (hy : X.env.scope.names.lookup y = some .local) (ha : DA X B [a, b] fa)
    (hw : swappedStores [.Tuple [.Name x px, .Name y py] kt pt] (.Tuple [a, b] k2 pt2) X.env = pure (some [x, y])) (hs : swapsWithSole [.Tuple [.Name x px, .Name y py] kt pt] (.Tuple [a, b] k2 pt2) pos.line X.env = pure false := by rfl) :
    SS X B (.Assign [.Tuple [.Name x px, .Name y py] kt pt] (.Tuple [a, b] k2 pt2) pos) (parS i j fa) := PS.weak (ps_par hc hN hi hj hij hx hy ha hw hs) fun E σ H q => by
  obtain ⟨G, δ, fl, δ', R, e, k⟩ := q
  unfold parS at e
  split at e
  · rename_i v w δ1 hg
    obtain ⟨δ2, e2, e⟩ := Option.bind_eq_some_iff.mp e
    obtain ⟨δ3, e3, e⟩ := Option.bind_eq_some_iff.mp e
    cases e
    refine ⟨G, δ, _, δ1, R, hg, fun vs G1 H1 s1 R1 v1 => ?_⟩
    cases v1 with
    | cons a1 b1 =>
      cases b1 with
      | cons a2 b2 =>
        cases b2
        refine ⟨_, _, rfl, ?_⟩
        have R2 := R1.set a1 e2
        cases w with
        | fz d => exact k _ G1 H1 s1 (R2.set (r := .fz d) a2 e3)
        | ow d => exact k _ G1 H1 s1 (R2.set (r := .fz d) a2 e3)
        | sl d =>
          unfold asg at e3
          split at e3 <;> cases e3
  · cases e
end
end DL
end
section
set_option maxRecDepth 100000
set_option maxHeartbeats 4000000
namespace DL
open PySem PySem.Spec L2
open PyProof.Rows hiding St

section
variable {X : Cx} {B : Bs} {pos : Pos}

/-! ### methods of a list of one's own -/
def MtD (K : Fg) (r : V → List V → Hp → VK → Prop) (h : List D → List D → Option (D × List D)) : Prop := ∀ (G H : Hp) (a : Addr) (xs : List V) (ds : List D) (vs : List V) (as : List D) (q : D × List D) (Q : VK), Same G H → H a = some (.lst xs) → TrAll K G xs ds → TrAll K G vs as → h ds as = some q →
  (∀ v ys, Tr K G v q.1 → TrAll K G ys q.2 → Q v (upd H a (.lst ys))) → r (.ref a) vs H Q
def methM (j : Nat) (h : List D → List D → Option (D × List D)) (fa : Me (List Val)) : Me Val := fun δ => (listAt δ j).bind fun _ => match fa δ with
  | some (rs, δ1) => (fzs rs).bind fun as => (listAt δ1 j).bind fun p => (h p.2 as).bind fun q => some (.fz q.1, δ1.set j (.own p.1 (.list q.2)))
  | none => none
theorem methM_some {j : Nat} {h : List D → List D → Option (D × List D)} {fa : Me (List Val)} {δ δ' : DS} {r : Val} (e : methM j h fa δ = some (r, δ')) :
    ∃ p0 rs δ1 as p q, listAt δ j = some p0 ∧ fa δ = some (rs, δ1) ∧ fzs rs = some as ∧ listAt δ1 j = some p ∧ h p.2 as = some q ∧ r = .fz q.1 ∧ δ' = δ1.set j (.own p.1 (.list q.2)) := by
  unfold methM at e
  obtain ⟨p0, e0, e⟩ := Option.bind_eq_some_iff.mp e
  split at e
  · rename_i rs δ1 e1
    obtain ⟨as, e2, e⟩ := Option.bind_eq_some_iff.mp e
    obtain ⟨p, e3, e⟩ := Option.bind_eq_some_iff.mp e
    obtain ⟨q, e4, e⟩ := Option.bind_eq_some_iff.mp e
    cases e
    exact ⟨p0, rs, δ1, as, p, q, e0, e1, e2, e3, e4, rfl, rfl⟩
  · cases e
theorem meth_of {K : Fg} {j : Nat} {r : V → List V → Hp → VK → Prop} {h : List D → List D → Option (D × List D)} {fa : Me (List Val)} (hd : MtD K r h) : ∀ σ H Q, tOf K B (methM j h fa) σ H Q → tBM K "list" r (tVar j) (taOf K B fa) σ H Q := by
  intro σ H Q hq
  obtain ⟨G, δ, res, δ', R, e, k⟩ := hq
  obtain ⟨p0, rs, δ1, as, p, q, e0, e1, e2, e3, e4, rfl, rfl⟩ := methM_some e
  obtain ⟨a, hx, _, _, rt⟩ := R.own j p0.1 _ (listAt_some e0)
  refine ⟨_, hx, ?_, G, δ, rs, δ1, R, e1, fun vs G1 H1 s1 R1 v1 => ?_⟩
  · cases rt with
    | lst h1 h2 => exact .inl ⟨rfl, _, .inl (.inl h1)⟩
  · have q0 := listAt_some e3
    obtain ⟨a', f1, f2, f3, f4⟩ := R1.own j p.1 _ q0
    rw [hx] at f1
    cases f1
    cases f4 with
    | @lst xs ds h1 h2 => exact hd G1 H1 a xs p.2 vs as q Q R1.same h1 h2 (v1.trees e2) e4 fun v ys t ty => k v G1 _ s1 (R1.wr q0 hx f2 f3 (.lst upd_same ty)) t
theorem de_meth (j : Nat) {name : Str} {id : String} {apos cpos : Pos} {o e : Expr} {es : List Expr} {fa : Me (List Val)} {r : V → List V → Hp → VK → Prop} {h : List D → List D → Option (D × List D)} (pa : PlainAttrs "list") (slot : Slot "list" name id) (hty : typeOf (.builtin id) = pure (.type "method_descriptor")) (hm : MtR X id r) (hd : MtD X.K r h) (ho : PE X o (tVar j)) (ha : DA X B (e :: es) fa)
    (onRow : (apos.endLine == cpos.line) = true := by rfl) (plainBase : attributeBase o name X.env (eval o X.env) = eval o X.env := by rfl) (args1 : starEach (e :: es) X.env = (false, eval e X.env) :: starEach es X.env := by rfl)
    (noStar : (backTo cpos (starEach es X.env)).any (·.1) = false := by rfl) (few : ((backTo cpos (starEach (e :: es) X.env)).all (fun x => !x.1) && (backToKw cpos (keywordEach [] X.env)).all (fun x => x.1.isSome) && decide ((e :: es).length + ([] : List Keyword).length + (if ([] : List Keyword).isEmpty then 0 else 1) < 30)) = true := by rfl) :
    DE X B (.Call (.Attribute o name apos) (e :: es) [] cpos) (methM j h fa) := PE.weak (pe_bm pa slot hty hm ho ha plainBase few onRow args1 noStar) (meth_of hd)
theorem meth0_of {K : Fg} {j : Nat} {r : V → List V → Hp → VK → Prop} {h : List D → List D → Option (D × List D)} (hd : MtD K r h) : ∀ σ H Q, tOf K B (methM j h nilA) σ H Q → tBM0 K "list" r (tVar j) σ H Q := by
  intro σ H Q hq
  obtain ⟨G, δ, res, δ', R, e, k⟩ := hq
  obtain ⟨p0, rs, δ1, as, p, q, e0, e1, e2, e3, e4, rfl, rfl⟩ := methM_some e
  cases e1
  cases e2
  obtain ⟨a, hx, f2, f3, rt⟩ := R.own j p.1 _ (listAt_some e3)
  cases rt with
  | @lst xs ds h1 h2 => exact ⟨_, hx, .inl ⟨rfl, _, .inl (.inl h1)⟩, hd G H a xs p.2 [] [] q Q R.same h1 h2 .nil e4 fun v ys t ty => k v G _ (Same.refl _) (R.wr (listAt_some e3) hx f2 f3 (.lst upd_same ty)) t⟩
theorem de_meth0 (j : Nat) {name : Str} {id : String} {apos cpos : Pos} {o : Expr} {r : V → List V → Hp → VK → Prop} {h : List D → List D → Option (D × List D)} (pa : PlainAttrs "list") (slot : Slot "list" name id) (hty : typeOf (.builtin id) = pure (.type "method_descriptor")) (hm : MtR X id r) (hd : MtD X.K r h) (ho : PE X o (tVar j))
    (hbase : attributeBase o name X.env (eval o X.env) = eval o X.env := by rfl) (hline : (apos.endLine == cpos.line) = true := by rfl) :
    DE X B (.Call (.Attribute o name apos) [] [] cpos) (methM j h nilA) := PE.weak (pe_bm0 pa slot hty hm ho hbase hline) (meth0_of hd)
def appendL (ds as : List D) : Option (D × List D) := match as with
  | [d] => if szOk (ds.length + 1) then some (.none, ds ++ [d]) else none
  | _ => none
theorem md_append {K : Fg} : MtD K rAppend appendL := by
  intro G H a xs ds vs as q Q s h1 t tv hr k
  unfold appendL at hr
  split at hr
  · obtain ⟨c, rfl⟩ := ite_some hr
    cases tv with
    | cons u w =>
      cases w
      exact ⟨a, xs, _, rfl, rfl, h1, by rw [t.len]; exact szOk_le c, k _ _ .non (t.append (.cons u .nil))⟩
  · cases hr
def popL (ds as : List D) : Option (D × List D) := match as with
  | [] => (ds[ds.length - 1]?).bind fun d => some (d, ds.dropLast)
  | _ => none
theorem TrAll.dropLast {K : Fg} {G : Hp} {xs : List V} {ds : List D} (t : TrAll K G xs ds) : TrAll K G xs.dropLast ds.dropLast := by
  rw [List.dropLast_eq_take, List.dropLast_eq_take, t.len]
  exact t.take _
theorem md_pop {K : Fg} : MtD K rPop popL := by
  intro G H a xs ds vs as q Q s h1 t tv hr k
  unfold popL at hr
  split at hr
  · obtain ⟨d, hd, hr⟩ := Option.bind_eq_some_iff.mp hr
    cases hr
    cases tv
    obtain ⟨v, hv, tv⟩ := t.get hd
    exact ⟨a, xs, v, rfl, rfl, h1, by rw [t.len]; exact hv, k _ _ tv t.dropLast⟩
  · cases hr
theorem TrAll.erase {K : Fg} {G : Hp} : ∀ {xs : List V} {ds : List D} (i : Nat), TrAll K G xs ds → TrAll K G (xs.eraseIdx i) (ds.eraseIdx i)
  | _, _, _, .nil => .nil
  | _, _, 0, .cons _ b => b
  | _, _, i + 1, .cons a b => .cons a (TrAll.erase i b)
def popAtL (ds as : List D) : Option (D × List D) := match as with
  | [.int i] => if ixOk i then (seqIndex? i ds.length).bind fun k => (ds[k]?).bind fun d => some (d, ds.eraseIdx k) else none
  | _ => none
theorem md_popAt {K : Fg} : MtD K rPopAt popAtL := by
  intro G H a xs ds vs as q Q s h1 t tv hr k
  unfold popAtL at hr
  split at hr
  · rename_i i
    by_cases c : ixOk i = true
    · rw [if_pos c] at hr
      obtain ⟨j, hj, hr⟩ := Option.bind_eq_some_iff.mp hr
      obtain ⟨d, hd, hr⟩ := Option.bind_eq_some_iff.mp hr
      cases hr
      cases tv with
      | cons u w =>
        cases w
        cases u
        obtain ⟨v, hv, tv⟩ := t.get hd
        have b := ixOk_le c
        exact ⟨a, xs, i, j, v, rfl, rfl, h1, b.1, b.2, by rw [t.len]; exact hj, hv, k _ _ tv (t.erase j)⟩
    · rw [if_neg c] at hr
      cases hr
  · cases hr
def extendL (ds as : List D) : Option (D × List D) := match as with
  | [.list es] => if szOk (ds.length + es.length) then some (.none, ds ++ es) else none
  | _ => none
theorem md_extend {K : Fg} : MtD K rExtend extendL := by
  intro G H a xs ds vs as q Q s h1 t tv hr k
  unfold extendL at hr
  split at hr
  · obtain ⟨c, rfl⟩ := ite_some hr
    cases tv with
    | cons u w =>
      cases w
      cases u with
      | lst g1 g2 => exact ⟨a, _, xs, _, rfl, rfl, h1, s _ _ g1, by rw [t.len, g2.len]; exact szOk_le c, k _ _ .non (t.append g2)⟩
  · cases hr

/-! ### x op= e -/
def augS (i : Nat) (h : D → D → Option Val) (f : Me Val) : Ss := fun δ => match δ[i]? with
  | some (.dat a) => match f δ with
    | some (v, δ1) => (dv δ1 v).bind fun b => (h a b).bind fun r => (asg i r δ1).bind fun δ2 => some (.nx, δ2)
    | none => none
  | _ => none
theorem ss_aug {i : Nat} {x : Str} {e : Expr} {op : Operator} {r : R2} {h : D → D → Option Val} {f : Me Val} {pos' : Pos} (hN : X.N.Nodup) (hi : X.N[i]? = some x) (hx : Loc X.env.scope x) (he : DE X B e f) (ho : OpR X (inplaceOp op) r) (hd : OpD X.K r h) (hf : X.fn x = true ∨ X.env.scope.names.lookup x = some .local := by first | exact .inl rfl | exact .inr rfl | assumption) :
    SS X B (.AugAssign (.Name x pos') op e pos) (augS i h f) := PS.weak (ps_aug (ti := r) hN hi hx he ho hf) fun E σ H q => by
  obtain ⟨G, δ, fl, δ', R, e, k⟩ := q
  unfold augS at e
  split at e
  · rename_i a q0
    split at e
    · rename_i v δ1 q1
      obtain ⟨b, e1, e⟩ := Option.bind_eq_some_iff.mp e
      obtain ⟨res, e2, e⟩ := Option.bind_eq_some_iff.mp e
      obtain ⟨δ2, e3, e⟩ := Option.bind_eq_some_iff.mp e
      cases e
      obtain ⟨x, hx, t⟩ := R.dat i a q0
      refine ⟨x, hx, G, δ, v, δ1, R, q1, fun u G1 H1 s1 R1 v1 => ?_⟩
      refine hd G1 H1 x u a b res _ R1.same (.sc (Tr.mono s1 t)) (v1.view R1 e1) e2 fun w G2 H2 x2 ro => ?_
      have R2 := R1.ex x2
      exact k _ G2 H2 (s1.trans x2.g) (R2.set (ro.rv R1) e3)
    · cases e
  · cases e
def rGetL (K : Fg) : V → V → Hp → VK → Prop := fun x y H Q => ∃ p xs i v, x = .ref p ∧ y = .int i ∧ SqL K H p xs ∧ 0 ≤ i ∧ xs[i.toNat]? = some v ∧ Q v H
theorem get_list : PGet X (rGetL X.K) := by
  intro pins s σ H o i ov iv Q I ro ri h
  obtain ⟨p, xs, n, v, rfl, rfl, hq, h0, hv, q⟩ := h
  cases ro
  obtain ⟨t, rfl⟩ := ri
  obtain ⟨its, r, pl, hz⟩ := I.list hq
  obtain ⟨u, hu, ru⟩ := r.get hv
  have hn : n.toNat < xs.length := (List.getElem?_eq_some_iff.mp hv).1
  have hl : xs.length ≤ 16777216 := by rw [← sizeLine_eq]; exact hz
  exact wpAny_getItem_list pl.isList h0 (by omega) (by simpa using hu) ⟨v, H, I, ru, q⟩
/-- x[i] op= e, x a list of one's own -/
def augSubS (j : Nat) (fi : Me Val) (h : D → D → Option Val) (fe : Me Val) : Ss := fun δ => (listAt δ j).bind fun _ => match fi δ with
  | some (.fz (.int n), δ1) => (listAt δ1 j).bind fun p => if decide (0 ≤ n) then (p.2[n.toNat]?).bind fun a => match fe δ1 with
    | some (v, δ2) => (dv δ2 v).bind fun b => match h a b with
      | some (.fz c) => (listAt δ2 j).bind fun p2 => (ixN p2.2.length n).bind fun m => some (.nx, δ2.set j (.own p2.1 (.list (p2.2.set m c))))
      | _ => none
    | none => none else none
  | _ => none
theorem ss_augSub (j : Nat) {o i e : Expr} {op : Operator} {r : R2} {h : D → D → Option Val} {fi fe : Me Val} {tpos : Pos} (ho : PE X o (tVar j)) (hi : DE X B i fi) (he : DE X B e fe) (hp : OpR X (inplaceOp op) r) (hd : OpD X.K r h)
    (ha : ∀ ov iv new, augStore i ov iv new = (do holding [new, ov, iv] (setItem ov iv new); release [new, ov, iv] []; pure .next) := by intros; rfl) : SS X B (.AugAssign (.Subscript o i tpos) op e pos) (augSubS j fi h fe) := PS.weak (ps_augS (tip := r) ho hi get_list he hp set_list ha) fun E σ H q => by
  obtain ⟨G, δ, fl, δ', R, e, k⟩ := q
  unfold augSubS at e
  obtain ⟨p0, e0, e⟩ := Option.bind_eq_some_iff.mp e
  split at e
  · rename_i n δ1 e1
    obtain ⟨p, e2, e⟩ := Option.bind_eq_some_iff.mp e
    split at e
    · rename_i hn
      obtain ⟨a, e3, e⟩ := Option.bind_eq_some_iff.mp e
      split at e
      · rename_i v δ2 e4
        obtain ⟨b, e5, e⟩ := Option.bind_eq_some_iff.mp e
        split at e
        · rename_i c e6
          obtain ⟨p2, e7, e⟩ := Option.bind_eq_some_iff.mp e
          obtain ⟨m, e8, e⟩ := Option.bind_eq_some_iff.mp e
          cases e
          obtain ⟨ad, hx, _⟩ := R.own j p0.1 _ (listAt_some e0)
          refine ⟨_, hx, G, δ, _, δ1, R, e1, fun u G1 H1 s1 R1 v1 => ?_⟩
          have v1 : Tr X.K G1 u (.int n) := v1
          cases v1
          obtain ⟨a', f1, f2, f3, f4⟩ := R1.own j p.1 _ (listAt_some e2)
          rw [hx] at f1
          cases f1
          cases f4 with
          | @lst xs ds h1 h2 =>
            obtain ⟨y, hy, ty⟩ := h2.get e3
            refine ⟨ad, xs, n, y, rfl, rfl, .inl (.inl h1), of_decide_eq_true hn, hy, ?_⟩
            refine ⟨G1, δ1, v, δ2, R1, e4, fun w G2 H2 s2 R2 v2 => ?_⟩
            refine hd G2 H2 y w a b _ _ R2.same (.sc (Tr.mono s2 ty)) (v2.view R2 e5) e6 fun z G3 H3 x3 ro => ?_
            have ro : Tr X.K G3 z c := ro
            have R3 := R2.ex x3
            have q0 := listAt_some e7
            obtain ⟨a'', f1, f2, f3, f4⟩ := R3.own j p2.1 _ q0
            rw [hx] at f1
            cases f1
            cases f4 with
            | @lst xs2 ds2 g1 g2 =>
              exact ⟨ad, xs2, n, m, rfl, rfl, g1, by rw [g2.len]; exact e8, k σ G3 _ ((s1.trans s2).trans x3.g) (R3.wr q0 hx f2 f3 (.lst upd_same (TrAll.set ro m g2)))⟩
        · cases e
      · cases e
    · cases e
  · cases e
theorem iop_addA : OpR X (inplaceOp .Add) (rI0 fun i j => .int (i + j)) := iop_add
theorem od_iadd {K : Fg} : OpD K (rI0 fun i j => .int (i + j)) addI := od_add
theorem od_isub {K : Fg} : OpD K (rI0 fun i j => .int (i - j)) subI := od_sub

/-! ### for -/
def ItD (K : Fg) (J : It) (ds : List D) (G1 : Hp) : Prop := ∀ (i : Nat) (G H : Hp), Same G1 G → Same G H →
  (∀ d, ds[i]? = some d → J.go i H ∧ ∀ x H', J.yld i H x H' → ∃ G', Ex G H G' H' ∧ Tr K G' x d) ∧ (ds.length ≤ i → J.stop i H)
def tiOf (K : Fg) (B : Bs) (f : Me (List D)) : TI := fun σ H R => ∃ G δ ds δ', RelS K B G H δ σ ∧ f δ = some (ds, δ') ∧
  ∀ J G' H', Same G G' → RelS K B G' H' δ' σ → ItD K J ds G' → R J H'
abbrev DI (X : Cx) (B : Bs) (tg iter : Expr) (f : Me (List D)) : Prop := PI X tg iter (tiOf X.K B f)
theorem PI.weak {X : Cx} {tg iter : Expr} {t t' : TI} (h : PI X tg iter t) (i : ∀ σ H R, t' σ H R → t σ H R) : PI X tg iter t' := ⟨fun pins s σ H R I w => h.run pins s σ H R I (i _ _ _ w)⟩
theorem PI.or {X : Cx} {tg iter : Expr} {t t' : TI} (h : PI X tg iter t) (h' : PI X tg iter t') : PI X tg iter (fun σ H R => t σ H R ∨ t' σ H R) := ⟨fun pins s σ H R I w => w.elim (h.run pins s σ H R I) (h'.run pins s σ H R I)⟩
def forL (gt : Tg) (body : Ss) : List D → Ss
  | [], δ => some (.nx, δ)
  | d :: r, δ => (gt (.fz d) δ).bind fun δ1 => match body δ1 with
    | some (.nx, δ2) => forL gt body r δ2
    | some (.ct, δ2) => forL gt body r δ2
    | some (.bk, δ2) => some (.nx, δ2)
    | some (.rt v, δ2) => some (.rt v, δ2)
    | none => none
def forS (fi : Me (List D)) (gt : Tg) (body : Ss) : Ss := fun δ => match fi δ with
  | some (ds, δ1) => forL gt body ds δ1
  | none => none
theorem for_of {K : Fg} {ws : List Nat} {fi : Me (List D)} {gt : Tg} {body : Ss} : ∀ E σ H, SOf K B (forS fi gt body) E σ H → tFor (tiOf K B fi) (tgOf K B ws gt) (SOf K B body) E σ H := by
  intro E σ H q
  obtain ⟨G, δ, fl, δ', R, e, k⟩ := q
  unfold forS at e
  cases hf : fi δ with
  | none => rw [hf] at e; cases e
  | some p =>
    obtain ⟨ds, δ1⟩ := p
    rw [hf] at e
    refine ⟨G, δ, ds, δ1, R, hf, fun J G1 H1 s1 R1 it => ?_⟩
    refine ⟨fun i m σ H => ∃ G δ, m = ds.length - i ∧ i ≤ ds.length ∧ Same G1 G ∧ RelS K B G H δ σ ∧ forL gt body (ds.drop i) δ = some (fl, δ') ∧ ∀ σ' G' H', Same G G' → RelS K B G' H' δ' σ' → FlPost K B E G' H' δ' σ' fl,
      ⟨ds.length, G1, δ1, rfl, Nat.zero_le _, Same.refl _, R1, e, fun σ' G' H' s R' => k σ' G' H' (s1.trans s) R'⟩, ?_⟩
    rintro i m σ2 H2 ⟨G2, δ2, rfl, hi, s2, R2, e2, k2⟩
    obtain ⟨it1, it2⟩ := it i G2 H2 s2 R2.same
    by_cases hlt : i < ds.length
    · rw [List.drop_eq_getElem_cons hlt] at e2
      obtain ⟨go, yl⟩ := it1 ds[i] (by simp [hlt])
      refine .inr ⟨go, fun σ' H' => ∃ G δ, Same G1 G ∧ RelS K B G H' δ σ' ∧ forL gt body (ds.drop (i + 1)) δ = some (fl, δ') ∧ ∀ σ'' G' H', Same G G' → RelS K B G' H' δ' σ'' → FlPost K B E G' H' δ' σ'' fl, fun σ' H' ⟨G', δ3, a, b, c, d⟩ => ⟨ds.length - (i + 1), by omega, G', δ3, rfl, hlt, a, b, c, d⟩, fun x H3 y3 => ?_⟩
      obtain ⟨G3, x3, t3⟩ := yl x H3 y3
      obtain ⟨δ3, e3, e4⟩ := Option.bind_eq_some_iff.mp e2
      refine ⟨G3, δ2, .fz ds[i], δ3, R2.ex x3, t3, e3, fun σ4 G4 H4 s4 R4 _ => ?_⟩
      cases hb : body δ3 with
      | none => rw [hb] at e4; cases e4
      | some p =>
        obtain ⟨fb, δ5⟩ := p
        rw [hb] at e4
        refine ⟨G4, δ3, fb, δ5, R4, hb, fun σ5 G5 H5 s5 R5 => ?_⟩
        have sg : Same G2 G5 := (x3.g.trans s4).trans s5
        cases fb with
        | nx => exact ⟨G5, δ5, s2.trans sg, R5, e4, fun σ6 G6 H6 s6 R6 => k2 σ6 G6 H6 (sg.trans s6) R6⟩
        | ct => exact ⟨G5, δ5, s2.trans sg, R5, e4, fun σ6 G6 H6 s6 R6 => k2 σ6 G6 H6 (sg.trans s6) R6⟩
        | bk =>
          cases e4
          exact k2 σ5 G5 H5 sg R5
        | rt v =>
          cases e4
          exact k2 σ5 G5 H5 sg R5
    · have hz : i = ds.length := by omega
      subst hz
      rw [List.drop_length] at e2
      cases e2
      exact .inl ⟨it2 (Nat.le_refl _), k2 σ2 G2 H2 (Same.refl _) R2⟩
theorem ss_for {tg iter : Expr} {body : List Stmt} {ws : List Nat} {fi : Me (List D)} {gt : Tg} {g : Ss} (hp : PassesOwn (model X.prog X.w) X.A X.env X.xe) (hc : X.calm = true) (hi : DI X B tg iter fi) (hg : DG X B ws tg gt) (hb : SB X B body g)
    (hs : ∀ x, foldedSetIterable iter X.env x = pure x := by intro _; rfl) : SS X B (.For tg iter body [] pos) (forS fi gt g) := PS.weak (ps_for hp hc hi hg hb hs) for_of

/-! ### while -/
def whileN (c : Me Bool) (body : Ss) : Nat → Ss
  | 0, _ => none
  | n + 1, δ => match c δ with
    | some (true, δ1) => (match body δ1 with
      | some (.nx, δ2) => whileN c body n δ2
      | some (.ct, δ2) => whileN c body n δ2
      | some (.bk, δ2) => some (.nx, δ2)
      | some (.rt v, δ2) => some (.rt v, δ2)
      | none => none)
    | some (false, δ1) => some (.nx, δ1)
    | none => none
theorem while_of {K : Fg} {c : Me Bool} {body : Ss} (n : Nat) : ∀ E σ H, SOf K B (whileN c body n) E σ H → tWhile (ttOf K B c) (SOf K B body) E σ H := by
  intro E σ H q
  obtain ⟨G, δ, fl, δ', R, e, k⟩ := q
  refine ⟨fun m σ H => ∃ G δ, RelS K B G H δ σ ∧ whileN c body m δ = some (fl, δ') ∧ ∀ σ' G' H', Same G G' → RelS K B G' H' δ' σ' → FlPost K B E G' H' δ' σ' fl, ⟨n, G, δ, R, e, k⟩, ?_⟩
  rintro m σ2 H2 ⟨G2, δ2, R2, e2, k2⟩
  cases m with
  | zero => cases e2
  | succ m =>
    unfold whileN at e2
    cases hc : c δ2 with
    | none => rw [hc] at e2; cases e2
    | some p =>
      obtain ⟨b, δ3⟩ := p
      rw [hc] at e2
      refine ⟨G2, δ2, b, δ3, R2, hc, fun G3 H3 s3 R3 => ?_⟩
      cases b with
      | false =>
        cases e2
        exact k2 σ2 G3 H3 s3 R3
      | true =>
        refine ⟨fun σ' H' => ∃ G δ, RelS K B G H' δ σ' ∧ whileN c body m δ = some (fl, δ') ∧ ∀ σ'' G' H', Same G G' → RelS K B G' H' δ' σ'' → FlPost K B E G' H' δ' σ'' fl, fun σ' H' h => ⟨m, Nat.lt_succ_self _, h⟩, ?_⟩
        have e2 : (match body δ3 with
          | some (.nx, δ2) => whileN c body m δ2
          | some (.ct, δ2) => whileN c body m δ2
          | some (.bk, δ2) => some (Fl.nx, δ2)
          | some (.rt v, δ2) => some (Fl.rt v, δ2)
          | none => none) = some (fl, δ') := e2
        cases hb : body δ3 with
        | none => rw [hb] at e2; cases e2
        | some p =>
          obtain ⟨fb, δ5⟩ := p
          rw [hb] at e2
          refine ⟨G3, δ3, fb, δ5, R3, hb, fun σ5 G5 H5 s5 R5 => ?_⟩
          cases fb with
          | nx => exact ⟨G5, δ5, R5, e2, fun σ6 G6 H6 s6 R6 => k2 σ6 G6 H6 ((s3.trans s5).trans s6) R6⟩
          | ct => exact ⟨G5, δ5, R5, e2, fun σ6 G6 H6 s6 R6 => k2 σ6 G6 H6 ((s3.trans s5).trans s6) R6⟩
          | bk =>
            cases e2
            exact k2 σ5 G5 H5 (s3.trans s5) R5
          | rt v =>
            cases e2
            exact k2 σ5 G5 H5 (s3.trans s5) R5
theorem ss_while (n : Nat) {c : Expr} {body : List Stmt} {fc : Me Bool} {g : Ss} (hp : PassesOwn (model X.prog X.w) X.A X.env X.xe) (hc : DT X B c fc) (hb : SB X B body g) : SS X B (.While c body [] pos) (whileN fc g n) := PS.weak (ps_while hp hc hb) (while_of n)
theorem whileN_more {c : Me Bool} {body : Ss} : ∀ {n k : Nat} {δ : DS} {r : Fl × DS}, whileN c body n δ = some r → n ≤ k → whileN c body k δ = some r
  | 0, _, _, _, h, _ => by cases h
  | n + 1, 0, _, _, _, hk => by omega
  | n + 1, k + 1, δ, r, h, hk => by
    unfold whileN at h ⊢
    cases hc : c δ with
    | none => rw [hc] at h; cases h
    | some p =>
      obtain ⟨b, δ1⟩ := p
      rw [hc] at h
      cases b with
      | false => exact h
      | true =>
        cases hb : body δ1 with
        | none => simp only [hb] at h; cases h
        | some p =>
          obtain ⟨fb, δ5⟩ := p
          simp only [hb] at h ⊢
          cases fb with
          | nx => exact whileN_more h (by omega)
          | ct => exact whileN_more h (by omega)
          | bk => exact h
          | rt v => exact h

/-! ### what is walked -/
def itemsOf : Val → Option (List D)
  | .fz (.list ds) => some ds
  | .fz (.tuple ds) => some ds
  | .ow (.list ds) => some ds
  | .fz (.dict [(.none, .list ds)]) => some ds
  | _ => none
def seqM (f : Me Val) : Me (List D) := mb f fun x => mo fun _ => itemsOf x
theorem it_list {K : Fg} {G1 : Hp} {a : Addr} {xs : List V} {ds : List D} (h : SqL K G1 a xs) (t : TrAll K G1 xs ds) : ItD K (Itl K a) ds G1 := fun i G H s sh => by
  have q : SqL K H a xs := (s.trans sh).seq h
  refine ⟨fun d hd => ?_, fun hi => ⟨xs, q, by rw [t.len]; exact hi⟩⟩
  obtain ⟨v, hv, tv⟩ := t.get hd
  refine ⟨⟨xs, v, q, hv⟩, fun x H' y => ?_⟩
  obtain ⟨rfl, y⟩ := y
  have := y xs q
  rw [hv] at this
  cases this
  exact ⟨G, Ex.refl sh, Tr.mono s tv⟩
theorem it_tup {K : Fg} {G1 : Hp} {a : Addr} {xs : List V} {ds : List D} (h : SqT K G1 a xs) (t : TrAll K G1 xs ds) : ItD K (Itt K a) ds G1 := fun i G H s sh => by
  have q : SqT K H a xs := Same.tup (s.trans sh) h
  refine ⟨fun d hd => ?_, fun hi => ⟨xs, q, by rw [t.len]; exact hi⟩⟩
  obtain ⟨v, hv, tv⟩ := t.get hd
  refine ⟨⟨xs, v, q, hv⟩, fun x H' y => ?_⟩
  obtain ⟨rfl, y⟩ := y
  have := y xs q
  rw [hv] at this
  cases this
  exact ⟨G, Ex.refl sh, Tr.mono s tv⟩
theorem Tr.listI {K : Fg} {G : Hp} {v : V} {ds : List D} (h : Tr K G v (.list ds)) : ∃ a xs, v = .ref a ∧ SqL K G a xs ∧ TrAll K G xs ds := by
  cases h with
  | lst a b => exact ⟨_, _, rfl, .inl (.inl a), b⟩
theorem Tr.tupI {K : Fg} {G : Hp} {v : V} {ds : List D} (h : Tr K G v (.tuple ds)) : ∃ a xs, v = .ref a ∧ SqT K G a xs ∧ TrAll K G xs ds := by
  cases h with
  | tup a b => exact ⟨_, _, rfl, a, b⟩
theorem Tr.scrI {K : Fg} {G : Hp} {v : V} {ds : List D} (h : Tr K G v (.dict [(.none, .list ds)])) : ∃ a xs, v = .ref a ∧ SqL K G a xs ∧ TrAll K G xs ds := by
  obtain ⟨a, ns, rfl, hq, rfl⟩ := View.scr' (Same.refl G) (.sc h)
  exact ⟨a, _, rfl, hq, .ints⟩
theorem di_seq {tg l : Expr} {f : Me Val} (hl : DE X B l f) : DI X B tg l (seqM f) := PI.weak (PI.or (pi_list hl) (pi_tup hl)) fun σ H Q q => by
  obtain ⟨G, δ, ds, δ', R, e, k⟩ := q
  obtain ⟨x, δ1, e1, e⟩ := mb_some e
  obtain ⟨e2, rfl⟩ := mo_some e
  unfold itemsOf at e2
  split at e2
  · cases e2
    refine .inl ⟨G, δ, _, _, R, e1, fun v G1 H1 s1 R1 v1 => ?_⟩
    obtain ⟨a, xs, rfl, h, t⟩ := Tr.listI v1
    exact ⟨a, rfl, ⟨xs, R1.same.seq h⟩, k _ G1 H1 s1 R1 (it_list h t)⟩
  · cases e2
    refine .inr ⟨G, δ, _, _, R, e1, fun v G1 H1 s1 R1 v1 => ?_⟩
    obtain ⟨a, xs, rfl, h, t⟩ := Tr.tupI v1
    exact ⟨a, rfl, ⟨xs, Same.tup R1.same h⟩, k _ G1 H1 s1 R1 (it_tup h t)⟩
  · cases e2
    refine .inl ⟨G, δ, _, _, R, e1, fun v G1 H1 s1 R1 v1 => ?_⟩
    obtain ⟨G2, s2, R2, v2⟩ := v1.freeze R1
    obtain ⟨a, xs, rfl, h, t⟩ := Tr.listI v2
    exact ⟨a, rfl, ⟨xs, R2.same.seq h⟩, k _ G2 H1 (s1.trans s2) R2 (it_list h t)⟩
  · cases e2
    refine .inl ⟨G, δ, _, _, R, e1, fun v G1 H1 s1 R1 v1 => ?_⟩
    obtain ⟨a, xs, rfl, h, t⟩ := Tr.scrI v1
    exact ⟨a, rfl, ⟨xs, R1.same.seq h⟩, k _ G1 H1 s1 R1 (it_list h t)⟩
  · cases e2
/-- range -/
def rngD (lo : Int) (n : Nat) : List D := (List.range n).map fun i => .int (lo + (i : Nat))
def rOk (j : Int) : Bool := decide (-(2 ^ 62) ≤ j) && decide (j < 2 ^ 62)
theorem rOk_le {j : Int} (h : rOk j = true) : -(2 ^ 62) ≤ j ∧ j < 2 ^ 62 := by
  unfold rOk at h
  rw [Bool.and_eq_true] at h
  exact ⟨of_decide_eq_true h.1, of_decide_eq_true h.2⟩
theorem it_rng {K : Fg} {G1 : Hp} {lo : Int} {n : Nat} : ItD K (Itr lo n) (rngD lo n) G1 := fun i G H s sh => by
  refine ⟨fun d hd => ?_, fun hi => by unfold rngD at hi; rw [List.length_map, List.length_range] at hi; exact hi⟩
  unfold rngD at hd
  rw [List.getElem?_map] at hd
  obtain ⟨m, hm, rfl⟩ := Option.map_eq_some_iff.mp hd
  have hl := (List.getElem?_eq_some_iff.mp hm).1
  rw [List.length_range] at hl
  rw [List.getElem?_range hl] at hm
  cases hm
  refine ⟨hl, fun x H' y => ?_⟩
  obtain ⟨rfl, rfl⟩ := y
  exact ⟨G, Ex.refl sh, .int _⟩
def rngM1 (fa : Me (List Val)) : Me (List D) := mb fa fun xs => mo fun _ => match xs with
  | [.fz (.int j)] => if rOk j then some (rngD 0 j.toNat) else none
  | _ => none
def rngM2 (fa : Me (List Val)) : Me (List D) := mb fa fun xs => mo fun _ => match xs with
  | [.fz (.int i), .fz (.int j)] => if rOk i && rOk j then some (rngD i (j - i).toNat) else none
  | _ => none
theorem di_range1 {tg a : Expr} {fa : Me (List Val)} {p : Pos} (hg : Gl X "range") (hm : X.mg "range" = none) (ha : DA X B [a] fa) (hs : starEach [a] X.env = [(false, eval a X.env)] := by rfl) : DI X B tg (.Call (.Name "range" p) [a] [] pos) (rngM1 fa) := PI.weak (pi_range1 hg hm ha hs) fun σ H Q q => by
  obtain ⟨G, δ, ds, δ', R, e, k⟩ := q
  obtain ⟨xs, δ1, e1, e⟩ := mb_some e
  obtain ⟨e2, rfl⟩ := mo_some e
  refine ⟨G, δ, _, _, R, e1, fun vs G1 H1 s1 R1 v1 => ?_⟩
  split at e2
  · obtain ⟨c, rfl⟩ := ite_some e2
    cases v1 with
    | cons a b =>
      cases b
      have a : Tr X.K G1 _ (.int _) := a
      cases a
      have c' := rOk_le c
      exact ⟨_, rfl, c'.1, c'.2, k _ G1 H1 s1 R1 it_rng⟩
  · cases e2
theorem di_range2 {tg a b : Expr} {fa : Me (List Val)} {p : Pos} (hg : Gl X "range") (hm : X.mg "range" = none) (ha : DA X B [a, b] fa) (hs : starEach [a, b] X.env = [(false, eval a X.env), (false, eval b X.env)] := by rfl) (hs2 : starEach [b] X.env = [(false, eval b X.env)] := by rfl) : DI X B tg (.Call (.Name "range" p) [a, b] [] pos) (rngM2 fa) := PI.weak (pi_range2 hg hm ha hs hs2) fun σ H Q q => by
  obtain ⟨G, δ, ds, δ', R, e, k⟩ := q
  obtain ⟨xs, δ1, e1, e⟩ := mb_some e
  obtain ⟨e2, rfl⟩ := mo_some e
  refine ⟨G, δ, _, _, R, e1, fun vs G1 H1 s1 R1 v1 => ?_⟩
  split at e2
  · obtain ⟨c, rfl⟩ := ite_some e2
    rw [Bool.and_eq_true] at c
    cases v1 with
    | cons a b =>
      cases b with
      | cons a2 b =>
        cases b
        have a : Tr X.K G1 _ (.int _) := a
        have a2 : Tr X.K G1 _ (.int _) := a2
        cases a
        cases a2
        have c1 := rOk_le c.1
        have c2 := rOk_le c.2
        exact ⟨_, _, rfl, ⟨c1.1, c1.2, c2.1, c2.2⟩, k _ G1 H1 s1 R1 it_rng⟩
  · cases e2
/-- enumerate, zip of lists -/
def enumD (ds : List D) : List D := ds.zipIdx.map fun p => .tuple [.int (p.2 : Nat), p.1]
def zipD (ds es : List D) : List D := (ds.zip es).map fun p => .tuple [p.1, p.2]
theorem it_enum {K : Fg} {G1 : Hp} {a : Addr} {xs : List V} {ds : List D} (h : SqL K G1 a xs) (t : TrAll K G1 xs ds) : ItD K (Ite K a) (enumD ds) G1 := fun i G H s sh => by
  have q : SqL K H a xs := (s.trans sh).seq h
  refine ⟨fun d hd => ?_, fun hi => ⟨xs, q, by unfold enumD at hi; rw [List.length_map, List.length_zipIdx] at hi; rw [t.len]; exact hi⟩⟩
  unfold enumD at hd
  rw [List.getElem?_map, List.getElem?_zipIdx] at hd
  obtain ⟨p, hp, rfl⟩ := Option.map_eq_some_iff.mp hd
  obtain ⟨e, he, rfl⟩ := Option.map_eq_some_iff.mp hp
  obtain ⟨v, hv, tv⟩ := t.get he
  refine ⟨⟨xs, v, q, hv⟩, fun x H' y => ?_⟩
  obtain ⟨T, z, rfl, n, rfl, y⟩ := y
  have := y xs q
  rw [hv] at this
  cases this
  refine ⟨_, Ex.pushF sh _ n, ?_⟩
  rw [Nat.zero_add]
  exact Tr.tup (.inl (.inl upd_same)) (TrAll.mono (same_upd (sh.free n)) (.cons (.int _) (.cons (Tr.mono s tv) .nil)))
theorem it_zip {K : Fg} {G1 : Hp} {a b : Addr} {xs ys : List V} {ds es : List D} (h : SqL K G1 a xs) (t : TrAll K G1 xs ds) (h2 : SqL K G1 b ys) (t2 : TrAll K G1 ys es) : ItD K (Itz K a b) (zipD ds es) G1 := fun i G H s sh => by
  have q : SqL K H a xs := (s.trans sh).seq h
  have q2 : SqL K H b ys := (s.trans sh).seq h2
  refine ⟨fun d hd => ?_, fun hi => ⟨xs, ys, q, q2, by unfold zipD at hi; rw [List.length_map, List.length_zip] at hi; rw [t.len, t2.len]; omega⟩⟩
  unfold zipD at hd
  rw [List.getElem?_map] at hd
  obtain ⟨p, hp, rfl⟩ := Option.map_eq_some_iff.mp hd
  rw [List.getElem?_zip_eq_some] at hp
  obtain ⟨v, hv, tv⟩ := t.get hp.1
  obtain ⟨w, hw, tw⟩ := t2.get hp.2
  refine ⟨⟨xs, ys, v, w, q, q2, hv, hw⟩, fun x H' y => ?_⟩
  obtain ⟨T, z, z2, rfl, n, rfl, y, y2⟩ := y
  have h1 := y xs q
  have h2 := y2 ys q2
  rw [hv] at h1
  rw [hw] at h2
  cases h1
  cases h2
  exact ⟨_, Ex.pushF sh _ n, Tr.tup (.inl (.inl upd_same)) (TrAll.mono (same_upd (sh.free n)) (.cons (Tr.mono s tv) (.cons (Tr.mono s tw) .nil)))⟩
def enumM (fa : Me (List Val)) : Me (List D) := mb fa fun xs => mo fun _ => match xs with
  | [.fz (.list ds)] => some (enumD ds)
  | [.ow (.list ds)] => some (enumD ds)
  | _ => none
def zipM (fa : Me (List Val)) : Me (List D) := mb fa fun xs => mo fun _ => (fzs xs).bind fun as => match as with
  | [.list ds, .list es] => some (zipD ds es)
  | _ => none
theorem di_enum {e : Expr} {fa : Me (List Val)} {p tpos : Pos} {elts : List Expr} {kk : Nat} (hg : Gl X "enumerate") (hm : X.mg "enumerate" = none) (ha : DA X B [e] fa) (hs : starEach [e] X.env = [(false, eval e X.env)] := by rfl) : DI X B (.Tuple elts kk tpos) (.Call (.Name "enumerate" p) [e] [] pos) (enumM fa) := PI.weak (pi_enum hg hm ha hs) fun σ H Q q => by
  obtain ⟨G, δ, ds, δ', R, e, k⟩ := q
  obtain ⟨xs, δ1, e1, e⟩ := mb_some e
  obtain ⟨e2, rfl⟩ := mo_some e
  refine ⟨G, δ, _, _, R, e1, fun vs G1 H1 s1 R1 v1 => ?_⟩
  split at e2
  · cases e2
    cases v1 with
    | cons a b =>
      cases b
      obtain ⟨c, ys, rfl, h, t⟩ := Tr.listI (show Tr X.K G1 _ (.list _) from a)
      exact ⟨c, ys, rfl, R1.same.seq h, k _ G1 H1 s1 R1 (it_enum h t)⟩
  · cases e2
    cases v1 with
    | cons a b =>
      cases b
      obtain ⟨c, ys, rfl, h, t⟩ := Tr.listI (show Tr X.K G1 _ (.list _) from a)
      exact ⟨c, ys, rfl, R1.same.seq h, k _ G1 H1 s1 R1 (it_enum h t)⟩
  · cases e2
theorem di_zip {e e2 : Expr} {fa : Me (List Val)} {p tpos : Pos} {elts : List Expr} {kk : Nat} (hg : Gl X "zip") (hm : X.mg "zip" = none) (ha : DA X B [e, e2] fa)
    (hs : starEach [e, e2] X.env = (false, eval e X.env) :: starEach [e2] X.env := by rfl) (hpl : (backTo pos (starEach [e2] X.env)).any (·.1) = false := by rfl) : DI X B (.Tuple elts kk tpos) (.Call (.Name "zip" p) [e, e2] [] pos) (zipM fa) := PI.weak (pi_zip hg hm ha hs hpl) fun σ H Q q => by
  obtain ⟨G, δ, ds, δ', R, e, k⟩ := q
  obtain ⟨xs, δ1, e1, e⟩ := mb_some e
  obtain ⟨e2, rfl⟩ := mo_some e
  obtain ⟨as, e3, e2⟩ := Option.bind_eq_some_iff.mp e2
  refine ⟨G, δ, _, _, R, e1, fun vs G1 H1 s1 R1 v1 => ?_⟩
  have t := v1.trees e3
  split at e2
  · cases e2
    cases t with
    | cons a b =>
      cases b with
      | cons b c =>
        cases c
        obtain ⟨p, ys, rfl, h, t⟩ := Tr.listI a
        obtain ⟨q, zs, rfl, h2, t2⟩ := Tr.listI b
        exact ⟨p, q, ys, zs, rfl, R1.same.seq h, R1.same.seq h2, k _ G1 H1 s1 R1 (it_zip h t h2 t2)⟩
  · cases e2
end
end DL
end
section
set_option maxRecDepth 100000
set_option maxHeartbeats 4000000
namespace DL
open PySem PySem.Spec L2
open PyProof.Rows hiding St

/-! ### comprehensions -/
def wipeD (δ : DS) : List Nat → DS
  | [] => δ
  | v :: vs => (wipeD δ vs).set v .un
def backD (δ0 δ : DS) : List Nat → DS
  | [] => δ
  | v :: vs => (backD δ0 δ vs).set v (δ0.getD v .un)
def plainAt (δ : DS) (v : Nat) : Bool := match δ[v]? with
  | some (.own _ _) => false
  | _ => true
theorem wipeD_len (δ : DS) : ∀ vs : List Nat, (wipeD δ vs).length = δ.length
  | [] => rfl
  | v :: vs => by unfold wipeD; rw [List.length_set, wipeD_len δ vs]
theorem backD_len (δ0 δ : DS) : ∀ vs : List Nat, (backD δ0 δ vs).length = δ.length
  | [] => rfl
  | v :: vs => by unfold backD; rw [List.length_set, backD_len δ0 δ vs]
theorem wipeD_get {δ : DS} {j : Nat} {s : Sl} (h : s ≠ .un) : ∀ {vs : List Nat}, (wipeD δ vs)[j]? = some s → δ[j]? = some s ∧ j ∉ vs
  | [], q => ⟨q, by simp⟩
  | v :: vs, q => by
    unfold wipeD at q
    by_cases hv : v = j
    · subst hv
      by_cases hl : v < (wipeD δ vs).length
      · rw [List.getElem?_set_self hl] at q
        cases q
        exact (h rfl).elim
      · rw [List.getElem?_eq_none (by simpa using hl)] at q
        cases q
    · rw [List.getElem?_set_ne hv] at q
      obtain ⟨a, b⟩ := wipeD_get h q
      exact ⟨a, by simp only [List.mem_cons, not_or]; exact ⟨fun e => hv e.symm, b⟩⟩
theorem wipeD_dat {δ : DS} {j : Nat} {d : D} {vs : List Nat} (q : (wipeD δ vs)[j]? = some (.dat d)) : δ[j]? = some (.dat d) ∧ j ∉ vs := wipeD_get (by intro z; cases z) q
theorem wipeD_own {δ : DS} {j : Nat} {b : Bool} {d : D} {vs : List Nat} (q : (wipeD δ vs)[j]? = some (.own b d)) : δ[j]? = some (.own b d) ∧ j ∉ vs := wipeD_get (by intro z; cases z) q
theorem backD_get {δ0 δ : DS} {j : Nat} {s : Sl} : ∀ {vs : List Nat}, (backD δ0 δ vs)[j]? = some s → (j ∉ vs ∧ δ[j]? = some s) ∨ (j ∈ vs ∧ (δ0[j]? = some s ∨ s = .un))
  | [], q => .inl ⟨by simp, q⟩
  | v :: vs, q => by
    unfold backD at q
    by_cases hv : v = j
    · subst hv
      by_cases hl : v < (backD δ0 δ vs).length
      · rw [List.getElem?_set_self hl] at q
        refine .inr ⟨List.mem_cons_self, ?_⟩
        rw [List.getD_eq_getElem?_getD] at q
        cases hz : δ0[v]? with
        | none =>
          rw [hz] at q
          cases q
          exact .inr rfl
        | some t =>
          rw [hz] at q
          cases q
          exact .inl rfl
      · rw [List.getElem?_eq_none (by simpa using hl)] at q
        cases q
    · rw [List.getElem?_set_ne hv] at q
      rcases backD_get q with ⟨a, b⟩ | ⟨a, b⟩
      · exact .inl ⟨by simp only [List.mem_cons, not_or]; exact ⟨fun e => hv e.symm, a⟩, b⟩
      · exact .inr ⟨List.mem_cons_of_mem _ a, b⟩
theorem wipe_in {σ : L2.St} {i : Nat} (hl : i < σ.length) : ∀ {vs : List Nat}, i ∈ vs → (wipe σ vs)[i]? = some none
  | v :: vs, h => by
    unfold wipe
    by_cases hv : v = i
    · subst hv
      rw [List.getElem?_set_self (by rw [wipe_length]; exact hl)]
    · rw [List.getElem?_set_ne hv]
      exact wipe_in hl ((List.mem_cons.mp h).resolve_left fun e => hv e.symm)
theorem wipe_off {σ σ2 : L2.St} {ws vs : List Nat} (h : Off ws (wipe σ vs) σ2) (hw : ∀ i ∈ ws, i ∈ vs) : wipe σ2 vs = wipe σ vs := by
  have hl : σ2.length = σ.length := h.1.trans (wipe_length σ vs)
  apply List.ext_getElem?
  intro i
  by_cases hi : i ∈ vs
  · by_cases hz : i < σ.length
    · rw [wipe_in hz hi, wipe_in (by rw [hl]; exact hz) hi]
    · rw [List.getElem?_eq_none (by rw [wipe_length]; omega), List.getElem?_eq_none (by rw [wipe_length]; omega)]
  · rw [wipe_out hi, h.2 i (fun z => hi (hw i z))]
section
variable {K : Fg} {B : Bs} {G H G' H' : Hp} {δ δ' : DS} {σ σ' : L2.St}
theorem RelS.agree (vs : List Nat) (R : RelS K B G H δ σ) (h : σ'.length = σ.length) (e : ∀ i, i ∉ vs → σ'[i]? = σ[i]?) : RelS K B G H (wipeD δ vs) σ' where
  len := by rw [wipeD_len, h]; exact R.len
  same := R.same
  g0 := R.g0
  nw := R.nw
  frame := R.frame
  dom := R.dom
  iod := R.iod
  dat := fun i d q => by
    obtain ⟨a, b⟩ := wipeD_dat q
    rw [e i b]
    exact R.dat i d a
  own := fun i b d q => by
    obtain ⟨a, hb⟩ := wipeD_own q
    rw [e i hb]
    exact R.own i b d a
  inj := fun i j b b' a d d' q1 q2 z1 z2 => by
    obtain ⟨a1, h1⟩ := wipeD_own q1
    obtain ⟨a2, h2⟩ := wipeD_own q2
    rw [e i h1] at z1
    rw [e j h2] at z2
    exact R.inj i j b b' a d d' a1 a2 z1 z2
theorem RelS.back {vs : List Nat} {δ1 : DS} (R1 : RelS K B G H δ1 σ) (R : RelS K B G' H' δ (wipe σ vs)) (s : Same G G') (hp : ∀ v ∈ vs, plainAt δ1 v = true) : RelS K B G' H' (backD δ1 δ vs) σ where
  len := by rw [backD_len, R.len, wipe_length]
  same := R.same
  g0 := R.g0
  nw := R.nw
  frame := R.frame
  dom := R.dom
  iod := R.iod
  dat := fun i d q => by
    rcases backD_get q with ⟨a, b⟩ | ⟨a, b | b⟩
    · obtain ⟨v, e, t⟩ := R.dat i d b
      rw [wipe_out a] at e
      exact ⟨v, e, t⟩
    · obtain ⟨v, e, t⟩ := R1.dat i d b
      exact ⟨v, e, Tr.mono s t⟩
    · cases b
  own := fun i b d q => by
    rcases backD_get q with ⟨a, c⟩ | ⟨a, c | c⟩
    · obtain ⟨v, e, t⟩ := R.own i b d c
      rw [wipe_out a] at e
      exact ⟨v, e, t⟩
    · have := hp i a
      unfold plainAt at this
      rw [c] at this
      cases this
    · cases c
  inj := fun i j b b' a d d' q1 q2 z1 z2 => by
    rcases backD_get q1 with ⟨a1, c1⟩ | ⟨a1, c1 | c1⟩
    · rcases backD_get q2 with ⟨a2, c2⟩ | ⟨a2, c2 | c2⟩
      · rw [← wipe_out a1] at z1
        rw [← wipe_out a2] at z2
        exact R.inj i j b b' a d d' c1 c2 z1 z2
      · have := hp j a2
        unfold plainAt at this
        rw [c2] at this
        cases this
      · cases c2
    · have := hp i a1
      unfold plainAt at this
      rw [c1] at this
      cases this
    · cases c1
/-- a block's base -/
def blkB (B : Bs) (G H : Hp) (δ : DS) (σ : L2.St) : Bs := ⟨G, H, B.io, fun a => ∃ (i : Nat) (d : D), δ[i]? = some (.own false d) ∧ σ[i]? = some (some (V.ref a))⟩
theorem RelS.blk (R : RelS K B G H δ σ) : RelS K (blkB B G H δ σ) G H δ σ where
  len := R.len
  same := R.same
  g0 := Same.refl _
  nw := fun a o e n => by
    have n : G a = none := n
    rw [n] at e
    cases e
  frame := fun _ _ e _ _ => e
  dom := fun _ o e => ⟨o, e⟩
  iod := fun p hp => by
    obtain ⟨o, e⟩ := R.iod p hp
    exact R.dom _ _ e
  dat := R.dat
  own := fun i b d q => by
    obtain ⟨a, e, n, m, r⟩ := R.own i b d q
    refine ⟨a, e, n, ?_, r⟩
    cases b with
    | true => exact m
    | false => exact .inr ⟨i, d, q, e⟩
  inj := R.inj
theorem RelS.lo (R : RelS K B G H δ σ) {a : Addr} (h : (blkB B G H δ σ).lo a) : B.H0 a = none ∨ B.lo a := by
  obtain ⟨i, d, q, e⟩ := h
  obtain ⟨a', e', _, m, _⟩ := R.own i false d q
  rw [e] at e'
  cases e'
  exact m
theorem RelS.rebase (R : RelS K B G H δ σ) (R3 : RelS K (blkB B G H δ σ) G' H' δ' σ') : RelS K B G' H' δ' σ' where
  len := R3.len
  same := R3.same
  g0 := R.g0.trans R3.g0
  nw := fun a o e n => by
    cases q : G a with
    | some u => exact R.nw a u q n
    | none =>
      rcases R3.nw a o e q with z | z
      · exact .inl (R.none0 z)
      · exact R.lo z
  frame := fun b o e n l => R3.frame b o (R.frame b o e n l) n fun z => by
    rcases R.lo z with w | w
    · rw [w] at e
      cases e
    · exact l w
  dom := fun b o e => by
    obtain ⟨o', e'⟩ := R.dom b o e
    exact R3.dom b o' e'
  iod := R.iod
  dat := R3.dat
  own := fun i b d q => by
    obtain ⟨a, e, n, m, r⟩ := R3.own i b d q
    refine ⟨a, e, n, ?_, r⟩
    cases b with
    | true => exact m
    | false =>
      rcases (show H a = none ∨ _ from m) with z | z
      · exact .inl (R.none0 z)
      · exact R.lo z
  inj := R3.inj
/-- an object apart is written -/
theorem RelS.apart {p : Addr} {o : HO} (R : RelS K B G H δ σ) (g : G p = none) (h0 : B.H0 p = none) (hr : ∀ (i : Nat) (b : Bool) (d : D), δ[i]? = some (.own b d) → σ[i]? ≠ some (some (V.ref p))) : RelS K B G (upd H p o) δ σ where
  len := R.len
  same := fun a x e => by
    have ha : a ≠ p := fun z => by rw [z, g] at e; cases e
    rw [upd_ne ha]
    exact R.same _ _ e
  g0 := R.g0
  nw := R.nw
  frame := fun b x e n l => by
    have ha : b ≠ p := fun z => by rw [z, h0] at e; cases e
    rw [upd_ne ha]
    exact R.frame b x e n l
  dom := fun b x e => by
    have ha : b ≠ p := fun z => by rw [z, h0] at e; cases e
    rw [upd_ne ha]
    exact R.dom b x e
  iod := R.iod
  dat := R.dat
  own := fun i b d q => by
    obtain ⟨a, e, n, m, r⟩ := R.own i b d q
    have ha : a ≠ p := fun z => hr i b d q (z ▸ e)
    exact ⟨a, e, n, m, Root.mono (Same.refl _) (fun x y => by rw [upd_ne ha]; exact y) r⟩
  inj := R.inj
end

def treeV : Val → Option D
  | .fz d => some d
  | .ow d => some d
  | .sl _ => none
def compL (gt : Tg) (ft : Me Bool) (fe : Me Val) (vs : List Nat) : List D → DS → Option (List D × DS)
  | [], δ => some ([], δ)
  | d :: r, δ => (gt (.fz d) δ).bind fun δ1 => match ft δ1 with
    | some (true, δ2) => (match fe δ2 with
      | some (v, δ3) => (treeV v).bind fun e => (compL gt ft fe vs r (wipeD δ3 vs)).bind fun p => some (e :: p.1, p.2)
      | none => none)
    | some (false, δ2) => compL gt ft fe vs r (wipeD δ2 vs)
    | none => none
def compM (fi : Me (List D)) (gt : Tg) (ft : Me Bool) (fe : Me Val) (vs : List Nat) : Me Val := fun δ => match fi δ with
  | some (ds, δ1) => if vs.all (plainAt δ1) then (compL gt ft fe vs ds (wipeD δ1 vs)).bind fun p => if szOk p.1.length then some (.ow (.list p.1), backD δ1 p.2 vs) else none else none
  | none => none
def toE (K : Fg) (f : Me Val) : TE := fun σ H Q => ∃ B, tOf K B f σ H Q
def ttE (K : Fg) (f : Me Bool) : TT := fun σ H Q => ∃ B, ttOf K B f σ H Q
def tgE (K : Fg) (ws : List Nat) (g : Tg) : TG := fun v σ H Q => ∃ B, tgOf K B ws g v σ H Q
theorem pe_E {X : Cx} {e : Expr} {f : Me Val} (h : ∀ B, DE X B e f) : PE X e (toE X.K f) := ⟨fun pins s σ H Q I ⟨B, w⟩ => (h B).run pins s σ H Q I w⟩
theorem pt_E {X : Cx} {e : Expr} {f : Me Bool} (h : ∀ B, DT X B e f) : PT X e (ttE X.K f) := ⟨fun pins s σ H Q I ⟨B, w⟩ => (h B).run pins s σ H Q I w⟩
theorem pg_E {X : Cx} {e : Expr} {ws : List Nat} {g : Tg} (h : ∀ B, DG X B ws e g) : PG X e (tgE X.K ws g) := ⟨fun pins s σ H v u Q I r ⟨B, w⟩ => (h B).run pins s σ H v u Q I r w⟩
abbrev DTs (X : Cx) (es : List Expr) (f : Me Bool) : Prop := PTs X es (ttE X.K f)
theorem dts_nil {X : Cx} : DTs X [] (mr true) := ⟨fun pins s σ H Q I w => pts_nil.run pins s σ H Q I (by
  obtain ⟨B, G, δ, r, δ', R, e, k⟩ := w
  cases e
  exact k G H (Same.refl _) R)⟩
theorem dts_one {X : Cx} {e : Expr} {f : Me Bool} (h : ∀ B, DT X B e f) : DTs X [e] f := pts_one (pt_E h)
section
variable {X : Cx} {B : Bs} {pos : Pos}
theorem lc_of {K : Fg} {ws vs : List Nat} {fi : Me (List D)} {gt : Tg} {ft : Me Bool} {fe : Me Val} (hw : ∀ i ∈ ws, i ∈ vs) : ∀ σ H Q, tOf K B (compM fi gt ft fe vs) σ H Q → tLc (tiOf K B fi) (tgE K ws gt) (ttE K ft) (toE K fe) vs σ H Q := by
  intro σ H Q q
  obtain ⟨G, δ, res, δ', R, e, k⟩ := q
  unfold compM at e
  cases hf : fi δ with
  | none => rw [hf] at e; cases e
  | some p =>
    obtain ⟨ds, δ1⟩ := p
    rw [hf] at e
    have e : (if vs.all (plainAt δ1) = true then (compL gt ft fe vs ds (wipeD δ1 vs)).bind fun p => if szOk p.1.length then some (Val.ow (.list p.1), backD δ1 p.2 vs) else none else none) = some (res, δ') := e
    by_cases hpl : vs.all (plainAt δ1) = true
    · rw [if_pos hpl] at e
      obtain ⟨⟨fin, δf⟩, e1, e⟩ := Option.bind_eq_some_iff.mp e
      obtain ⟨hsz, e⟩ := ite_some e
      cases e
      have hpl' : ∀ v ∈ vs, plainAt δ1 v = true := List.all_eq_true.mp hpl
      refine ⟨G, δ, ds, δ1, R, hf, fun J G1 H1 s1 R1 it D hD => ?_⟩
      have R0 : RelS K B G1 H1 (wipeD δ1 vs) (wipe σ vs) := R1.agree vs (wipe_length σ vs) fun i hi => wipe_out hi
      have hD0 : B.H0 D = none := R1.none0 hD
      have hDio : ∀ p ∈ B.io, p.2 ≠ D := fun p hp z => by
        obtain ⟨o, e⟩ := R1.iod p hp
        rw [z, hD0] at e
        cases e
      refine ⟨fun i m H => ∃ G δ acc as rest, m = ds.length - i ∧ i ≤ ds.length ∧ Same G1 G ∧ RelS K B G H δ (wipe σ vs) ∧ G D = none ∧ (∀ (i : Nat) (b : Bool) (d : DL.D), δ[i]? = some (.own b d) → (wipe σ vs)[i]? ≠ some (some (V.ref D))) ∧ H D = some (.lst acc) ∧ TrAll K G acc as ∧ compL gt ft fe vs (ds.drop i) δ = some (rest, δf) ∧ as ++ rest = fin,
        ⟨ds.length, G1, wipeD δ1 vs, [], [], fin, rfl, Nat.zero_le _, Same.refl _, R0.ex (Ex.push R0.same _ hD), R0.same.free hD, fun i b d q z => ?_, upd_same, .nil, e1, rfl⟩, ?_⟩
      · obtain ⟨a, e2, _, _, rt⟩ := R0.own i b d q
        rw [z] at e2
        cases e2
        obtain ⟨o, e3⟩ := rt.ex
        rw [hD] at e3
        cases e3
      rintro i m H2 ⟨G2, δ2, acc, as, rest, rfl, hi, s2, R2, g2, rt2, hacc, tacc, ec, efin⟩
      obtain ⟨it1, it2⟩ := it i G2 H2 s2 R2.same
      by_cases hlt : i < ds.length
      · rw [List.drop_eq_getElem_cons hlt] at ec
        obtain ⟨go, yl⟩ := it1 ds[i] (by simp [hlt])
        refine .inr ⟨go, fun H => ∃ G δ acc as rest, Same G1 G ∧ RelS K B G H δ (wipe σ vs) ∧ G D = none ∧ (∀ (i : Nat) (b : Bool) (d : DL.D), δ[i]? = some (.own b d) → (wipe σ vs)[i]? ≠ some (some (V.ref D))) ∧ H D = some (.lst acc) ∧ TrAll K G acc as ∧ compL gt ft fe vs (ds.drop (i + 1)) δ = some (rest, δf) ∧ as ++ rest = fin,
          fun H' ⟨G', δ3, acc', as', rest', a, b, c, d, e, f, g, h⟩ => ⟨ds.length - (i + 1), by omega, G', δ3, acc', as', rest', rfl, hlt, a, b, c, d, e, f, g, h⟩, fun x H3 y3 => ?_⟩
        obtain ⟨G3, x3, t3⟩ := yl x H3 y3
        have R3 := R2.ex x3
        have g3 : G3 D = none := by
          cases q : G3 D with
          | none => rfl
          | some o =>
            have := x3.nw D o q g2
            rw [hacc] at this
            cases this
        have h3 : H3 D = some (.lst acc) := x3.h _ _ hacc
        obtain ⟨δ4, e4, e5⟩ := Option.bind_eq_some_iff.mp ec
        have noLo : ¬ (blkB B G3 H3 δ2 (wipe σ vs)).lo D := fun ⟨j, d, q, z⟩ => rt2 j false d q z
        -- what holds of D behind the block's steps
        have keepD : ∀ {G4 H4 : Hp} {δ4 : DS} {σ4 : L2.St}, RelS K (blkB B G3 H3 δ2 (wipe σ vs)) G4 H4 δ4 σ4 → G4 D = none ∧ H4 D = some (.lst acc) ∧ (∀ (i : Nat) (b : Bool) (d : DL.D), δ4[i]? = some (.own b d) → σ4[i]? ≠ some (some (V.ref D))) := fun {G4 H4 δ4 σ4} R4 => by
          refine ⟨?_, R4.frame D _ h3 hDio noLo, fun j b d q z => ?_⟩
          · cases q : G4 D with
            | none => rfl
            | some o =>
              rcases R4.nw D o q g3 with w | w
              · have w : H3 D = none := w
                rw [h3] at w
                cases w
              · exact (noLo w).elim
          · obtain ⟨a, e6, _, m, _⟩ := R4.own j b d q
            rw [z] at e6
            cases e6
            cases b with
            | true => exact hDio _ (show (j, D) ∈ B.io from m) rfl
            | false =>
              rcases (show H3 D = none ∨ _ from m) with w | w
              · rw [h3] at w
                cases w
              · exact noLo w
        refine ⟨_, G3, δ2, .fz ds[i], δ4, R3.blk, t3, e4, fun σ4 G4 H4 s4 R4 off4 => ⟨wipe_off off4 hw, ?_⟩⟩
        have wp : wipe σ4 vs = wipe σ vs := wipe_off off4 hw
        have offw : ∀ j, j ∉ vs → (wipe σ vs)[j]? = σ4[j]? := fun j hj => by rw [← wp, wipe_out hj]
        have lenw : (wipe σ vs).length = σ4.length := by rw [← wp, wipe_length]
        cases hft : ft δ4 with
        | none => rw [hft] at e5; cases e5
        | some p =>
          obtain ⟨b, δ5⟩ := p
          rw [hft] at e5
          refine ⟨_, G4, δ4, b, δ5, R4, hft, fun G5 H5 s5 R5 => ?_⟩
          cases b with
          | false =>
            have e5 : compL gt ft fe vs (ds.drop (i + 1)) (wipeD δ5 vs) = some (rest, δf) := e5
            obtain ⟨k1, k2, k3⟩ := keepD R5
            refine (show (if false = true then _ else _) from iteF ?_)
            refine ⟨G5, wipeD δ5 vs, acc, as, rest, ((s2.trans x3.g).trans s4).trans s5, (R3.rebase R5).agree vs lenw offw, k1, fun j b d q z => ?_, k2, TrAll.mono ((x3.g.trans s4).trans s5) tacc, e5, efin⟩
            obtain ⟨q1, q2⟩ := wipeD_own q
            rw [offw j q2] at z
            exact k3 j b d q1 z
          | true =>
            have e5 : (match fe δ5 with
              | some (v, δ3) => (treeV v).bind fun e => (compL gt ft fe vs (ds.drop (i + 1)) (wipeD δ3 vs)).bind fun p => some (e :: p.1, p.2)
              | none => none) = some (rest, δf) := e5
            cases hfe : fe δ5 with
            | none => rw [hfe] at e5; cases e5
            | some p =>
              obtain ⟨v, δ6⟩ := p
              rw [hfe] at e5
              obtain ⟨y, ey, e5⟩ := Option.bind_eq_some_iff.mp e5
              obtain ⟨⟨rest', δf'⟩, e6, e5⟩ := Option.bind_eq_some_iff.mp e5
              cases e5
              refine (show (if true = true then _ else _) from iteT ?_)
              refine ⟨_, G5, δ5, v, δ6, R5, hfe, fun u G6 H6 s6 R6 v6 => ?_⟩
              obtain ⟨G7, s7, R7, v7⟩ := v6.freeze R6
              have ty : Tr K G7 u y := by
                cases v with
                | fz d => cases ey; exact v7
                | ow d => cases ey; exact v7
                | sl j => cases ey
              obtain ⟨k1, k2, k3⟩ := keepD R7
              have sg : Same G2 G7 := (((x3.g.trans s4).trans s5).trans s6).trans s7
              have hsz' : acc.length < sizeLine := by
                have h1 := szOk_le hsz
                have h2 : (as ++ y :: rest').length ≤ sizeLine := by rw [efin]; exact h1
                rw [List.length_append, List.length_cons, ← tacc.len] at h2
                omega
              have k3' : ∀ (j : Nat) (b : Bool) (d : DL.D), (wipeD δ6 vs)[j]? = some (.own b d) → (wipe σ vs)[j]? ≠ some (some (V.ref D)) := fun j b d q z => by
                obtain ⟨q1, q2⟩ := wipeD_own q
                rw [offw j q2] at z
                exact k3 j b d q1 z
              refine ⟨acc, k2, hsz', G7, wipeD δ6 vs, acc ++ [u], as ++ [y], rest', s2.trans sg, ((R3.rebase R7).agree vs lenw offw).apart k1 hD0 k3', k1, k3', upd_same, (TrAll.mono sg tacc).append (.cons ty .nil), e6, by rw [List.append_assoc]; exact efin⟩
      · have hz : i = ds.length := by omega
        subst hz
        rw [List.drop_length] at ec
        cases ec
        rw [List.append_nil] at efin
        subst efin
        refine .inl ⟨it2 (Nat.le_refl _), ?_⟩
        refine k _ G2 H2 (s1.trans s2) (R1.back R2 s2 hpl') ⟨D, rfl, g2, .inl hD0, .lst hacc tacc, fun j b d q z => ?_⟩
        rcases backD_get q with ⟨a, c⟩ | ⟨a, c | c⟩
        · rw [← wipe_out a] at z
          exact rt2 j b d c z
        · have := hpl' j a
          unfold plainAt at this
          rw [c] at this
          cases this
        · cases c
    · rw [if_neg hpl] at e
      cases e
theorem de_lc {elt tg iter : Expr} {ifs : List Expr} {scope : Scope} {own : List (Str × Nat)} {ws : List Nat} {fi : Me (List D)} {gt : Tg} {ft : Me Bool} {fe : Me Val} (hc : X.calm = true) (hN : X.N.Nodup) (hi : DI X B tg iter fi) (ok : BlkOk X.N X.env.scope scope own)
    (hw : ∀ i ∈ ws, i ∈ own.map (·.2))
    (hg : ∀ (s : Shared) (H : Hp) (C : Addr) (cl : List (Str × Addr)) (fp : List Addr) (B : Bs), DG (X.blk s H scope (compEnvC scope cl C X.env) fp) B ws tg gt)
    (ht : ∀ (s : Shared) (H : Hp) (C : Addr) (cl : List (Str × Addr)) (fp : List Addr), DTs (X.blk s H scope (compEnvC scope cl C X.env) fp) ifs ft)
    (he : ∀ (s : Shared) (H : Hp) (C : Addr) (cl : List (Str × Addr)) (fp : List Addr) (B : Bs), DE (X.blk s H scope (compEnvC scope cl C X.env) fp) B elt fe)
    (hs : ∀ x, foldedSetIterable iter X.env x = pure x := by intro _; rfl) :
    DE X B (.ListComp elt [⟨tg, iter, ifs, 0⟩] scope pos) (compM fi gt ft fe (own.map (·.2))) :=
  PE.weak (pe_lc hc hN hi ok (fun s H C cl fp => pg_E (hg s H C cl fp)) ht (fun s H C cl fp => pe_E (he s H C cl fp)) hs) (lc_of hw)
/-- y = [..] with a plain local y -/
theorem ss_setLc {i : Nat} {y : Str} {py spos : Pos} {elt tg iter : Expr} {ifs : List Expr} {scope : Scope} {own : List (Str × Nat)} {ws : List Nat} {fi : Me (List D)} {gt : Tg} {ft : Me Bool} {fe : Me Val} (hc : X.calm = true) (hN : X.N.Nodup) (hy : X.N[i]? = some y) (hyl : X.env.scope.names.lookup y = some .local)
    (hsw : swapsWith (.ListComp elt [⟨tg, iter, ifs, 0⟩] scope pos) (some (.Name y py)) spos.line X.env = pure true) (hi : DI X B tg iter fi) (ok : BlkOk X.N X.env.scope scope own)
    (hw : ∀ i ∈ ws, i ∈ own.map (·.2))
    (hg : ∀ (s : Shared) (H : Hp) (C : Addr) (cl : List (Str × Addr)) (fp : List Addr) (B : Bs), DG (X.blk s H scope (compEnvC scope cl C X.env) fp) B ws tg gt)
    (ht : ∀ (s : Shared) (H : Hp) (C : Addr) (cl : List (Str × Addr)) (fp : List Addr), DTs (X.blk s H scope (compEnvC scope cl C X.env) fp) ifs ft)
    (he : ∀ (s : Shared) (H : Hp) (C : Addr) (cl : List (Str × Addr)) (fp : List Addr) (B : Bs), DE (X.blk s H scope (compEnvC scope cl C X.env) fp) B elt fe)
    (hs : ∀ x, foldedSetIterable iter X.env x = pure x := by intro _; rfl) :
    SS X B (.Assign [.Name y py] (.ListComp elt [⟨tg, iter, ifs, 0⟩] scope pos) spos) (setS i (compM fi gt ft fe (own.map (·.2)))) :=
  PS.weak (ps_setLc hc hN hy hyl hsw hi ok (fun s H C cl fp => pg_E (hg s H C cl fp)) ht (fun s H C cl fp => pe_E (he s H C cl fp)) hs) fun E σ H q => by
    refine lc_of (B := B) (gt := gt) (ft := ft) (fe := fe) hw σ H _ ?_
    obtain ⟨G, δ, fl, δ', R, e, k⟩ := q
    unfold setS at e
    cases hg : compM fi gt ft fe (own.map (·.2)) δ with
    | none => rw [hg] at e; cases e
    | some p =>
      obtain ⟨v, δ1⟩ := p
      rw [hg] at e
      obtain ⟨δ2, e2, e3⟩ := Option.bind_eq_some_iff.mp e
      cases e3
      exact ⟨G, δ, v, δ1, R, hg, fun u G1 H1 s1 R1 v1 => k _ G1 H1 s1 (R1.set v1 e2)⟩
end
end DL
end
section
set_option maxRecDepth 100000
set_option maxHeartbeats 4000000
namespace DL
open PySem PySem.Spec L2
open PyProof.Rows hiding St

/-! ### defs, called where no repr is under way -/
structure FnG (P : Program) (w : World) (K : Fg) (mg : Str → Option Value) (base : Heap) (k : Nat) (f : Addr) (fd : FuncData) (ps : List Str) (sp : Sp) : Prop where
  len : ∀ vs H Q E, sp vs H Q E → vs.length = ps.length
  run : ∀ (A : Around) (outer : List Env) (s : Shared) (H : Hp) (args : Args) (us : List Value) (vs : List V) (Q : VK) (E : XK), Room k A → A.guards = some [] → Env0 P w K mg base A outer s H → BindsTo s fd args (ps.zip us) → Vals vs us → sp vs H Q E →
    codeAny (model P w) A (.call (.ref f) args) (CR CX0 outer P w H s Q E) s
theorem FnG.mono {P : Program} {w : World} {K : Fg} {mg : Str → Option Value} {base : Heap} {j k : Nat} {f : Addr} {fd : FuncData} {ps : List Str} {sp : Sp} (F : FnG P w K mg base j f fd ps sp) (h : j ≤ k) : FnG P w K mg base k f fd ps sp :=
  ⟨F.len, fun A o s H args us vs Q E hr => F.run A o s H args us vs Q E (hr.mono h)⟩
/-- the context in a def's body -/
abbrev bodyX (P : Program) (w : World) (K : Fg) (mg : Str → Option Value) (base : Heap) (N : List Str) (qual : Str) (st : Stmt) (f : Addr) (cdv : Value) (A : Around) (outer : List Env) (s : Shared) (H : Hp) (E : XK) : Cx := (cxOf CX0 P w K mg base N qual (defScope st) f cdv A outer s H E).nox
theorem fn_ofG {P : Program} {w : World} {K : Fg} {mg : Str → Option Value} {base : Heap} {x qual : Str} {st : Stmt} {f : Addr} {fd : FuncData} {N ps : List Str} {k : Nat} {sp : Sp} (F : L2.Fun K x qual st f fd) (S : FnScope N ps (defScope st)) (len : ∀ vs H Q E, sp vs H Q E → vs.length = ps.length)
    (body : ∀ (cdv : Value) (A : Around) (outer : List Env) (s : Shared) (H : Hp) (vs : List V) (Q : VK) (E : XK), Room k (A.deeper (envOfC qual (defScope st) s.heap.objs.size f cdv)) → A.guards = some [] → sp vs H Q E →
      ∃ t, PSs (bodyX P w K mg base N qual st f cdv A outer s H E) (defBody st) t ∧ t { nx := fun _ H' => Q .non H', rt := Q } (start N vs) H) : FnG P w K mg base (k + 1) f fd ps sp := by
  obtain ⟨_, _, kV, doc, pm, an, cdv, ct, _, efd, hlook, hcode⟩ := F.ex
  subst efd
  refine ⟨len, fun A outer s H args us vs Q E room guards env0 bound rel prom => ?_⟩
  have long := len _ _ _ _ prom
  have kin : K.In s.heap := env0.mod.kin.keeps fun b o e => (env0.bs b o e).1
  have nolim : s.heap.NoLimit := env0.mod.nolimit.keeps fun b o e => (env0.bs b o e).1
  have kinds : ∀ y ∈ ps.zip us, (defScope st).names.lookup y.1 = some .local ∨ ((defScope st).names.lookup y.1 = some .cell ∧ ((cellsFrom (s.heap.objs.size + 1) (defScope st).names []).lookup y.1).isSome = true) := by
    rintro ⟨n, v⟩ hy
    have hn := S.par n (List.of_mem_zip hy).1
    exact hn.imp id fun q => ⟨q, PySem.W.cellsFrom_some _ _ _ (.inl q)⟩
  refine codeAny_call_function room.depth (kin _ _ hlook) rfl S.co S.gen rfl (PySem.W.codeRec_of kin hcode) (bound _ _ _ _ (wpAny_newFunctionEnv_cells S.kind kinds ?_))
  intro env henv s1 called
  subst henv
  obtain ⟨t, walk, reads⟩ := body cdv A outer s H vs Q E (room.deeper _) guards prom
  have J := inv_start (CX := CX0) (E := E) (mg := mg) (base := base) (P := P) (w := w) (K := K) (qual := qual) (f := f) (cd := cdv) (H := H) S room.hd env0 long rel called
  refine ⟨nolim.keeps called.toInCall.keep, codeAny_func (wpAny_mono (walk.nox.run [] s1 (start N vs) H _ J reads) (fun fl s' ends => ?_) fun e s' z => z)⟩
  have close : ∀ (σ' : L2.St) (H' : Hp) (v : V) (u : Value), Inv (cxOf CX0 P w K mg base N qual (defScope st) f cdv A outer s H E) [] σ' H' s' → RelV v u → Q v H' → CE outer P w H s Q u s' := by
    intro σ' H' v u I' rv q
    exact ⟨v, H', I'.os, I'.bare, I'.base, I'.hok, rv, q⟩
  match fl, ends with
  | .ret u, ⟨v, σ', H', I', rv, q⟩ => exact close σ' H' v u I' rv q
  | .next, ⟨σ', H', I', q⟩ => exact close σ' H' V.non Value.none I' rfl q
  | .brk, ⟨_, _, _, q⟩ => exact q.elim
  | .cont, ⟨_, _, _, q⟩ => exact q.elim

section
variable {X : Cx} {B : Bs} {pos : Pos} {k : Nat} {f : Addr} {fd : FuncData} {ps : List Str} {sp : Sp}
theorem callG {pins : List (Addr × Obj)} {σ : L2.St} {H : Hp} {s : Shared} {Q : VK} {args : Args} {us : List Value} {vs : List V} (F : FnG X.prog X.w X.K X.mg X.base k f fd ps sp) (room : Room k X.A) (guards : X.A.guards = some []) (I : Inv X pins σ H s) (hb : BindsTo s fd args (ps.zip us)) (r : Vals vs us) (h : sp vs H Q E0) :
    codeAny (model X.prog X.w) X.A (.call (.ref f) args) (fun r s' => ∃ u, r = .ok (.ret u) ∧ EP X pins σ Q u s') s := by
  refine codeAny_mono (F.run X.A X.stack s H args us vs Q E0 room guards I.env0 hb r h) fun res s' got => ?_
  match res, got with
  | .error e, z => exact False.elim z
  | .ok (.ret u), z => exact ⟨u, rfl, I.after z⟩
  | .ok .next, z => exact False.elim z
  | .ok .brk, z => exact False.elim z
  | .ok .cont, z => exact False.elim z
/-- the arguments in the parameters' sequence -/
def permL {α : Type} (is : List Nat) (xs : List α) : List α := is.filterMap fun i => xs[i]?
theorem permL_vals {vs : List V} {us : List Value} (r : Vals vs us) : ∀ is : List Nat, Vals (permL is vs) (permL is us)
  | [] => .nil
  | i :: is => by
    have ih := permL_vals r is
    unfold permL
    rw [List.filterMap_cons, List.filterMap_cons]
    cases hv : vs[i]? with
    | none =>
      rw [r.none_of hv]
      exact ih
    | some v =>
      obtain ⟨u, hu, ru⟩ := r.get hv
      rw [hu]
      exact .cons ru ih
/-- how a call's arguments come to the parameters: n by place, the others by the names ks -/
def BindK (K : Fg) (fd : FuncData) (ps : List Str) (n : Nat) (ks : List Str) (is : List Nat) : Prop := ∀ (s : Shared) (us ws : List Value), us.length = n → ws.length = ks.length → BindsTo s fd ⟨us, ks.zip ws⟩ (ps.zip (permL is (us ++ ws)))
theorem bindK_of {K : Fg} {x qual : Str} {st : Stmt} {f : Addr} {fd : FuncData} {ps ks : List Str} {n : Nat} {is : List Nat} (F : L2.Fun K x qual st f fd)
    (h : ∀ (kV doc pm : Value) (an : Option Addr) (cdv ct : Value) (us ws : List Value), us.length = n → ws.length = ks.length → bindArgs (PySem.W.fnOf x qual (defArgs st) (defBody st) (defScope st) .none kV doc pm an cdv ct) ⟨us, ks.zip ws⟩ = pure (ps.zip (permL is (us ++ ws)))) : BindK K fd ps n ks is := by
  obtain ⟨_, _, kV, doc, pm, an, cdv, ct, _, efd, _, _⟩ := F.ex
  subst efd
  exact fun s us ws h1 h2 => .of_eq (h kV doc pm an cdv ct us ws h1 h2)
/-- a call: by place, by names -/
def tCallK (n m : Nat) (sp : Sp) (is : List Nat) (t tk : TA) : TE := fun σ H Q => t σ H fun vs H1 => tk σ H1 fun zs H2 => vs.length = n ∧ zs.length = m ∧ sp (permL is (vs ++ zs)) H2 Q E0
theorem callK_of {pins : List (Addr × Obj)} {σ : L2.St} {H : Hp} {s : Shared} {Q : VK} {n : Nat} {ks : List Str} {is : List Nat} {us ws : List Value} {vs zs : List V} (F : FnG X.prog X.w X.K X.mg X.base k f fd ps sp) (room : Room k X.A) (guards : X.A.guards = some []) (hb : BindK X.K fd ps n ks is) (I : Inv X pins σ H s) (r : Vals vs us) (r2 : Vals zs ws) (l1 : vs.length = n) (l2 : zs.length = ks.length) (h : sp (permL is (vs ++ zs)) H Q E0) :
    wpAny (model X.prog X.w) X.A (call (.ref f) us (ks.zip ws)) (EP X pins σ Q) X.xe s := by
  refine wpAny_call (codeAny_mono (callG F room guards I (hb s us ws (r.length.symm.trans l1) (r2.length.symm.trans l2)) (permL_vals (r.append r2) is) h) ?_)
  rintro res s' ⟨u, rfl, z⟩
  exact z
theorem pe_callK {x : Str} {p : Pos} {n : Nat} {ks : List Str} {is : List Nat} {e : Expr} {es : List Expr} {kws : List Keyword} {t tk : TA} (F : FnG X.prog X.w X.K X.mg X.base k f fd ps sp) (room : Room k X.A) (guards : X.A.guards = some []) (hb : BindK X.K fd ps n ks is) (hg : Gl X x) (hm : X.mg x = some (.ref f)) (hk : PySem.W.keepIn X.K (.ref f) = true)
    (ha : PA X (e :: es) t) (hkw : PK X kws tk) (hall : (backToKw pos (keywordEach kws X.env)).all (·.1.isSome) = true := by rfl) (hks : (backToKw pos (keywordEach kws X.env)).filterMap (·.1) = ks := by rfl) (hdb : (x == ("__debug__" : Str)) = false := by decide) (he : starEach (e :: es) X.env = (false, eval e X.env) :: starEach es X.env := by rfl)
    (hpl : ((backTo pos (starEach (e :: es) X.env)).any (·.1) || (backToKw pos (keywordEach kws X.env)).any (·.1.isNone)) = false := by rfl) : PE X (.Call (.Name x p) (e :: es) kws pos) (tCallK n ks.length sp is t tk) := by
  refine ⟨fun pins s σ H Q I h => wpAny_Call_Name_kw (ld_glob I hg hm ?_ hdb)⟩
  refine PySem.W.callWith_KW (h₀ := X.base) I.ok.mod.kin hk hall (thn (ha.run pos pins s σ H _ I h) ?_) hpl he
  rintro us s1 ⟨vs, H1, I1, r1, q1⟩
  refine thn (hkw.run pos pins s1 σ H1 _ I1 q1) ?_
  rintro ws s2 ⟨zs, H2, I2, r2, l1, l2, q2⟩
  rw [hks]
  exact ⟨I2.kIn, callK_of F room guards hb I2 r1 r2 l1 l2 q2⟩
theorem pe_callK0 {x : Str} {p : Pos} {ks : List Str} {is : List Nat} {kws : List Keyword} {tk : TA} (F : FnG X.prog X.w X.K X.mg X.base k f fd ps sp) (room : Room k X.A) (guards : X.A.guards = some []) (hb : BindK X.K fd ps 0 ks is) (hg : Gl X x) (hm : X.mg x = some (.ref f)) (hk : PySem.W.keepIn X.K (.ref f) = true)
    (hkw : PK X kws tk) (hall : (backToKw pos (keywordEach kws X.env)).all (·.1.isSome) = true := by rfl) (hks : (backToKw pos (keywordEach kws X.env)).filterMap (·.1) = ks := by rfl) (hdb : (x == ("__debug__" : Str)) = false := by decide)
    (hpl : ((backTo pos (starEach [] X.env)).any (·.1) || (backToKw pos (keywordEach kws X.env)).any (·.1.isNone)) = false := by rfl) : PE X (.Call (.Name x p) [] kws pos) (tCallK 0 ks.length sp is tNil tk) := by
  refine ⟨fun pins s σ H Q I h => wpAny_Call_Name_kw (ld_glob I hg hm ?_ hdb)⟩
  refine PySem.W.callWith_KW0 (h₀ := X.base) I.ok.mod.kin hk hall (thn (hkw.run pos pins s σ H _ I h) ?_) hpl
  rintro ws s2 ⟨zs, H2, I2, r2, l1, l2, q2⟩
  rw [hks]
  exact ⟨I2.kIn, callK_of (us := []) F room guards hb I2 .nil r2 l1 l2 q2⟩
/-- keywords' values -/
abbrev DK (X : Cx) (B : Bs) (kws : List Keyword) (f : Me (List Val)) : Prop := PK X kws (taOf X.K B f)
theorem dk_nil : DK X B [] nilA := ⟨fun pos pins s σ H Q I h => pk_nil.run pos pins s σ H Q I (by
  obtain ⟨G, δ, r, δ', R, e, z⟩ := h
  cases e
  exact z [] G H (Same.refl _) R .nil)⟩
theorem dk_cons {nm : Option Str} {kpos : Pos} {e : Expr} {kws : List Keyword} {g : Me Val} {h : Me (List Val)} (ha : DE X B e g) (hr : DK X B kws h) : DK X B (⟨nm, e, kpos⟩ :: kws) (consA g h) := ⟨fun pos pins s σ H Q I q => (pk_cons ha hr).run pos pins s σ H Q I (by
  obtain ⟨G, δ, r, δ', R, e, z⟩ := q
  obtain ⟨x, δ1, e1, e⟩ := mb_some e
  obtain ⟨xs, δ2, e2, e⟩ := mb_some e
  cases e
  refine ⟨G, δ, x, δ1, R, e1, fun v G1 H1 s1 R1 v1 => ?_⟩
  obtain ⟨G1', s1', R1', v1'⟩ := v1.freeze R1
  refine ⟨G1', δ1, xs, _, R1', e2, fun vs G2 H2 s2 R2 v2 => ?_⟩
  exact z (v :: vs) G2 H2 ((s1.trans s1').trans s2) R2 (.cons (RV.stay s2 v1') v2))⟩

/-! ### promises by functions of trees -/
/-- hands back F of the arguments, changes nothing that stood -/
def spF (K : Fg) (n : Nat) (F : List D → Option Val) : Sp := fun vs H Q _ => ∃ (G : Hp) (ds : List D) (r : Val), vs.length = n ∧ Same G H ∧ TrAll K G vs ds ∧ F ds = some r ∧ ∀ v G' H', Ex G H G' H' → RO K G' H H' v r → Q v H'
/-- .. and changes its first argument, a list of the caller's own -/
def spI (K : Fg) (n : Nat) (F : D → List D → Option (Val × D)) : Sp := fun vs H Q _ => ∃ (G : Hp) (a : Addr) (vr : List V) (d : D) (ds : List D) (r : Val) (d' : D), vs.length = n ∧ vs = .ref a :: vr ∧ Same G H ∧ G a = none ∧ Root K G H a d ∧ TrAll K G vr ds ∧ F d ds = some (r, d') ∧
  ∀ v G' H', Same G G' → Same G' H' → (∀ b o, G' b = some o → G b = none → H b = none) → (∀ b o, H b = some o → b ≠ a → H' b = some o) → G' a = none → Root K G' H' a d' → RO K G' H H' v r → Q v H'
def callP (is : List Nat) (F : List D → Option Val) (fa fk : Me (List Val)) : Me Val := mb fa fun xs => mb fk fun ys => mo fun δ => match fzs (xs ++ ys) with
  | some ds => F (permL is ds)
  | none => none
theorem fzs_append : ∀ {xs ys : List Val} {ds : List D}, fzs (xs ++ ys) = some ds → ∃ as bs, fzs xs = some as ∧ fzs ys = some bs ∧ ds = as ++ bs
  | [], _, _, h => ⟨[], _, rfl, h, rfl⟩
  | .sl _ :: _, _, _, h => by cases h
  | .fz d :: r, _, _, h => by
    obtain ⟨es, e1, h⟩ := Option.bind_eq_some_iff.mp h
    cases h
    obtain ⟨as, bs, e2, e3, rfl⟩ := fzs_append e1
    exact ⟨d :: as, bs, by unfold fzs; rw [e2]; rfl, e3, rfl⟩
  | .ow d :: r, _, _, h => by
    obtain ⟨es, e1, h⟩ := Option.bind_eq_some_iff.mp h
    cases h
    obtain ⟨as, bs, e2, e3, rfl⟩ := fzs_append e1
    exact ⟨d :: as, bs, by unfold fzs; rw [e2]; rfl, e3, rfl⟩
theorem permL_tr {K : Fg} {G : Hp} {vs : List V} {ds : List D} (t : TrAll K G vs ds) : ∀ is : List Nat, TrAll K G (permL is vs) (permL is ds)
  | [] => .nil
  | i :: is => by
    have ih := permL_tr t is
    unfold permL
    rw [List.filterMap_cons, List.filterMap_cons]
    cases hv : vs[i]? with
    | none =>
      have : ds[i]? = none := by
        have := t.len
        rw [List.getElem?_eq_none_iff] at hv ⊢
        omega
      rw [this]
      exact ih
    | some v =>
      obtain ⟨u, hu, ru⟩ := t.getV hv
      rw [hu]
      exact .cons ru ih
/-- so many values -/
def LenA (fa : Me (List Val)) (n : Nat) : Prop := ∀ δ xs δ', fa δ = some (xs, δ') → xs.length = n
theorem lenA_nil : LenA nilA 0 := fun δ xs δ' h => by cases h; rfl
theorem lenA_cons {f : Me Val} {g : Me (List Val)} {n : Nat} (h : LenA g n) : LenA (consA f g) (n + 1) := fun δ xs δ' e => by
  obtain ⟨x, δ1, e1, e⟩ := mb_some e
  obtain ⟨ys, δ2, e2, e⟩ := mb_some e
  cases e
  rw [List.length_cons, h _ _ _ e2]
theorem callP_of {K : Fg} {n m q : Nat} {is : List Nat} {F : List D → Option Val} {fa fk : Me (List Val)} (hn : LenA fa n) (hm : LenA fk m) (hq : ∀ {α : Type} (xs : List α), xs.length = n + m → (permL is xs).length = q) : ∀ σ H Q, tOf K B (callP is F fa fk) σ H Q → tCallK n m (spF K q F) is (taOf K B fa) (taOf K B fk) σ H Q := by
  intro σ H Q hz
  obtain ⟨G, δ, res, δ', R, e, z⟩ := hz
  obtain ⟨xs, δ1, e1, e⟩ := mb_some e
  obtain ⟨ys, δ2, e2, e⟩ := mb_some e
  obtain ⟨e3, rfl⟩ := mo_some e
  refine ⟨G, δ, xs, δ1, R, e1, fun vs G1 H1 s1 R1 v1 => ⟨G1, δ1, ys, _, R1, e2, fun ws G2 H2 s2 R2 v2 => ?_⟩⟩
  split at e3
  · rename_i ds hd
    obtain ⟨as, bs, f1, f2, rfl⟩ := fzs_append hd
    have t1 := (v1.stay (B := B) (G' := G2) (H' := H2) (δ' := δ') s2).trees f1
    have t2 := v2.trees f2
    have l1 : vs.length = n := v1.length.trans (hn _ _ _ e1)
    have l2 : ws.length = m := v2.length.trans (hm _ _ _ e2)
    exact ⟨l1, l2, G2, _, res, hq _ (by rw [List.length_append, l1, l2]), R2.same, permL_tr (t1.append t2) is, e3, fun v G' H' x ro => z v G' H' ((s1.trans s2).trans x.g) (R2.ex x) (ro.rv R2)⟩
  · cases e3
theorem de_call {x : Str} {p : Pos} {q : Nat} {e : Expr} {es : List Expr} {F : List D → Option Val} {fa : Me (List Val)} {n : Nat} {ks : List Str} {is : List Nat} {kws : List Keyword} {fk : Me (List Val)} (Fn : FnG X.prog X.w X.K X.mg X.base k f fd ps (spF X.K q F)) (room : Room k X.A) (guards : X.A.guards = some []) (hb : BindK X.K fd ps n ks is) (hg : Gl X x) (hm : X.mg x = some (.ref f)) (hk : PySem.W.keepIn X.K (.ref f) = true)
    (ha : DA X B (e :: es) fa) (hkw : DK X B kws fk) (hn : LenA fa n) (hl : LenA fk ks.length) (hq : ∀ {α : Type} (xs : List α), xs.length = n + ks.length → (permL is xs).length = q) (hall : (backToKw pos (keywordEach kws X.env)).all (·.1.isSome) = true := by rfl) (hks : (backToKw pos (keywordEach kws X.env)).filterMap (·.1) = ks := by rfl) (hdb : (x == ("__debug__" : Str)) = false := by decide) (he : starEach (e :: es) X.env = (false, eval e X.env) :: starEach es X.env := by rfl)
    (hpl : ((backTo pos (starEach (e :: es) X.env)).any (·.1) || (backToKw pos (keywordEach kws X.env)).any (·.1.isNone)) = false := by rfl) : DE X B (.Call (.Name x p) (e :: es) kws pos) (callP is F fa fk) :=
  PE.weak (pe_callK Fn room guards hb hg hm hk ha hkw hall hks hdb he hpl) (callP_of hn hl hq)
theorem de_call0 {x : Str} {p : Pos} {q : Nat} {F : List D → Option Val} {ks : List Str} {is : List Nat} {kws : List Keyword} {fk : Me (List Val)} (Fn : FnG X.prog X.w X.K X.mg X.base k f fd ps (spF X.K q F)) (room : Room k X.A) (guards : X.A.guards = some []) (hb : BindK X.K fd ps 0 ks is) (hg : Gl X x) (hm : X.mg x = some (.ref f)) (hk : PySem.W.keepIn X.K (.ref f) = true)
    (hkw : DK X B kws fk) (hl : LenA fk ks.length) (hq : ∀ {α : Type} (xs : List α), xs.length = 0 + ks.length → (permL is xs).length = q) (hall : (backToKw pos (keywordEach kws X.env)).all (·.1.isSome) = true := by rfl) (hks : (backToKw pos (keywordEach kws X.env)).filterMap (·.1) = ks := by rfl) (hdb : (x == ("__debug__" : Str)) = false := by decide)
    (hpl : ((backTo pos (starEach [] X.env)).any (·.1) || (backToKw pos (keywordEach kws X.env)).any (·.1.isNone)) = false := by rfl) : DE X B (.Call (.Name x p) [] kws pos) (callP is F nilA fk) :=
  PE.weak (pe_callK0 Fn room guards hb hg hm hk hkw hall hks hdb hpl) fun σ H Q h => by
    refine callP_of (n := 0) lenA_nil hl hq σ H Q h |> fun z => ?_
    obtain ⟨G, δ, xs, δ1, R, e1, z⟩ := z
    cases e1
    exact z [] G H (Same.refl _) R .nil
end
end DL
end
section
set_option maxRecDepth 100000
set_option maxHeartbeats 4000000
namespace DL
open PySem PySem.Spec L2
open PyProof.Rows hiding St

section
variable {X : Cx} {B : Bs} {pos : Pos} {k : Nat} {f : Addr} {fd : FuncData} {ps : List Str} {sp : Sp}
/-! ### a call that reads lists of one's own and hands back what is flat -/
def bors (δ : DS) : List Val → Option (List D)
  | [] => some []
  | .fz d :: rs => (bors δ rs).bind fun ds => some (d :: ds)
  | .ow d :: rs => (bors δ rs).bind fun ds => some (d :: ds)
  | .sl i :: rs => match δ[i]? with
    | some (.own _ d) => (bors δ rs).bind fun ds => some (d :: ds)
    | _ => none
open Classical in
/-- the roots of one's own lists lent -/
noncomputable def lent (G H : Hp) (δ : DS) (σ : L2.St) : Hp := fun a => if (∃ (i : Nat) (b : Bool) (d : D), δ[i]? = some (.own b d) ∧ σ[i]? = some (some (V.ref a))) then H a else G a
theorem lent_g {K : Fg} {G H : Hp} {δ : DS} {σ : L2.St} (R : RelS K B G H δ σ) : Same G (lent G H δ σ) := fun a o e => by
  unfold lent
  split
  · exact R.same _ _ e
  · exact e
theorem lent_h {K : Fg} {G H : Hp} {δ : DS} {σ : L2.St} (R : RelS K B G H δ σ) : Same (lent G H δ σ) H := fun a o e => by
  unfold lent at e
  split at e
  · exact e
  · exact R.same _ _ e
theorem lent_tr {K : Fg} {G H : Hp} {δ : DS} {σ : L2.St} (R : RelS K B G H δ σ) {i : Nat} {b : Bool} {d : D} {v : V} (q : δ[i]? = some (.own b d)) (z : σ[i]? = some (some v)) : Tr K (lent G H δ σ) v d := by
  obtain ⟨a, e1, n, m, r⟩ := R.own i b d q
  rw [e1] at z
  cases z
  have hl : lent G H δ σ a = H a := by
    unfold lent
    rw [if_pos ⟨i, b, d, q, e1⟩]
  cases r with
  | lst x y => exact .lst (hl.trans x) (TrAll.mono (lent_g R) y)
  | dic x y => exact .dic (hl.trans x) (TrKV.mono (lent_g R) y)
theorem RVs.lent {K : Fg} {G H : Hp} {δ : DS} {σ : L2.St} (R : RelS K B G H δ σ) : ∀ {vs : List V} {rs : List Val} {ds : List D}, RVs K B G H δ σ vs rs → bors δ rs = some ds → TrAll K (DL.lent G H δ σ) vs ds
  | _, _, _, .nil, h => by cases h; exact .nil
  | _, _, _, .cons (b := r) a b, h => by
    cases r with
    | fz d =>
      obtain ⟨es, h2, h⟩ := Option.bind_eq_some_iff.mp h
      cases h
      exact .cons (Tr.mono (lent_g R) a) (RVs.lent R b h2)
    | ow d =>
      obtain ⟨es, h2, h⟩ := Option.bind_eq_some_iff.mp h
      cases h
      exact .cons (Tr.mono (lent_g R) a) (RVs.lent R b h2)
    | sl i =>
      unfold bors at h
      split at h
      · rename_i b' d q
        obtain ⟨es, h2, h⟩ := Option.bind_eq_some_iff.mp h
        cases h
        exact .cons (lent_tr R q a) (RVs.lent R b h2)
      · cases h
def flatV : Val → Bool
  | .fz d => flat d
  | _ => false
def callL (is : List Nat) (F : List D → Option Val) (fa : Me (List Val)) : Me Val := mb fa fun xs => mo fun δ => (bors δ xs).bind fun ds => (F (permL is ds)).bind fun r => if flatV r then some r else none
theorem callL_of {K : Fg} {n q : Nat} {is : List Nat} {F : List D → Option Val} {fa : Me (List Val)} (hn : LenA fa n) (hq : ∀ {α : Type} (xs : List α), xs.length = n → (permL is xs).length = q) : ∀ σ H Q, tOf K B (callL is F fa) σ H Q → tCallK n 0 (spF K q F) is (taOf K B fa) tNil σ H Q := by
  intro σ H Q hz
  obtain ⟨G, δ, res, δ', R, e, z⟩ := hz
  obtain ⟨xs, δ1, e1, e⟩ := mb_some e
  obtain ⟨e3, rfl⟩ := mo_some e
  obtain ⟨ds, e4, e3⟩ := Option.bind_eq_some_iff.mp e3
  obtain ⟨r, e5, e3⟩ := Option.bind_eq_some_iff.mp e3
  obtain ⟨hf, rfl⟩ := ite_some e3
  refine ⟨G, δ, xs, _, R, e1, fun vs G1 H1 s1 R1 v1 => ?_⟩
  have t1 := v1.lent R1 e4
  have l1 : vs.length = n := v1.length.trans (hn _ _ _ e1)
  refine ⟨l1, rfl, lent G1 H1 δ' σ, permL is ds, r, ?_, lent_h R1, ?_, e5, fun v G' H' x ro => ?_⟩
  · rw [List.append_nil]
    exact hq _ l1
  · rw [List.append_nil]
    exact permL_tr t1 is
  · cases r with
    | fz d =>
      have x2 : Ex G1 H1 G1 H' := ⟨Same.refl _, R1.same.trans x.h, x.h, fun a o h n => by rw [h] at n; cases n⟩
      exact z v G1 H' s1 (R1.ex x2) (Tr.flat ro hf)
    | ow d => cases hf
    | sl d => cases hf
theorem de_callL {x : Str} {p : Pos} {q n : Nat} {e : Expr} {es : List Expr} {F : List D → Option Val} {fa : Me (List Val)} {is : List Nat} (Fn : FnG X.prog X.w X.K X.mg X.base k f fd ps (spF X.K q F)) (room : Room k X.A) (guards : X.A.guards = some []) (hb : BindK X.K fd ps n [] is) (hg : Gl X x) (hm : X.mg x = some (.ref f)) (hk : PySem.W.keepIn X.K (.ref f) = true)
    (ha : DA X B (e :: es) fa) (hn : LenA fa n) (hq : ∀ {α : Type} (xs : List α), xs.length = n → (permL is xs).length = q) (hall : (backToKw pos (keywordEach [] X.env)).all (·.1.isSome) = true := by rfl) (hks : (backToKw pos (keywordEach [] X.env)).filterMap (·.1) = [] := by rfl) (hdb : (x == ("__debug__" : Str)) = false := by decide) (he : starEach (e :: es) X.env = (false, eval e X.env) :: starEach es X.env := by rfl)
    (hpl : ((backTo pos (starEach (e :: es) X.env)).any (·.1) || (backToKw pos (keywordEach [] X.env)).any (·.1.isNone)) = false := by rfl) : DE X B (.Call (.Name x p) (e :: es) [] pos) (callL is F fa) :=
  PE.weak (pe_callK Fn room guards hb hg hm hk ha pk_nil hall hks hdb he hpl) (callL_of hn hq)

/-! ### a call that changes the caller's own list, its first argument -/
def callI (F : D → List D → Option (Val × D)) (fa : Me (List Val)) : Me Val := mb fa fun xs => fun δ => match xs with
  | .sl j :: rs => (match δ[j]? with
    | some (.own b d) => (fzs rs).bind fun ds => (F d ds).bind fun p => some (p.1, δ.set j (.own b p.2))
    | _ => none)
  | _ => none
theorem callI_of {K : Fg} {n : Nat} {is : List Nat} {F : D → List D → Option (Val × D)} {fa : Me (List Val)} (hn : LenA fa n) (hq : ∀ {α : Type} (xs : List α), xs.length = n → permL is xs = xs) : ∀ σ H Q, tOf K B (callI F fa) σ H Q → tCallK n 0 (spI K n F) is (taOf K B fa) tNil σ H Q := by
  intro σ H Q hz
  obtain ⟨G, δ, res, δ', R, e, z⟩ := hz
  obtain ⟨xs, δ1, e1, e⟩ := mb_some e
  split at e
  · rename_i j rs
    split at e
    · rename_i b d q
      obtain ⟨ds, e2, e⟩ := Option.bind_eq_some_iff.mp e
      obtain ⟨⟨r, d'⟩, e3, e⟩ := Option.bind_eq_some_iff.mp e
      cases e
      refine ⟨G, δ, _, δ1, R, e1, fun vs G1 H1 s1 R1 v1 => ?_⟩
      have l1 : vs.length = n := v1.length.trans (hn _ _ _ e1)
      cases v1 with
      | @cons v _ vr _ a br =>
        obtain ⟨ad, f1, f2, f3, f4⟩ := R1.own j b d q
        have a : σ[j]? = some (some v) := a
        rw [f1] at a
        cases a
        refine ⟨l1, rfl, ?_⟩
        rw [List.append_nil, hq _ l1]
        refine ⟨G1, ad, vr, d, ds, r, d', l1, rfl, R1.same, f2, f4, RVs.trees br e2, e3, fun v G' H' sg sgh hnw hfr hga hrt ro => ?_⟩
        have hl : j < δ1.length := (List.getElem?_eq_some_iff.mp q).1
        have other : ∀ {s' : Sl} {i : Nat}, (δ1.set j (.own b d'))[i]? = some s' → (i = j ∧ s' = .own b d') ∨ (i ≠ j ∧ δ1[i]? = some s') := fun {s' i} y => by
          by_cases hj : i = j
          · subst hj
            rw [List.getElem?_set_self hl] at y
            exact .inl ⟨rfl, (Option.some.inj y).symm⟩
          · rw [List.getElem?_set_ne (Ne.symm hj)] at y
            exact .inr ⟨hj, y⟩
        have haS : ∃ o, H1 ad = some o := f4.ex
        have R' : RelS K B G' H' (δ1.set j (.own b d')) σ := by
          refine ⟨by rw [List.length_set]; exact R1.len, sgh, R1.g0.trans sg, fun c o y m => ?_, fun c o y hio hlo => ?_, fun c o y => ?_, R1.iod, fun i e y => ?_, fun i b' e y => ?_, fun i k b1 b2 c e e' y1 y2 w1 w2 => ?_⟩
          · cases hc : G1 c with
            | some u => exact R1.nw c u hc m
            | none => exact .inl (R1.none0 (hnw c o y hc))
          · have hc : c ≠ ad := fun w => by
              subst w
              cases b with
              | true => exact hio (j, c) f3 rfl
              | false =>
                rcases (show B.H0 c = none ∨ B.lo c from f3) with m' | m'
                · rw [m'] at y
                  cases y
                · exact hlo m'
            exact hfr c o (R1.frame c o y hio hlo) hc
          · obtain ⟨o', y'⟩ := R1.dom c o y
            by_cases hc : c = ad
            · subst hc
              exact hrt.ex
            · exact ⟨o', hfr c o' y' hc⟩
          · rcases other y with ⟨_, w⟩ | ⟨_, y'⟩
            · cases w
            · obtain ⟨u, g1, g2⟩ := R1.dat i e y'
              exact ⟨u, g1, Tr.mono sg g2⟩
          · rcases other y with ⟨hj, w⟩ | ⟨hj, y'⟩
            · cases w
              rw [hj]
              exact ⟨ad, f1, hga, f3, hrt⟩
            · obtain ⟨c, g1, g2, g3, g4⟩ := R1.own i b' e y'
              have hc : c ≠ ad := fun w => by
                subst w
                exact hj (R1.inj i j b' b c e d y' q g1 f1)
              refine ⟨c, g1, ?_, g3, Root.mono sg (fun o w => hfr c o w hc) g4⟩
              cases hg : G' c with
              | none => rfl
              | some o =>
                obtain ⟨o', w⟩ := g4.ex
                rw [hnw c o hg g2] at w
                cases w
          · rcases other y1 with ⟨hi, w⟩ | ⟨hi, y1'⟩
            · rcases other y2 with ⟨hk, w'⟩ | ⟨hk, y2'⟩
              · rw [hi, hk]
              · subst hi
                exact R1.inj i k b b2 c d _ q y2' w1 w2
            · rcases other y2 with ⟨hk, w'⟩ | ⟨hk, y2'⟩
              · subst hk
                exact R1.inj i k b1 b c _ d y1' q w1 w2
              · exact R1.inj i k b1 b2 c _ _ y1' y2' w1 w2
        refine z v G' H' (s1.trans sg) R' ?_
        cases r with
        | fz c => exact ro
        | sl i => exact ro.elim
        | ow c =>
          obtain ⟨p, rfl, n1, n2, rt⟩ := ro
          refine ⟨p, rfl, n2, .inl (R1.none0 n1), rt, fun i b' e y w => ?_⟩
          have some1 : ∃ o, H1 p = some o := by
            rcases other y with ⟨hj, _⟩ | ⟨hj, y'⟩
            · rw [hj] at w
              rw [f1] at w
              cases w
              exact haS
            · obtain ⟨c', g1, _, _, g4⟩ := R1.own i b' e y'
              rw [g1] at w
              cases w
              exact g4.ex
          obtain ⟨o, w⟩ := some1
          rw [n1] at w
          cases w
    · cases e
  · cases e
theorem de_callI {x : Str} {p : Pos} {n : Nat} {e : Expr} {es : List Expr} {F : D → List D → Option (Val × D)} {fa : Me (List Val)} {is : List Nat} (Fn : FnG X.prog X.w X.K X.mg X.base k f fd ps (spI X.K n F)) (room : Room k X.A) (guards : X.A.guards = some []) (hb : BindK X.K fd ps n [] is) (hg : Gl X x) (hm : X.mg x = some (.ref f)) (hk : PySem.W.keepIn X.K (.ref f) = true)
    (ha : DA X B (e :: es) fa) (hn : LenA fa n) (hq : ∀ {α : Type} (xs : List α), xs.length = n → permL is xs = xs) (hall : (backToKw pos (keywordEach [] X.env)).all (·.1.isSome) = true := by rfl) (hks : (backToKw pos (keywordEach [] X.env)).filterMap (·.1) = [] := by rfl) (hdb : (x == ("__debug__" : Str)) = false := by decide) (he : starEach (e :: es) X.env = (false, eval e X.env) :: starEach es X.env := by rfl)
    (hpl : ((backTo pos (starEach (e :: es) X.env)).any (·.1) || (backToKw pos (keywordEach [] X.env)).any (·.1.isNone)) = false := by rfl) : DE X B (.Call (.Name x p) (e :: es) [] pos) (callI F fa) :=
  PE.weak (pe_callK Fn room guards hb hg hm hk ha pk_nil hall hks hdb he hpl) (callI_of hn hq)
/-- .. a list that was just made, as the one argument -/
def callO (F : D → List D → Option (Val × D)) (g : Me Val) : Me Val := mb g fun x => fun δ => match x with
  | .ow d => (F d []).bind fun p => if flatV p.1 then some (p.1, δ) else none
  | _ => none
theorem de_callO {x : Str} {p : Pos} {e : Expr} {F : D → List D → Option (Val × D)} {g : Me Val} {is : List Nat} (Fn : FnG X.prog X.w X.K X.mg X.base k f fd ps (spI X.K 1 F)) (room : Room k X.A) (guards : X.A.guards = some []) (hb : BindK X.K fd ps 1 [] is) (hg : Gl X x) (hm : X.mg x = some (.ref f)) (hk : PySem.W.keepIn X.K (.ref f) = true)
    (ha : DE X B e g) (hq : ∀ {α : Type} (xs : List α), xs.length = 1 → permL is xs = xs) (hall : (backToKw pos (keywordEach [] X.env)).all (·.1.isSome) = true := by rfl) (hks : (backToKw pos (keywordEach [] X.env)).filterMap (·.1) = [] := by rfl) (hdb : (x == ("__debug__" : Str)) = false := by decide) (he : starEach [e] X.env = (false, eval e X.env) :: starEach [] X.env := by rfl)
    (hpl : ((backTo pos (starEach [e] X.env)).any (·.1) || (backToKw pos (keywordEach [] X.env)).any (·.1.isNone)) = false := by rfl) : DE X B (.Call (.Name x p) [e] [] pos) (callO F g) :=
  PE.weak (pe_callK Fn room guards hb hg hm hk (pa_cons ha pa_nil he) pk_nil hall hks hdb he hpl) fun σ H Q h => by
    obtain ⟨G, δ, res, δ', R, e, z⟩ := h
    obtain ⟨y, δ1, e1, e⟩ := mb_some e
    split at e
    · rename_i d
      obtain ⟨⟨r, d'⟩, e3, e⟩ := Option.bind_eq_some_iff.mp e
      obtain ⟨hf, e⟩ := ite_some e
      cases e
      cases r with
      | fz c =>
        refine ⟨G, δ, _, _, R, e1, fun v G1 H1 s1 R1 v1 => ?_⟩
        obtain ⟨a, rfl, n, n0, rt, u⟩ := v1
        refine ⟨rfl, rfl, ?_⟩
        rw [List.append_nil, hq _ rfl]
        refine ⟨G1, a, [], d, [], .fz c, d', rfl, rfl, R1.same, n, rt, .nil, e3, fun v G' H' sg sgh hnw hfr hga hrt ro => ?_⟩
        have R' : RelS X.K B G' H' δ' σ := by
          refine ⟨R1.len, sgh, R1.g0.trans sg, fun c o y m => ?_, fun c o y hio hlo => ?_, fun c o y => ?_, R1.iod, fun i e y => ?_, fun i b' e y => ?_, R1.inj⟩
          · cases hc : G1 c with
            | some u => exact R1.nw c u hc m
            | none => exact .inl (R1.none0 (hnw c o y hc))
          · have hc : c ≠ a := fun w => by
              subst w
              rcases n0 with m' | m'
              · rw [m'] at y
                cases y
              · exact hlo m'
            exact hfr c o (R1.frame c o y hio hlo) hc
          · obtain ⟨o', y'⟩ := R1.dom c o y
            by_cases hc : c = a
            · subst hc
              exact hrt.ex
            · exact ⟨o', hfr c o' y' hc⟩
          · obtain ⟨u, g1, g2⟩ := R1.dat i e y
            exact ⟨u, g1, Tr.mono sg g2⟩
          · obtain ⟨c, g1, g2, g3, g4⟩ := R1.own i b' e y
            have hc : c ≠ a := fun w => u i b' e y (w ▸ g1)
            refine ⟨c, g1, ?_, g3, Root.mono sg (fun o w => hfr c o w hc) g4⟩
            cases hg : G' c with
            | none => rfl
            | some o =>
              obtain ⟨o', w⟩ := g4.ex
              rw [hnw c o hg g2] at w
              cases w
        exact z v G' H' (s1.trans sg) R' ro
      | ow c => cases hf
      | sl c => cases hf
    · cases e
end

/-! ### a def's promise from its body -/
def startD (n : Nat) (ds : List D) : DS := ds.map .dat ++ List.replicate (n - ds.length) .un
def endV : Option (Fl × DS) → Option Val
  | some (.rt (.fz d), _) => some (.fz d)
  | some (.rt (.ow d), _) => some (.ow d)
  | some (.nx, _) => some (.fz .none)
  | _ => none
/-- what a def of n slots hands back -/
def bodyF (n : Nat) (g : Ss) : List D → Option Val := fun ds => endV (g (startD n ds))
theorem startD_get {K : Fg} {G : Hp} {vs : List V} {ds : List D} (t : TrAll K G vs ds) {N : List Str} {i : Nat} {s : Sl} (q : (startD N.length ds)[i]? = some s) : s = .un ∨ ∃ d v, s = .dat d ∧ (L2.start N vs)[i]? = some (some v) ∧ Tr K G v d := by
  unfold startD at q
  by_cases hi : i < ds.length
  · rw [List.getElem?_append_left (by simpa using hi), List.getElem?_map] at q
    obtain ⟨d, hd, rfl⟩ := Option.map_eq_some_iff.mp q
    obtain ⟨v, hv, tv⟩ := t.get hd
    refine .inr ⟨d, v, rfl, ?_, tv⟩
    unfold L2.start
    rw [List.getElem?_append_left (by rw [List.length_map, t.len]; exact hi), List.getElem?_map, hv]
    rfl
  · rw [List.getElem?_append_right (by simpa using hi), List.getElem?_replicate] at q
    split at q
    · exact .inl (Option.some.inj q).symm
    · cases q
theorem relS_start {K : Fg} {G H : Hp} {vs : List V} {ds : List D} (s : Same G H) (t : TrAll K G vs ds) (N : List Str) : RelS K ⟨G, H, [], fun _ => False⟩ G H (startD N.length ds) (L2.start N vs) where
  len := by
    unfold startD L2.start
    rw [List.length_append, List.length_append, List.length_map, List.length_map, List.length_replicate, List.length_replicate, t.len]
  same := s
  g0 := Same.refl _
  nw := fun a o e n => by
    have n : G a = none := n
    rw [n] at e
    cases e
  frame := fun _ _ e _ _ => e
  dom := fun _ o e => ⟨o, e⟩
  iod := fun p hp => by cases hp
  dat := fun i d q => by
    rcases startD_get t q with h | ⟨d', v, h, e, tv⟩
    · cases h
    · cases h
      exact ⟨v, e, tv⟩
  own := fun i b d q => by
    rcases startD_get t q with h | ⟨d', v, h, e, tv⟩ <;> cases h
  inj := fun i j b b' a d d' q => by
    rcases startD_get t q with h | ⟨d', v, h, e, tv⟩ <;> cases h
theorem RelS.exit {K : Fg} {G H G' H' : Hp} {δ : DS} {σ : L2.St} (R : RelS K ⟨G, H, [], fun _ => False⟩ G' H' δ σ) : Ex G H G' H' :=
  ⟨R.g0, R.same, fun b o e => R.frame b o e (fun p hp => by cases hp) id, fun a o e n => (R.nw a o e n).resolve_right id⟩
section
variable {P : Program} {w : World} {K : Fg} {mg : Str → Option Value} {base : Heap} {x qual : Str} {st : Stmt} {f : Addr} {fd : FuncData} {N ps : List Str} {k : Nat}
theorem ok_def {g : Ss} {n q : Nat} (hn : N.length = n) (hq : ps.length = q) (F : L2.Fun K x qual st f fd) (S : FnScope N ps (defScope st))
    (body : ∀ (B : Bs) (cdv : Value) (A : Around) (outer : List Env) (s : Shared) (H : Hp) (E : XK), Room k (A.deeper (envOfC qual (defScope st) s.heap.objs.size f cdv)) → (A.deeper (envOfC qual (defScope st) s.heap.objs.size f cdv)).guards = some [] →
      SB (bodyX P w K mg base N qual st f cdv A outer s H E) B (defBody st) g) : FnG P w K mg base (k + 1) f fd ps (spF K q (bodyF n g)) := by
  subst hn hq
  refine fn_ofG F S (fun vs H Q E h => ?_) fun cdv A outer s H vs Q E hr hgd h => ?_
  · obtain ⟨G, ds, r, hl, _⟩ := h
    exact hl
  · obtain ⟨G, ds, r, hl, sg, t, e, z⟩ := h
    have hb := body ⟨G, H, [], fun _ => False⟩ cdv A outer s H E hr hgd
    refine ⟨_, hb, ?_⟩
    have R0 := relS_start sg t N
    unfold bodyF at e
    cases hg : g (startD N.length ds) with
    | none => rw [hg] at e; cases e
    | some p =>
      obtain ⟨fl, δ'⟩ := p
      rw [hg] at e
      refine ⟨G, startD N.length ds, fl, δ', R0, hg, fun σ' G' H' s' R' => ?_⟩
      have x := R'.exit
      cases fl with
      | nx =>
        cases e
        exact z .non G' H' x .non
      | bk => cases e
      | ct => cases e
      | rt v =>
        intro u hv
        cases v with
        | fz d =>
          cases e
          exact z u G' H' x hv
        | ow d =>
          cases e
          obtain ⟨a, rfl, n, n0, rt, _⟩ := hv
          exact z _ G' H' x ⟨a, rfl, n0.resolve_right id, n, rt⟩
        | sl i => cases e
/-- the same for a def that changes its first argument -/
def ioAt (δ : DS) : Option D := match δ[0]? with
  | some (Sl.own true d) => some d
  | _ => none
theorem ioAt_some {δ : DS} {d : D} (h : ioAt δ = some d) : δ[0]? = some (Sl.own true d) := by
  unfold ioAt at h
  split at h
  · rename_i q
    cases h
    exact q
  · cases h
def startI (n : Nat) (d : D) (ds : List D) : DS := .own true d :: startD (n - 1) ds
def bodyI (n : Nat) (g : Ss) : D → List D → Option (Val × D) := fun d ds => match g (startI n d ds) with
  | some (fl, δ) => (endV (some (fl, δ))).bind fun r => (ioAt δ).bind fun d' => some (r, d')
  | none => none
theorem ok_defI {g : Ss} {n q : Nat} {y : Str} {ys : List Str} (hN : N = y :: ys) (hn : N.length = n) (hq : ps.length = q) (F : L2.Fun K x qual st f fd) (S : FnScope N ps (defScope st))
    (body : ∀ (B : Bs) (cdv : Value) (A : Around) (outer : List Env) (s : Shared) (H : Hp) (E : XK), Room k (A.deeper (envOfC qual (defScope st) s.heap.objs.size f cdv)) → (A.deeper (envOfC qual (defScope st) s.heap.objs.size f cdv)).guards = some [] →
      SB (bodyX P w K mg base N qual st f cdv A outer s H E) B (defBody st) g) : FnG P w K mg base (k + 1) f fd ps (spI K q (bodyI n g)) := by
  subst hn hq
  refine fn_ofG F S (fun vs H Q E h => ?_) fun cdv A outer s H vs Q E hr hgd h => ?_
  · obtain ⟨_, _, _, _, _, _, _, hl, _⟩ := h
    exact hl
  · obtain ⟨G, a, vr, d, ds, r, d', hl, rfl, sg, na, rt, t, e, z⟩ := h
    have hb := body ⟨G, H, [(0, a)], fun _ => False⟩ cdv A outer s H E hr hgd
    refine ⟨_, hb, ?_⟩
    have R1 := relS_start sg t ys
    have es : L2.start N (.ref a :: vr) = some (.ref a) :: L2.start ys vr := by
      subst hN
      unfold L2.start
      rw [List.map_cons, List.length_cons, List.length_cons, List.cons_append, Nat.add_sub_add_right]
    have ed : startI N.length d ds = .own true d :: startD ys.length ds := by
      subst hN
      rfl
    have nore : ∀ {i : Nat} {s' : Sl}, (startD ys.length ds)[i]? = some s' → ∀ b c, s' ≠ .own b c := fun {i s'} q b c z => by
      rcases startD_get t q with h | ⟨_, _, h, _⟩ <;> (rw [z] at h; cases h)
    have R0 : RelS K ⟨G, H, [(0, a)], fun _ => False⟩ G H (startI N.length d ds) (L2.start N (.ref a :: vr)) := by
      rw [es, ed]
      refine ⟨by rw [List.length_cons, List.length_cons, R1.len], sg, Same.refl _, R1.nw, fun _ _ e _ _ => e, fun _ o e => ⟨o, e⟩, fun p hp => ?_, fun i c q => ?_, fun i b c q => ?_, fun i j b b' p c c' q1 q2 z1 z2 => ?_⟩
      · have : p = (0, a) := by simpa using hp
        rw [this]
        exact rt.ex
      · cases i with
        | zero => cases q
        | succ i => exact R1.dat i c q
      · cases i with
        | zero =>
          cases q
          exact ⟨a, rfl, na, List.mem_cons_self, rt⟩
        | succ i => exact (nore (show (startD ys.length ds)[i]? = _ from q) b c rfl).elim
      · cases i with
        | zero =>
          cases j with
          | zero => rfl
          | succ j => exact (nore (show (startD ys.length ds)[j]? = _ from q2) b' c' rfl).elim
        | succ i => exact (nore (show (startD ys.length ds)[i]? = _ from q1) b c rfl).elim
    unfold bodyI at e
    cases hg : g (startI N.length d ds) with
    | none => rw [hg] at e; cases e
    | some p =>
      obtain ⟨fl, δ'⟩ := p
      rw [hg] at e
      obtain ⟨r', e1, e⟩ := Option.bind_eq_some_iff.mp e
      obtain ⟨d2, e2, e⟩ := Option.bind_eq_some_iff.mp e
      cases e
      have q2 := ioAt_some e2
      refine ⟨G, _, fl, δ', R0, hg, fun σ' G' H' s' R' => ?_⟩
      obtain ⟨a', f1, f2, f3, f4⟩ := R'.own 0 true d' q2
      have f3 : (0, a') ∈ [((0 : Nat), a)] := f3
      have ea : a' = a := by
        have := List.mem_singleton.mp f3
        exact congrArg Prod.snd this
      subst ea
      have fin : ∀ v, RO K G' H H' v r → Q v H' := fun v ro => z v G' H' R'.g0 R'.same (fun b o e n => (R'.nw b o e n).resolve_right id) (fun b o e n => R'.frame b o e (fun p hp => by
        have : p = (0, a') := by simpa using hp
        rw [this]
        exact fun q => n q.symm) id) f2 f4 ro
      cases fl with
      | nx =>
        cases e1
        exact fin .non .non
      | bk => cases e1
      | ct => cases e1
      | rt v =>
        intro u hv
        cases v with
        | fz c =>
          cases e1
          exact fin u hv
        | ow c =>
          cases e1
          obtain ⟨p, rfl, n, n0, rt', _⟩ := hv
          exact fin _ ⟨p, rfl, n0.resolve_right id, n, rt'⟩
        | sl i => cases e1
end
end DL
end
section
set_option maxRecDepth 100000
set_option maxHeartbeats 4000000
namespace DL
open PySem PySem.Spec L2
open PyProof.Rows hiding St

/-! ### the end of a law -/
theorem law_callG {P : Program} {w : World} {K : Fg} {mg mb : Str → Option Value} {k : Nat} {fa a : Addr} {fd : FuncData} {x : Str} {F : List D → Option Val} {t : Shared} {vs : List Value} {ns : List Int}
    (kin : K.In t.heap) (hns : t.heap.Ns mainGlobals mg) (hb : t.heap.Ns builtinsNs mb) (hbb : ∀ x : Str, x ≠ "__name__" → mb x = bootBuiltins x) (hlim : t.heap.NoLimit) (hgen : t.gens = #[])
    (ha : t.heap.get? a = some { cls := .type "list", data := .seq vs.toArray }) (hi : IntsAre vs ns) (hl : ns.length ≤ sizeLine) (room : Room k callerA)
    (Fn : ∀ base : Heap, K.In base → base.Ns mainGlobals mg → FnG P w K mg base k fa fd [x] (spF K 1 F)) (hbind : ∀ (s : Shared) (u : Value), BindsTo s fd ⟨[u], []⟩ [(x, u)]) (true_ : F [scrD ns] = some (.fz (.bool true))) :
    codeAny (model P w) callerA (.call (.ref fa) ⟨[.ref a], []⟩) (fun r s' => r = .ok (.ret (.bool true)) ∧ OldK t.heap s'.heap ∧ s'.os = t.os ∧ AllBare s'.gens) t := by
  have rel := vals_ints hi
  have long := hi.length
  -- the script, locked, unless it is an object of the module
  obtain ⟨H, hH, hHa⟩ : ∃ H : Hp, (∀ b u, H b = some u → b = a ∧ K.lookup a = none ∧ u = .frz { cls := .type "list", data := .seq vs.toArray } (.lst (ns.map V.int))) ∧ SqL K H a (ns.map V.int) := by
    cases hk : K.lookup a with
    | some o =>
      have e := kin a o hk
      rw [ha] at e
      cases e
      refine ⟨fun _ => none, ⟨fun b u z => ?_, .inr ⟨_, vs.toArray, _, hk, rfl, rfl, rfl, by rw [List.size_toArray, long]; exact hl, by simpa using rel⟩⟩⟩
      cases z
    | none =>
      refine ⟨upd (fun _ => none) a (.frz { cls := .type "list", data := .seq vs.toArray } (.lst (ns.map V.int))), fun b u z => ?_, .inl (.inr ⟨_, upd_same⟩)⟩
      by_cases hb : b = a
      · subst hb
        rw [upd_same] at z
        exact ⟨rfl, rfl, (Option.some.inj z).symm⟩
      · rw [upd_ne hb] at z
        cases z
  have hok : HOk P w H t.heap := fun b u z => by
    obtain ⟨rfl, _, rfl⟩ := hH b u z
    exact ⟨ha, by rw [List.length_map]; exact hl, vs, _, rel, ha⟩
  have shown : ∀ {b : Addr} {o : Obj}, t.heap.get? b = some o → H b = none → (hidT t.heap H).get? b = some o := fun e n => hidT_get e n
  have isDict : ∀ {b : Addr} {m : Str → Option Value}, t.heap.Ns b m → (hidT t.heap H).Ns b m := by
    rintro b m ⟨o, es, ep, e, d, rest⟩
    refine ⟨o, es, ep, shown e ?_, d, rest⟩
    cases q : H b with
    | none => rfl
    | some u =>
      obtain ⟨rfl, _, _⟩ := hH b u q
      rw [ha] at e
      cases e
      cases (show Data.seq vs.toArray _ = Data.dict es ep from d)
  have kinH : K.In (hidT t.heap H) := fun b o e => shown (kin b o e) (by
    cases q : H b with
    | none => rfl
    | some u =>
      obtain ⟨rfl, n, _⟩ := hH b u q
      rw [n] at e
      cases e)
  have env0 : Env0 P w K mg (hidT t.heap H) callerA [] t H := by
    refine ⟨rfl, ⟨kinH, isDict hns, ⟨mb, isDict hb, hbb⟩, ?_⟩, fun b o e => of_hidT e, Nat.le_of_eq (hidT_size _ _), trivial, fun b hb => ?_, hok, .of_eq hgen⟩
    · obtain ⟨mc, h1, h2⟩ := hlim
      exact ⟨mc, isDict h1, h2⟩
    · cases hb
  have prom : spF K 1 F [V.ref a] H (fun v _ => v = .bl true) E0 := ⟨H, [scrD ns], _, rfl, Same.refl _, .cons (.scr hHa) .nil, true_, fun v G' H' _ ro => by
    have ro : Tr K G' v (.bool true) := ro
    cases ro
    rfl⟩
  refine codeAny_mono ((Fn _ kinH (isDict hns)).run callerA [] t H ⟨[.ref a], []⟩ [.ref a] [.ref a] _ _ room rfl env0 (hbind t (.ref a)) (.cons rfl .nil) prom) ?_
  intro r s' got
  match r, got with
  | .error e, z => exact False.elim z
  | .ok .next, z => exact False.elim z
  | .ok .brk, z => exact False.elim z
  | .ok .cont, z => exact False.elim z
  | .ok (.ret u), ⟨v, H', os, bare, un, hok', rv, q⟩ =>
    have q : v = .bl true := q
    subst q
    obtain rfl : u = Value.bool true := rv
    refine ⟨rfl, OldK.of_keep fun b ob e => ?_, os, bare⟩
    cases hb : H b with
    | none => exact un.keep b ob e hb (by intro z; cases z) (by intro z; cases z)
    | some u =>
      obtain ⟨rfl, _, rfl⟩ := hH b u hb
      have kept := un.frzs b _ _ hb
      obtain ⟨e1, _⟩ := hok b _ hb
      obtain ⟨e2, _⟩ := hok' b _ kept
      rw [e] at e1
      cases e1
      exact e2
theorem walk_ofG {l : PySem.W.OpenLaw} {n k : Nat} {q : Program} {loose : List Str} {XP : (Str → Option Value) → Heap → Prop} {YP : World → Heap → Prop} {d : DefRec} {K : Params → Fg} {x : Str} {F : List D → Option Val}
    (hn : l.most = some n) (hn2 : n ≤ sizeLine) (hdf : d.params.defaults = []) (room : Room k callerA) (hY : ∀ (w : World) (h : Heap), YP w h → (K w.params).In h)
    (hF : ∀ (w : World) (mg : Str → Option Value) (fa : Addr) (h : Heap), (K w.params).In h → h.Ns mainGlobals mg → mg d.name = some (.ref fa) →
      ∃ fd : FuncData, (∀ (s : Shared) (u : Value), BindsTo s fd ⟨[u], []⟩ [(x, u)]) ∧ ∀ base : Heap, (K w.params).In base → base.Ns mainGlobals mg → FnG l.prog w (K w.params) mg base k fa fd [x] (spF (K w.params) 1 F))
    (true_ : ∀ ns : List Int, ns.length ≤ n → (∀ z ∈ ns, Builtin.Int.intBits z ≤ 1048576) → F [scrD ns] = some (.fz (.bool true))) :
    PySem.W.WalkO q loose XP YP l.row.toRowW d [] (fun f us => PySem.call f us) := by
  refine Att.attach_callB hn hdf fun w s0 s1 mg mb fa o pm cd doc a us ns G Y ho hd hcd names script whole short bits calm => ?_
  obtain ⟨fd, hb, hF⟩ := hF w mg fa _ (hY w _ Y) G.T.g names
  exact law_callG (hY w _ Y) G.T.g G.T.b G.T.builtins G.T.nolimit calm script whole (Nat.le_trans short hn2) room hF hb (true_ ns short bits)

/-! ### repr -/
def rRepr (K : Fg) : List V → Hp → VK → Prop := fun xs H Q => ∃ v d, xs = [v] ∧ Tr K H v d ∧ d.canLay0 = true ∧ d.showable = true ∧ d.depth ≤ 60 ∧ d.shown.length ≤ sizeLine ∧ Q (.str d.shown) H
theorem call_reprD {X : Cx} (hg : X.A.guards = some []) (hu : X.A.units + 64 < cLine) : CallR X (.builtin "repr") (rRepr X.K) := by
  intro pins s σ H xs us Q I r h
  obtain ⟨v, d, rfl, t, hc, hs, hd, hz, q⟩ := h
  obtain ⟨u, rfl, ru⟩ := vals1 r
  obtain ⟨as, rd⟩ := Dp.reads I d v u (Tr.dp t hc) ru
  have hdict := PyData.hasDict_of_canLay d hc
  cases rd with
  | none => exact PySem.P.repr_of_none ⟨.str _, H, I.tok _, ⟨_, rfl⟩, q⟩
  | bool b => exact PySem.P.repr_of_bool ⟨.str _, H, I.tok _, ⟨_, rfl⟩, by cases b <;> exact q⟩
  | int i t => exact PySem.P.repr_of_int (by simpa [PyData.showable] using hs) ⟨.str _, H, I.tok _, ⟨_, rfl⟩, q⟩
  | str x t => exact PySem.P.repr_of_str ⟨.str _, H, I.tok _, ⟨_, rfl⟩, q⟩ hz
  | list h1 h2 h3 h4 => exact repr_of_reads' (.list h1 h2 h3 h4) hs (PyData.noDict_hsm hdict) hg (by omega) (fun _ _ e => e) (fun h' u tk hk => ⟨.str _, H, I.kept (t' := tk) hk, ⟨_, rfl⟩, q⟩) hz
  | tuple h1 h2 h3 h4 => exact repr_of_reads' (.tuple h1 h2 h3 h4) hs (PyData.noDict_hsm hdict) hg (by omega) (fun _ _ e => e) (fun h' u tk hk => ⟨.str _, H, I.kept (t' := tk) hk, ⟨_, rfl⟩, q⟩) hz
  | dict _ _ _ _ _ => simp [PyData.canLay0] at hc
def reprOk (d : D) : Bool := d.canLay0 && d.showable && decide (d.depth ≤ 60) && szOk d.shown.length
def reprD : List D → Option Val
  | [d] => if reprOk d then some (.fz (.str d.shown)) else none
  | _ => none
theorem fd_repr {K : Fg} : FnD K (rRepr K) reprD := by
  intro G H vs ds res Q s vv hr k
  unfold reprD at hr
  split at hr
  · obtain ⟨c, rfl⟩ := ite_some hr
    unfold reprOk at c
    rw [Bool.and_eq_true, Bool.and_eq_true, Bool.and_eq_true] at c
    obtain ⟨v, rfl, v1⟩ := view1 vv
    exact ⟨v, _, rfl, v1.tr s, c.1.1.1, c.1.1.2, of_decide_eq_true c.1.2, szOk_le c.2, k _ G H (Ex.refl s) (.str _)⟩
  · cases hr
/-- {} -/
theorem room_units {X : Cx} {k : Nat} (h : Room k X.A) : X.A.units + 64 < cLine := h.units
end DL
end
section
set_option maxRecDepth 100000
set_option maxHeartbeats 4000000
namespace DL
open PySem PySem.Spec L2
open PyProof.Rows hiding St

/-! ### enumerate of a tuple -/
theorem meets_enum1 {v : Value} {o : Obj} {H : Heap → Prop} (B : Begins v o H) :
    Meets (Builtin.«enumerate.__new__» ⟨[.type "enumerate", v], []⟩) (fun _ R s => H s.heap ∧ R (.ok (.ret (.ref (s.heap.push o).objs.size))) { s with heap := (s.heap.push o).push { cls := .type "enumerate", data := .fields #[.none, .bool false, .ref s.heap.objs.size, rawInt 0, .none, .none] } }) :=
  .of_wp fun prog w A R t hh => by
    obtain ⟨hp, g, d, tk, os⟩ := t
    obtain ⟨h1, hR⟩ := hh
    have hsub := sub_enumerate
    have begins : ∀ {A' : Around} {E : Value → Shared → Prop} {Q : Value → Shared → Prop}, Q (.ref hp.objs.size) ⟨hp.push o, g, d, tk, os⟩ → wpAny (model prog w) A' (pyIter v) Q E ⟨hp, g, d, tk, os⟩ := fun q => B.iter prog w _ _ ⟨hp, g, d, tk, os⟩ _ h1 q
    wp_walk using begins
    refine wpAny_stack_any fun _ => wpAny_pure ?_
    split
    · rename_i c _ _ _ _ _
      cases (c == Value.type "enumerate") <;> (wp_walk using begins; exact ⟨_, rfl, hR⟩)
    · wp_walk using begins
      exact ⟨_, rfl, hR⟩
theorem call_enum_tuple {prog : Program} {w : World} {A : Around} {E : Value → Shared → Prop} {s : Shared} {t : Addr} {items : Array Value} {Q : Value → Shared → Prop} (ht : s.heap.IsTuple t items)
    (h : ∀ h', IsEnum h' (s.heap.objs.size + 1) s.heap.objs.size 0 .none → h'.IsTupleIter s.heap.objs.size t 0 → (∀ b o, s.heap.get? b = some o → h'.get? b = some o) → Q (.ref (s.heap.objs.size + 1)) { s with heap := h' }) :
    wpAny (model prog w) A (call (.type "enumerate") [.ref t]) Q E s := by
  have B := begins_tuple t items
  refine callType_new F.called_enumerate (by decide) (F.typeCall_enumerate_1 _) (F.newCall_enumerate_1 _) (fun obj => F.args_object_init_2 obj _) F.entry_enumerate_new (meets_enum1 B) ⟨ht, ?_⟩
  have hz : (s.heap.push { cls := .type "tuple_iterator", data := .fields #[.ref t, .int 0 0] }).objs.size = s.heap.objs.size + 1 := Heap.size_push ..
  rw [hz]
  generalize hh : (s.heap.push { cls := .type "tuple_iterator", data := .fields #[.ref t, .int 0 0] }).push { cls := .type "enumerate", data := .fields #[.none, .bool false, .ref s.heap.objs.size, rawInt 0, .none, .none] } = h2
  have at2 : IsEnum h2 (s.heap.objs.size + 1) s.heap.objs.size 0 .none := by
    have q := Heap.get?_push_size (s.heap.push { cls := .type "tuple_iterator", data := .fields #[.ref t, .int 0 0] }) (o := { cls := .type "enumerate", data := .fields #[.none, .bool false, .ref s.heap.objs.size, rawInt 0, .none, .none] }) rfl
    rw [hz, hh] at q
    exact q
  refine ⟨⟨_, at2, rfl⟩, h h2 at2 ?_ fun b o x => ?_⟩
  · rw [← hh]
    exact ⟨_, Heap.get?_push_of_some _ (Heap.get?_push_size _ rfl), rfl, rfl⟩
  · rw [← hh]
    exact Heap.get?_push_of_some _ (Heap.get?_push_of_some _ x)
/-- the tuple at a, each item in a new pair -/
def IteT (K : Fg) (a : Addr) : It where
  go := fun i H => ∃ (xs : List V) (x : V), SqT K H a xs ∧ xs[i]? = some x
  yld := fun i H v H' => ∃ T x, v = .ref T ∧ H T = none ∧ H' = upd H T (.tup [.int (i : Nat), x]) ∧ ∀ xs, SqT K H a xs → xs[i]? = some x
  stop := fun i H => ∃ xs : List V, SqT K H a xs ∧ xs.length ≤ i
theorem turn_enumT {P : Program} {w : World} {K : Fg} {elts : List Expr} {kk : Nat} {tpos : Pos} (a e it : Addr) :
    Turn P w K (.Tuple elts kk tpos) (IteT K a) [e, it] e (fun i h => (∃ old, IsEnum h e it ((i : Nat) : Int) old) ∧ h.IsTupleIter it a i ∧ e ≠ it) where
  mem := List.mem_cons_self
  obj := by
    rintro i h ⟨⟨old, he⟩, ⟨o, ho, _, hd⟩, _⟩ b hb
    rcases List.mem_cons.mp hb with z | hb
    · rw [z]
      exact ⟨_, he, fun v q => nomatch q⟩
    · rw [List.mem_singleton.mp hb]
      exact ⟨o, ho, fun v q => by rw [hd] at q; cases q⟩
  keep := by
    rintro i h h' ⟨⟨old, he⟩, hi, hne⟩ same
    exact ⟨⟨old, same e List.mem_cons_self _ he⟩, hi.at fun o q => same it (List.mem_cons_of_mem _ List.mem_cons_self) o q, hne⟩
  item := by
    intro X hP hw hK hc i pins s σ H E I hf st hgo
    subst hP hw hK
    obtain ⟨⟨old, he⟩, hit, hne⟩ := st
    obtain ⟨xs, x, hq, hx⟩ := hgo
    obtain ⟨its, rv, ⟨ot, eo, co, no, do_⟩, _⟩ := I.tuple hq
    have ht : s.heap.IsTuple a its.toArray := ⟨ot, eo, co, no, do_⟩
    have hea : e ≠ a := fun z => by
      rw [z] at he
      rw [show s.heap.get? a = some _ from he] at eo
      cases eo
      injection (show Value.type "enumerate" = Value.type "tuple" from co) with q
      exact absurd q (by decide)
    have hia : a ≠ it := fun z => by
      obtain ⟨o', h1, h2, _⟩ := id hit
      rw [z, h1] at eo
      cases eo
      rw [h2] at co
      injection co with q
      exact absurd q (by decide)
    have hlt : i < its.toArray.size := by
      have := (List.getElem?_eq_some_iff.mp hx).1
      have := rv.length
      simp only [List.size_toArray]
      omega
    have hel : e < s.heap.objs.size := Heap.lt_size he
    have hil : it < s.heap.objs.size := by
      obtain ⟨_, q, _⟩ := hit
      exact Heap.lt_size q
    have D := Draws.tuple (prog := X.prog) (w := X.w) (A := X.A.in1) (I.ok.hd hc) it a hia its.toArray
    refine wpAny_pyNext_enum_itemD D he ⟨hit, ht⟩ hlt hne (by simp [hne, hea]) fun u h' tk hu ho hst hT _ hk => ?_
    have ru : RelV x u := by
      obtain ⟨u', hu', ru'⟩ := rv.get hx
      have : u = u' := Option.some.inj ((by simpa using hu.symm : some u = its[i]?).trans hu')
      rw [this]
      exact ru'
    refine ⟨_, rfl, wpAny_letOwnedTupleGo_enum (s := { s with heap := h', toks := tk + 1 }) ho fun h2 he2 sb => ?_⟩
    have pair : h2.get? s.heap.objs.size = some { cls := .type "tuple", data := .seq #[.int i tk, u] } := (sb.2 _ (Nat.ne_of_gt hel)).trans hT
    have made : ObjOk X.prog X.w (upd H s.heap.objs.size (.tup [.int (i : Nat), x])) h2 s.heap.objs.size (.tup [.int (i : Nat), x]) := ⟨by show 2 ≤ sizeLine; decide, [.int i tk, u], .cons ⟨_, rfl⟩ (.cons ru .nil), ⟨_, pair, rfl, _, rfl⟩⟩
    have J := I.turnedNew (t' := tk + 1) (ch := [e, it]) (h' := h2) (fun b ob hb q => (sb.2 b fun z => hb (z ▸ List.mem_cons_self)).trans (hk b ob (fun z => hb (z ▸ List.mem_cons_self)) (fun z => hb (z ▸ List.mem_cons_of_mem _ List.mem_cons_self)) q)) hf (Nat.le_refl _) made
    refine ⟨.ref s.heap.objs.size, _, J, rfl, ⟨_, x, rfl, I.hok.fresh (Nat.le_refl _), rfl, fun ys hy => by rw [I.tuple_inj hy hq]; exact hx⟩, ⟨⟨u, ?_⟩, hst.1.at fun o q => (sb.2 it (Ne.symm hne)).trans q, hne⟩, fun b hb => ?_⟩
    · rw [show ((i + 1 : Nat) : Int) = (i : Int) + 1 by omega]
      exact he2
    · have small : b < s.heap.objs.size := by
        rcases List.mem_cons.mp hb with z | z
        · rw [z]; exact hel
        · rw [List.mem_singleton.mp z]; exact hil
      rw [upd_ne (Nat.ne_of_lt small)]
      exact (hf b hb).1
  done := by
    intro X hP hw hK hc i pins s σ H E I hf st hstop
    subst hP hw hK
    obtain ⟨⟨old, he⟩, hit, hne⟩ := st
    obtain ⟨xs, hq, hx⟩ := hstop
    obtain ⟨its, rv, ⟨ot, eo, co, no, do_⟩, _⟩ := I.tuple hq
    have ht : s.heap.IsTuple a its.toArray := ⟨ot, eo, co, no, do_⟩
    have hia : a ≠ it := fun z => by
      obtain ⟨o', h1, h2, _⟩ := id hit
      rw [z, h1] at eo
      cases eo
      rw [h2] at co
      injection co with q
      exact absurd q (by decide)
    obtain ⟨f0, f1, f2, f3, f4, f5⟩ := hf it (List.mem_cons_of_mem _ List.mem_cons_self)
    have hd := I.ok.hd hc
    have hle : its.toArray.size ≤ i := by
      have := rv.length
      simp only [List.size_toArray]
      omega
    have D : Draws X.prog X.w X.A.in1 it [it, a] i (fun i v => its.toArray[i]? = some v) (fun j h => (h.IsTupleIter it a j ∧ h.IsTuple a its.toArray) ∧ j = i) := by
      have D0 := Draws.tuple (prog := X.prog) (w := X.w) (A := X.A.in1) hd it a hia its.toArray
      exact ⟨fun j h st => D0.live j h st.1, fun j h h' st q => ⟨D0.frame j h h' st.1 q, st.2⟩, fun j s Q E hj st _ => absurd st.2 (Nat.ne_of_lt hj), fun s Q E st hE => wpAny_nextOf_tuple_end hd st.1.1 st.1.2 (by rw [Array.getElem?_eq_none_iff]; exact hle) hE⟩
    exact wpAny_pyNext_enum_endD D he ⟨⟨hit, ht⟩, rfl⟩ fun h' eb => ⟨rfl, I.turned (t' := s.toks) (fun b o hb q => eb b o hb q) f0 f1 f3 f4 f5⟩
  self := fun _ _ _ _ _ st h => wpAny_pyIter_enum st.1.choose_spec h
def iEnumT (K : Fg) (ta : TA) : TI := fun σ H R => ta σ H fun vs H1 => ∃ (a : Addr) (xs : List V), vs = [.ref a] ∧ SqT K H1 a xs ∧ R (IteT K a) H1
theorem pi_enumT {X : Cx} {e : Expr} {ta : TA} {p pos tpos : Pos} {elts : List Expr} {kk : Nat} (hg : Gl X "enumerate") (hm : X.mg "enumerate" = none) (ha : PA X [e] ta) (hs : starEach [e] X.env = [(false, eval e X.env)] := by rfl) : PI X (.Tuple elts kk tpos) (.Call (.Name "enumerate" p) [e] [] pos) (iEnumT X.K ta) := by
  refine ⟨fun pins s σ H R I h => Call_ (ld_blt I hg hm boot_enumerate (PyProof.Rows.callWith_type1 (thn (ha.run pos pins s σ H _ I h) ?_) hs rfl))⟩
  rintro us s1 ⟨vs, H1, I1, r1, a, xs, rfl, hq, q⟩
  obtain ⟨u, rfl, ru⟩ := vals1 r1
  cases ru
  obtain ⟨its, rv, ⟨ot, eo, co, no, do_⟩, _⟩ := I1.tuple hq
  refine call_enum_tuple (items := its.toArray) ⟨ot, eo, co, no, do_⟩ fun h' he hit hk => wpAny_pyIter_enum he ?_
  have J : Inv X pins σ H1 { s1 with heap := h' } := I1.kept (t' := s1.toks) hk
  refine ⟨s1.heap.objs.size + 1, [s1.heap.objs.size + 1, s1.heap.objs.size], _, _, H1, rfl, J, turn_enumT a (s1.heap.objs.size + 1) s1.heap.objs.size, ⟨⟨.none, he⟩, hit, Nat.succ_ne_self _⟩, fun b hb => ?_, q⟩
  have big : s1.heap.objs.size ≤ b := by
    rcases List.mem_cons.mp hb with z | z
    · rw [z]; exact Nat.le_succ _
    · rw [List.mem_singleton.mp z]; exact Nat.le_refl _
  exact I1.fpOk big (I1.hok.fresh big)
theorem it_enumT {K : Fg} {G1 : Hp} {a : Addr} {xs : List V} {ds : List D} (h : SqT K G1 a xs) (t : TrAll K G1 xs ds) : ItD K (IteT K a) (enumD ds) G1 := fun i G H s sh => by
  have q : SqT K H a xs := Same.tup (s.trans sh) h
  refine ⟨fun d hd => ?_, fun hi => ⟨xs, q, by unfold enumD at hi; rw [List.length_map, List.length_zipIdx] at hi; rw [t.len]; exact hi⟩⟩
  unfold enumD at hd
  rw [List.getElem?_map, List.getElem?_zipIdx] at hd
  obtain ⟨p, hp, rfl⟩ := Option.map_eq_some_iff.mp hd
  obtain ⟨e, he, rfl⟩ := Option.map_eq_some_iff.mp hp
  obtain ⟨v, hv, tv⟩ := t.get he
  refine ⟨⟨xs, v, q, hv⟩, fun x H' y => ?_⟩
  obtain ⟨T, z, rfl, n, rfl, y⟩ := y
  have := y xs q
  rw [hv] at this
  cases this
  refine ⟨_, Ex.pushF sh _ n, ?_⟩
  rw [Nat.zero_add]
  exact Tr.tup (.inl (.inl upd_same)) (TrAll.mono (same_upd (sh.free n)) (.cons (.int _) (.cons (Tr.mono s tv) .nil)))
def enumA (fa : Me (List Val)) : Me (List D) := mb fa fun xs => mo fun _ => match xs with
  | [.fz (.list ds)] => some (enumD ds)
  | [.ow (.list ds)] => some (enumD ds)
  | [.fz (.tuple ds)] => some (enumD ds)
  | _ => none
theorem di_enumA {X : Cx} {B : Bs} {e : Expr} {fa : Me (List Val)} {p pos tpos : Pos} {elts : List Expr} {kk : Nat} (hg : Gl X "enumerate") (hm : X.mg "enumerate" = none) (ha : DA X B [e] fa) (hs : starEach [e] X.env = [(false, eval e X.env)] := by rfl) : DI X B (.Tuple elts kk tpos) (.Call (.Name "enumerate" p) [e] [] pos) (enumA fa) := PI.weak (PI.or (di_enum hg hm ha hs) (pi_enumT hg hm ha hs)) fun σ H Q q => by
  obtain ⟨G, δ, ds, δ', R, e, k⟩ := q
  obtain ⟨xs, δ1, e1, e⟩ := mb_some e
  obtain ⟨e2, rfl⟩ := mo_some e
  have lists : ∀ z, xs = [z] → (z = .fz (.list ds) ∨ z = .ow (.list ds)) → False ∨ True := fun _ _ _ => .inr trivial
  split at e2
  · rename_i es
    cases e2
    refine .inl ⟨G, δ, enumD es, _, R, ?_, k⟩
    unfold enumM mb
    rw [e1]
    rfl
  · rename_i es
    cases e2
    refine .inl ⟨G, δ, enumD es, _, R, ?_, k⟩
    unfold enumM mb
    rw [e1]
    rfl
  · cases e2
    refine .inr ⟨G, δ, _, _, R, e1, fun vs G1 H1 s1 R1 v1 => ?_⟩
    cases v1 with
    | cons a b =>
      cases b
      obtain ⟨c, ys, rfl, h, t⟩ := Tr.tupI (show Tr X.K G1 _ (.tuple _) from a)
      exact ⟨c, ys, rfl, Same.tup R1.same h, k _ G1 H1 s1 R1 (it_enumT h t)⟩
  · cases e2
/-! ### str(n), {} -/
def strI : List D → Option Val
  | [.int i] => if decide (i.natAbs.log2 < 1920) then some (.fz (.str (toString i))) else none
  | _ => none
theorem fd_str {K : Fg} : FnD K (fun xs H Q => ∃ i : Int, xs = [.int i] ∧ i.natAbs.log2 < 1920 ∧ Q (.str (toString i)) H) strI := by
  intro G H vs ds res Q s vv hr k
  unfold strI at hr
  split at hr
  · obtain ⟨c, rfl⟩ := ite_some hr
    obtain ⟨v, rfl, v1⟩ := view1 vv
    cases v1.int
    exact ⟨_, rfl, of_decide_eq_true c, k _ G H (Ex.refl s) (.str _)⟩
  · cases hr
def dnewM : Me Val := mr (.ow (.dict []))
theorem de_dnew {X : Cx} {B : Bs} {pos : Pos} : DE X B (.Dict [] [] pos) dnewM := PE.weak pe_dnewK fun σ H Q h => by
  obtain ⟨G, δ, r, δ', R, e, k⟩ := h
  cases e
  intro p n
  have x := Ex.push R.same (.dK []) n
  exact k _ _ _ x.g (R.ex x) (RO.rv R ⟨p, rfl, n, R.same.free n, .dic upd_same .nil⟩)
/-! ### built-in names -/
theorem bt_len : bootBuiltins "len" = some (.builtin "len") := by decide +kernel
theorem bt_abs : bootBuiltins "abs" = some (.builtin "abs") := by decide +kernel
theorem bt_divmod : bootBuiltins "divmod" = some (.builtin "divmod") := by decide +kernel
theorem bt_sum : bootBuiltins "sum" = some (.builtin "sum") := by decide +kernel
theorem bt_any : bootBuiltins "any" = some (.builtin "any") := by decide +kernel
theorem bt_all : bootBuiltins "all" = some (.builtin "all") := by decide +kernel
theorem bt_repr : bootBuiltins "repr" = some (.builtin "repr") := by decide +kernel
theorem bt_max : bootBuiltins "max" = some (.builtin "max") := by decide +kernel
theorem bt_min : bootBuiltins "min" = some (.builtin "min") := by decide +kernel
theorem bt_sorted : bootBuiltins "sorted" = some (.builtin "sorted") := by decide +kernel
theorem bt_isinstance : bootBuiltins "isinstance" = some (.builtin "isinstance") := by decide +kernel
theorem bt_int : bootBuiltins "int" = some (.type "int") := by decide +kernel
theorem bt_bool : bootBuiltins "bool" = some (.type "bool") := by decide +kernel
theorem bt_str : bootBuiltins "str" = some (.type "str") := by decide +kernel
theorem bt_list : bootBuiltins "list" = some (.type "list") := by decide +kernel
theorem bt_tuple : bootBuiltins "tuple" = some (.type "tuple") := by decide +kernel
theorem bt_dict : bootBuiltins "dict" = some (.type "dict") := by decide +kernel
theorem bt_set : bootBuiltins "set" = some (.type "set") := by decide +kernel
end DL
end
section
set_option maxRecDepth 100000
set_option maxHeartbeats 1000000
namespace DL
open PySem PySem.Spec L2

/-! ### loops as mathematics -/
theorem compL_gen {gt : Tg} {ft : Me Bool} {fe : Me Val} {vs : List Nat} {δ0 : DS} (g : D → Option D) : ∀ {ds : List D}, (∀ d ∈ ds, ∃ δd, gt (.fz d) δ0 = some δd ∧ ((g d = none ∧ ft δd = some (false, δd)) ∨ ∃ e v, g d = some e ∧ ft δd = some (true, δd) ∧ fe δd = some (v, δd) ∧ treeV v = some e) ∧ wipeD δd vs = δ0) →
    compL gt ft fe vs ds δ0 = some (ds.filterMap g, δ0)
  | [], _ => rfl
  | d :: r, h => by
    obtain ⟨δd, h1, h2, h3⟩ := h d List.mem_cons_self
    have ih := compL_gen g (ds := r) fun x hx => h x (List.mem_cons_of_mem _ hx)
    rcases h2 with ⟨hg, hf⟩ | ⟨e, v, hg, hf, he, hv⟩
    · simp only [compL, h1, Option.bind_some, hf, h3, ih, List.filterMap_cons, hg]
    · simp only [compL, h1, Option.bind_some, hf, he, hv, h3, ih, List.filterMap_cons, hg]
/-- a comprehension that changes nothing: its target's slots are vs -/
theorem compM_gen {fi : Me (List D)} {gt : Tg} {ft : Me Bool} {fe : Me Val} {vs : List Nat} {δ : DS} {ds : List D} (g : D → Option D) (hi : fi δ = some (ds, δ)) (hp : vs.all (plainAt δ) = true) (hb : backD δ (wipeD δ vs) vs = δ) (hz : szOk (ds.filterMap g).length = true)
    (h : ∀ d ∈ ds, ∃ δd, gt (.fz d) (wipeD δ vs) = some δd ∧ ((g d = none ∧ ft δd = some (false, δd)) ∨ ∃ e v, g d = some e ∧ ft δd = some (true, δd) ∧ fe δd = some (v, δd) ∧ treeV v = some e) ∧ wipeD δd vs = wipeD δ vs) :
    compM fi gt ft fe vs δ = some (.ow (.list (ds.filterMap g)), δ) := by
  unfold compM
  rw [hi]
  show (if _ then _ else _) = _
  rw [if_pos hp, compL_gen g h]
  show (if _ then _ else _) = _
  rw [if_pos hz, hb]
/-- one that changes the frame, told by what holds between its turns -/
theorem compL_inv {gt : Tg} {ft : Me Bool} {fe : Me Val} {vs : List Nat} (I : DS → Prop) (P : D → Prop) (h : ∀ d δ, I δ → ∃ δ1 δ2 v e δ3, gt (.fz d) δ = some δ1 ∧ ft δ1 = some (true, δ2) ∧ fe δ2 = some (v, δ3) ∧ treeV v = some e ∧ P e ∧ I (wipeD δ3 vs)) :
    ∀ (ds : List D) (δ : DS), I δ → ∃ es δ', compL gt ft fe vs ds δ = some (es, δ') ∧ es.length = ds.length ∧ (∀ e ∈ es, P e) ∧ I δ'
  | [], δ, i => ⟨[], δ, rfl, rfl, (by intro e he; cases he), i⟩
  | d :: r, δ, i => by
    obtain ⟨δ1, δ2, v, e, δ3, h1, h2, h3, h4, h5, h6⟩ := h d δ i
    obtain ⟨es, δ', e1, e2, e3, e4⟩ := compL_inv I P h r _ h6
    refine ⟨e :: es, δ', ?_, by simp [e2], fun x hx => ?_, e4⟩
    · simp only [compL, h1, Option.bind_some, h2, h3, h4, e1]
    · rcases List.mem_cons.mp hx with q | q
      · rw [q]; exact h5
      · exact e3 x q
theorem forL_inv {gt : Tg} {body : Ss} (I : List D → DS → Prop) : ∀ (ds done : List D) (δ : DS), (∀ done d rest δ, done ++ d :: rest = done ++ ds ∨ True → d ∈ ds → I done δ → ∃ δ1 δ2, gt (.fz d) δ = some δ1 ∧ (body δ1 = some (.nx, δ2) ∨ body δ1 = some (.ct, δ2)) ∧ I (done ++ [d]) δ2) → I done δ → ∃ δ', forL gt body ds δ = some (.nx, δ') ∧ I (done ++ ds) δ'
  | [], done, δ, _, i => ⟨δ, rfl, by simpa using i⟩
  | d :: r, done, δ, h, i => by
    obtain ⟨δ1, δ2, h1, h2, h3⟩ := h done d r δ (.inr trivial) List.mem_cons_self i
    obtain ⟨δ', e1, e2⟩ := forL_inv I r (done ++ [d]) δ2 (fun dn x rest δ _ hx j => h dn x rest δ (.inr trivial) (List.mem_cons_of_mem _ hx) j) h3
    refine ⟨δ', ?_, by simpa using e2⟩
    rcases h2 with h2 | h2 <;> simp only [forL, h1, Option.bind_some, h2, e1]
/-- a search that hands back v at the first item that is not p -/
theorem forL_all {gt : Tg} {body : Ss} {v : Val} (I : DS → Prop) (p : D → Bool) : ∀ (ds : List D) (δ : DS), (∀ d ∈ ds, ∀ δ, I δ → ∃ δ1, gt (.fz d) δ = some δ1 ∧ ((p d = true ∧ ∃ δ2, (body δ1 = some (.nx, δ2) ∨ body δ1 = some (.ct, δ2)) ∧ I δ2) ∨ (p d = false ∧ ∃ δ2, body δ1 = some (.rt v, δ2)))) → I δ →
    (ds.all p = true ∧ ∃ δ', forL gt body ds δ = some (.nx, δ') ∧ I δ') ∨ (ds.all p = false ∧ ∃ δ', forL gt body ds δ = some (.rt v, δ'))
  | [], δ, _, i => .inl ⟨rfl, δ, rfl, i⟩
  | d :: r, δ, h, i => by
    obtain ⟨δ1, h1, h2⟩ := h d List.mem_cons_self δ i
    rcases h2 with ⟨hp, δ2, hb, i2⟩ | ⟨hp, δ2, hb⟩
    · rcases forL_all I p r δ2 (fun x hx => h x (List.mem_cons_of_mem _ hx)) i2 with ⟨a, δ', b, c⟩ | ⟨a, δ', b⟩
      · refine .inl ⟨by simp [hp, a], δ', ?_, c⟩
        rcases hb with hb | hb <;> simp only [forL, h1, Option.bind_some, hb, b]
      · refine .inr ⟨by simp [hp, a], δ', ?_⟩
        rcases hb with hb | hb <;> simp only [forL, h1, Option.bind_some, hb, b]
    · exact .inr ⟨by simp [hp], δ2, by simp only [forL, h1, Option.bind_some, hb]⟩
theorem whileN_inv {c : Me Bool} {body : Ss} (I J : DS → Prop) (μ : DS → Nat) (h : ∀ δ, I δ → (∃ δ1, c δ = some (false, δ1) ∧ J δ1) ∨ ∃ δ1 δ2, c δ = some (true, δ1) ∧ (body δ1 = some (.nx, δ2) ∨ body δ1 = some (.ct, δ2)) ∧ I δ2 ∧ μ δ2 < μ δ) :
    ∀ (n : Nat) (δ : DS), I δ → μ δ < n → ∃ δ', whileN c body n δ = some (.nx, δ') ∧ J δ'
  | 0, _, _, hn => absurd hn (Nat.not_lt_zero _)
  | n + 1, δ, i, hn => by
    rcases h δ i with ⟨δ1, h1, h2⟩ | ⟨δ1, δ2, h1, h2, h3, h4⟩
    · exact ⟨δ1, by simp only [whileN, h1], h2⟩
    · obtain ⟨δ', e1, e2⟩ := whileN_inv I J μ h n δ2 h3 (by omega)
      refine ⟨δ', ?_, e2⟩
      rcases h2 with h2 | h2 <;> simp only [whileN, h1, h2, e1]
/-! ### items -/
theorem atI_last1 {α : Type} (xs : List α) (x : α) : atI (xs ++ [x]) (-1) = some x := by
  unfold atI ixN
  rw [if_neg (by omega), if_pos (by simp only [List.length_append, List.length_cons, List.length_nil]; omega)]
  show (xs ++ [x])[((-1 : Int) + ((xs ++ [x]).length : Nat)).toNat]? = _
  have e : ((-1 : Int) + ((xs ++ [x]).length : Nat)).toNat = xs.length := by
    simp only [List.length_append, List.length_cons, List.length_nil]
    omega
  rw [e]
  simp
theorem atI_natI {α : Type} (xs : List α) (i : Nat) (h : i < xs.length) : atI xs (i : Int) = xs[i]? := by
  unfold atI ixN
  rw [if_pos (by omega), if_pos (by omega)]
  simp
theorem last_split {α : Type} : ∀ {xs : List α}, xs ≠ [] → ∃ ys y, xs = ys ++ [y]
  | [], h => absurd rfl h
  | x :: r, _ => ⟨(x :: r).dropLast, (x :: r).getLast (List.cons_ne_nil _ _), (List.dropLast_concat_getLast _).symm⟩
abbrev IL (a : List Int) : D := .list (a.map .int)
/-! ### == of what is known -/
theorem shaped_int (i : Int) : SeqAt.shaped (.int i) = true := by unfold SeqAt.shaped; simp [PyData.canLay0, PyData.depth]
theorem eqD_int (i j : Int) : eqD (.int i) (.int j) = some (.fz (.bool (decide (i = j)))) := by
  unfold eqD
  rw [shaped_int, shaped_int, if_pos (by rfl)]
  congr 3
theorem neD_int (i j : Int) : neD (.int i) (.int j) = some (.fz (.bool (!decide (i = j)))) := by
  unfold neD
  rw [shaped_int, shaped_int, if_pos (by rfl)]
  congr 4
theorem lay_ints : ∀ a : List Int, PyData.canLayAll0 (a.map PyData.int) = true
  | [] => by simp [PyData.canLayAll0]
  | _ :: r => by simp [PyData.canLayAll0, PyData.canLay0, lay_ints r]
theorem depth_ints : ∀ a : List Int, PyData.depthAll (a.map PyData.int) = 0
  | [] => by simp [PyData.depthAll]
  | _ :: r => by simp [PyData.depthAll, PyData.depth, depth_ints r]
theorem lay_rows : ∀ a : List (List Int), PyData.canLayAll0 (a.map IL) = true
  | [] => by simp [PyData.canLayAll0]
  | x :: r => by simp [PyData.canLayAll0, PyData.canLay0, lay_ints x, lay_rows r]
theorem depth_rows : ∀ a : List (List Int), PyData.depthAll (a.map IL) ≤ 1
  | [] => by simp [PyData.depthAll]
  | x :: r => by
    have := depth_rows r
    simp [PyData.depthAll, PyData.depth, depth_ints x]
    omega
theorem shaped_IL (a : List Int) : SeqAt.shaped (IL a) = true := by
  unfold SeqAt.shaped
  simp [PyData.canLay0, PyData.depth, lay_ints a, depth_ints a]
theorem shaped_rows (a : List (List Int)) : SeqAt.shaped (.list (a.map IL)) = true := by
  have := depth_rows a
  unfold SeqAt.shaped
  simp [PyData.canLay0, PyData.depth, lay_rows a]
  omega
theorem shaped_nil : SeqAt.shaped (.list []) = true := shaped_IL []
theorem eqv_nil (ds : List D) : PyData.eqv (.list ds) (.list []) = ds.isEmpty := by
  cases ds <;> simp [PyData.eqv, PyData.eqvAll]
theorem eqD_nil {ds : List D} (h : SeqAt.shaped (.list ds) = true) : eqD (.list ds) (.list []) = some (.fz (.bool ds.isEmpty)) := by
  unfold eqD
  rw [h, shaped_nil, if_pos (by rfl), eqv_nil]
theorem neD_nil {ds : List D} (h : SeqAt.shaped (.list ds) = true) : neD (.list ds) (.list []) = some (.fz (.bool (!ds.isEmpty))) := by
  unfold neD
  rw [h, shaped_nil, if_pos (by rfl), eqv_nil]
mutual
theorem eqv_refl : (d : PyData) → d.canLay0 = true → PyData.eqv d d = true
  | .none, _ => by simp [PyData.eqv]
  | .bool b, _ => by simp [PyData.eqv]
  | .int i, _ => by simp [PyData.eqv]
  | .str x, _ => by simp [PyData.eqv]
  | .list xs, h => by simp only [PyData.eqv]; exact eqvAll_refl xs (by simpa [PyData.canLay0] using h)
  | .tuple xs, h => by simp only [PyData.eqv]; exact eqvAll_refl xs (by simpa [PyData.canLay0] using h)
  | .dict _, h => by simp [PyData.canLay0] at h
theorem eqvAll_refl : ∀ ds : List PyData, PyData.canLayAll0 ds = true → PyData.eqvAll ds ds = true
  | [], _ => by simp [PyData.eqvAll]
  | d :: r, h => by
    have h' : d.canLay0 = true ∧ PyData.canLayAll0 r = true := by simpa [PyData.canLayAll0] using h
    simp [PyData.eqvAll, eqv_refl d h'.1, eqvAll_refl r h'.2]
end
theorem neD_refl {d : D} (h : SeqAt.shaped d = true) : neD d d = some (.fz (.bool false)) := by
  unfold neD
  rw [h, if_pos (by rfl), eqv_refl d (SeqAt.canLay_of_shaped h)]
  rfl
theorem eqD_refl {d : D} (h : SeqAt.shaped d = true) : eqD d d = some (.fz (.bool true)) := by
  unfold eqD
  rw [h, if_pos (by rfl), eqv_refl d (SeqAt.canLay_of_shaped h)]
end DL
end
section
set_option maxRecDepth 100000
set_option maxHeartbeats 4000000
namespace K84
open PySem PySem.Spec L2 DL
open PyProof.Rows hiding St

/-- turns that a while may take -/
def fuel : Nat := 1000000000

def g_is_integer_s1 : Ss := (retS (andV (unM (isiD "int") (nameM 0)) (notV (unM (isiD "bool") (nameM 0)))))
/-- value -/
def g_is_integer : Ss := g_is_integer_s1
@[irreducible] def m_is_integer := bodyF 1 g_is_integer

def g_is_list_s1 : Ss := (retS (unM (isiD2 "list" "tuple") (nameM 0)))
/-- value -/
def g_is_list : Ss := g_is_list_s1
@[irreducible] def m_is_list := bodyF 1 g_is_list

def g_greatest_powers_c1 : Me Val := compM (enumA (consA (nameM 0) nilA)) (tupG 2 (consG (asg 1) (consG (asg 2) nilG))) (boolM (binM neD (nameM 2) (lstM nilA))) (binM subI (binM addD (nameM 1) (callM lenD (consA (nameM 2) nilA))) (conM (.int 1))) [1, 2]
def g_greatest_powers_s1 : Ss := (retS (callM maxLD (consA g_greatest_powers_c1 nilA)))
/-- plane i line -/
def g_greatest_powers : Ss := g_greatest_powers_s1
@[irreducible] def m_greatest_powers := bodyF 3 g_greatest_powers

def g__law_pot_s1 : Ss := (setS 2 (binM addD (binM mulD (conM (.int 617)) (nameM 1)) (conM (.int 421))))
def g__law_pot_s2 : Ss := (ifS (boolM (binM ltI (nameM 1) (callM lenD (consA (nameM 0) nilA))))
  (setS 2 (callM absD (consA (binM ixD (nameM 0) (nameM 1)) nilA)))
  skipS)
def g__law_pot_s3 : Ss := (retS (lstM (consA (callM max2D (consA (conM (.int 0)) (consA (binM subI (nameM 2) (binM powD (conM (.int 10)) (conM (.int 18)))) nilA))) (consA (binM addD (binM modD (callM intD (consA (binM addD (binM addD (binM mulD (binM modD (callM intD (consA (nameM 2) nilA)) (conM (.int 2147483549))) (conM (.int 48271))) (binM mulD (conM (.int 3673)) (nameM 1))) (conM (.int 17))) nilA)) (conM (.int 2147483563))) (conM (.int 1))) nilA))))
/-- _law_script _law_k _law_cell -/
def g__law_pot : Ss := (seqS g__law_pot_s1
  (seqS g__law_pot_s2
  g__law_pot_s3))
@[irreducible] def m__law_pot := bodyF 3 g__law_pot

def g__law_draw_s1 : Ss := (ifS (boolM (binM gtI (binM ixD (nameM 0) (conM (.int 0))) (conM (.int 0))))
  (seqS (asgS (callM divmodD (consA (binM ixD (nameM 0) (conM (.int 0))) (consA (nameM 1) nilA))) (tupG 2 (consG (subG 0 (conM (.int 0))) (consG (asg 2) nilG))))
  (retS (nameM 2)))
  skipS)
def g__law_draw_s2 : Ss := (asgS (binM modD (callM intD (consA (binM addD (binM mulD (binM ixD (nameM 0) (conM (.int 1))) (conM (.int 39373))) (conM (.int 3673))) nilA)) (conM (.int 2147483587))) (subG 0 (conM (.int 1))))
def g__law_draw_s3 : Ss := (retS (binM modD (callM intD (consA (binM fdivD (binM modD (callM intD (consA (binM mulD (binM ixD (nameM 0) (conM (.int 1))) (binM ixD (nameM 0) (conM (.int 1)))) nilA)) (conM (.int 2147483563))) (conM (.int 17))) nilA)) (nameM 1)))
/-- _law_pot_here _law_size _law_digit -/
def g__law_draw : Ss := (seqS g__law_draw_s1
  (seqS g__law_draw_s2
  g__law_draw_s3))
@[irreducible] def m__law_draw := bodyI 3 g__law_draw

def g__law_told_t1 : Me Bool := (andM (boolM (binM neD (nameM 1) (lstM nilA))) (boolM (binM eqD (binM ixD (nameM 1) (unM negI (conM (.int 1)))) (conM (.int 0)))))
def g__law_told_b1 : Ss := (dropS (methM 1 popL nilA))
def g__law_told_w1 : Ss := whileN g__law_told_t1 g__law_told_b1 fuel
def g__law_told_s1 : Ss := (setS 1 (callM listD (consA (nameM 0) nilA)))
def g__law_told_s2 : Ss := (retS (nameM 1))
/-- _law_some _law_found -/
def g__law_told : Ss := (seqS g__law_told_s1
  (seqS g__law_told_w1
  g__law_told_s2))
@[irreducible] def m__law_told := bodyF 2 g__law_told

def g_is_count_s1 : Ss := (retS (andV (callP [0] m_is_integer (consA (nameM 0) nilA) nilA) (binM geI (nameM 0) (conM (.int 0)))))
/-- value -/
def g_is_count : Ss := g_is_count_s1
@[irreducible] def m_is_count := bodyF 1 g_is_count

def g_plane_in_c1 : Me Val := compM (seqM (nameM 1)) (asg 2) (mr true) (callP [0] m_is_integer (consA (nameM 2) nilA) nilA) [2]
def g_plane_in_b1 : Ss := (seqS (ifS (orM (notM (boolM (callP [0] m_is_list (consA (nameM 1) nilA) nilA))) (orM (boolM (binM gtI (callM lenD (consA (nameM 1) nilA)) (binM addD (conM (.int 8)) (conM (.int 1))))) (notM (boolM (callM allD (consA g_plane_in_c1 nilA))))))
  (retS (conM .none))
  skipS)
  (ifS (andM (boolM (binM gtI (callM lenD (consA (nameM 1) nilA)) (conM (.int 0)))) (boolM (binM eqD (binM ixD (nameM 1) (unM negI (conM (.int 1)))) (conM (.int 0)))))
  (retS (conM .none))
  skipS))
def g_plane_in_f1 : Ss := forS (seqM (nameM 0)) (asg 1) g_plane_in_b1
def g_plane_in_c2 : Me Val := compM (seqM (nameM 0)) (asg 1) (mr true) (callM listD (consA (nameM 1) nilA)) [1]
def g_plane_in_s1 : Ss := (ifS (orM (notM (boolM (callP [0] m_is_list (consA (nameM 0) nilA) nilA))) (boolM (binM gtI (callM lenD (consA (nameM 0) nilA)) (binM addD (conM (.int 8)) (conM (.int 1))))))
  (retS (conM .none))
  skipS)
def g_plane_in_s2 : Ss := (ifS (andM (boolM (binM gtI (callM lenD (consA (nameM 0) nilA)) (conM (.int 0)))) (boolM (binM eqD (callM lenD (consA (binM ixD (nameM 0) (unM negI (conM (.int 1)))) nilA)) (conM (.int 0)))))
  (retS (conM .none))
  skipS)
def g_plane_in_s3 : Ss := (retS g_plane_in_c2)
/-- value line number -/
def g_plane_in : Ss := (seqS g_plane_in_s1
  (seqS g_plane_in_f1
  (seqS g_plane_in_s2
  g_plane_in_s3)))
@[irreducible] def m_plane_in := bodyF 3 g_plane_in

def g_is_plane_s1 : Ss := (retS (binM isnotD (callP [0] m_plane_in (consA (nameM 0) nilA) nilA) (conM .none)))
/-- value -/
def g_is_plane : Ss := g_is_plane_s1
@[irreducible] def m_is_plane := bodyF 1 g_is_plane

def g_form_in_s1 : Ss := (ifS (orM (notM (boolM (unM (isiD "tuple") (nameM 0)))) (orM (boolM (binM neD (callM lenD (consA (nameM 0) nilA)) (conM (.int 2)))) (orM (notM (boolM (callP [0] m_is_count (consA (binM ixD (nameM 0) (conM (.int 1))) nilA) nilA))) (boolM (binM gtI (binM ixD (nameM 0) (conM (.int 1))) (conM (.int 8)))))))
  (retS (conM .none))
  skipS)
def g_form_in_s2 : Ss := (setS 1 (callP [0] m_plane_in (consA (binM ixD (nameM 0) (conM (.int 0))) nilA) nilA))
def g_form_in_s3 : Ss := (ifS (orM (boolM (binM isD (nameM 1) (conM .none))) (orM (boolM (binM eqD (nameM 1) (lstM nilA))) (boolM (binM gtI (callL [0] m_greatest_powers (consA (nameM 1) nilA)) (binM ixD (nameM 0) (conM (.int 1)))))))
  (retS (conM .none))
  skipS)
def g_form_in_s4 : Ss := (frzS 1 (retS (tupM (consA (nameM 1) (consA (binM ixD (nameM 0) (conM (.int 1))) nilA)))))
/-- value plane -/
def g_form_in : Ss := (seqS g_form_in_s1
  (seqS g_form_in_s2
  (seqS g_form_in_s3
  g_form_in_s4)))
@[irreducible] def m_form_in := bodyF 2 g_form_in

def g_is_form_s1 : Ss := (retS (binM isnotD (callP [0] m_form_in (consA (nameM 0) nilA) nilA) (conM .none)))
/-- value -/
def g_is_form : Ss := g_is_form_s1
@[irreducible] def m_is_form := bodyF 1 g_is_form

def g__law_due_c1 : Me Val := compM (enumA (consA (nameM 2) nilA)) (tupG 2 (consG (asg 3) (consG (asg 4) nilG))) (andM (boolM (binM neD (nameM 4) (conM (.int 0)))) (boolM (binM gtI (binM addD (nameM 1) (nameM 3)) (binM ixD (nameM 0) (conM (.int 1)))))) (nameM 3) [3, 4]
def g__law_due_b1 : Ss := (ifS (boolM (binM gtI (callM lenD (consA g__law_due_c1 nilA)) (conM (.int 0))))
  (retS (conM (.bool false)))
  skipS)
def g__law_due_f1 : Ss := forS (enumA (consA (binM ixD (nameM 0) (conM (.int 0))) nilA)) (tupG 2 (consG (asg 1) (consG (asg 2) nilG))) g__law_due_b1
def g__law_due_s1 : Ss := (ifS (orM (notM (boolM (unM (isiD "tuple") (nameM 0)))) (orM (boolM (binM neD (callM lenD (consA (nameM 0) nilA)) (conM (.int 2)))) (orM (notM (boolM (callP [0] m_is_plane (consA (binM ixD (nameM 0) (conM (.int 0))) nilA) nilA))) (boolM (binM eqD (callM lenD (consA (binM ixD (nameM 0) (conM (.int 0))) nilA)) (conM (.int 0)))))))
  (retS (conM (.bool false)))
  skipS)
def g__law_due_s2 : Ss := (ifS (orM (notM (boolM (unM (isiD "int") (binM ixD (nameM 0) (conM (.int 1)))))) (orM (boolM (unM (isiD "bool") (binM ixD (nameM 0) (conM (.int 1))))) (notM (boolM (chainM leI leI (conM (.int 0)) (binM ixD (nameM 0) (conM (.int 1))) (conM (.int 8)))))))
  (retS (conM (.bool false)))
  skipS)
def g__law_due_s3 : Ss := (retS (conM (.bool true)))
/-- _law_value _law_i _law_line _law_j _law_number -/
def g__law_due : Ss := (seqS g__law_due_s1
  (seqS g__law_due_s2
  (seqS g__law_due_f1
  g__law_due_s3)))
@[irreducible] def m__law_due := bodyF 5 g__law_due

def g__law_right_c1 : Me Val := compM (rngM1 (consA (callI m__law_draw (consA (nameM 0) (consA (conM (.int 5)) nilA))) nilA)) (asg 3) (mr true) (binM subI (callI m__law_draw (consA (nameM 0) (consA (conM (.int 3)) nilA))) (conM (.int 1))) [3]
def g__law_right_b1 : Ss := (dropS (methM 1 appendL (consA (callP [0] m__law_told (consA g__law_right_c1 nilA) nilA) nilA)))
def g__law_right_f1 : Ss := forS (rngM1 (consA (binM addD (conM (.int 1)) (callI m__law_draw (consA (nameM 0) (consA (conM (.int 4)) nilA)))) nilA)) (asg 2) g__law_right_b1
def g__law_right_c2 : Me Val := compM (enumA (consA (nameM 1) nilA)) (tupG 2 (consG (asg 5) (consG (asg 6) nilG))) (mr true) (binM subI (binM addD (nameM 5) (callM lenD (consA (nameM 6) nilA))) (conM (.int 1))) [5, 6]
def g__law_right_c3 : Me Val := compM (seqM (lstM (consA (unM negI (conM (.int 2))) (consA (unM negI (conM (.int 1))) (consA (conM (.int 0)) (consA (conM (.int 1)) nilA)))))) (asg 8) (mr true) (tupM (consA (nameM 1) (consA (binM addD (nameM 4) (nameM 8)) nilA))) [8]
def g__law_right_b2 : Ss := (seqS (setS 10 (callP [0] m__law_due (consA (nameM 9) nilA) nilA))
  (ifS (boolM (binM neD (callM reprD (consA (lstM (consA (callP [0] m_is_form (consA (nameM 9) nilA) nilA) (consA (callP [0] m_is_form nilA (consA (nameM 9) nilA)) nilA))) nilA)) (callM reprD (consA (lstM (consA (nameM 10) (consA (nameM 10) nilA))) nilA))))
  (retS (conM (.bool false)))
  skipS))
def g__law_right_f2 : Ss := forS (seqM (nameM 7)) (asg 9) g__law_right_b2
def g__law_right_s1 : Ss := (setS 1 (lstM nilA))
def g__law_right_s2 : Ss := (dropS (methM 1 appendL (consA (ifM (boolM (binM eqD (callI m__law_draw (consA (nameM 0) (consA (conM (.int 2)) nilA))) (conM (.int 0)))) (lstM (consA (binM addD (callI m__law_draw (consA (nameM 0) (consA (conM (.int 9)) nilA))) (conM (.int 1))) nilA)) (binM addD (binM mulD (lstM (consA (conM (.int 0)) nilA)) (callI m__law_draw (consA (nameM 0) (consA (conM (.int 4)) nilA)))) (lstM (consA (conM (.int 2)) nilA)))) nilA)))
def g__law_right_s3 : Ss := (frzS 1 (setS 4 (callM maxLD (consA g__law_right_c2 nilA))))
def g__law_right_s4 : Ss := (frzS 1 (setS 7 g__law_right_c3))
def g__law_right_s5 : Ss := (frzS 1 (dropS (methM 7 extendL (consA (lstM (consA (tupM (consA (callM tupleD (consA (nameM 1) nilA)) (consA (nameM 4) nilA))) (consA (lstM (consA (nameM 1) (consA (nameM 4) nilA))) (consA (tupM (consA (nameM 1) nilA)) (consA (tupM (consA (nameM 1) (consA (nameM 4) (consA (conM (.int 0)) nilA)))) (consA (tupM (consA (nameM 1) (consA (conM (.bool true)) nilA))) (consA (tupM (consA (nameM 1) (consA (callM strI (consA (nameM 4) nilA)) nilA))) (consA (tupM (consA (binM addD (nameM 1) (lstM (consA (lstM nilA) nilA))) (consA (nameM 4) nilA))) (consA (tupM (consA (nameM 4) (consA (nameM 1) nilA))) (consA (nameM 1) (consA (nameM 4) nilA))))))))))) nilA))))
def g__law_right_s6 : Ss := (frzS 1 (dropS (methM 7 extendL (consA (lstM (consA (tupM (consA (nameM 1) (consA (conM (.int 8)) nilA))) (consA (tupM (consA (nameM 1) (consA (conM (.int 9)) nilA))) (consA (tupM (consA (lstM (consA (lstM (consA (conM (.int 1)) nilA)) nilA)) (consA (conM (.int 0)) nilA))) (consA (tupM (consA (lstM nilA) (consA (conM (.int 0)) nilA))) (consA (tupM (consA (lstM (consA (lstM (consA (conM (.int 1)) nilA)) nilA)) (consA (conM (.int 8)) nilA))) (consA (tupM (consA (lstM (consA (lstM (consA (conM (.int 1)) nilA)) nilA)) (consA (conM (.int 9)) nilA))) (consA (conM .none) (consA (tupM nilA) (consA (conM (.str "")) (consA dnewM (consA (tupM (consA (lstM (consA (lstM (consA (conM (.int 0)) (consA (conM (.int 0)) (consA (conM (.int 0)) (consA (conM (.int 0)) (consA (conM (.int 0)) (consA (conM (.int 0)) (consA (conM (.int 0)) (consA (conM (.int 0)) (consA (conM (.int 1)) nilA)))))))))) nilA)) (consA (conM (.int 8)) nilA))) (consA (tupM (consA (lstM (consA (lstM (consA (conM (.int 0)) (consA (conM (.int 0)) (consA (conM (.int 0)) (consA (conM (.int 0)) (consA (conM (.int 0)) (consA (conM (.int 0)) (consA (conM (.int 0)) (consA (conM (.int 0)) (consA (conM (.int 1)) nilA)))))))))) nilA)) (consA (conM (.int 7)) nilA))) nilA))))))))))))) nilA))))
def g__law_right_s7 : Ss := (frzS 7 g__law_right_f2)
def g__law_right_s8 : Ss := (retS (conM (.bool true)))
/-- _law_pot_here _law_lines _law_turn _law_at _law_most _law_i _law_line _law_values _law_step _law_value _law_due_here -/
def g__law_right : Ss := (seqS g__law_right_s1
  (seqS g__law_right_f1
  (seqS g__law_right_s2
  (seqS g__law_right_s3
  (seqS g__law_right_s4
  (seqS g__law_right_s5
  (seqS g__law_right_s6
  (seqS g__law_right_s7
  g__law_right_s8))))))))
@[irreducible] def m__law_right := bodyI 11 g__law_right

def g_law_s1 : Ss := (retS (callO m__law_right (callP [0, 1] m__law_pot (consA (nameM 0) (consA (conM (.int 0)) nilA)) nilA)))
/-- _law_script -/
def g_law : Ss := g_law_s1
@[irreducible] def m_law := bodyF 1 g_law
end K84
end
section
set_option maxRecDepth 100000
set_option maxHeartbeats 1000000
namespace K84
open PySem PySem.Spec L2 DL

def seq? : D → Option (List D)
  | .list l => some l
  | .tuple l => some l
  | _ => none
def itemsE (d : D) : List D := (seq? d).getD []
def ty0 (d : D) : Prop := ∃ T, tyName d = some T
def ty1 (d : D) : Prop := ty0 d ∧ ∀ x ∈ itemsE d, ty0 x
def ty2 (d : D) : Prop := ty0 d ∧ ∀ x ∈ itemsE d, ty1 x
def isI : D → Bool
  | .int _ => true
  | _ => false
def isNil : D → Bool
  | .int i => decide (i = 0)
  | _ => false
def lineB (d : D) : Bool := match seq? d with
  | some l => decide (l.length ≤ 9) && l.all isI && (match l.getLast? with
    | some x => !isNil x
    | none => true)
  | none => false
def planeB (d : D) : Bool := match seq? d with
  | some l => decide (l.length ≤ 9) && l.all lineB && (match l.getLast? with
    | some x => !(itemsE x).isEmpty
    | none => true)
  | none => false
def planeRows (d : D) : List D := (itemsE d).map fun x => .list (itemsE x)

theorem isT_int {d : D} {T : String} (h : tyName d = some T) : (isT T "int" && !isT T "bool") = isI d := by
  unfold tyName at h
  split at h <;> first | (cases h; decide) | (cases h; rfl) | cases h
theorem r_is_integer {d : D} (h : ty0 d) : m_is_integer [d] = some (.fz (.bool (isI d))) := by
  obtain ⟨T, h⟩ := h
  rw [← isT_int h]
  simp only [m_is_integer, g_is_integer, g_is_integer_s1, mb, mr, mo, nameM, conM, binM, unM, boolM, ifM, DL.andM, DL.orM, DL.notM, andV, orV, notV, chainM, nilA, consA, dvs, dv, ownAt, fzs, lstM, tupM, callM, callP, permL, fzv, seqS, skipS, ifS, setS, asg, freeAt, retS, retV, dropS, frz, frzS, asgS, nilG, consG, tupG, subG, listAt, methM, augS, augSubS, forS, seqM, treeV, startD, endV, bodyF, bodyI, startI, ioAt, slM, partM, bors, callL, callI, callO, DL.flatV, DL.flat, List.filterMap_cons, List.filterMap_nil, List.map_cons, List.map_nil, List.getElem?_cons_zero, List.getElem?_cons_succ, List.getElem?_nil, List.set_cons_zero, List.set_cons_succ, List.cons_append, List.nil_append, List.length_cons, List.length_nil, Option.bind_some, Option.bind_none, Option.map_some, Option.map_none, Nat.reduceSub, Nat.reduceAdd, List.replicate_succ, List.replicate_zero, Bool.not_true, Bool.not_false, if_true, if_false, Bool.false_eq_true, reduceIte, decide_true, decide_false, Nat.reduceLT, Nat.reduceLeDiff, reduceCtorEq, Option.some.injEq, Prod.mk.injEq, itemsOf, enumA, rngM1, rngM2, zipM, intB, addD, subI, mulD, fdivD, modD, powD, ltI, leI, gtI, geI, negI, isD, isnotD, isNone, lenD, listD, tupleD, intD, absD, max2D, min2D, isiD, isiD2, h]
  cases isT T "int" <;> simp only [mb, mr, mo, nameM, conM, binM, unM, boolM, ifM, DL.andM, DL.orM, DL.notM, andV, orV, notV, chainM, nilA, consA, dvs, dv, ownAt, fzs, lstM, tupM, callM, callP, permL, fzv, seqS, skipS, ifS, setS, asg, freeAt, retS, retV, dropS, frz, frzS, asgS, nilG, consG, tupG, subG, listAt, methM, augS, augSubS, forS, seqM, treeV, startD, endV, bodyF, bodyI, startI, ioAt, slM, partM, bors, callL, callI, callO, DL.flatV, DL.flat, List.filterMap_cons, List.filterMap_nil, List.map_cons, List.map_nil, List.getElem?_cons_zero, List.getElem?_cons_succ, List.getElem?_nil, List.set_cons_zero, List.set_cons_succ, List.cons_append, List.nil_append, List.length_cons, List.length_nil, Option.bind_some, Option.bind_none, Option.map_some, Option.map_none, Nat.reduceSub, Nat.reduceAdd, List.replicate_succ, List.replicate_zero, Bool.not_true, Bool.not_false, if_true, if_false, Bool.false_eq_true, reduceIte, decide_true, decide_false, Nat.reduceLT, Nat.reduceLeDiff, reduceCtorEq, Option.some.injEq, Prod.mk.injEq, itemsOf, enumA, rngM1, rngM2, zipM, intB, addD, subI, mulD, fdivD, modD, powD, ltI, leI, gtI, geI, negI, isD, isnotD, isNone, lenD, listD, tupleD, intD, absD, max2D, min2D, isiD, isiD2, h] <;> rfl
theorem isT_seq {d : D} {T : String} (h : tyName d = some T) : (isT T "list" || isT T "tuple") = (seq? d).isSome := by
  unfold tyName at h
  split at h <;> first | (cases h; decide) | (cases h; rfl) | cases h
theorem r_is_list {d : D} (h : ty0 d) : m_is_list [d] = some (.fz (.bool (seq? d).isSome)) := by
  obtain ⟨T, h⟩ := h
  rw [← isT_seq h]
  simp only [m_is_list, g_is_list, g_is_list_s1, mb, mr, mo, nameM, conM, binM, unM, boolM, ifM, DL.andM, DL.orM, DL.notM, andV, orV, notV, chainM, nilA, consA, dvs, dv, ownAt, fzs, lstM, tupM, callM, callP, permL, fzv, seqS, skipS, ifS, setS, asg, freeAt, retS, retV, dropS, frz, frzS, asgS, nilG, consG, tupG, subG, listAt, methM, augS, augSubS, forS, seqM, treeV, startD, endV, bodyF, bodyI, startI, ioAt, slM, partM, bors, callL, callI, callO, DL.flatV, DL.flat, List.filterMap_cons, List.filterMap_nil, List.map_cons, List.map_nil, List.getElem?_cons_zero, List.getElem?_cons_succ, List.getElem?_nil, List.set_cons_zero, List.set_cons_succ, List.cons_append, List.nil_append, List.length_cons, List.length_nil, Option.bind_some, Option.bind_none, Option.map_some, Option.map_none, Nat.reduceSub, Nat.reduceAdd, List.replicate_succ, List.replicate_zero, Bool.not_true, Bool.not_false, if_true, if_false, Bool.false_eq_true, reduceIte, decide_true, decide_false, Nat.reduceLT, Nat.reduceLeDiff, reduceCtorEq, Option.some.injEq, Prod.mk.injEq, itemsOf, enumA, rngM1, rngM2, zipM, intB, addD, subI, mulD, fdivD, modD, powD, ltI, leI, gtI, geI, negI, isD, isnotD, isNone, lenD, listD, tupleD, intD, absD, max2D, min2D, isiD, isiD2, h]
theorem r_is_count {d : D} (h : ty0 d) : m_is_count [d] = some (.fz (.bool (match d with
    | .int i => decide (0 ≤ i)
    | _ => false))) := by
  simp only [m_is_count, g_is_count, g_is_count_s1, mb, mr, mo, nameM, conM, binM, unM, boolM, ifM, DL.andM, DL.orM, DL.notM, andV, orV, notV, chainM, nilA, consA, dvs, dv, ownAt, fzs, lstM, tupM, callM, callP, permL, fzv, seqS, skipS, ifS, setS, asg, freeAt, retS, retV, dropS, frz, frzS, asgS, nilG, consG, tupG, subG, listAt, methM, augS, augSubS, forS, seqM, treeV, startD, endV, bodyF, bodyI, startI, ioAt, slM, partM, bors, callL, callI, callO, DL.flatV, DL.flat, List.filterMap_cons, List.filterMap_nil, List.map_cons, List.map_nil, List.getElem?_cons_zero, List.getElem?_cons_succ, List.getElem?_nil, List.set_cons_zero, List.set_cons_succ, List.cons_append, List.nil_append, List.length_cons, List.length_nil, Option.bind_some, Option.bind_none, Option.map_some, Option.map_none, Nat.reduceSub, Nat.reduceAdd, List.replicate_succ, List.replicate_zero, Bool.not_true, Bool.not_false, if_true, if_false, Bool.false_eq_true, reduceIte, decide_true, decide_false, Nat.reduceLT, Nat.reduceLeDiff, reduceCtorEq, Option.some.injEq, Prod.mk.injEq, r_is_integer h]
  cases d <;> simp only [isI, mb, mr, mo, nameM, conM, binM, unM, boolM, ifM, DL.andM, DL.orM, DL.notM, andV, orV, notV, chainM, nilA, consA, dvs, dv, ownAt, fzs, lstM, tupM, callM, callP, permL, fzv, seqS, skipS, ifS, setS, asg, freeAt, retS, retV, dropS, frz, frzS, asgS, nilG, consG, tupG, subG, listAt, methM, augS, augSubS, forS, seqM, treeV, startD, endV, bodyF, bodyI, startI, ioAt, slM, partM, bors, callL, callI, callO, DL.flatV, DL.flat, List.filterMap_cons, List.filterMap_nil, List.map_cons, List.map_nil, List.getElem?_cons_zero, List.getElem?_cons_succ, List.getElem?_nil, List.set_cons_zero, List.set_cons_succ, List.cons_append, List.nil_append, List.length_cons, List.length_nil, Option.bind_some, Option.bind_none, Option.map_some, Option.map_none, Nat.reduceSub, Nat.reduceAdd, List.replicate_succ, List.replicate_zero, Bool.not_true, Bool.not_false, if_true, if_false, Bool.false_eq_true, reduceIte, decide_true, decide_false, Nat.reduceLT, Nat.reduceLeDiff, reduceCtorEq, Option.some.injEq, Prod.mk.injEq, itemsOf, enumA, rngM1, rngM2, zipM, intB, addD, subI, mulD, fdivD, modD, powD, ltI, leI, gtI, geI, negI, isD, isnotD, isNone, lenD, listD, tupleD, intD, absD, max2D, min2D, isiD, isiD2]
theorem seq_cases {d : D} {l : List D} (h : seq? d = some l) : d = .list l ∨ d = .tuple l := by
  unfold seq? at h
  split at h <;> cases h
  · exact .inl rfl
  · exact .inr rfl
/-- all are whole numbers -/
theorem r_all {d : D} {l : List D} (hl : seq? d = some l) (hz : l.length ≤ 9) (ht : ∀ x ∈ l, ty0 x) (s0 : Sl) (s2 : Sl) (h2 : plainAt [s0, .dat d, s2] 2 = true) :
    g_plane_in_c1 [s0, .dat d, s2] = some (.ow (.list (l.map fun x => .bool (isI x))), [s0, .dat d, s2]) := by
  unfold g_plane_in_c1
  have e := compM_gen (fi := seqM (nameM 1)) (gt := asg 2) (ft := mr true) (fe := callP [0] m_is_integer (consA (nameM 2) nilA) nilA) (vs := [2]) (δ := [s0, .dat d, s2]) (ds := l) (fun x => some (.bool (isI x))) ?_ ?_ ?_ ?_ ?_
  · rw [e, List.filterMap_eq_map']
  · rcases seq_cases hl with rfl | rfl <;> simp only [mb, mr, mo, nameM, conM, binM, unM, boolM, ifM, DL.andM, DL.orM, DL.notM, andV, orV, notV, chainM, nilA, consA, dvs, dv, ownAt, fzs, lstM, tupM, callM, callP, permL, fzv, seqS, skipS, ifS, setS, asg, freeAt, retS, retV, dropS, frz, frzS, asgS, nilG, consG, tupG, subG, listAt, methM, augS, augSubS, forS, seqM, treeV, startD, endV, bodyF, bodyI, startI, ioAt, slM, partM, bors, callL, callI, callO, DL.flatV, DL.flat, List.filterMap_cons, List.filterMap_nil, List.map_cons, List.map_nil, List.getElem?_cons_zero, List.getElem?_cons_succ, List.getElem?_nil, List.set_cons_zero, List.set_cons_succ, List.cons_append, List.nil_append, List.length_cons, List.length_nil, Option.bind_some, Option.bind_none, Option.map_some, Option.map_none, Nat.reduceSub, Nat.reduceAdd, List.replicate_succ, List.replicate_zero, Bool.not_true, Bool.not_false, if_true, if_false, Bool.false_eq_true, reduceIte, decide_true, decide_false, Nat.reduceLT, Nat.reduceLeDiff, reduceCtorEq, Option.some.injEq, Prod.mk.injEq, itemsOf]
  · simp only [List.all_cons, List.all_nil, h2, Bool.and_true]
  · simp only [backD, wipeD, List.getD_cons_succ, List.getD_cons_zero, mb, mr, mo, nameM, conM, binM, unM, boolM, ifM, DL.andM, DL.orM, DL.notM, andV, orV, notV, chainM, nilA, consA, dvs, dv, ownAt, fzs, lstM, tupM, callM, callP, permL, fzv, seqS, skipS, ifS, setS, asg, freeAt, retS, retV, dropS, frz, frzS, asgS, nilG, consG, tupG, subG, listAt, methM, augS, augSubS, forS, seqM, treeV, startD, endV, bodyF, bodyI, startI, ioAt, slM, partM, bors, callL, callI, callO, DL.flatV, DL.flat, List.filterMap_cons, List.filterMap_nil, List.map_cons, List.map_nil, List.getElem?_cons_zero, List.getElem?_cons_succ, List.getElem?_nil, List.set_cons_zero, List.set_cons_succ, List.cons_append, List.nil_append, List.length_cons, List.length_nil, Option.bind_some, Option.bind_none, Option.map_some, Option.map_none, Nat.reduceSub, Nat.reduceAdd, List.replicate_succ, List.replicate_zero, Bool.not_true, Bool.not_false, if_true, if_false, Bool.false_eq_true, reduceIte, decide_true, decide_false, Nat.reduceLT, Nat.reduceLeDiff, reduceCtorEq, Option.some.injEq, Prod.mk.injEq]
  · unfold szOk
    simp only [List.filterMap_eq_map', List.length_map]
    exact decide_eq_true (by omega)
  · intro x hx
    refine ⟨[s0, .dat d, .dat x], ?_, .inr ⟨_, .fz (.bool (isI x)), rfl, rfl, ?_, rfl⟩, ?_⟩
    · simp only [wipeD, mb, mr, mo, nameM, conM, binM, unM, boolM, ifM, DL.andM, DL.orM, DL.notM, andV, orV, notV, chainM, nilA, consA, dvs, dv, ownAt, fzs, lstM, tupM, callM, callP, permL, fzv, seqS, skipS, ifS, setS, asg, freeAt, retS, retV, dropS, frz, frzS, asgS, nilG, consG, tupG, subG, listAt, methM, augS, augSubS, forS, seqM, treeV, startD, endV, bodyF, bodyI, startI, ioAt, slM, partM, bors, callL, callI, callO, DL.flatV, DL.flat, List.filterMap_cons, List.filterMap_nil, List.map_cons, List.map_nil, List.getElem?_cons_zero, List.getElem?_cons_succ, List.getElem?_nil, List.set_cons_zero, List.set_cons_succ, List.cons_append, List.nil_append, List.length_cons, List.length_nil, Option.bind_some, Option.bind_none, Option.map_some, Option.map_none, Nat.reduceSub, Nat.reduceAdd, List.replicate_succ, List.replicate_zero, Bool.not_true, Bool.not_false, if_true, if_false, Bool.false_eq_true, reduceIte, decide_true, decide_false, Nat.reduceLT, Nat.reduceLeDiff, reduceCtorEq, Option.some.injEq, Prod.mk.injEq]
    · simp only [mb, mr, mo, nameM, conM, binM, unM, boolM, ifM, DL.andM, DL.orM, DL.notM, andV, orV, notV, chainM, nilA, consA, dvs, dv, ownAt, fzs, lstM, tupM, callM, callP, permL, fzv, seqS, skipS, ifS, setS, asg, freeAt, retS, retV, dropS, frz, frzS, asgS, nilG, consG, tupG, subG, listAt, methM, augS, augSubS, forS, seqM, treeV, startD, endV, bodyF, bodyI, startI, ioAt, slM, partM, bors, callL, callI, callO, DL.flatV, DL.flat, List.filterMap_cons, List.filterMap_nil, List.map_cons, List.map_nil, List.getElem?_cons_zero, List.getElem?_cons_succ, List.getElem?_nil, List.set_cons_zero, List.set_cons_succ, List.cons_append, List.nil_append, List.length_cons, List.length_nil, Option.bind_some, Option.bind_none, Option.map_some, Option.map_none, Nat.reduceSub, Nat.reduceAdd, List.replicate_succ, List.replicate_zero, Bool.not_true, Bool.not_false, if_true, if_false, Bool.false_eq_true, reduceIte, decide_true, decide_false, Nat.reduceLT, Nat.reduceLeDiff, reduceCtorEq, Option.some.injEq, Prod.mk.injEq, r_is_integer (ht x hx)]
    · simp only [wipeD, mb, mr, mo, nameM, conM, binM, unM, boolM, ifM, DL.andM, DL.orM, DL.notM, andV, orV, notV, chainM, nilA, consA, dvs, dv, ownAt, fzs, lstM, tupM, callM, callP, permL, fzv, seqS, skipS, ifS, setS, asg, freeAt, retS, retV, dropS, frz, frzS, asgS, nilG, consG, tupG, subG, listAt, methM, augS, augSubS, forS, seqM, treeV, startD, endV, bodyF, bodyI, startI, ioAt, slM, partM, bors, callL, callI, callO, DL.flatV, DL.flat, List.filterMap_cons, List.filterMap_nil, List.map_cons, List.map_nil, List.getElem?_cons_zero, List.getElem?_cons_succ, List.getElem?_nil, List.set_cons_zero, List.set_cons_succ, List.cons_append, List.nil_append, List.length_cons, List.length_nil, Option.bind_some, Option.bind_none, Option.map_some, Option.map_none, Nat.reduceSub, Nat.reduceAdd, List.replicate_succ, List.replicate_zero, Bool.not_true, Bool.not_false, if_true, if_false, Bool.false_eq_true, reduceIte, decide_true, decide_false, Nat.reduceLT, Nat.reduceLeDiff, reduceCtorEq, Option.some.injEq, Prod.mk.injEq]
theorem boolsOf_isI (l : List D) : boolsOf (l.map fun x => .bool (isI x)) = some (l.map isI) := by
  have := boolsOf_map (l.map isI)
  rwa [List.map_map] at this
theorem szOk9 {n : Nat} (h : n ≤ 63) : szOk n = true := decide_eq_true (by omega)
theorem len_seq {d : D} {l : List D} (h : seq? d = some l) : lenD [d] = some (.fz (.int l.length)) := by rcases seq_cases h with rfl | rfl <;> rfl
theorem ix_last {d : D} {ys : List D} {y : D} (h : seq? d = some (ys ++ [y])) : ixD d (.int (-1)) = some (.fz y) := by
  rcases seq_cases h with rfl | rfl <;> (unfold ixD; simp only [atI_last1]; rfl)
/-- a line of the plane: good, or None is handed back -/
theorem line_turn {x : D} (h : ty1 x) (s0 : Sl) (s2 : Sl) (h2 : plainAt [s0, .dat x, s2] 2 = true) :
    (lineB x = true ∧ g_plane_in_b1 [s0, .dat x, s2] = some (.nx, [s0, .dat x, s2])) ∨ (lineB x = false ∧ g_plane_in_b1 [s0, .dat x, s2] = some (.rt (.fz .none), [s0, .dat x, s2])) := by
  unfold g_plane_in_b1
  have hl := r_is_list h.1
  cases hq : seq? x with
  | none =>
    rw [hq] at hl
    refine .inr ⟨by unfold lineB; rw [hq], ?_⟩
    simp only [mb, mr, mo, nameM, conM, binM, unM, boolM, ifM, DL.andM, DL.orM, DL.notM, andV, orV, notV, chainM, nilA, consA, dvs, dv, ownAt, fzs, lstM, tupM, callM, callP, permL, fzv, seqS, skipS, ifS, setS, asg, freeAt, retS, retV, dropS, frz, frzS, asgS, nilG, consG, tupG, subG, listAt, methM, augS, augSubS, forS, seqM, treeV, startD, endV, bodyF, bodyI, startI, ioAt, slM, partM, bors, callL, callI, callO, DL.flatV, DL.flat, List.filterMap_cons, List.filterMap_nil, List.map_cons, List.map_nil, List.getElem?_cons_zero, List.getElem?_cons_succ, List.getElem?_nil, List.set_cons_zero, List.set_cons_succ, List.cons_append, List.nil_append, List.length_cons, List.length_nil, Option.bind_some, Option.bind_none, Option.map_some, Option.map_none, Nat.reduceSub, Nat.reduceAdd, List.replicate_succ, List.replicate_zero, Bool.not_true, Bool.not_false, if_true, if_false, Bool.false_eq_true, reduceIte, decide_true, decide_false, Nat.reduceLT, Nat.reduceLeDiff, reduceCtorEq, Option.some.injEq, Prod.mk.injEq, hl, Option.isSome]
  | some l =>
    rw [hq] at hl
    have hlen := len_seq hq
    have hty : ∀ y ∈ l, ty0 y := by
      have := h.2
      unfold itemsE at this
      rw [hq] at this
      exact this
    by_cases hz : l.length ≤ 9
    · have hall := r_all hq hz hty s0 s2 h2
      have hgt : decide (((8 : Int) + 1) < (l.length : Int)) = false := decide_eq_false (by omega)
      by_cases ha : l.all isI = true
      · have hb : (l.map isI).all id = true := by simpa using ha
        rcases List.eq_nil_or_concat l with rfl | ⟨ys, y, rfl⟩
        · refine .inl ⟨by unfold lineB; rw [hq]; simp, ?_⟩
          have hlen : lenD [x] = some (.fz (.int 0)) := hlen
          have hl : m_is_list [x] = some (.fz (.bool true)) := hl
          have hall : g_plane_in_c1 [s0, .dat x, s2] = some (.ow (.list []), [s0, .dat x, s2]) := hall
          simp only [mb, mr, mo, nameM, conM, binM, unM, boolM, ifM, DL.andM, DL.orM, DL.notM, andV, orV, notV, chainM, nilA, consA, dvs, dv, ownAt, fzs, lstM, tupM, callM, callP, permL, fzv, seqS, skipS, ifS, setS, asg, freeAt, retS, retV, dropS, frz, frzS, asgS, nilG, consG, tupG, subG, listAt, methM, augS, augSubS, forS, seqM, treeV, startD, endV, bodyF, bodyI, startI, ioAt, slM, partM, bors, callL, callI, callO, DL.flatV, DL.flat, List.filterMap_cons, List.filterMap_nil, List.map_cons, List.map_nil, List.getElem?_cons_zero, List.getElem?_cons_succ, List.getElem?_nil, List.set_cons_zero, List.set_cons_succ, List.cons_append, List.nil_append, List.length_cons, List.length_nil, Option.bind_some, Option.bind_none, Option.map_some, Option.map_none, Nat.reduceSub, Nat.reduceAdd, List.replicate_succ, List.replicate_zero, Bool.not_true, Bool.not_false, if_true, if_false, Bool.false_eq_true, reduceIte, decide_true, decide_false, Nat.reduceLT, Nat.reduceLeDiff, reduceCtorEq, Option.some.injEq, Prod.mk.injEq, hl, hlen, show decide (((8 : Int) + 1) < 0) = false from rfl, show decide ((0 : Int) < 0) = false from rfl, hall, allD, boolsOf, List.all_nil, gtI, addD, intB]
        · rw [List.concat_eq_append] at *
          have hy : isI y = true := by simp at ha; exact ha.2
          have hix := ix_last hq
          have hgz : decide ((0 : Int) < ((ys ++ [y]).length : Int)) = true := decide_eq_true (by simp)
          cases y with
          | int i =>
            by_cases hi : i = 0
            · subst hi
              refine .inr ⟨by unfold lineB; rw [hq]; simp [isNil], ?_⟩
              simp only [mb, mr, mo, nameM, conM, binM, unM, boolM, ifM, DL.andM, DL.orM, DL.notM, andV, orV, notV, chainM, nilA, consA, dvs, dv, ownAt, fzs, lstM, tupM, callM, callP, permL, fzv, seqS, skipS, ifS, setS, asg, freeAt, retS, retV, dropS, frz, frzS, asgS, nilG, consG, tupG, subG, listAt, methM, augS, augSubS, forS, seqM, treeV, startD, endV, bodyF, bodyI, startI, ioAt, slM, partM, bors, callL, callI, callO, DL.flatV, DL.flat, List.filterMap_cons, List.filterMap_nil, List.map_cons, List.map_nil, List.getElem?_cons_zero, List.getElem?_cons_succ, List.getElem?_nil, List.set_cons_zero, List.set_cons_succ, List.cons_append, List.nil_append, List.length_cons, List.length_nil, Option.bind_some, Option.bind_none, Option.map_some, Option.map_none, Nat.reduceSub, Nat.reduceAdd, List.replicate_succ, List.replicate_zero, Bool.not_true, Bool.not_false, if_true, if_false, Bool.false_eq_true, reduceIte, decide_true, decide_false, Nat.reduceLT, Nat.reduceLeDiff, reduceCtorEq, Option.some.injEq, Prod.mk.injEq, hl, Option.isSome, hlen, hgt, hall, allD, boolsOf_isI, hb, gtI, addD, intB, negI, hgz, hix, eqD_int]
            · refine .inl ⟨by unfold lineB; rw [hq]; simp [isNil, hi]; simp at ha hz; exact ⟨hz, ha⟩, ?_⟩
              simp only [mb, mr, mo, nameM, conM, binM, unM, boolM, ifM, DL.andM, DL.orM, DL.notM, andV, orV, notV, chainM, nilA, consA, dvs, dv, ownAt, fzs, lstM, tupM, callM, callP, permL, fzv, seqS, skipS, ifS, setS, asg, freeAt, retS, retV, dropS, frz, frzS, asgS, nilG, consG, tupG, subG, listAt, methM, augS, augSubS, forS, seqM, treeV, startD, endV, bodyF, bodyI, startI, ioAt, slM, partM, bors, callL, callI, callO, DL.flatV, DL.flat, List.filterMap_cons, List.filterMap_nil, List.map_cons, List.map_nil, List.getElem?_cons_zero, List.getElem?_cons_succ, List.getElem?_nil, List.set_cons_zero, List.set_cons_succ, List.cons_append, List.nil_append, List.length_cons, List.length_nil, Option.bind_some, Option.bind_none, Option.map_some, Option.map_none, Nat.reduceSub, Nat.reduceAdd, List.replicate_succ, List.replicate_zero, Bool.not_true, Bool.not_false, if_true, if_false, Bool.false_eq_true, reduceIte, decide_true, decide_false, Nat.reduceLT, Nat.reduceLeDiff, reduceCtorEq, Option.some.injEq, Prod.mk.injEq, hl, Option.isSome, hlen, hgt, hall, allD, boolsOf_isI, hb, gtI, addD, intB, negI, hgz, hix, eqD_int, decide_eq_false hi]
          | _ => cases hy
      · have hb : (l.map isI).all id = false := by simpa using ha
        refine .inr ⟨by unfold lineB; rw [hq]; simp [ha], ?_⟩
        simp only [mb, mr, mo, nameM, conM, binM, unM, boolM, ifM, DL.andM, DL.orM, DL.notM, andV, orV, notV, chainM, nilA, consA, dvs, dv, ownAt, fzs, lstM, tupM, callM, callP, permL, fzv, seqS, skipS, ifS, setS, asg, freeAt, retS, retV, dropS, frz, frzS, asgS, nilG, consG, tupG, subG, listAt, methM, augS, augSubS, forS, seqM, treeV, startD, endV, bodyF, bodyI, startI, ioAt, slM, partM, bors, callL, callI, callO, DL.flatV, DL.flat, List.filterMap_cons, List.filterMap_nil, List.map_cons, List.map_nil, List.getElem?_cons_zero, List.getElem?_cons_succ, List.getElem?_nil, List.set_cons_zero, List.set_cons_succ, List.cons_append, List.nil_append, List.length_cons, List.length_nil, Option.bind_some, Option.bind_none, Option.map_some, Option.map_none, Nat.reduceSub, Nat.reduceAdd, List.replicate_succ, List.replicate_zero, Bool.not_true, Bool.not_false, if_true, if_false, Bool.false_eq_true, reduceIte, decide_true, decide_false, Nat.reduceLT, Nat.reduceLeDiff, reduceCtorEq, Option.some.injEq, Prod.mk.injEq, hl, Option.isSome, hlen, hgt, hall, allD, boolsOf_isI, hb, gtI, addD, intB]
    · have hgt : decide (((8 : Int) + 1) < (l.length : Int)) = true := decide_eq_true (by omega)
      refine .inr ⟨by unfold lineB; rw [hq]; simp; omega, ?_⟩
      simp only [mb, mr, mo, nameM, conM, binM, unM, boolM, ifM, DL.andM, DL.orM, DL.notM, andV, orV, notV, chainM, nilA, consA, dvs, dv, ownAt, fzs, lstM, tupM, callM, callP, permL, fzv, seqS, skipS, ifS, setS, asg, freeAt, retS, retV, dropS, frz, frzS, asgS, nilG, consG, tupG, subG, listAt, methM, augS, augSubS, forS, seqM, treeV, startD, endV, bodyF, bodyI, startI, ioAt, slM, partM, bors, callL, callI, callO, DL.flatV, DL.flat, List.filterMap_cons, List.filterMap_nil, List.map_cons, List.map_nil, List.getElem?_cons_zero, List.getElem?_cons_succ, List.getElem?_nil, List.set_cons_zero, List.set_cons_succ, List.cons_append, List.nil_append, List.length_cons, List.length_nil, Option.bind_some, Option.bind_none, Option.map_some, Option.map_none, Nat.reduceSub, Nat.reduceAdd, List.replicate_succ, List.replicate_zero, Bool.not_true, Bool.not_false, if_true, if_false, Bool.false_eq_true, reduceIte, decide_true, decide_false, Nat.reduceLT, Nat.reduceLeDiff, reduceCtorEq, Option.some.injEq, Prod.mk.injEq, hl, Option.isSome, hlen, hgt, gtI, addD, intB]
end K84
end
section
set_option maxRecDepth 100000
set_option maxHeartbeats 1000000
namespace K84
open PySem PySem.Spec L2 DL
theorem szOk0 : szOk 0 = true := rfl
theorem planeB_none {d : D} (h : seq? d = none) : planeB d = false := by unfold planeB; rw [h]
theorem lineB_inv {x : D} (h : lineB x = true) : ∃ m : List Int, seq? x = some (m.map .int) ∧ m.length ≤ 9 ∧ (m = [] ∨ ∃ ys y, m = ys ++ [y] ∧ y ≠ 0) := by
  unfold lineB at h
  cases hq : seq? x with
  | none => rw [hq] at h; cases h
  | some l =>
    rw [hq] at h
    simp only [Bool.and_eq_true] at h
    obtain ⟨⟨h1, h2⟩, h3⟩ := h
    have key : ∀ l : List D, l.all isI = true → ∃ m : List Int, l = m.map .int := by
      intro l
      induction l with
      | nil => exact fun _ => ⟨[], rfl⟩
      | cons a r ih =>
        intro h
        rw [List.all_cons, Bool.and_eq_true] at h
        obtain ⟨m, rfl⟩ := ih h.2
        cases a with
        | int i => exact ⟨i :: m, rfl⟩
        | _ => cases h.1
    obtain ⟨m, rfl⟩ := key l h2
    refine ⟨m, rfl, by simpa using h1, ?_⟩
    rcases List.eq_nil_or_concat m with rfl | ⟨ys, y, rfl⟩
    · exact .inl rfl
    · rw [List.concat_eq_append] at *
      refine .inr ⟨ys, y, rfl, fun e => ?_⟩
      subst e
      rw [List.map_append, List.map_singleton, List.getLast?_concat] at h3
      simp [isNil] at h3
theorem itemsE_seq {x : D} {l : List D} (h : seq? x = some l) : itemsE x = l := by unfold itemsE; rw [h]; rfl
theorem listD_seq {x : D} {l : List D} (h : seq? x = some l) : listD [x] = some (.ow (.list l)) := by rcases seq_cases h with rfl | rfl <;> rfl
theorem r_plane_in {d : D} (h : ty2 d) : m_plane_in [d] = some (if planeB d then .ow (.list (planeRows d)) else .fz .none) := by
  have hl := r_is_list h.1
  cases hq : seq? d with
  | none =>
    rw [hq] at hl
    rw [planeB_none hq]
    simp only [m_plane_in, g_plane_in, g_plane_in_s1, g_plane_in_s2, g_plane_in_s3, mb, mr, mo, nameM, conM, binM, unM, boolM, ifM, DL.andM, DL.orM, DL.notM, andV, orV, notV, chainM, nilA, consA, dvs, dv, ownAt, fzs, lstM, tupM, callM, callP, permL, fzv, seqS, skipS, ifS, setS, asg, freeAt, retS, retV, dropS, frz, frzS, asgS, nilG, consG, tupG, subG, listAt, methM, augS, augSubS, forS, seqM, treeV, startD, endV, bodyF, bodyI, startI, ioAt, slM, partM, bors, callL, callI, callO, DL.flatV, DL.flat, List.filterMap_cons, List.filterMap_nil, List.map_cons, List.map_nil, List.getElem?_cons_zero, List.getElem?_cons_succ, List.getElem?_nil, List.set_cons_zero, List.set_cons_succ, List.cons_append, List.nil_append, List.length_cons, List.length_nil, Option.bind_some, Option.bind_none, Option.map_some, Option.map_none, Nat.reduceSub, Nat.reduceAdd, List.replicate_succ, List.replicate_zero, Bool.not_true, Bool.not_false, if_true, if_false, Bool.false_eq_true, reduceIte, decide_true, decide_false, Nat.reduceLT, Nat.reduceLeDiff, reduceCtorEq, Option.some.injEq, Prod.mk.injEq, szOk0, hl, Option.isSome]
  | some l =>
    rw [hq] at hl
    replace hl : m_is_list [d] = some (.fz (.bool true)) := hl
    have hlen := len_seq hq
    have hit : ∀ s1 s2, seqM (nameM 0) [.dat d, s1, s2] = some (l, [.dat d, s1, s2]) := by
      intro s1 s2
      rcases seq_cases hq with rfl | rfl <;> simp only [mb, mr, mo, nameM, conM, binM, unM, boolM, ifM, DL.andM, DL.orM, DL.notM, andV, orV, notV, chainM, nilA, consA, dvs, dv, ownAt, fzs, lstM, tupM, callM, callP, permL, fzv, seqS, skipS, ifS, setS, asg, freeAt, retS, retV, dropS, frz, frzS, asgS, nilG, consG, tupG, subG, listAt, methM, augS, augSubS, forS, seqM, treeV, startD, endV, bodyF, bodyI, startI, ioAt, slM, partM, bors, callL, callI, callO, DL.flatV, DL.flat, List.filterMap_cons, List.filterMap_nil, List.map_cons, List.map_nil, List.getElem?_cons_zero, List.getElem?_cons_succ, List.getElem?_nil, List.set_cons_zero, List.set_cons_succ, List.cons_append, List.nil_append, List.length_cons, List.length_nil, Option.bind_some, Option.bind_none, Option.map_some, Option.map_none, Nat.reduceSub, Nat.reduceAdd, List.replicate_succ, List.replicate_zero, Bool.not_true, Bool.not_false, if_true, if_false, Bool.false_eq_true, reduceIte, decide_true, decide_false, Nat.reduceLT, Nat.reduceLeDiff, reduceCtorEq, Option.some.injEq, Prod.mk.injEq, szOk0, itemsOf]
    by_cases hz : l.length ≤ 9
    · have hgt : decide (((8 : Int) + 1) < (l.length : Int)) = false := decide_eq_false (by omega)
      have hF := forL_all (gt := asg 1) (body := g_plane_in_b1) (v := .fz .none) (fun δ => δ = [.dat d, .un, .un] ∨ ∃ x, δ = [.dat d, .dat x, .un]) lineB l [.dat d, .un, .un] (fun x hx δ hI => by
        have ht : ty1 x := h.2 x (by rw [itemsE_seq hq]; exact hx)
        refine ⟨[.dat d, .dat x, .un], ?_, ?_⟩
        · rcases hI with rfl | ⟨y, rfl⟩ <;> simp only [mb, mr, mo, nameM, conM, binM, unM, boolM, ifM, DL.andM, DL.orM, DL.notM, andV, orV, notV, chainM, nilA, consA, dvs, dv, ownAt, fzs, lstM, tupM, callM, callP, permL, fzv, seqS, skipS, ifS, setS, asg, freeAt, retS, retV, dropS, frz, frzS, asgS, nilG, consG, tupG, subG, listAt, methM, augS, augSubS, forS, seqM, treeV, startD, endV, bodyF, bodyI, startI, ioAt, slM, partM, bors, callL, callI, callO, DL.flatV, DL.flat, List.filterMap_cons, List.filterMap_nil, List.map_cons, List.map_nil, List.getElem?_cons_zero, List.getElem?_cons_succ, List.getElem?_nil, List.set_cons_zero, List.set_cons_succ, List.cons_append, List.nil_append, List.length_cons, List.length_nil, Option.bind_some, Option.bind_none, Option.map_some, Option.map_none, Nat.reduceSub, Nat.reduceAdd, List.replicate_succ, List.replicate_zero, Bool.not_true, Bool.not_false, if_true, if_false, Bool.false_eq_true, reduceIte, decide_true, decide_false, Nat.reduceLT, Nat.reduceLeDiff, reduceCtorEq, Option.some.injEq, Prod.mk.injEq]
        · rcases line_turn ht (.dat d) .un rfl with ⟨a, b⟩ | ⟨a, b⟩
          · exact .inl ⟨a, _, .inl b, .inr ⟨x, rfl⟩⟩
          · exact .inr ⟨a, _, b⟩) (.inl rfl)
      rcases hF with ⟨ha, δ', hf, hI⟩ | ⟨ha, δ', hf⟩
      · obtain ⟨s1, rfl, hs1⟩ : ∃ s1, δ' = [.dat d, s1, .un] ∧ (s1 = .un ∨ ∃ x, s1 = .dat x) := by
          rcases hI with rfl | ⟨y, rfl⟩
          · exact ⟨_, rfl, .inl rfl⟩
          · exact ⟨_, rfl, .inr ⟨_, rfl⟩⟩
        have hf1 : g_plane_in_f1 [.dat d, .un, .un] = some (.nx, [.dat d, s1, .un]) := by
          unfold g_plane_in_f1 forS
          rw [hit]
          exact hf
        have hc2 : g_plane_in_c2 [.dat d, s1, .un] = some (.ow (.list (planeRows d)), [.dat d, s1, .un]) := by
          unfold g_plane_in_c2
          have e := compM_gen (fi := seqM (nameM 0)) (gt := asg 1) (ft := mr true) (fe := callM listD (consA (nameM 1) nilA)) (vs := [1]) (δ := [.dat d, s1, .un]) (ds := l) (fun x => some (.list (itemsE x))) (hit _ _) ?_ ?_ ?_ ?_
          · rw [e, List.filterMap_eq_map']
            unfold planeRows
            rw [itemsE_seq hq]
          · rcases hs1 with rfl | ⟨x, rfl⟩ <;> rfl
          · simp only [backD, wipeD, List.getD_cons_succ, List.getD_cons_zero, mb, mr, mo, nameM, conM, binM, unM, boolM, ifM, DL.andM, DL.orM, DL.notM, andV, orV, notV, chainM, nilA, consA, dvs, dv, ownAt, fzs, lstM, tupM, callM, callP, permL, fzv, seqS, skipS, ifS, setS, asg, freeAt, retS, retV, dropS, frz, frzS, asgS, nilG, consG, tupG, subG, listAt, methM, augS, augSubS, forS, seqM, treeV, startD, endV, bodyF, bodyI, startI, ioAt, slM, partM, bors, callL, callI, callO, DL.flatV, DL.flat, List.filterMap_cons, List.filterMap_nil, List.map_cons, List.map_nil, List.getElem?_cons_zero, List.getElem?_cons_succ, List.getElem?_nil, List.set_cons_zero, List.set_cons_succ, List.cons_append, List.nil_append, List.length_cons, List.length_nil, Option.bind_some, Option.bind_none, Option.map_some, Option.map_none, Nat.reduceSub, Nat.reduceAdd, List.replicate_succ, List.replicate_zero, Bool.not_true, Bool.not_false, if_true, if_false, Bool.false_eq_true, reduceIte, decide_true, decide_false, Nat.reduceLT, Nat.reduceLeDiff, reduceCtorEq, Option.some.injEq, Prod.mk.injEq]
          · unfold szOk
            simp only [List.filterMap_eq_map', List.length_map]
            exact decide_eq_true (by omega)
          · intro x hx
            have hb := List.all_eq_true.mp ha x hx
            obtain ⟨m, hm, _⟩ := lineB_inv hb
            refine ⟨[.dat d, .dat x, .un], ?_, .inr ⟨_, .ow (.list (itemsE x)), rfl, rfl, ?_, rfl⟩, ?_⟩
            · simp only [wipeD, mb, mr, mo, nameM, conM, binM, unM, boolM, ifM, DL.andM, DL.orM, DL.notM, andV, orV, notV, chainM, nilA, consA, dvs, dv, ownAt, fzs, lstM, tupM, callM, callP, permL, fzv, seqS, skipS, ifS, setS, asg, freeAt, retS, retV, dropS, frz, frzS, asgS, nilG, consG, tupG, subG, listAt, methM, augS, augSubS, forS, seqM, treeV, startD, endV, bodyF, bodyI, startI, ioAt, slM, partM, bors, callL, callI, callO, DL.flatV, DL.flat, List.filterMap_cons, List.filterMap_nil, List.map_cons, List.map_nil, List.getElem?_cons_zero, List.getElem?_cons_succ, List.getElem?_nil, List.set_cons_zero, List.set_cons_succ, List.cons_append, List.nil_append, List.length_cons, List.length_nil, Option.bind_some, Option.bind_none, Option.map_some, Option.map_none, Nat.reduceSub, Nat.reduceAdd, List.replicate_succ, List.replicate_zero, Bool.not_true, Bool.not_false, if_true, if_false, Bool.false_eq_true, reduceIte, decide_true, decide_false, Nat.reduceLT, Nat.reduceLeDiff, reduceCtorEq, Option.some.injEq, Prod.mk.injEq]
            · simp only [mb, mr, mo, nameM, conM, binM, unM, boolM, ifM, DL.andM, DL.orM, DL.notM, andV, orV, notV, chainM, nilA, consA, dvs, dv, ownAt, fzs, lstM, tupM, callM, callP, permL, fzv, seqS, skipS, ifS, setS, asg, freeAt, retS, retV, dropS, frz, frzS, asgS, nilG, consG, tupG, subG, listAt, methM, augS, augSubS, forS, seqM, treeV, startD, endV, bodyF, bodyI, startI, ioAt, slM, partM, bors, callL, callI, callO, DL.flatV, DL.flat, List.filterMap_cons, List.filterMap_nil, List.map_cons, List.map_nil, List.getElem?_cons_zero, List.getElem?_cons_succ, List.getElem?_nil, List.set_cons_zero, List.set_cons_succ, List.cons_append, List.nil_append, List.length_cons, List.length_nil, Option.bind_some, Option.bind_none, Option.map_some, Option.map_none, Nat.reduceSub, Nat.reduceAdd, List.replicate_succ, List.replicate_zero, Bool.not_true, Bool.not_false, if_true, if_false, Bool.false_eq_true, reduceIte, decide_true, decide_false, Nat.reduceLT, Nat.reduceLeDiff, reduceCtorEq, Option.some.injEq, Prod.mk.injEq, szOk0, listD_seq hm, itemsE_seq hm]
            · simp only [wipeD, mb, mr, mo, nameM, conM, binM, unM, boolM, ifM, DL.andM, DL.orM, DL.notM, andV, orV, notV, chainM, nilA, consA, dvs, dv, ownAt, fzs, lstM, tupM, callM, callP, permL, fzv, seqS, skipS, ifS, setS, asg, freeAt, retS, retV, dropS, frz, frzS, asgS, nilG, consG, tupG, subG, listAt, methM, augS, augSubS, forS, seqM, treeV, startD, endV, bodyF, bodyI, startI, ioAt, slM, partM, bors, callL, callI, callO, DL.flatV, DL.flat, List.filterMap_cons, List.filterMap_nil, List.map_cons, List.map_nil, List.getElem?_cons_zero, List.getElem?_cons_succ, List.getElem?_nil, List.set_cons_zero, List.set_cons_succ, List.cons_append, List.nil_append, List.length_cons, List.length_nil, Option.bind_some, Option.bind_none, Option.map_some, Option.map_none, Nat.reduceSub, Nat.reduceAdd, List.replicate_succ, List.replicate_zero, Bool.not_true, Bool.not_false, if_true, if_false, Bool.false_eq_true, reduceIte, decide_true, decide_false, Nat.reduceLT, Nat.reduceLeDiff, reduceCtorEq, Option.some.injEq, Prod.mk.injEq]
        rcases List.eq_nil_or_concat l with rfl | ⟨ys, y, rfl⟩
        · have hp : planeB d = true := by unfold planeB; rw [hq]; rfl
          have hlen : lenD [d] = some (.fz (.int 0)) := hlen
          rw [hp]
          simp only [m_plane_in, g_plane_in, g_plane_in_s1, g_plane_in_s2, g_plane_in_s3, mb, mr, mo, nameM, conM, binM, unM, boolM, ifM, DL.andM, DL.orM, DL.notM, andV, orV, notV, chainM, nilA, consA, dvs, dv, ownAt, fzs, lstM, tupM, callM, callP, permL, fzv, seqS, skipS, ifS, setS, asg, freeAt, retS, retV, dropS, frz, frzS, asgS, nilG, consG, tupG, subG, listAt, methM, augS, augSubS, forS, seqM, treeV, startD, endV, bodyF, bodyI, startI, ioAt, slM, partM, bors, callL, callI, callO, DL.flatV, DL.flat, List.filterMap_cons, List.filterMap_nil, List.map_cons, List.map_nil, List.getElem?_cons_zero, List.getElem?_cons_succ, List.getElem?_nil, List.set_cons_zero, List.set_cons_succ, List.cons_append, List.nil_append, List.length_cons, List.length_nil, Option.bind_some, Option.bind_none, Option.map_some, Option.map_none, Nat.reduceSub, Nat.reduceAdd, List.replicate_succ, List.replicate_zero, Bool.not_true, Bool.not_false, if_true, if_false, Bool.false_eq_true, reduceIte, decide_true, decide_false, Nat.reduceLT, Nat.reduceLeDiff, reduceCtorEq, Option.some.injEq, Prod.mk.injEq, szOk0, hl, Option.isSome, hlen, show decide (((8 : Int) + 1) < 0) = false from rfl, show decide ((0 : Int) < 0) = false from rfl, hf1, hc2, gtI, addD, intB]
        · rw [List.concat_eq_append] at *
          have hix := ix_last hq
          have hgz : decide ((0 : Int) < ((ys ++ [y]).length : Int)) = true := decide_eq_true (by simp)
          have hb := List.all_eq_true.mp ha y (by simp)
          obtain ⟨m, hm, _⟩ := lineB_inv hb
          have hlm := len_seq hm
          by_cases hme : m = []
          · subst hme
            have hp : planeB d = false := by unfold planeB; rw [hq]; simp [itemsE_seq hm]
            have hlm : lenD [y] = some (.fz (.int 0)) := hlm
            rw [hp]
            simp only [m_plane_in, g_plane_in, g_plane_in_s1, g_plane_in_s2, g_plane_in_s3, mb, mr, mo, nameM, conM, binM, unM, boolM, ifM, DL.andM, DL.orM, DL.notM, andV, orV, notV, chainM, nilA, consA, dvs, dv, ownAt, fzs, lstM, tupM, callM, callP, permL, fzv, seqS, skipS, ifS, setS, asg, freeAt, retS, retV, dropS, frz, frzS, asgS, nilG, consG, tupG, subG, listAt, methM, augS, augSubS, forS, seqM, treeV, startD, endV, bodyF, bodyI, startI, ioAt, slM, partM, bors, callL, callI, callO, DL.flatV, DL.flat, List.filterMap_cons, List.filterMap_nil, List.map_cons, List.map_nil, List.getElem?_cons_zero, List.getElem?_cons_succ, List.getElem?_nil, List.set_cons_zero, List.set_cons_succ, List.cons_append, List.nil_append, List.length_cons, List.length_nil, Option.bind_some, Option.bind_none, Option.map_some, Option.map_none, Nat.reduceSub, Nat.reduceAdd, List.replicate_succ, List.replicate_zero, Bool.not_true, Bool.not_false, if_true, if_false, Bool.false_eq_true, reduceIte, decide_true, decide_false, Nat.reduceLT, Nat.reduceLeDiff, reduceCtorEq, Option.some.injEq, Prod.mk.injEq, szOk0, hl, hlen, hgt, hgz, hix, hlm, hf1, gtI, addD, intB, negI, eqD_int]
          · have hp : planeB d = true := by
              unfold planeB; rw [hq]
              simp only [List.getLast?_concat, itemsE_seq hm, ha, Bool.and_eq_true, decide_eq_true hz]
              simpa using hme
            have hm0 : decide (((m.map PyData.int).length : Int) = 0) = false := decide_eq_false (by simp [hme])
            rw [hp]
            simp only [m_plane_in, g_plane_in, g_plane_in_s1, g_plane_in_s2, g_plane_in_s3, mb, mr, mo, nameM, conM, binM, unM, boolM, ifM, DL.andM, DL.orM, DL.notM, andV, orV, notV, chainM, nilA, consA, dvs, dv, ownAt, fzs, lstM, tupM, callM, callP, permL, fzv, seqS, skipS, ifS, setS, asg, freeAt, retS, retV, dropS, frz, frzS, asgS, nilG, consG, tupG, subG, listAt, methM, augS, augSubS, forS, seqM, treeV, startD, endV, bodyF, bodyI, startI, ioAt, slM, partM, bors, callL, callI, callO, DL.flatV, DL.flat, List.filterMap_cons, List.filterMap_nil, List.map_cons, List.map_nil, List.getElem?_cons_zero, List.getElem?_cons_succ, List.getElem?_nil, List.set_cons_zero, List.set_cons_succ, List.cons_append, List.nil_append, List.length_cons, List.length_nil, Option.bind_some, Option.bind_none, Option.map_some, Option.map_none, Nat.reduceSub, Nat.reduceAdd, List.replicate_succ, List.replicate_zero, Bool.not_true, Bool.not_false, if_true, if_false, Bool.false_eq_true, reduceIte, decide_true, decide_false, Nat.reduceLT, Nat.reduceLeDiff, reduceCtorEq, Option.some.injEq, Prod.mk.injEq, szOk0, hl, hlen, hgt, hgz, hix, hlm, hf1, hc2, gtI, addD, intB, negI, eqD_int, hm0]
      · have hf1 : g_plane_in_f1 [.dat d, .un, .un] = some (.rt (.fz .none), δ') := by
          unfold g_plane_in_f1 forS
          rw [hit]
          exact hf
        have hp : planeB d = false := by unfold planeB; rw [hq]; simp [ha]
        rw [hp]
        simp only [m_plane_in, g_plane_in, g_plane_in_s1, g_plane_in_s2, g_plane_in_s3, mb, mr, mo, nameM, conM, binM, unM, boolM, ifM, DL.andM, DL.orM, DL.notM, andV, orV, notV, chainM, nilA, consA, dvs, dv, ownAt, fzs, lstM, tupM, callM, callP, permL, fzv, seqS, skipS, ifS, setS, asg, freeAt, retS, retV, dropS, frz, frzS, asgS, nilG, consG, tupG, subG, listAt, methM, augS, augSubS, forS, seqM, treeV, startD, endV, bodyF, bodyI, startI, ioAt, slM, partM, bors, callL, callI, callO, DL.flatV, DL.flat, List.filterMap_cons, List.filterMap_nil, List.map_cons, List.map_nil, List.getElem?_cons_zero, List.getElem?_cons_succ, List.getElem?_nil, List.set_cons_zero, List.set_cons_succ, List.cons_append, List.nil_append, List.length_cons, List.length_nil, Option.bind_some, Option.bind_none, Option.map_some, Option.map_none, Nat.reduceSub, Nat.reduceAdd, List.replicate_succ, List.replicate_zero, Bool.not_true, Bool.not_false, if_true, if_false, Bool.false_eq_true, reduceIte, decide_true, decide_false, Nat.reduceLT, Nat.reduceLeDiff, reduceCtorEq, Option.some.injEq, Prod.mk.injEq, szOk0, hl, hlen, hgt, hf1, gtI, addD, intB]
    · have hgt : decide (((8 : Int) + 1) < (l.length : Int)) = true := decide_eq_true (by omega)
      have hp : planeB d = false := by unfold planeB; rw [hq]; simp; omega
      rw [hp]
      simp only [m_plane_in, g_plane_in, g_plane_in_s1, g_plane_in_s2, g_plane_in_s3, mb, mr, mo, nameM, conM, binM, unM, boolM, ifM, DL.andM, DL.orM, DL.notM, andV, orV, notV, chainM, nilA, consA, dvs, dv, ownAt, fzs, lstM, tupM, callM, callP, permL, fzv, seqS, skipS, ifS, setS, asg, freeAt, retS, retV, dropS, frz, frzS, asgS, nilG, consG, tupG, subG, listAt, methM, augS, augSubS, forS, seqM, treeV, startD, endV, bodyF, bodyI, startI, ioAt, slM, partM, bors, callL, callI, callO, DL.flatV, DL.flat, List.filterMap_cons, List.filterMap_nil, List.map_cons, List.map_nil, List.getElem?_cons_zero, List.getElem?_cons_succ, List.getElem?_nil, List.set_cons_zero, List.set_cons_succ, List.cons_append, List.nil_append, List.length_cons, List.length_nil, Option.bind_some, Option.bind_none, Option.map_some, Option.map_none, Nat.reduceSub, Nat.reduceAdd, List.replicate_succ, List.replicate_zero, Bool.not_true, Bool.not_false, if_true, if_false, Bool.false_eq_true, reduceIte, decide_true, decide_false, Nat.reduceLT, Nat.reduceLeDiff, reduceCtorEq, Option.some.injEq, Prod.mk.injEq, szOk0, hl, hlen, hgt, gtI, addD, intB]
theorem r_is_plane {d : D} (h : ty2 d) : m_is_plane [d] = some (.fz (.bool (planeB d))) := by
  have hp := r_plane_in h
  cases hb : planeB d <;> rw [hb] at hp <;> simp only [m_is_plane, g_is_plane, g_is_plane_s1, mb, mr, mo, nameM, conM, binM, unM, boolM, ifM, DL.andM, DL.orM, DL.notM, andV, orV, notV, chainM, nilA, consA, dvs, dv, ownAt, fzs, lstM, tupM, callM, callP, permL, fzv, seqS, skipS, ifS, setS, asg, freeAt, retS, retV, dropS, frz, frzS, asgS, nilG, consG, tupG, subG, listAt, methM, augS, augSubS, forS, seqM, treeV, startD, endV, bodyF, bodyI, startI, ioAt, slM, partM, bors, callL, callI, callO, DL.flatV, DL.flat, List.filterMap_cons, List.filterMap_nil, List.map_cons, List.map_nil, List.getElem?_cons_zero, List.getElem?_cons_succ, List.getElem?_nil, List.set_cons_zero, List.set_cons_succ, List.cons_append, List.nil_append, List.length_cons, List.length_nil, Option.bind_some, Option.bind_none, Option.map_some, Option.map_none, Nat.reduceSub, Nat.reduceAdd, List.replicate_succ, List.replicate_zero, Bool.not_true, Bool.not_false, if_true, if_false, Bool.false_eq_true, reduceIte, decide_true, decide_false, Nat.reduceLT, Nat.reduceLeDiff, reduceCtorEq, Option.some.injEq, Prod.mk.injEq, szOk0, hp, isnotD, isNone]
/-! ### powers -/
def G (p : D × Nat) : Option Int := if (itemsE p.1).isEmpty then none else some ((p.2 : Int) + ((itemsE p.1).length : Int) - 1)
def gpL (ls : List D) : List Int := ls.zipIdx.filterMap G
def overB (ls : List D) (e : Int) : Bool := (gpL ls).any fun m => decide (e < m)
def gpI (t : D) : Option D := match t with
  | .tuple [.int i, .list l] => if l.isEmpty then none else some (.int (i + (l.length : Int) - 1))
  | _ => none
theorem gpI_enum (ls : List D) : (enumD (ls.map fun x => .list (itemsE x))).filterMap gpI = (gpL ls).map .int := by
  unfold enumD gpL
  rw [List.zipIdx_map, List.map_map, List.filterMap_map, List.map_filterMap]
  congr 1
  funext p
  show (if (itemsE p.1).isEmpty then none else some _) = Option.map _ (if (itemsE p.1).isEmpty then none else some _)
  cases (itemsE p.1).isEmpty <;> rfl
theorem gpL_len (ls : List D) : (gpL ls).length ≤ ls.length := by
  unfold gpL
  have := List.length_filterMap_le G ls.zipIdx
  simpa using this
theorem intsOf_im (l : List Int) : intsOf (l.map .int) = some l := intsOf_map l
theorem r_gp {ls : List D} (hz : ls.length ≤ 63) (hg : ∀ x ∈ ls, ∃ m : List Int, itemsE x = m.map .int) : m_greatest_powers [.list (ls.map fun x => .list (itemsE x))] = (maxOf (gpL ls)).bind fun m => some (.fz (.int m)) := by
  have e : g_greatest_powers_c1 [.dat (.list (ls.map fun x => .list (itemsE x))), .un, .un] = some (.ow (.list ((gpL ls).map .int)), [.dat (.list (ls.map fun x => .list (itemsE x))), .un, .un]) := by
    unfold g_greatest_powers_c1
    rw [← gpI_enum]
    refine compM_gen gpI ?_ ?_ ?_ ?_ ?_
    · simp only [mb, mr, mo, nameM, conM, binM, unM, boolM, ifM, DL.andM, DL.orM, DL.notM, andV, orV, notV, chainM, nilA, consA, dvs, dv, ownAt, fzs, lstM, tupM, callM, callP, permL, fzv, seqS, skipS, ifS, setS, asg, freeAt, retS, retV, dropS, frz, frzS, asgS, nilG, consG, tupG, subG, listAt, methM, augS, augSubS, forS, seqM, treeV, startD, endV, bodyF, bodyI, startI, ioAt, slM, partM, bors, callL, callI, callO, DL.flatV, DL.flat, List.filterMap_cons, List.filterMap_nil, List.map_cons, List.map_nil, List.getElem?_cons_zero, List.getElem?_cons_succ, List.getElem?_nil, List.set_cons_zero, List.set_cons_succ, List.cons_append, List.nil_append, List.length_cons, List.length_nil, Option.bind_some, Option.bind_none, Option.map_some, Option.map_none, Nat.reduceSub, Nat.reduceAdd, List.replicate_succ, List.replicate_zero, Bool.not_true, Bool.not_false, if_true, if_false, Bool.false_eq_true, reduceIte, decide_true, decide_false, Nat.reduceLT, Nat.reduceLeDiff, reduceCtorEq, Option.some.injEq, Prod.mk.injEq, szOk0, enumA]
    · rfl
    · rfl
    · rw [gpI_enum, List.length_map]
      have := gpL_len ls
      exact decide_eq_true (by omega)
    · intro t ht
      obtain ⟨p, hp, rfl⟩ := List.mem_map.mp ht
      rw [List.zipIdx_map] at hp
      obtain ⟨q, hq, rfl⟩ := List.mem_map.mp hp
      have hx : q.1 ∈ ls := by
        have := List.mem_zipIdx hq
        simp only [Nat.sub_zero] at this
        rw [this.2.2]
        exact List.getElem_mem _
      obtain ⟨m, hm⟩ := hg _ hx
      have hs : SeqAt.shaped (.list (itemsE q.1)) = true := by rw [hm]; exact shaped_IL m
      have hne := neD_nil hs
      refine ⟨[.dat (.list (ls.map fun x => .list (itemsE x))), .dat (.int (q.2 : Nat)), .dat (.list (itemsE q.1))], ?_, ?_, ?_⟩
      · simp only [wipeD, Prod.map, id, itemsOf, mb, mr, mo, nameM, conM, binM, unM, boolM, ifM, DL.andM, DL.orM, DL.notM, andV, orV, notV, chainM, nilA, consA, dvs, dv, ownAt, fzs, lstM, tupM, callM, callP, permL, fzv, seqS, skipS, ifS, setS, asg, freeAt, retS, retV, dropS, frz, frzS, asgS, nilG, consG, tupG, subG, listAt, methM, augS, augSubS, forS, seqM, treeV, startD, endV, bodyF, bodyI, startI, ioAt, slM, partM, bors, callL, callI, callO, DL.flatV, DL.flat, List.filterMap_cons, List.filterMap_nil, List.map_cons, List.map_nil, List.getElem?_cons_zero, List.getElem?_cons_succ, List.getElem?_nil, List.set_cons_zero, List.set_cons_succ, List.cons_append, List.nil_append, List.length_cons, List.length_nil, Option.bind_some, Option.bind_none, Option.map_some, Option.map_none, Nat.reduceSub, Nat.reduceAdd, List.replicate_succ, List.replicate_zero, Bool.not_true, Bool.not_false, if_true, if_false, Bool.false_eq_true, reduceIte, decide_true, decide_false, Nat.reduceLT, Nat.reduceLeDiff, reduceCtorEq, Option.some.injEq, Prod.mk.injEq]
      · show ((if (itemsE q.1).isEmpty then none else some (PyData.int _)) = none ∧ _) ∨ ∃ e v, (if (itemsE q.1).isEmpty then none else some (PyData.int _)) = some e ∧ _
        cases hE : (itemsE q.1).isEmpty
        · refine .inr ⟨.int ((q.2 : Int) + ((itemsE q.1).length : Int) - 1), .fz (.int ((q.2 : Int) + ((itemsE q.1).length : Int) - 1)), rfl, ?_, ?_, rfl⟩
          · rw [hE] at hne
            simp only [mb, mr, mo, nameM, conM, binM, unM, boolM, ifM, DL.andM, DL.orM, DL.notM, andV, orV, notV, chainM, nilA, consA, dvs, dv, ownAt, fzs, lstM, tupM, callM, callP, permL, fzv, seqS, skipS, ifS, setS, asg, freeAt, retS, retV, dropS, frz, frzS, asgS, nilG, consG, tupG, subG, listAt, methM, augS, augSubS, forS, seqM, treeV, startD, endV, bodyF, bodyI, startI, ioAt, slM, partM, bors, callL, callI, callO, DL.flatV, DL.flat, List.filterMap_cons, List.filterMap_nil, List.map_cons, List.map_nil, List.getElem?_cons_zero, List.getElem?_cons_succ, List.getElem?_nil, List.set_cons_zero, List.set_cons_succ, List.cons_append, List.nil_append, List.length_cons, List.length_nil, Option.bind_some, Option.bind_none, Option.map_some, Option.map_none, Nat.reduceSub, Nat.reduceAdd, List.replicate_succ, List.replicate_zero, Bool.not_true, Bool.not_false, if_true, if_false, Bool.false_eq_true, reduceIte, decide_true, decide_false, Nat.reduceLT, Nat.reduceLeDiff, reduceCtorEq, Option.some.injEq, Prod.mk.injEq, szOk0, hne]
          · simp only [mb, mr, mo, nameM, conM, binM, unM, boolM, ifM, DL.andM, DL.orM, DL.notM, andV, orV, notV, chainM, nilA, consA, dvs, dv, ownAt, fzs, lstM, tupM, callM, callP, permL, fzv, seqS, skipS, ifS, setS, asg, freeAt, retS, retV, dropS, frz, frzS, asgS, nilG, consG, tupG, subG, listAt, methM, augS, augSubS, forS, seqM, treeV, startD, endV, bodyF, bodyI, startI, ioAt, slM, partM, bors, callL, callI, callO, DL.flatV, DL.flat, List.filterMap_cons, List.filterMap_nil, List.map_cons, List.map_nil, List.getElem?_cons_zero, List.getElem?_cons_succ, List.getElem?_nil, List.set_cons_zero, List.set_cons_succ, List.cons_append, List.nil_append, List.length_cons, List.length_nil, Option.bind_some, Option.bind_none, Option.map_some, Option.map_none, Nat.reduceSub, Nat.reduceAdd, List.replicate_succ, List.replicate_zero, Bool.not_true, Bool.not_false, if_true, if_false, Bool.false_eq_true, reduceIte, decide_true, decide_false, Nat.reduceLT, Nat.reduceLeDiff, reduceCtorEq, Option.some.injEq, Prod.mk.injEq, szOk0, lenD, addD, subI, intB]
        · refine .inl ⟨rfl, ?_⟩
          rw [hE] at hne
          simp only [mb, mr, mo, nameM, conM, binM, unM, boolM, ifM, DL.andM, DL.orM, DL.notM, andV, orV, notV, chainM, nilA, consA, dvs, dv, ownAt, fzs, lstM, tupM, callM, callP, permL, fzv, seqS, skipS, ifS, setS, asg, freeAt, retS, retV, dropS, frz, frzS, asgS, nilG, consG, tupG, subG, listAt, methM, augS, augSubS, forS, seqM, treeV, startD, endV, bodyF, bodyI, startI, ioAt, slM, partM, bors, callL, callI, callO, DL.flatV, DL.flat, List.filterMap_cons, List.filterMap_nil, List.map_cons, List.map_nil, List.getElem?_cons_zero, List.getElem?_cons_succ, List.getElem?_nil, List.set_cons_zero, List.set_cons_succ, List.cons_append, List.nil_append, List.length_cons, List.length_nil, Option.bind_some, Option.bind_none, Option.map_some, Option.map_none, Nat.reduceSub, Nat.reduceAdd, List.replicate_succ, List.replicate_zero, Bool.not_true, Bool.not_false, if_true, if_false, Bool.false_eq_true, reduceIte, decide_true, decide_false, Nat.reduceLT, Nat.reduceLeDiff, reduceCtorEq, Option.some.injEq, Prod.mk.injEq, szOk0, hne]
      · simp only [wipeD, mb, mr, mo, nameM, conM, binM, unM, boolM, ifM, DL.andM, DL.orM, DL.notM, andV, orV, notV, chainM, nilA, consA, dvs, dv, ownAt, fzs, lstM, tupM, callM, callP, permL, fzv, seqS, skipS, ifS, setS, asg, freeAt, retS, retV, dropS, frz, frzS, asgS, nilG, consG, tupG, subG, listAt, methM, augS, augSubS, forS, seqM, treeV, startD, endV, bodyF, bodyI, startI, ioAt, slM, partM, bors, callL, callI, callO, DL.flatV, DL.flat, List.filterMap_cons, List.filterMap_nil, List.map_cons, List.map_nil, List.getElem?_cons_zero, List.getElem?_cons_succ, List.getElem?_nil, List.set_cons_zero, List.set_cons_succ, List.cons_append, List.nil_append, List.length_cons, List.length_nil, Option.bind_some, Option.bind_none, Option.map_some, Option.map_none, Nat.reduceSub, Nat.reduceAdd, List.replicate_succ, List.replicate_zero, Bool.not_true, Bool.not_false, if_true, if_false, Bool.false_eq_true, reduceIte, decide_true, decide_false, Nat.reduceLT, Nat.reduceLeDiff, reduceCtorEq, Option.some.injEq, Prod.mk.injEq]
  cases hm : maxOf (gpL ls) with
  | none => simp only [m_greatest_powers, g_greatest_powers, g_greatest_powers_s1, mb, mr, mo, nameM, conM, binM, unM, boolM, ifM, DL.andM, DL.orM, DL.notM, andV, orV, notV, chainM, nilA, consA, dvs, dv, ownAt, fzs, lstM, tupM, callM, callP, permL, fzv, seqS, skipS, ifS, setS, asg, freeAt, retS, retV, dropS, frz, frzS, asgS, nilG, consG, tupG, subG, listAt, methM, augS, augSubS, forS, seqM, treeV, startD, endV, bodyF, bodyI, startI, ioAt, slM, partM, bors, callL, callI, callO, DL.flatV, DL.flat, List.filterMap_cons, List.filterMap_nil, List.map_cons, List.map_nil, List.getElem?_cons_zero, List.getElem?_cons_succ, List.getElem?_nil, List.set_cons_zero, List.set_cons_succ, List.cons_append, List.nil_append, List.length_cons, List.length_nil, Option.bind_some, Option.bind_none, Option.map_some, Option.map_none, Nat.reduceSub, Nat.reduceAdd, List.replicate_succ, List.replicate_zero, Bool.not_true, Bool.not_false, if_true, if_false, Bool.false_eq_true, reduceIte, decide_true, decide_false, Nat.reduceLT, Nat.reduceLeDiff, reduceCtorEq, Option.some.injEq, Prod.mk.injEq, szOk0, e, maxLD, intsOf_im, hm]
  | some m => simp only [m_greatest_powers, g_greatest_powers, g_greatest_powers_s1, mb, mr, mo, nameM, conM, binM, unM, boolM, ifM, DL.andM, DL.orM, DL.notM, andV, orV, notV, chainM, nilA, consA, dvs, dv, ownAt, fzs, lstM, tupM, callM, callP, permL, fzv, seqS, skipS, ifS, setS, asg, freeAt, retS, retV, dropS, frz, frzS, asgS, nilG, consG, tupG, subG, listAt, methM, augS, augSubS, forS, seqM, treeV, startD, endV, bodyF, bodyI, startI, ioAt, slM, partM, bors, callL, callI, callO, DL.flatV, DL.flat, List.filterMap_cons, List.filterMap_nil, List.map_cons, List.map_nil, List.getElem?_cons_zero, List.getElem?_cons_succ, List.getElem?_nil, List.set_cons_zero, List.set_cons_succ, List.cons_append, List.nil_append, List.length_cons, List.length_nil, Option.bind_some, Option.bind_none, Option.map_some, Option.map_none, Nat.reduceSub, Nat.reduceAdd, List.replicate_succ, List.replicate_zero, Bool.not_true, Bool.not_false, if_true, if_false, Bool.false_eq_true, reduceIte, decide_true, decide_false, Nat.reduceLT, Nat.reduceLeDiff, reduceCtorEq, Option.some.injEq, Prod.mk.injEq, szOk0, e, maxLD, intsOf_im, hm]
theorem maxOf_any {ns : List Int} {m : Int} (h : maxOf ns = some m) (e : Int) : decide (e < m) = ns.any fun x => decide (e < x) := by
  obtain ⟨h1, h2⟩ := maxOf_spec h
  by_cases c : e < m
  · rw [decide_eq_true c]
    exact (List.any_eq_true.mpr ⟨m, h1, decide_eq_true c⟩).symm
  · rw [decide_eq_false c]
    exact (List.any_eq_false.mpr fun x hx => by
      have := h2 x hx
      simp only [decide_eq_true_eq]
      omega).symm
theorem maxOf_some : ∀ {ns : List Int}, ns ≠ [] → ∃ m, maxOf ns = some m
  | [], h => absurd rfl h
  | n :: r, _ => by
    unfold maxOf
    cases maxOf r <;> exact ⟨_, rfl⟩
theorem planeB_inv {d : D} (h : planeB d = true) : ∃ ls, seq? d = some ls ∧ ls.length ≤ 9 ∧ (∀ x ∈ ls, lineB x = true) ∧ (ls = [] ∨ gpL ls ≠ []) := by
  unfold planeB at h
  cases hq : seq? d with
  | none => rw [hq] at h; cases h
  | some ls =>
    rw [hq] at h
    simp only [Bool.and_eq_true] at h
    obtain ⟨⟨h1, h2⟩, h3⟩ := h
    refine ⟨ls, rfl, of_decide_eq_true h1, List.all_eq_true.mp h2, ?_⟩
    rcases List.eq_nil_or_concat ls with rfl | ⟨ys, y, rfl⟩
    · exact .inl rfl
    · rw [List.concat_eq_append] at *
      rw [List.getLast?_concat] at h3
      have hy : (itemsE y).isEmpty = false := by simpa using h3
      refine .inr fun e => ?_
      have : G (y, ys.length) = none := by
        unfold gpL at e
        rw [List.zipIdx_append, List.filterMap_append] at e
        have e := (List.append_eq_nil_iff.mp e).2
        simp only [List.zipIdx_singleton, Nat.zero_add, List.filterMap_cons] at e
        cases hg : G (y, ys.length) with
        | none => rfl
        | some v => rw [hg] at e; cases e
      unfold G at this
      rw [hy] at this
      cases this
def formB (v : D) : Bool := match v with
  | .tuple [a, .int e] => decide (0 ≤ e) && decide (e ≤ 8) && planeB a && !(itemsE a).isEmpty && !overB (itemsE a) e
  | _ => false
theorem formB_int (a : D) (e : Int) : formB (.tuple [a, .int e]) = (decide (0 ≤ e) && decide (e ≤ 8) && planeB a && !(itemsE a).isEmpty && !overB (itemsE a) e) := rfl
/-- a value at which both answer -/
def nice (v : D) : Prop := ty0 v ∧ ∀ l, v = .tuple l → l.length ≤ 100 ∧ ∀ a b, l = [a, b] → ty2 a ∧ ty0 b
def isTup : D → Bool
  | .tuple _ => true
  | _ => false
theorem isi_tuple {d : D} (h : ty0 d) : isiD "tuple" d = some (.fz (.bool (isTup d))) := by
  obtain ⟨T, h⟩ := h
  unfold isiD
  rw [h]
  have : isT T "tuple" = isTup d := by
    unfold tyName at h
    split at h <;> first | (cases h; decide) | (cases h; rfl) | cases h
  rw [← this]; rfl
theorem isi_int {d : D} (h : ty0 d) : ∃ c, isiD "int" d = some (.fz (.bool c)) ∧ ((∃ i, d = .int i) → c = true) ∧ (c = true → (∃ i, d = .int i) ∨ ∃ b, d = .bool b) := by
  obtain ⟨T, h⟩ := h
  unfold isiD
  rw [h]
  refine ⟨_, rfl, ?_, ?_⟩
  · rintro ⟨i, rfl⟩; cases h; rfl
  · unfold tyName at h
    split at h <;> first | (cases h; intro h; exact absurd h (by decide)) | (intro _; exact .inl ⟨_, rfl⟩) | (intro _; exact .inr ⟨_, rfl⟩) | cases h
theorem ix0 (a b : D) : ixD (.tuple [a, b]) (.int 0) = some (.fz a) := rfl
theorem ix1 (a b : D) : ixD (.tuple [a, b]) (.int 1) = some (.fz b) := rfl
theorem rows_ints {ls : List D} (h : ∀ x ∈ ls, lineB x = true) : ∀ x ∈ ls, ∃ m : List Int, itemsE x = m.map .int := fun x hx => by
  obtain ⟨m, hm, _⟩ := lineB_inv (h x hx)
  exact ⟨m, itemsE_seq hm⟩
theorem rows_form {ls : List D} (h : ∀ x ∈ ls, lineB x = true) : ∃ M : List (List Int), (ls.map fun x => PyData.list (itemsE x)) = M.map IL := by
  induction ls with
  | nil => exact ⟨[], rfl⟩
  | cons x r ih =>
    obtain ⟨M, hM⟩ := ih fun y hy => h y (List.mem_cons_of_mem _ hy)
    obtain ⟨m, hm⟩ := rows_ints h x List.mem_cons_self
    exact ⟨m :: M, by rw [List.map_cons, hM, hm]; rfl⟩
theorem r_is_form {v : D} (h : nice v) : m_is_form [v] = some (.fz (.bool (formB v))) := by
  have hi := isi_tuple h.1
  have go : ∃ r, m_form_in [v] = some r ∧ (flatV r = true → True) ∧ r = (if formB v then .fz (.tuple [.list (planeRows ((itemsE v).getD 0 .none)), (itemsE v).getD 1 .none]) else .fz .none) := by
    refine ⟨_, ?_, fun _ => trivial, rfl⟩
    by_cases ht : isTup v = true
    · obtain ⟨l, rfl⟩ : ∃ l, v = .tuple l := by cases v <;> first | exact ⟨_, rfl⟩ | cases ht
      by_cases h2 : l.length = 2
      · obtain ⟨a, b, rfl⟩ : ∃ a b, l = [a, b] := by
          match l, h2 with
          | [a, b], _ => exact ⟨a, b, rfl⟩
        obtain ⟨ha, hb⟩ := (h.2 _ rfl).2 a b rfl
        have hc := r_is_count hb
        have hp := r_plane_in ha
        have hlen : lenD [.tuple [a, b]] = some (.fz (.int 2)) := rfl
        cases b with
        | int e =>
          have hc : m_is_count [.int e] = some (.fz (.bool (decide (0 ≤ e)))) := hc
          by_cases he : 0 ≤ e
          · by_cases h8 : e ≤ 8
            · cases hpb : planeB a with
              | false =>
                rw [hpb] at hp
                have hf : formB (.tuple [a, .int e]) = false := by rw [formB_int]; rw [hpb]; simp
                rw [hf]
                simp only [m_form_in, g_form_in, g_form_in_s1, g_form_in_s2, g_form_in_s3, g_form_in_s4, mb, mr, mo, nameM, conM, binM, unM, boolM, ifM, DL.andM, DL.orM, DL.notM, andV, orV, notV, chainM, nilA, consA, dvs, dv, ownAt, fzs, lstM, tupM, callM, callP, permL, fzv, seqS, skipS, ifS, setS, asg, freeAt, retS, retV, dropS, frz, frzS, asgS, nilG, consG, tupG, subG, listAt, methM, augS, augSubS, forS, seqM, treeV, startD, endV, bodyF, bodyI, startI, ioAt, slM, partM, bors, callL, callI, callO, DL.flatV, DL.flat, List.filterMap_cons, List.filterMap_nil, List.map_cons, List.map_nil, List.getElem?_cons_zero, List.getElem?_cons_succ, List.getElem?_nil, List.set_cons_zero, List.set_cons_succ, List.cons_append, List.nil_append, List.length_cons, List.length_nil, Option.bind_some, Option.bind_none, Option.map_some, Option.map_none, Nat.reduceSub, Nat.reduceAdd, List.replicate_succ, List.replicate_zero, Bool.not_true, Bool.not_false, if_true, if_false, Bool.false_eq_true, reduceIte, decide_true, decide_false, Nat.reduceLT, Nat.reduceLeDiff, reduceCtorEq, Option.some.injEq, Prod.mk.injEq, szOk0, hi, isTup, hlen, neD_int, hc, decide_eq_true he, ix0, ix1, gtI, intB, show decide (8 < e) = false from decide_eq_false (by omega), hp, isD, isNone]
              | true =>
                rw [hpb] at hp
                obtain ⟨ls, hq, hz, hlb, hne⟩ := planeB_inv hpb
                have hE := itemsE_seq hq
                obtain ⟨M, hM⟩ := rows_form hlb
                have hR : planeRows a = M.map IL := by unfold planeRows; rw [hE]; exact hM
                have hs : SeqAt.shaped (.list (planeRows a)) = true := by rw [hR]; exact shaped_rows M
                have hnil := eqD_nil hs
                have hgp := r_gp (by omega) (rows_ints hlb)
                rw [show (ls.map fun x => PyData.list (itemsE x)) = planeRows a from by unfold planeRows; rw [hE]] at hgp
                by_cases hl0 : ls = []
                · subst hl0
                  have hR0 : planeRows a = [] := by unfold planeRows; rw [hE]; rfl
                  rw [hR0] at hnil hp
                  have hnil : eqD (.list []) (.list []) = some (.fz (.bool true)) := hnil
                  have hf : formB (.tuple [a, .int e]) = false := by rw [formB_int]; rw [hE]; simp
                  rw [hf]
                  simp only [m_form_in, g_form_in, g_form_in_s1, g_form_in_s2, g_form_in_s3, g_form_in_s4, mb, mr, mo, nameM, conM, binM, unM, boolM, ifM, DL.andM, DL.orM, DL.notM, andV, orV, notV, chainM, nilA, consA, dvs, dv, ownAt, fzs, lstM, tupM, callM, callP, permL, fzv, seqS, skipS, ifS, setS, asg, freeAt, retS, retV, dropS, frz, frzS, asgS, nilG, consG, tupG, subG, listAt, methM, augS, augSubS, forS, seqM, treeV, startD, endV, bodyF, bodyI, startI, ioAt, slM, partM, bors, callL, callI, callO, DL.flatV, DL.flat, List.filterMap_cons, List.filterMap_nil, List.map_cons, List.map_nil, List.getElem?_cons_zero, List.getElem?_cons_succ, List.getElem?_nil, List.set_cons_zero, List.set_cons_succ, List.cons_append, List.nil_append, List.length_cons, List.length_nil, Option.bind_some, Option.bind_none, Option.map_some, Option.map_none, Nat.reduceSub, Nat.reduceAdd, List.replicate_succ, List.replicate_zero, Bool.not_true, Bool.not_false, if_true, if_false, Bool.false_eq_true, reduceIte, decide_true, decide_false, Nat.reduceLT, Nat.reduceLeDiff, reduceCtorEq, Option.some.injEq, Prod.mk.injEq, szOk0, hi, isTup, hlen, neD_int, hc, decide_eq_true he, ix0, ix1, gtI, intB, show decide (8 < e) = false from decide_eq_false (by omega), hp, isD, isNone, hnil]
                · have hne := hne.resolve_left hl0
                  obtain ⟨m, hm⟩ := maxOf_some hne
                  rw [hm] at hgp
                  have hov : overB (itemsE a) e = decide (e < m) := by unfold overB; rw [hE]; exact (maxOf_any hm e).symm
                  have hRe : (planeRows a).isEmpty = false := by
                    unfold planeRows; rw [hE]
                    cases ls with
                    | nil => exact absurd rfl hl0
                    | cons _ _ => rfl
                  rw [hRe] at hnil
                  have hEe : (itemsE a).isEmpty = false := by
                    rw [hE]
                    cases ls with
                    | nil => exact absurd rfl hl0
                    | cons _ _ => rfl
                  have hgp : m_greatest_powers [.list (planeRows a)] = some (.fz (.int m)) := hgp
                  by_cases hem : e < m
                  · have hf : formB (.tuple [a, .int e]) = false := by rw [formB_int]; rw [hov]; simp [hem]
                    rw [hf]
                    simp only [m_form_in, g_form_in, g_form_in_s1, g_form_in_s2, g_form_in_s3, g_form_in_s4, mb, mr, mo, nameM, conM, binM, unM, boolM, ifM, DL.andM, DL.orM, DL.notM, andV, orV, notV, chainM, nilA, consA, dvs, dv, ownAt, fzs, lstM, tupM, callM, callP, permL, fzv, seqS, skipS, ifS, setS, asg, freeAt, retS, retV, dropS, frz, frzS, asgS, nilG, consG, tupG, subG, listAt, methM, augS, augSubS, forS, seqM, treeV, startD, endV, bodyF, bodyI, startI, ioAt, slM, partM, bors, callL, callI, callO, DL.flatV, DL.flat, List.filterMap_cons, List.filterMap_nil, List.map_cons, List.map_nil, List.getElem?_cons_zero, List.getElem?_cons_succ, List.getElem?_nil, List.set_cons_zero, List.set_cons_succ, List.cons_append, List.nil_append, List.length_cons, List.length_nil, Option.bind_some, Option.bind_none, Option.map_some, Option.map_none, Nat.reduceSub, Nat.reduceAdd, List.replicate_succ, List.replicate_zero, Bool.not_true, Bool.not_false, if_true, if_false, Bool.false_eq_true, reduceIte, decide_true, decide_false, Nat.reduceLT, Nat.reduceLeDiff, reduceCtorEq, Option.some.injEq, Prod.mk.injEq, szOk0, hi, isTup, hlen, neD_int, hc, decide_eq_true he, ix0, ix1, gtI, intB, show decide (8 < e) = false from decide_eq_false (by omega), hp, isD, isNone, hnil, hgp, decide_eq_true hem]
                  · have hf : formB (.tuple [a, .int e]) = true := by rw [formB_int]; rw [hov, hpb, hEe]; simp [hem, he, h8]
                    rw [hf]
                    simp only [m_form_in, g_form_in, g_form_in_s1, g_form_in_s2, g_form_in_s3, g_form_in_s4, mb, mr, mo, nameM, conM, binM, unM, boolM, ifM, DL.andM, DL.orM, DL.notM, andV, orV, notV, chainM, nilA, consA, dvs, dv, ownAt, fzs, lstM, tupM, callM, callP, permL, fzv, seqS, skipS, ifS, setS, asg, freeAt, retS, retV, dropS, frz, frzS, asgS, nilG, consG, tupG, subG, listAt, methM, augS, augSubS, forS, seqM, treeV, startD, endV, bodyF, bodyI, startI, ioAt, slM, partM, bors, callL, callI, callO, DL.flatV, DL.flat, List.filterMap_cons, List.filterMap_nil, List.map_cons, List.map_nil, List.getElem?_cons_zero, List.getElem?_cons_succ, List.getElem?_nil, List.set_cons_zero, List.set_cons_succ, List.cons_append, List.nil_append, List.length_cons, List.length_nil, Option.bind_some, Option.bind_none, Option.map_some, Option.map_none, Nat.reduceSub, Nat.reduceAdd, List.replicate_succ, List.replicate_zero, Bool.not_true, Bool.not_false, if_true, if_false, Bool.false_eq_true, reduceIte, decide_true, decide_false, Nat.reduceLT, Nat.reduceLeDiff, reduceCtorEq, Option.some.injEq, Prod.mk.injEq, szOk0, hi, isTup, hlen, neD_int, hc, decide_eq_true he, ix0, ix1, gtI, intB, show decide (8 < e) = false from decide_eq_false (by omega), hp, isD, isNone, hnil, hgp, decide_eq_false hem]
                    rfl
            · have hf : formB (.tuple [a, .int e]) = false := by rw [formB_int]; simp [h8]
              rw [hf]
              simp only [m_form_in, g_form_in, g_form_in_s1, g_form_in_s2, g_form_in_s3, g_form_in_s4, mb, mr, mo, nameM, conM, binM, unM, boolM, ifM, DL.andM, DL.orM, DL.notM, andV, orV, notV, chainM, nilA, consA, dvs, dv, ownAt, fzs, lstM, tupM, callM, callP, permL, fzv, seqS, skipS, ifS, setS, asg, freeAt, retS, retV, dropS, frz, frzS, asgS, nilG, consG, tupG, subG, listAt, methM, augS, augSubS, forS, seqM, treeV, startD, endV, bodyF, bodyI, startI, ioAt, slM, partM, bors, callL, callI, callO, DL.flatV, DL.flat, List.filterMap_cons, List.filterMap_nil, List.map_cons, List.map_nil, List.getElem?_cons_zero, List.getElem?_cons_succ, List.getElem?_nil, List.set_cons_zero, List.set_cons_succ, List.cons_append, List.nil_append, List.length_cons, List.length_nil, Option.bind_some, Option.bind_none, Option.map_some, Option.map_none, Nat.reduceSub, Nat.reduceAdd, List.replicate_succ, List.replicate_zero, Bool.not_true, Bool.not_false, if_true, if_false, Bool.false_eq_true, reduceIte, decide_true, decide_false, Nat.reduceLT, Nat.reduceLeDiff, reduceCtorEq, Option.some.injEq, Prod.mk.injEq, szOk0, hi, isTup, hlen, neD_int, hc, decide_eq_true he, ix0, ix1, gtI, intB, show decide (8 < e) = true from decide_eq_true (by omega)]
          · have hf : formB (.tuple [a, .int e]) = false := by rw [formB_int]; simp [he]
            rw [hf]
            simp only [m_form_in, g_form_in, g_form_in_s1, g_form_in_s2, g_form_in_s3, g_form_in_s4, mb, mr, mo, nameM, conM, binM, unM, boolM, ifM, DL.andM, DL.orM, DL.notM, andV, orV, notV, chainM, nilA, consA, dvs, dv, ownAt, fzs, lstM, tupM, callM, callP, permL, fzv, seqS, skipS, ifS, setS, asg, freeAt, retS, retV, dropS, frz, frzS, asgS, nilG, consG, tupG, subG, listAt, methM, augS, augSubS, forS, seqM, treeV, startD, endV, bodyF, bodyI, startI, ioAt, slM, partM, bors, callL, callI, callO, DL.flatV, DL.flat, List.filterMap_cons, List.filterMap_nil, List.map_cons, List.map_nil, List.getElem?_cons_zero, List.getElem?_cons_succ, List.getElem?_nil, List.set_cons_zero, List.set_cons_succ, List.cons_append, List.nil_append, List.length_cons, List.length_nil, Option.bind_some, Option.bind_none, Option.map_some, Option.map_none, Nat.reduceSub, Nat.reduceAdd, List.replicate_succ, List.replicate_zero, Bool.not_true, Bool.not_false, if_true, if_false, Bool.false_eq_true, reduceIte, decide_true, decide_false, Nat.reduceLT, Nat.reduceLeDiff, reduceCtorEq, Option.some.injEq, Prod.mk.injEq, szOk0, hi, isTup, hlen, neD_int, hc, decide_eq_false he, ix0, ix1]
        | _ =>
          rw [show formB (.tuple [a, _]) = false from rfl]
          simp only [m_form_in, g_form_in, g_form_in_s1, g_form_in_s2, g_form_in_s3, g_form_in_s4, mb, mr, mo, nameM, conM, binM, unM, boolM, ifM, DL.andM, DL.orM, DL.notM, andV, orV, notV, chainM, nilA, consA, dvs, dv, ownAt, fzs, lstM, tupM, callM, callP, permL, fzv, seqS, skipS, ifS, setS, asg, freeAt, retS, retV, dropS, frz, frzS, asgS, nilG, consG, tupG, subG, listAt, methM, augS, augSubS, forS, seqM, treeV, startD, endV, bodyF, bodyI, startI, ioAt, slM, partM, bors, callL, callI, callO, DL.flatV, DL.flat, List.filterMap_cons, List.filterMap_nil, List.map_cons, List.map_nil, List.getElem?_cons_zero, List.getElem?_cons_succ, List.getElem?_nil, List.set_cons_zero, List.set_cons_succ, List.cons_append, List.nil_append, List.length_cons, List.length_nil, Option.bind_some, Option.bind_none, Option.map_some, Option.map_none, Nat.reduceSub, Nat.reduceAdd, List.replicate_succ, List.replicate_zero, Bool.not_true, Bool.not_false, if_true, if_false, Bool.false_eq_true, reduceIte, decide_true, decide_false, Nat.reduceLT, Nat.reduceLeDiff, reduceCtorEq, Option.some.injEq, Prod.mk.injEq, szOk0, hi, isTup, hlen, neD_int, hc, ix0, ix1]
      · have hlen : lenD [.tuple l] = some (.fz (.int (l.length : Int))) := rfl
        have hd : decide ((l.length : Int) = 2) = false := decide_eq_false (by omega)
        have hf : formB (.tuple l) = false := by
          unfold formB
          split
          · rename_i q
            cases q
            exact absurd rfl h2
          · rfl
        rw [hf]
        simp only [m_form_in, g_form_in, g_form_in_s1, g_form_in_s2, g_form_in_s3, g_form_in_s4, mb, mr, mo, nameM, conM, binM, unM, boolM, ifM, DL.andM, DL.orM, DL.notM, andV, orV, notV, chainM, nilA, consA, dvs, dv, ownAt, fzs, lstM, tupM, callM, callP, permL, fzv, seqS, skipS, ifS, setS, asg, freeAt, retS, retV, dropS, frz, frzS, asgS, nilG, consG, tupG, subG, listAt, methM, augS, augSubS, forS, seqM, treeV, startD, endV, bodyF, bodyI, startI, ioAt, slM, partM, bors, callL, callI, callO, DL.flatV, DL.flat, List.filterMap_cons, List.filterMap_nil, List.map_cons, List.map_nil, List.getElem?_cons_zero, List.getElem?_cons_succ, List.getElem?_nil, List.set_cons_zero, List.set_cons_succ, List.cons_append, List.nil_append, List.length_cons, List.length_nil, Option.bind_some, Option.bind_none, Option.map_some, Option.map_none, Nat.reduceSub, Nat.reduceAdd, List.replicate_succ, List.replicate_zero, Bool.not_true, Bool.not_false, if_true, if_false, Bool.false_eq_true, reduceIte, decide_true, decide_false, Nat.reduceLT, Nat.reduceLeDiff, reduceCtorEq, Option.some.injEq, Prod.mk.injEq, szOk0, hi, isTup, hlen, neD_int, hd]
    · have ht : isTup v = false := by simpa using ht
      have hf : formB v = false := by
        unfold formB
        split
        · cases ht
        · rfl
      rw [ht] at hi
      rw [hf]
      simp only [m_form_in, g_form_in, g_form_in_s1, g_form_in_s2, g_form_in_s3, g_form_in_s4, mb, mr, mo, nameM, conM, binM, unM, boolM, ifM, DL.andM, DL.orM, DL.notM, andV, orV, notV, chainM, nilA, consA, dvs, dv, ownAt, fzs, lstM, tupM, callM, callP, permL, fzv, seqS, skipS, ifS, setS, asg, freeAt, retS, retV, dropS, frz, frzS, asgS, nilG, consG, tupG, subG, listAt, methM, augS, augSubS, forS, seqM, treeV, startD, endV, bodyF, bodyI, startI, ioAt, slM, partM, bors, callL, callI, callO, DL.flatV, DL.flat, List.filterMap_cons, List.filterMap_nil, List.map_cons, List.map_nil, List.getElem?_cons_zero, List.getElem?_cons_succ, List.getElem?_nil, List.set_cons_zero, List.set_cons_succ, List.cons_append, List.nil_append, List.length_cons, List.length_nil, Option.bind_some, Option.bind_none, Option.map_some, Option.map_none, Nat.reduceSub, Nat.reduceAdd, List.replicate_succ, List.replicate_zero, Bool.not_true, Bool.not_false, if_true, if_false, Bool.false_eq_true, reduceIte, decide_true, decide_false, Nat.reduceLT, Nat.reduceLeDiff, reduceCtorEq, Option.some.injEq, Prod.mk.injEq, szOk0, hi]
  obtain ⟨r, h1, -, h2⟩ := go
  cases hf : formB v <;> rw [hf] at h2 <;> subst h2 <;> simp only [m_is_form, g_is_form, g_is_form_s1, mb, mr, mo, nameM, conM, binM, unM, boolM, ifM, DL.andM, DL.orM, DL.notM, andV, orV, notV, chainM, nilA, consA, dvs, dv, ownAt, fzs, lstM, tupM, callM, callP, permL, fzv, seqS, skipS, ifS, setS, asg, freeAt, retS, retV, dropS, frz, frzS, asgS, nilG, consG, tupG, subG, listAt, methM, augS, augSubS, forS, seqM, treeV, startD, endV, bodyF, bodyI, startI, ioAt, slM, partM, bors, callL, callI, callO, DL.flatV, DL.flat, List.filterMap_cons, List.filterMap_nil, List.map_cons, List.map_nil, List.getElem?_cons_zero, List.getElem?_cons_succ, List.getElem?_nil, List.set_cons_zero, List.set_cons_succ, List.cons_append, List.nil_append, List.length_cons, List.length_nil, Option.bind_some, Option.bind_none, Option.map_some, Option.map_none, Nat.reduceSub, Nat.reduceAdd, List.replicate_succ, List.replicate_zero, Bool.not_true, Bool.not_false, if_true, if_false, Bool.false_eq_true, reduceIte, decide_true, decide_false, Nat.reduceLT, Nat.reduceLeDiff, reduceCtorEq, Option.some.injEq, Prod.mk.injEq, szOk0, h1, isnotD, isNone]
end K84
end
section
set_option maxRecDepth 100000
set_option maxHeartbeats 1000000
namespace K84
open PySem PySem.Spec L2 DL
def gD (i e : Int) (t : D) : Option D := match t with
  | .tuple [.int j, .int n] => if n = 0 then none else if e < i + j then some (.int j) else none
  | _ => none
theorem enumD_ints (m : List Int) : enumD (m.map .int) = m.zipIdx.map fun p => .tuple [.int (p.2 : Nat), .int p.1] := by
  unfold enumD
  rw [List.zipIdx_map, List.map_map]
  rfl
theorem gD_len (i e : Int) {m : List Int} (h : m = [] ∨ ∃ ys y, m = ys ++ [y] ∧ y ≠ 0) : decide ((0 : Int) < (((enumD (m.map .int)).filterMap (gD i e)).length : Int)) = (!(m.map PyData.int).isEmpty && decide (e < i + ((m.map PyData.int).length : Int) - 1)) := by
  rcases h with rfl | ⟨ys, y, rfl, hy⟩
  · rfl
  · rw [enumD_ints, List.filterMap_map, List.length_map]
    have hE : (List.map PyData.int (ys ++ [y])).isEmpty = false := by simp
    rw [hE]
    by_cases c : e < i + ((ys ++ [y]).length : Int) - 1
    · rw [decide_eq_true c]
      refine decide_eq_true ?_
      have : PyData.int (ys.length : Nat) ∈ (ys ++ [y]).zipIdx.filterMap (gD i e ∘ fun p => .tuple [.int (p.2 : Nat), .int p.1]) := by
        refine List.mem_filterMap.mpr ⟨(y, ys.length), ?_, ?_⟩
        · rw [List.zipIdx_append]
          exact List.mem_append_right _ (by simp)
        · show (if y = 0 then none else if e < i + (ys.length : Int) then some _ else none) = _
          rw [if_neg hy, if_pos (by simp at c; omega)]
      have := List.length_pos_of_mem this
      omega
    · rw [decide_eq_false c]
      refine decide_eq_false ?_
      have : (ys ++ [y]).zipIdx.filterMap (gD i e ∘ fun p => .tuple [.int (p.2 : Nat), .int p.1]) = [] := by
        refine List.filterMap_eq_nil_iff.mpr fun p hp => ?_
        have hp2 := (List.mem_zipIdx hp).2.1
        show (if p.1 = 0 then none else if e < i + (p.2 : Int) then some _ else none) = _
        split
        · rfl
        · rw [if_neg (by simp at c hp2; omega)]
      rw [this]
      simp
theorem due_turn {a x : D} {e : Int} {i : Nat} (hx : lineB x = true) : g__law_due_b1 [.dat (.tuple [a, .int e]), .dat (.int i), .dat x, .un, .un] = some (if (!(itemsE x).isEmpty && decide (e < (i : Int) + ((itemsE x).length : Int) - 1)) then .rt (.fz (.bool false)) else .nx, [.dat (.tuple [a, .int e]), .dat (.int i), .dat x, .un, .un]) := by
  obtain ⟨m, hm, hz, hl⟩ := lineB_inv hx
  have hc : g__law_due_c1 [.dat (.tuple [a, .int e]), .dat (.int i), .dat x, .un, .un] = some (.ow (.list ((enumD (m.map .int)).filterMap (gD i e))), [.dat (.tuple [a, .int e]), .dat (.int i), .dat x, .un, .un]) := by
    unfold g__law_due_c1
    refine compM_gen (gD i e) ?_ ?_ ?_ ?_ ?_
    · rcases seq_cases hm with rfl | rfl <;> simp only [mb, mr, mo, nameM, conM, binM, unM, boolM, ifM, DL.andM, DL.orM, DL.notM, andV, orV, notV, chainM, nilA, consA, dvs, dv, ownAt, fzs, lstM, tupM, callM, callP, permL, fzv, seqS, skipS, ifS, setS, asg, freeAt, retS, retV, dropS, frz, frzS, asgS, nilG, consG, tupG, subG, listAt, methM, augS, augSubS, forS, seqM, treeV, startD, endV, bodyF, bodyI, startI, ioAt, slM, partM, bors, callL, callI, callO, DL.flatV, DL.flat, List.filterMap_cons, List.filterMap_nil, List.map_cons, List.map_nil, List.getElem?_cons_zero, List.getElem?_cons_succ, List.getElem?_nil, List.set_cons_zero, List.set_cons_succ, List.cons_append, List.nil_append, List.length_cons, List.length_nil, Option.bind_some, Option.bind_none, Option.map_some, Option.map_none, Nat.reduceSub, Nat.reduceAdd, List.replicate_succ, List.replicate_zero, Bool.not_true, Bool.not_false, if_true, if_false, Bool.false_eq_true, reduceIte, decide_true, decide_false, Nat.reduceLT, Nat.reduceLeDiff, reduceCtorEq, Option.some.injEq, Prod.mk.injEq, enumA]
    · rfl
    · rfl
    · have := List.length_filterMap_le (gD i e) (enumD (m.map PyData.int))
      have h2 : (enumD (m.map PyData.int)).length = m.length := by unfold enumD; simp
      exact decide_eq_true (by omega)
    · intro t ht
      rw [enumD_ints] at ht
      obtain ⟨q, hq, rfl⟩ := List.mem_map.mp ht
      refine ⟨[.dat (.tuple [a, .int e]), .dat (.int i), .dat x, .dat (.int (q.2 : Nat)), .dat (.int q.1)], ?_, ?_, ?_⟩
      · simp only [wipeD, itemsOf, mb, mr, mo, nameM, conM, binM, unM, boolM, ifM, DL.andM, DL.orM, DL.notM, andV, orV, notV, chainM, nilA, consA, dvs, dv, ownAt, fzs, lstM, tupM, callM, callP, permL, fzv, seqS, skipS, ifS, setS, asg, freeAt, retS, retV, dropS, frz, frzS, asgS, nilG, consG, tupG, subG, listAt, methM, augS, augSubS, forS, seqM, treeV, startD, endV, bodyF, bodyI, startI, ioAt, slM, partM, bors, callL, callI, callO, DL.flatV, DL.flat, List.filterMap_cons, List.filterMap_nil, List.map_cons, List.map_nil, List.getElem?_cons_zero, List.getElem?_cons_succ, List.getElem?_nil, List.set_cons_zero, List.set_cons_succ, List.cons_append, List.nil_append, List.length_cons, List.length_nil, Option.bind_some, Option.bind_none, Option.map_some, Option.map_none, Nat.reduceSub, Nat.reduceAdd, List.replicate_succ, List.replicate_zero, Bool.not_true, Bool.not_false, if_true, if_false, Bool.false_eq_true, reduceIte, decide_true, decide_false, Nat.reduceLT, Nat.reduceLeDiff, reduceCtorEq, Option.some.injEq, Prod.mk.injEq]
      · show ((if q.1 = 0 then none else if e < (i : Int) + (q.2 : Int) then some (PyData.int (q.2 : Nat)) else none) = none ∧ _) ∨ ∃ e' v, (if q.1 = 0 then none else if e < (i : Int) + (q.2 : Int) then some (PyData.int (q.2 : Nat)) else none) = some e' ∧ _
        by_cases h0 : q.1 = 0
        · refine .inl ⟨if_pos h0, ?_⟩
          simp only [mb, mr, mo, nameM, conM, binM, unM, boolM, ifM, DL.andM, DL.orM, DL.notM, andV, orV, notV, chainM, nilA, consA, dvs, dv, ownAt, fzs, lstM, tupM, callM, callP, permL, fzv, seqS, skipS, ifS, setS, asg, freeAt, retS, retV, dropS, frz, frzS, asgS, nilG, consG, tupG, subG, listAt, methM, augS, augSubS, forS, seqM, treeV, startD, endV, bodyF, bodyI, startI, ioAt, slM, partM, bors, callL, callI, callO, DL.flatV, DL.flat, List.filterMap_cons, List.filterMap_nil, List.map_cons, List.map_nil, List.getElem?_cons_zero, List.getElem?_cons_succ, List.getElem?_nil, List.set_cons_zero, List.set_cons_succ, List.cons_append, List.nil_append, List.length_cons, List.length_nil, Option.bind_some, Option.bind_none, Option.map_some, Option.map_none, Nat.reduceSub, Nat.reduceAdd, List.replicate_succ, List.replicate_zero, Bool.not_true, Bool.not_false, if_true, if_false, Bool.false_eq_true, reduceIte, decide_true, decide_false, Nat.reduceLT, Nat.reduceLeDiff, reduceCtorEq, Option.some.injEq, Prod.mk.injEq, neD_int, h0]
        · by_cases h1 : e < (i : Int) + (q.2 : Int)
          · refine .inr ⟨.int (q.2 : Nat), .fz (.int (q.2 : Nat)), by rw [if_neg h0, if_pos h1], ?_, ?_, rfl⟩
            · simp only [mb, mr, mo, nameM, conM, binM, unM, boolM, ifM, DL.andM, DL.orM, DL.notM, andV, orV, notV, chainM, nilA, consA, dvs, dv, ownAt, fzs, lstM, tupM, callM, callP, permL, fzv, seqS, skipS, ifS, setS, asg, freeAt, retS, retV, dropS, frz, frzS, asgS, nilG, consG, tupG, subG, listAt, methM, augS, augSubS, forS, seqM, treeV, startD, endV, bodyF, bodyI, startI, ioAt, slM, partM, bors, callL, callI, callO, DL.flatV, DL.flat, List.filterMap_cons, List.filterMap_nil, List.map_cons, List.map_nil, List.getElem?_cons_zero, List.getElem?_cons_succ, List.getElem?_nil, List.set_cons_zero, List.set_cons_succ, List.cons_append, List.nil_append, List.length_cons, List.length_nil, Option.bind_some, Option.bind_none, Option.map_some, Option.map_none, Nat.reduceSub, Nat.reduceAdd, List.replicate_succ, List.replicate_zero, Bool.not_true, Bool.not_false, if_true, if_false, Bool.false_eq_true, reduceIte, decide_true, decide_false, Nat.reduceLT, Nat.reduceLeDiff, reduceCtorEq, Option.some.injEq, Prod.mk.injEq, neD_int, decide_eq_false h0, gtI, addD, intB, ix1, decide_eq_true h1]
            · simp only [mb, mr, mo, nameM, conM, binM, unM, boolM, ifM, DL.andM, DL.orM, DL.notM, andV, orV, notV, chainM, nilA, consA, dvs, dv, ownAt, fzs, lstM, tupM, callM, callP, permL, fzv, seqS, skipS, ifS, setS, asg, freeAt, retS, retV, dropS, frz, frzS, asgS, nilG, consG, tupG, subG, listAt, methM, augS, augSubS, forS, seqM, treeV, startD, endV, bodyF, bodyI, startI, ioAt, slM, partM, bors, callL, callI, callO, DL.flatV, DL.flat, List.filterMap_cons, List.filterMap_nil, List.map_cons, List.map_nil, List.getElem?_cons_zero, List.getElem?_cons_succ, List.getElem?_nil, List.set_cons_zero, List.set_cons_succ, List.cons_append, List.nil_append, List.length_cons, List.length_nil, Option.bind_some, Option.bind_none, Option.map_some, Option.map_none, Nat.reduceSub, Nat.reduceAdd, List.replicate_succ, List.replicate_zero, Bool.not_true, Bool.not_false, if_true, if_false, Bool.false_eq_true, reduceIte, decide_true, decide_false, Nat.reduceLT, Nat.reduceLeDiff, reduceCtorEq, Option.some.injEq, Prod.mk.injEq]
          · refine .inl ⟨by rw [if_neg h0, if_neg h1], ?_⟩
            simp only [mb, mr, mo, nameM, conM, binM, unM, boolM, ifM, DL.andM, DL.orM, DL.notM, andV, orV, notV, chainM, nilA, consA, dvs, dv, ownAt, fzs, lstM, tupM, callM, callP, permL, fzv, seqS, skipS, ifS, setS, asg, freeAt, retS, retV, dropS, frz, frzS, asgS, nilG, consG, tupG, subG, listAt, methM, augS, augSubS, forS, seqM, treeV, startD, endV, bodyF, bodyI, startI, ioAt, slM, partM, bors, callL, callI, callO, DL.flatV, DL.flat, List.filterMap_cons, List.filterMap_nil, List.map_cons, List.map_nil, List.getElem?_cons_zero, List.getElem?_cons_succ, List.getElem?_nil, List.set_cons_zero, List.set_cons_succ, List.cons_append, List.nil_append, List.length_cons, List.length_nil, Option.bind_some, Option.bind_none, Option.map_some, Option.map_none, Nat.reduceSub, Nat.reduceAdd, List.replicate_succ, List.replicate_zero, Bool.not_true, Bool.not_false, if_true, if_false, Bool.false_eq_true, reduceIte, decide_true, decide_false, Nat.reduceLT, Nat.reduceLeDiff, reduceCtorEq, Option.some.injEq, Prod.mk.injEq, neD_int, decide_eq_false h0, gtI, addD, intB, ix1, decide_eq_false h1]
      · simp only [wipeD, mb, mr, mo, nameM, conM, binM, unM, boolM, ifM, DL.andM, DL.orM, DL.notM, andV, orV, notV, chainM, nilA, consA, dvs, dv, ownAt, fzs, lstM, tupM, callM, callP, permL, fzv, seqS, skipS, ifS, setS, asg, freeAt, retS, retV, dropS, frz, frzS, asgS, nilG, consG, tupG, subG, listAt, methM, augS, augSubS, forS, seqM, treeV, startD, endV, bodyF, bodyI, startI, ioAt, slM, partM, bors, callL, callI, callO, DL.flatV, DL.flat, List.filterMap_cons, List.filterMap_nil, List.map_cons, List.map_nil, List.getElem?_cons_zero, List.getElem?_cons_succ, List.getElem?_nil, List.set_cons_zero, List.set_cons_succ, List.cons_append, List.nil_append, List.length_cons, List.length_nil, Option.bind_some, Option.bind_none, Option.map_some, Option.map_none, Nat.reduceSub, Nat.reduceAdd, List.replicate_succ, List.replicate_zero, Bool.not_true, Bool.not_false, if_true, if_false, Bool.false_eq_true, reduceIte, decide_true, decide_false, Nat.reduceLT, Nat.reduceLeDiff, reduceCtorEq, Option.some.injEq, Prod.mk.injEq]
  have hlen : lenD [.list ((enumD (m.map .int)).filterMap (gD i e))] = some (.fz (.int (((enumD (m.map .int)).filterMap (gD i e)).length : Int))) := rfl
  rw [itemsE_seq hm, ← gD_len i e hl]
  unfold g__law_due_b1
  simp only [mb, mr, mo, nameM, conM, binM, unM, boolM, ifM, DL.andM, DL.orM, DL.notM, andV, orV, notV, chainM, nilA, consA, dvs, dv, ownAt, fzs, lstM, tupM, callM, callP, permL, fzv, seqS, skipS, ifS, setS, asg, freeAt, retS, retV, dropS, frz, frzS, asgS, nilG, consG, tupG, subG, listAt, methM, augS, augSubS, forS, seqM, treeV, startD, endV, bodyF, bodyI, startI, ioAt, slM, partM, bors, callL, callI, callO, DL.flatV, DL.flat, List.filterMap_cons, List.filterMap_nil, List.map_cons, List.map_nil, List.getElem?_cons_zero, List.getElem?_cons_succ, List.getElem?_nil, List.set_cons_zero, List.set_cons_succ, List.cons_append, List.nil_append, List.length_cons, List.length_nil, Option.bind_some, Option.bind_none, Option.map_some, Option.map_none, Nat.reduceSub, Nat.reduceAdd, List.replicate_succ, List.replicate_zero, Bool.not_true, Bool.not_false, if_true, if_false, Bool.false_eq_true, reduceIte, decide_true, decide_false, Nat.reduceLT, Nat.reduceLeDiff, reduceCtorEq, Option.some.injEq, Prod.mk.injEq, hc, hlen, gtI, intB]
  cases decide ((0 : Int) < (((enumD (m.map .int)).filterMap (gD i e)).length : Int)) <;> rfl
def okT (e : Int) (t : D) : Bool := match t with
  | .tuple [.int i, x] => !(!(itemsE x).isEmpty && decide (e < i + ((itemsE x).length : Int) - 1))
  | _ => true
theorem okT_all (ls : List D) (e : Int) : (enumD ls).all (okT e) = !overB ls e := by
  unfold enumD overB gpL
  rw [List.all_map]
  generalize ls.zipIdx = zs
  induction zs with
  | nil => rfl
  | cons z r ih =>
    rw [List.all_cons, ih, List.filterMap_cons]
    show (!(!(itemsE z.1).isEmpty && decide (e < (z.2 : Int) + ((itemsE z.1).length : Int) - 1)) && _) = _
    unfold G
    cases (itemsE z.1).isEmpty
    · simp
    · simp
theorem due_f1 {a : D} {e : Int} {ls : List D} (hq : seq? a = some ls) (hb : ∀ x ∈ ls, lineB x = true) : ∃ δ', g__law_due_f1 [.dat (.tuple [a, .int e]), .un, .un, .un, .un] = some (if overB ls e then .rt (.fz (.bool false)) else .nx, δ') := by
  have hit : enumA (consA (binM ixD (nameM 0) (conM (.int 0))) nilA) [.dat (.tuple [a, .int e]), .un, .un, .un, .un] = some (enumD ls, [.dat (.tuple [a, .int e]), .un, .un, .un, .un]) := by
    rcases seq_cases hq with rfl | rfl <;> simp only [mb, mr, mo, nameM, conM, binM, unM, boolM, ifM, DL.andM, DL.orM, DL.notM, andV, orV, notV, chainM, nilA, consA, dvs, dv, ownAt, fzs, lstM, tupM, callM, callP, permL, fzv, seqS, skipS, ifS, setS, asg, freeAt, retS, retV, dropS, frz, frzS, asgS, nilG, consG, tupG, subG, listAt, methM, augS, augSubS, forS, seqM, treeV, startD, endV, bodyF, bodyI, startI, ioAt, slM, partM, bors, callL, callI, callO, DL.flatV, DL.flat, List.filterMap_cons, List.filterMap_nil, List.map_cons, List.map_nil, List.getElem?_cons_zero, List.getElem?_cons_succ, List.getElem?_nil, List.set_cons_zero, List.set_cons_succ, List.cons_append, List.nil_append, List.length_cons, List.length_nil, Option.bind_some, Option.bind_none, Option.map_some, Option.map_none, Nat.reduceSub, Nat.reduceAdd, List.replicate_succ, List.replicate_zero, Bool.not_true, Bool.not_false, if_true, if_false, Bool.false_eq_true, reduceIte, decide_true, decide_false, Nat.reduceLT, Nat.reduceLeDiff, reduceCtorEq, Option.some.injEq, Prod.mk.injEq, enumA, ix0]
  unfold g__law_due_f1 forS
  rw [hit]
  have hF := forL_all (gt := tupG 2 (consG (asg 1) (consG (asg 2) nilG))) (body := g__law_due_b1) (v := .fz (.bool false)) (fun δ => δ = [.dat (.tuple [a, .int e]), .un, .un, .un, .un] ∨ ∃ x y, δ = [.dat (.tuple [a, .int e]), .dat x, .dat y, .un, .un]) (okT e) (enumD ls) [.dat (.tuple [a, .int e]), .un, .un, .un, .un] (fun t ht δ hI => by
    obtain ⟨q, hq, rfl⟩ := List.mem_map.mp ht
    have hx : q.1 ∈ ls := by
      have := List.mem_zipIdx hq
      simp only [Nat.sub_zero] at this
      rw [this.2.2]
      exact List.getElem_mem _
    refine ⟨[.dat (.tuple [a, .int e]), .dat (.int (q.2 : Nat)), .dat q.1, .un, .un], ?_, ?_⟩
    · rcases hI with rfl | ⟨x, y, rfl⟩ <;> simp only [itemsOf, mb, mr, mo, nameM, conM, binM, unM, boolM, ifM, DL.andM, DL.orM, DL.notM, andV, orV, notV, chainM, nilA, consA, dvs, dv, ownAt, fzs, lstM, tupM, callM, callP, permL, fzv, seqS, skipS, ifS, setS, asg, freeAt, retS, retV, dropS, frz, frzS, asgS, nilG, consG, tupG, subG, listAt, methM, augS, augSubS, forS, seqM, treeV, startD, endV, bodyF, bodyI, startI, ioAt, slM, partM, bors, callL, callI, callO, DL.flatV, DL.flat, List.filterMap_cons, List.filterMap_nil, List.map_cons, List.map_nil, List.getElem?_cons_zero, List.getElem?_cons_succ, List.getElem?_nil, List.set_cons_zero, List.set_cons_succ, List.cons_append, List.nil_append, List.length_cons, List.length_nil, Option.bind_some, Option.bind_none, Option.map_some, Option.map_none, Nat.reduceSub, Nat.reduceAdd, List.replicate_succ, List.replicate_zero, Bool.not_true, Bool.not_false, if_true, if_false, Bool.false_eq_true, reduceIte, decide_true, decide_false, Nat.reduceLT, Nat.reduceLeDiff, reduceCtorEq, Option.some.injEq, Prod.mk.injEq]
    · have ht := due_turn (a := a) (e := e) (i := q.2) (hb _ hx)
      have hk : okT e (.tuple [.int (q.2 : Nat), q.1]) = !(!(itemsE q.1).isEmpty && decide (e < (q.2 : Int) + ((itemsE q.1).length : Int) - 1)) := rfl
      rw [hk]
      cases hc : (!(itemsE q.1).isEmpty && decide (e < (q.2 : Int) + ((itemsE q.1).length : Int) - 1))
      · rw [hc] at ht
        exact .inl ⟨rfl, _, .inl ht, .inr ⟨_, _, rfl⟩⟩
      · rw [hc] at ht
        exact .inr ⟨rfl, _, ht⟩) (.inl rfl)
  rw [okT_all] at hF
  cases ho : overB ls e <;> rw [ho] at hF
  · rcases hF with ⟨_, δ', h, _⟩ | ⟨h, _⟩
    · exact ⟨δ', h⟩
    · cases h
  · rcases hF with ⟨h, _⟩ | ⟨_, δ', h⟩
    · cases h
    · exact ⟨δ', h⟩
theorem isi_int_not {d : D} (h : ty0 d) (h1 : ∀ i, d ≠ .int i) : (isiD "int" d = some (.fz (.bool false))) ∨ (isiD "int" d = some (.fz (.bool true)) ∧ isiD "bool" d = some (.fz (.bool true))) := by
  cases d with
  | int i => exact absurd rfl (h1 i)
  | bool b => exact .inr ⟨rfl, rfl⟩
  | dict kv =>
    refine .inl ?_
    obtain ⟨T, h⟩ := h
    unfold isiD
    rw [h]
    unfold tyName at h
    split at h <;> cases h <;> first | rfl | trivial
  | _ => exact .inl rfl
theorem r_due {v : D} (h : nice v) : m__law_due [v] = some (.fz (.bool (formB v))) := by
  have hi := isi_tuple h.1
  by_cases ht : isTup v = true
  · obtain ⟨l, rfl⟩ : ∃ l, v = .tuple l := by cases v <;> first | exact ⟨_, rfl⟩ | cases ht
    by_cases h2 : l.length = 2
    · obtain ⟨a, b, rfl⟩ : ∃ a b, l = [a, b] := by
        match l, h2 with
        | [a, b], _ => exact ⟨a, b, rfl⟩
      obtain ⟨ha, hb⟩ := (h.2 _ rfl).2 a b rfl
      have hp := r_is_plane ha
      have hlen : lenD [.tuple [a, b]] = some (.fz (.int 2)) := rfl
      cases hpb : planeB a with
      | false =>
        rw [hpb] at hp
        have hf : formB (.tuple [a, b]) = false := by
          cases b with
          | int e => rw [formB_int, hpb]; simp
          | _ => rfl
        rw [hf]
        simp only [m__law_due, g__law_due, g__law_due_s1, g__law_due_s2, g__law_due_s3, mb, mr, mo, nameM, conM, binM, unM, boolM, ifM, DL.andM, DL.orM, DL.notM, andV, orV, notV, chainM, nilA, consA, dvs, dv, ownAt, fzs, lstM, tupM, callM, callP, permL, fzv, seqS, skipS, ifS, setS, asg, freeAt, retS, retV, dropS, frz, frzS, asgS, nilG, consG, tupG, subG, listAt, methM, augS, augSubS, forS, seqM, treeV, startD, endV, bodyF, bodyI, startI, ioAt, slM, partM, bors, callL, callI, callO, DL.flatV, DL.flat, List.filterMap_cons, List.filterMap_nil, List.map_cons, List.map_nil, List.getElem?_cons_zero, List.getElem?_cons_succ, List.getElem?_nil, List.set_cons_zero, List.set_cons_succ, List.cons_append, List.nil_append, List.length_cons, List.length_nil, Option.bind_some, Option.bind_none, Option.map_some, Option.map_none, Nat.reduceSub, Nat.reduceAdd, List.replicate_succ, List.replicate_zero, Bool.not_true, Bool.not_false, if_true, if_false, Bool.false_eq_true, reduceIte, decide_true, decide_false, Nat.reduceLT, Nat.reduceLeDiff, reduceCtorEq, Option.some.injEq, Prod.mk.injEq, hi, isTup, hlen, neD_int, ix0, hp]
      | true =>
        rw [hpb] at hp
        obtain ⟨ls, hq, hz, hlb, hne⟩ := planeB_inv hpb
        have hE := itemsE_seq hq
        have hla := len_seq hq
        by_cases hl0 : ls = []
        · subst hl0
          have hla : lenD [a] = some (.fz (.int 0)) := hla
          have hf : formB (.tuple [a, b]) = false := by
            cases b with
            | int e => rw [formB_int, hE]; simp
            | _ => rfl
          rw [hf]
          simp only [m__law_due, g__law_due, g__law_due_s1, g__law_due_s2, g__law_due_s3, mb, mr, mo, nameM, conM, binM, unM, boolM, ifM, DL.andM, DL.orM, DL.notM, andV, orV, notV, chainM, nilA, consA, dvs, dv, ownAt, fzs, lstM, tupM, callM, callP, permL, fzv, seqS, skipS, ifS, setS, asg, freeAt, retS, retV, dropS, frz, frzS, asgS, nilG, consG, tupG, subG, listAt, methM, augS, augSubS, forS, seqM, treeV, startD, endV, bodyF, bodyI, startI, ioAt, slM, partM, bors, callL, callI, callO, DL.flatV, DL.flat, List.filterMap_cons, List.filterMap_nil, List.map_cons, List.map_nil, List.getElem?_cons_zero, List.getElem?_cons_succ, List.getElem?_nil, List.set_cons_zero, List.set_cons_succ, List.cons_append, List.nil_append, List.length_cons, List.length_nil, Option.bind_some, Option.bind_none, Option.map_some, Option.map_none, Nat.reduceSub, Nat.reduceAdd, List.replicate_succ, List.replicate_zero, Bool.not_true, Bool.not_false, if_true, if_false, Bool.false_eq_true, reduceIte, decide_true, decide_false, Nat.reduceLT, Nat.reduceLeDiff, reduceCtorEq, Option.some.injEq, Prod.mk.injEq, hi, isTup, hlen, neD_int, eqD_int, ix0, hp, hla]
        · have hn0 : decide ((ls.length : Int) = 0) = false := decide_eq_false (by
            cases ls with
            | nil => exact absurd rfl hl0
            | cons _ _ => simp; omega)
          have hEe : (itemsE a).isEmpty = false := by
            rw [hE]
            cases ls with
            | nil => exact absurd rfl hl0
            | cons _ _ => rfl
          by_cases hbi : ∃ e, b = .int e
          · obtain ⟨e, rfl⟩ := hbi
            have hi1 : isiD "int" (.int e) = some (.fz (.bool true)) := rfl
            have hi2 : isiD "bool" (.int e) = some (.fz (.bool false)) := rfl
            by_cases he : 0 ≤ e
            · by_cases h8 : e ≤ 8
              · obtain ⟨δ', hf1⟩ := due_f1 (e := e) hq hlb
                cases ho : overB ls e with
                | true =>
                  rw [ho] at hf1
                  have hf : formB (.tuple [a, .int e]) = false := by rw [formB_int, hE, ho]; simp
                  rw [hf]
                  simp only [m__law_due, g__law_due, g__law_due_s1, g__law_due_s2, g__law_due_s3, mb, mr, mo, nameM, conM, binM, unM, boolM, ifM, DL.andM, DL.orM, DL.notM, andV, orV, notV, chainM, nilA, consA, dvs, dv, ownAt, fzs, lstM, tupM, callM, callP, permL, fzv, seqS, skipS, ifS, setS, asg, freeAt, retS, retV, dropS, frz, frzS, asgS, nilG, consG, tupG, subG, listAt, methM, augS, augSubS, forS, seqM, treeV, startD, endV, bodyF, bodyI, startI, ioAt, slM, partM, bors, callL, callI, callO, DL.flatV, DL.flat, List.filterMap_cons, List.filterMap_nil, List.map_cons, List.map_nil, List.getElem?_cons_zero, List.getElem?_cons_succ, List.getElem?_nil, List.set_cons_zero, List.set_cons_succ, List.cons_append, List.nil_append, List.length_cons, List.length_nil, Option.bind_some, Option.bind_none, Option.map_some, Option.map_none, Nat.reduceSub, Nat.reduceAdd, List.replicate_succ, List.replicate_zero, Bool.not_true, Bool.not_false, if_true, if_false, Bool.false_eq_true, reduceIte, decide_true, decide_false, Nat.reduceLT, Nat.reduceLeDiff, reduceCtorEq, Option.some.injEq, Prod.mk.injEq, hi, isTup, hlen, neD_int, eqD_int, ix0, ix1, hp, hla, hn0, hi1, hi2, leI, intB, decide_eq_true he, decide_eq_true h8, hf1]
                | false =>
                  rw [ho] at hf1
                  have hf : formB (.tuple [a, .int e]) = true := by rw [formB_int, hEe, hE, ho, hpb]; simp [he, h8]
                  rw [hf]
                  simp only [m__law_due, g__law_due, g__law_due_s1, g__law_due_s2, g__law_due_s3, mb, mr, mo, nameM, conM, binM, unM, boolM, ifM, DL.andM, DL.orM, DL.notM, andV, orV, notV, chainM, nilA, consA, dvs, dv, ownAt, fzs, lstM, tupM, callM, callP, permL, fzv, seqS, skipS, ifS, setS, asg, freeAt, retS, retV, dropS, frz, frzS, asgS, nilG, consG, tupG, subG, listAt, methM, augS, augSubS, forS, seqM, treeV, startD, endV, bodyF, bodyI, startI, ioAt, slM, partM, bors, callL, callI, callO, DL.flatV, DL.flat, List.filterMap_cons, List.filterMap_nil, List.map_cons, List.map_nil, List.getElem?_cons_zero, List.getElem?_cons_succ, List.getElem?_nil, List.set_cons_zero, List.set_cons_succ, List.cons_append, List.nil_append, List.length_cons, List.length_nil, Option.bind_some, Option.bind_none, Option.map_some, Option.map_none, Nat.reduceSub, Nat.reduceAdd, List.replicate_succ, List.replicate_zero, Bool.not_true, Bool.not_false, if_true, if_false, Bool.false_eq_true, reduceIte, decide_true, decide_false, Nat.reduceLT, Nat.reduceLeDiff, reduceCtorEq, Option.some.injEq, Prod.mk.injEq, hi, isTup, hlen, neD_int, eqD_int, ix0, ix1, hp, hla, hn0, hi1, hi2, leI, intB, decide_eq_true he, decide_eq_true h8, hf1]
              · have hf : formB (.tuple [a, .int e]) = false := by rw [formB_int]; simp [h8]
                rw [hf]
                simp only [m__law_due, g__law_due, g__law_due_s1, g__law_due_s2, g__law_due_s3, mb, mr, mo, nameM, conM, binM, unM, boolM, ifM, DL.andM, DL.orM, DL.notM, andV, orV, notV, chainM, nilA, consA, dvs, dv, ownAt, fzs, lstM, tupM, callM, callP, permL, fzv, seqS, skipS, ifS, setS, asg, freeAt, retS, retV, dropS, frz, frzS, asgS, nilG, consG, tupG, subG, listAt, methM, augS, augSubS, forS, seqM, treeV, startD, endV, bodyF, bodyI, startI, ioAt, slM, partM, bors, callL, callI, callO, DL.flatV, DL.flat, List.filterMap_cons, List.filterMap_nil, List.map_cons, List.map_nil, List.getElem?_cons_zero, List.getElem?_cons_succ, List.getElem?_nil, List.set_cons_zero, List.set_cons_succ, List.cons_append, List.nil_append, List.length_cons, List.length_nil, Option.bind_some, Option.bind_none, Option.map_some, Option.map_none, Nat.reduceSub, Nat.reduceAdd, List.replicate_succ, List.replicate_zero, Bool.not_true, Bool.not_false, if_true, if_false, Bool.false_eq_true, reduceIte, decide_true, decide_false, Nat.reduceLT, Nat.reduceLeDiff, reduceCtorEq, Option.some.injEq, Prod.mk.injEq, hi, isTup, hlen, neD_int, eqD_int, ix0, ix1, hp, hla, hn0, hi1, hi2, leI, intB, decide_eq_true he, decide_eq_false h8]
            · have hf : formB (.tuple [a, .int e]) = false := by rw [formB_int]; simp [he]
              rw [hf]
              simp only [m__law_due, g__law_due, g__law_due_s1, g__law_due_s2, g__law_due_s3, mb, mr, mo, nameM, conM, binM, unM, boolM, ifM, DL.andM, DL.orM, DL.notM, andV, orV, notV, chainM, nilA, consA, dvs, dv, ownAt, fzs, lstM, tupM, callM, callP, permL, fzv, seqS, skipS, ifS, setS, asg, freeAt, retS, retV, dropS, frz, frzS, asgS, nilG, consG, tupG, subG, listAt, methM, augS, augSubS, forS, seqM, treeV, startD, endV, bodyF, bodyI, startI, ioAt, slM, partM, bors, callL, callI, callO, DL.flatV, DL.flat, List.filterMap_cons, List.filterMap_nil, List.map_cons, List.map_nil, List.getElem?_cons_zero, List.getElem?_cons_succ, List.getElem?_nil, List.set_cons_zero, List.set_cons_succ, List.cons_append, List.nil_append, List.length_cons, List.length_nil, Option.bind_some, Option.bind_none, Option.map_some, Option.map_none, Nat.reduceSub, Nat.reduceAdd, List.replicate_succ, List.replicate_zero, Bool.not_true, Bool.not_false, if_true, if_false, Bool.false_eq_true, reduceIte, decide_true, decide_false, Nat.reduceLT, Nat.reduceLeDiff, reduceCtorEq, Option.some.injEq, Prod.mk.injEq, hi, isTup, hlen, neD_int, eqD_int, ix0, ix1, hp, hla, hn0, hi1, hi2, leI, intB, decide_eq_false he]
          · have hf : formB (.tuple [a, b]) = false := by
              cases b with
              | int e => exact absurd ⟨e, rfl⟩ hbi
              | _ => rfl
            rw [hf]
            rcases isi_int_not hb (fun i hh => hbi ⟨i, hh⟩) with h1 | ⟨h1, h3⟩
            · simp only [m__law_due, g__law_due, g__law_due_s1, g__law_due_s2, g__law_due_s3, mb, mr, mo, nameM, conM, binM, unM, boolM, ifM, DL.andM, DL.orM, DL.notM, andV, orV, notV, chainM, nilA, consA, dvs, dv, ownAt, fzs, lstM, tupM, callM, callP, permL, fzv, seqS, skipS, ifS, setS, asg, freeAt, retS, retV, dropS, frz, frzS, asgS, nilG, consG, tupG, subG, listAt, methM, augS, augSubS, forS, seqM, treeV, startD, endV, bodyF, bodyI, startI, ioAt, slM, partM, bors, callL, callI, callO, DL.flatV, DL.flat, List.filterMap_cons, List.filterMap_nil, List.map_cons, List.map_nil, List.getElem?_cons_zero, List.getElem?_cons_succ, List.getElem?_nil, List.set_cons_zero, List.set_cons_succ, List.cons_append, List.nil_append, List.length_cons, List.length_nil, Option.bind_some, Option.bind_none, Option.map_some, Option.map_none, Nat.reduceSub, Nat.reduceAdd, List.replicate_succ, List.replicate_zero, Bool.not_true, Bool.not_false, if_true, if_false, Bool.false_eq_true, reduceIte, decide_true, decide_false, Nat.reduceLT, Nat.reduceLeDiff, reduceCtorEq, Option.some.injEq, Prod.mk.injEq, hi, isTup, hlen, neD_int, eqD_int, ix0, ix1, hp, hla, hn0, h1]
            · simp only [m__law_due, g__law_due, g__law_due_s1, g__law_due_s2, g__law_due_s3, mb, mr, mo, nameM, conM, binM, unM, boolM, ifM, DL.andM, DL.orM, DL.notM, andV, orV, notV, chainM, nilA, consA, dvs, dv, ownAt, fzs, lstM, tupM, callM, callP, permL, fzv, seqS, skipS, ifS, setS, asg, freeAt, retS, retV, dropS, frz, frzS, asgS, nilG, consG, tupG, subG, listAt, methM, augS, augSubS, forS, seqM, treeV, startD, endV, bodyF, bodyI, startI, ioAt, slM, partM, bors, callL, callI, callO, DL.flatV, DL.flat, List.filterMap_cons, List.filterMap_nil, List.map_cons, List.map_nil, List.getElem?_cons_zero, List.getElem?_cons_succ, List.getElem?_nil, List.set_cons_zero, List.set_cons_succ, List.cons_append, List.nil_append, List.length_cons, List.length_nil, Option.bind_some, Option.bind_none, Option.map_some, Option.map_none, Nat.reduceSub, Nat.reduceAdd, List.replicate_succ, List.replicate_zero, Bool.not_true, Bool.not_false, if_true, if_false, Bool.false_eq_true, reduceIte, decide_true, decide_false, Nat.reduceLT, Nat.reduceLeDiff, reduceCtorEq, Option.some.injEq, Prod.mk.injEq, hi, isTup, hlen, neD_int, eqD_int, ix0, ix1, hp, hla, hn0, h1, h3]
    · have hlen : lenD [.tuple l] = some (.fz (.int (l.length : Int))) := rfl
      have hd : decide ((l.length : Int) = 2) = false := decide_eq_false (by omega)
      have hf : formB (.tuple l) = false := by
        unfold formB
        split
        · rename_i q
          cases q
          exact absurd rfl h2
        · rfl
      rw [hf]
      simp only [m__law_due, g__law_due, g__law_due_s1, g__law_due_s2, g__law_due_s3, mb, mr, mo, nameM, conM, binM, unM, boolM, ifM, DL.andM, DL.orM, DL.notM, andV, orV, notV, chainM, nilA, consA, dvs, dv, ownAt, fzs, lstM, tupM, callM, callP, permL, fzv, seqS, skipS, ifS, setS, asg, freeAt, retS, retV, dropS, frz, frzS, asgS, nilG, consG, tupG, subG, listAt, methM, augS, augSubS, forS, seqM, treeV, startD, endV, bodyF, bodyI, startI, ioAt, slM, partM, bors, callL, callI, callO, DL.flatV, DL.flat, List.filterMap_cons, List.filterMap_nil, List.map_cons, List.map_nil, List.getElem?_cons_zero, List.getElem?_cons_succ, List.getElem?_nil, List.set_cons_zero, List.set_cons_succ, List.cons_append, List.nil_append, List.length_cons, List.length_nil, Option.bind_some, Option.bind_none, Option.map_some, Option.map_none, Nat.reduceSub, Nat.reduceAdd, List.replicate_succ, List.replicate_zero, Bool.not_true, Bool.not_false, if_true, if_false, Bool.false_eq_true, reduceIte, decide_true, decide_false, Nat.reduceLT, Nat.reduceLeDiff, reduceCtorEq, Option.some.injEq, Prod.mk.injEq, hi, isTup, hlen, neD_int, hd]
  · have ht : isTup v = false := by simpa using ht
    have hf : formB v = false := by
      unfold formB
      split
      · cases ht
      · rfl
    rw [ht] at hi
    rw [hf]
    simp only [m__law_due, g__law_due, g__law_due_s1, g__law_due_s2, g__law_due_s3, mb, mr, mo, nameM, conM, binM, unM, boolM, ifM, DL.andM, DL.orM, DL.notM, andV, orV, notV, chainM, nilA, consA, dvs, dv, ownAt, fzs, lstM, tupM, callM, callP, permL, fzv, seqS, skipS, ifS, setS, asg, freeAt, retS, retV, dropS, frz, frzS, asgS, nilG, consG, tupG, subG, listAt, methM, augS, augSubS, forS, seqM, treeV, startD, endV, bodyF, bodyI, startI, ioAt, slM, partM, bors, callL, callI, callO, DL.flatV, DL.flat, List.filterMap_cons, List.filterMap_nil, List.map_cons, List.map_nil, List.getElem?_cons_zero, List.getElem?_cons_succ, List.getElem?_nil, List.set_cons_zero, List.set_cons_succ, List.cons_append, List.nil_append, List.length_cons, List.length_nil, Option.bind_some, Option.bind_none, Option.map_some, Option.map_none, Nat.reduceSub, Nat.reduceAdd, List.replicate_succ, List.replicate_zero, Bool.not_true, Bool.not_false, if_true, if_false, Bool.false_eq_true, reduceIte, decide_true, decide_false, Nat.reduceLT, Nat.reduceLeDiff, reduceCtorEq, Option.some.injEq, Prod.mk.injEq, hi]
end K84
end
section
set_option maxRecDepth 100000
set_option maxHeartbeats 1000000
namespace K84
open PySem PySem.Spec L2 DL
theorem mulOk_small {i j : Int} (hi : i.natAbs < 2 ^ 64) (hj : j.natAbs < 2 ^ 64) : mulOk i j = true := by
  have key : ∀ n : Nat, n < 2 ^ 64 → n.log2 ≤ 64 := fun n h => by
    by_cases h0 : n = 0
    · subst h0; decide
    · have := (Nat.log2_lt h0).mpr h
      omega
  unfold mulOk
  have := key _ hi
  have := key _ hj
  exact decide_eq_true (by omega)
theorem ixL0 (a b : D) : ixD (.list [a, b]) (.int 0) = some (.fz a) := rfl
theorem ixL1 (a b : D) : ixD (.list [a, b]) (.int 1) = some (.fz b) := rfl
theorem ixN20 : ixN 2 0 = some 0 := rfl
theorem ixN21 : ixN 2 1 = some 1 := rfl
theorem szOk1 : szOk 1 = true := rfl
theorem szOk2 : szOk 2 = true := rfl
theorem modD_pos (i : Int) {j : Int} (h : 0 < j) : modD (.int i) (.int j) = some (.fz (.int (i % j))) := by
  unfold modD intB
  simp only [show decide (j ≠ 0) = true from decide_eq_true (by omega), if_true, Option.map_some, Int.fmod_eq_emod_of_nonneg _ (Int.le_of_lt h)]
theorem fdivD_17 (i : Int) : fdivD (.int i) (.int 17) = some (.fz (.int (i / 17))) := by
  unfold fdivD intB
  simp only [show (decide ((17 : Int) ≠ 0) && decide ((17 : Int).natAbs.log2 < 9000)) = true from by decide +kernel, if_true, Option.map_some, Int.fdiv_eq_ediv_of_nonneg _ (show (0 : Int) ≤ 17 from by decide)]
def Pot (d : D) : Prop := ∃ a b : Int, d = .list [.int a, .int b] ∧ 0 ≤ a ∧ 0 ≤ b ∧ b < 2 ^ 32
theorem draw_ok {d : D} {n : Int} (hd : Pot d) (h0 : 0 < n) (h1 : n < 1073741824) : ∃ r d', m__law_draw d [.int n] = some (.fz (.int r), d') ∧ Pot d' ∧ 0 ≤ r ∧ r < n := by
  obtain ⟨a, b, rfl, ha, hb, hb2⟩ := hd
  by_cases ha0 : 0 < a
  · refine ⟨a % n, .list [.int (a / n), .int b], ?_, ⟨_, _, rfl, Int.ediv_nonneg ha (by omega), hb, hb2⟩, Int.emod_nonneg _ (by omega), Int.emod_lt_of_pos _ h0⟩
    simp only [m__law_draw, g__law_draw, g__law_draw_s1, g__law_draw_s2, g__law_draw_s3, mb, mr, mo, nameM, conM, binM, unM, boolM, ifM, DL.andM, DL.orM, DL.notM, andV, orV, notV, chainM, nilA, consA, dvs, dv, ownAt, fzs, lstM, tupM, callM, callP, permL, fzv, seqS, skipS, ifS, setS, asg, freeAt, retS, retV, dropS, frz, frzS, asgS, nilG, consG, tupG, subG, listAt, methM, augS, augSubS, forS, seqM, treeV, startD, endV, bodyF, bodyI, startI, ioAt, slM, partM, bors, callL, callI, callO, DL.flatV, DL.flat, List.filterMap_cons, List.filterMap_nil, List.map_cons, List.map_nil, List.getElem?_cons_zero, List.getElem?_cons_succ, List.getElem?_nil, List.set_cons_zero, List.set_cons_succ, List.cons_append, List.nil_append, List.length_cons, List.length_nil, Option.bind_some, Option.bind_none, Option.map_some, Option.map_none, Nat.reduceSub, Nat.reduceAdd, List.replicate_succ, List.replicate_zero, Bool.not_true, Bool.not_false, if_true, if_false, Bool.false_eq_true, reduceIte, decide_true, decide_false, Nat.reduceLT, Nat.reduceLeDiff, reduceCtorEq, Option.some.injEq, Prod.mk.injEq, ixL0, ixL1, gtI, intB, decide_eq_true ha0, divmodD, decide_eq_true h0, decide_eq_true h1, itemsOf, ixN20, ixN21, Bool.and_self, Bool.and_true]
  · obtain ⟨b', hb', q0, q1⟩ : ∃ b' : Int, (b * 39373 + 3673) % 2147483587 = b' ∧ 0 ≤ b' ∧ b' < 2147483587 := ⟨_, rfl, Int.emod_nonneg _ (by omega), Int.emod_lt_of_pos _ (by omega)⟩
    refine ⟨(b' * b') % 2147483563 / 17 % n, .list [.int a, .int b'], ?_, ⟨_, _, rfl, ha, q0, by omega⟩, Int.emod_nonneg _ (by omega), Int.emod_lt_of_pos _ h0⟩
    have m1 : mulOk b 39373 = true := mulOk_small (by omega) (by decide)
    have m2 : mulOk b' b' = true := mulOk_small (by omega) (by omega)
    simp only [m__law_draw, g__law_draw, g__law_draw_s1, g__law_draw_s2, g__law_draw_s3, mb, mr, mo, nameM, conM, binM, unM, boolM, ifM, DL.andM, DL.orM, DL.notM, andV, orV, notV, chainM, nilA, consA, dvs, dv, ownAt, fzs, lstM, tupM, callM, callP, permL, fzv, seqS, skipS, ifS, setS, asg, freeAt, retS, retV, dropS, frz, frzS, asgS, nilG, consG, tupG, subG, listAt, methM, augS, augSubS, forS, seqM, treeV, startD, endV, bodyF, bodyI, startI, ioAt, slM, partM, bors, callL, callI, callO, DL.flatV, DL.flat, List.filterMap_cons, List.filterMap_nil, List.map_cons, List.map_nil, List.getElem?_cons_zero, List.getElem?_cons_succ, List.getElem?_nil, List.set_cons_zero, List.set_cons_succ, List.cons_append, List.nil_append, List.length_cons, List.length_nil, Option.bind_some, Option.bind_none, Option.map_some, Option.map_none, Nat.reduceSub, Nat.reduceAdd, List.replicate_succ, List.replicate_zero, Bool.not_true, Bool.not_false, if_true, if_false, Bool.false_eq_true, reduceIte, decide_true, decide_false, Nat.reduceLT, Nat.reduceLeDiff, reduceCtorEq, Option.some.injEq, Prod.mk.injEq, ixL0, ixL1, gtI, intB, decide_eq_false ha0, addD, mulD, fdivD_17, modD_pos _ h0, modD_pos _ (show (0 : Int) < 2147483587 from by decide), modD_pos _ (show (0 : Int) < 2147483563 from by decide), intD, m1, m2, hb', ixN20, ixN21, Bool.and_self, Bool.and_true, show decide ((0 : Int) < 2147483587) = true from rfl, show decide ((0 : Int) < 2147483563) = true from rfl]
theorem powE : powD (.int 10) (.int 18) = some (.fz (.int 1000000000000000000)) := rfl
theorem pot_ok (ns : List Int) : ∃ d, m__law_pot [scrD ns, .int 0] = some (.ow d) ∧ Pot d := by
  have key : ∀ c : Int, 0 ≤ c → ∃ d, g__law_pot_s3 [.dat (scrD ns), .dat (.int 0), .dat (.int c)] = some (.rt (.ow d), [.dat (scrD ns), .dat (.int 0), .dat (.int c)]) ∧ Pot d := by
    intro c hc
    obtain ⟨r, hr, r0, r1⟩ : ∃ r : Int, c % 2147483549 = r ∧ 0 ≤ r ∧ r < 2147483549 := ⟨_, rfl, Int.emod_nonneg _ (by omega), Int.emod_lt_of_pos _ (by omega)⟩
    obtain ⟨b, hb, b0, b1⟩ : ∃ b : Int, (r * 48271 + 3673 * 0 + 17) % 2147483563 = b ∧ 0 ≤ b ∧ b < 2147483563 := ⟨_, rfl, Int.emod_nonneg _ (by omega), Int.emod_lt_of_pos _ (by omega)⟩
    have m1 : mulOk r 48271 = true := mulOk_small (by omega) (by decide)
    have m2 : mulOk 3673 0 = true := rfl
    refine ⟨_, ?_, ⟨if c - 1000000000000000000 > 0 then c - 1000000000000000000 else 0, b + 1, rfl, ?_, by omega, by omega⟩⟩
    · simp only [g__law_pot_s3, mb, mr, mo, nameM, conM, binM, unM, boolM, ifM, DL.andM, DL.orM, DL.notM, andV, orV, notV, chainM, nilA, consA, dvs, dv, ownAt, fzs, lstM, tupM, callM, callP, permL, fzv, seqS, skipS, ifS, setS, asg, freeAt, retS, retV, dropS, frz, frzS, asgS, nilG, consG, tupG, subG, listAt, methM, augS, augSubS, forS, seqM, treeV, startD, endV, bodyF, bodyI, startI, ioAt, slM, partM, bors, callL, callI, callO, DL.flatV, DL.flat, List.filterMap_cons, List.filterMap_nil, List.map_cons, List.map_nil, List.getElem?_cons_zero, List.getElem?_cons_succ, List.getElem?_nil, List.set_cons_zero, List.set_cons_succ, List.cons_append, List.nil_append, List.length_cons, List.length_nil, Option.bind_some, Option.bind_none, Option.map_some, Option.map_none, Nat.reduceSub, Nat.reduceAdd, List.replicate_succ, List.replicate_zero, Bool.not_true, Bool.not_false, if_true, if_false, Bool.false_eq_true, reduceIte, decide_true, decide_false, Nat.reduceLT, Nat.reduceLeDiff, reduceCtorEq, Option.some.injEq, Prod.mk.injEq, max2D, subI, powE, intB, addD, mulD, modD_pos _ (show (0 : Int) < 2147483549 from by decide), modD_pos _ (show (0 : Int) < 2147483563 from by decide), intD, m1, m2, hr, hb, szOk2, show decide ((0 : Int) < 2147483549) = true from rfl, show decide ((0 : Int) < 2147483563) = true from rfl]
    · split <;> omega
  cases ns with
  | nil =>
    obtain ⟨d, h, hp⟩ := key 421 (by decide)
    refine ⟨d, ?_, hp⟩
    have hl : lenD [scrD []] = some (.fz (.int 0)) := rfl
    have m2 : mulOk 617 0 = true := rfl
    simp only [m__law_pot, g__law_pot, g__law_pot_s1, g__law_pot_s2, mb, mr, mo, nameM, conM, binM, unM, boolM, ifM, DL.andM, DL.orM, DL.notM, andV, orV, notV, chainM, nilA, consA, dvs, dv, ownAt, fzs, lstM, tupM, callM, callP, permL, fzv, seqS, skipS, ifS, setS, asg, freeAt, retS, retV, dropS, frz, frzS, asgS, nilG, consG, tupG, subG, listAt, methM, augS, augSubS, forS, seqM, treeV, startD, endV, bodyF, bodyI, startI, ioAt, slM, partM, bors, callL, callI, callO, DL.flatV, DL.flat, List.filterMap_cons, List.filterMap_nil, List.map_cons, List.map_nil, List.getElem?_cons_zero, List.getElem?_cons_succ, List.getElem?_nil, List.set_cons_zero, List.set_cons_succ, List.cons_append, List.nil_append, List.length_cons, List.length_nil, Option.bind_some, Option.bind_none, Option.map_some, Option.map_none, Nat.reduceSub, Nat.reduceAdd, List.replicate_succ, List.replicate_zero, Bool.not_true, Bool.not_false, if_true, if_false, Bool.false_eq_true, reduceIte, decide_true, decide_false, Nat.reduceLT, Nat.reduceLeDiff, reduceCtorEq, Option.some.injEq, Prod.mk.injEq, hl, ltI, intB, addD, mulD, m2, show decide ((0 : Int) < 0) = false from rfl, show (617 : Int) * 0 + 421 = 421 from rfl, h]
  | cons n r =>
    obtain ⟨d, h, hp⟩ := key (if n < 0 then -n else n) (by split <;> omega)
    refine ⟨d, ?_, hp⟩
    have hl : lenD [scrD (n :: r)] = some (.fz (.int ((n :: r).map PyData.int).length)) := rfl
    have hx : ixD (scrD (n :: r)) (.int 0) = some (.fz (.int n)) := by
      show (atI ((n :: r).map PyData.int) 0).bind _ = _
      have := atI_natI ((n :: r).map PyData.int) 0 (by simp)
      rw [show ((0 : Nat) : Int) = 0 from rfl] at this
      rw [this]; rfl
    have hd : decide ((0 : Int) < (((n :: r).map PyData.int).length : Int)) = true := decide_eq_true (by simp)
    have m2 : mulOk 617 0 = true := rfl
    simp only [List.map_cons, List.length_cons] at hl hd
    simp only [m__law_pot, g__law_pot, g__law_pot_s1, g__law_pot_s2, mb, mr, mo, nameM, conM, binM, unM, boolM, ifM, DL.andM, DL.orM, DL.notM, andV, orV, notV, chainM, nilA, consA, dvs, dv, ownAt, fzs, lstM, tupM, callM, callP, permL, fzv, seqS, skipS, ifS, setS, asg, freeAt, retS, retV, dropS, frz, frzS, asgS, nilG, consG, tupG, subG, listAt, methM, augS, augSubS, forS, seqM, treeV, startD, endV, bodyF, bodyI, startI, ioAt, slM, partM, bors, callL, callI, callO, DL.flatV, DL.flat, List.filterMap_cons, List.filterMap_nil, List.map_cons, List.map_nil, List.getElem?_cons_zero, List.getElem?_cons_succ, List.getElem?_nil, List.set_cons_zero, List.set_cons_succ, List.cons_append, List.nil_append, List.length_cons, List.length_nil, Option.bind_some, Option.bind_none, Option.map_some, Option.map_none, Nat.reduceSub, Nat.reduceAdd, List.replicate_succ, List.replicate_zero, Bool.not_true, Bool.not_false, if_true, if_false, Bool.false_eq_true, reduceIte, decide_true, decide_false, Nat.reduceLT, Nat.reduceLeDiff, reduceCtorEq, Option.some.injEq, Prod.mk.injEq, hl, hx, hd, absD, ltI, intB, addD, mulD, m2, h]
theorem told_ok (xs : List Int) (hz : xs.length ≤ 63) : ∃ ys : List Int, m__law_told [IL xs] = some (.ow (IL ys)) ∧ ys.length ≤ xs.length := by
  have hw : ∃ δ', g__law_told_w1 [.dat (IL xs), .own false (IL xs)] = some (.nx, δ') ∧ ∃ ys : List Int, δ' = [.dat (IL xs), .own false (IL ys)] ∧ ys.length ≤ xs.length := by
    refine whileN_inv (fun δ => ∃ ys : List Int, δ = [.dat (IL xs), .own false (IL ys)] ∧ ys.length ≤ xs.length) _ (fun δ => match δ with
      | [_, .own _ (.list l)] => l.length
      | _ => 0) ?_ fuel _ ⟨xs, rfl, Nat.le_refl _⟩ (by show (xs.map PyData.int).length < _; unfold fuel; simp; omega)
    rintro δ ⟨ys, rfl, hy⟩
    have hne := neD_nil (shaped_IL ys)
    rcases List.eq_nil_or_concat ys with rfl | ⟨zs, z, rfl⟩
    · refine .inl ⟨_, ?_, [], rfl, hy⟩
      have hne : neD (IL []) (.list []) = some (.fz (.bool false)) := hne
      simp only [g__law_told_t1, mb, mr, mo, nameM, conM, binM, unM, boolM, ifM, DL.andM, DL.orM, DL.notM, andV, orV, notV, chainM, nilA, consA, dvs, dv, ownAt, fzs, lstM, tupM, callM, callP, permL, fzv, seqS, skipS, ifS, setS, asg, freeAt, retS, retV, dropS, frz, frzS, asgS, nilG, consG, tupG, subG, listAt, methM, augS, augSubS, forS, seqM, treeV, startD, endV, bodyF, bodyI, startI, ioAt, slM, partM, bors, callL, callI, callO, DL.flatV, DL.flat, List.filterMap_cons, List.filterMap_nil, List.map_cons, List.map_nil, List.getElem?_cons_zero, List.getElem?_cons_succ, List.getElem?_nil, List.set_cons_zero, List.set_cons_succ, List.cons_append, List.nil_append, List.length_cons, List.length_nil, Option.bind_some, Option.bind_none, Option.map_some, Option.map_none, Nat.reduceSub, Nat.reduceAdd, List.replicate_succ, List.replicate_zero, Bool.not_true, Bool.not_false, if_true, if_false, Bool.false_eq_true, reduceIte, decide_true, decide_false, Nat.reduceLT, Nat.reduceLeDiff, reduceCtorEq, Option.some.injEq, Prod.mk.injEq, szOk0, hne]
    · rw [List.concat_eq_append] at *
      have hne : neD (IL (zs ++ [z])) (.list []) = some (.fz (.bool true)) := by rw [hne]; simp
      have hix : ixD (IL (zs ++ [z])) (.int (-1)) = some (.fz (.int z)) := ix_last (by rw [seq?, List.map_append]; rfl)
      by_cases hz0 : z = 0
      · subst hz0
        refine .inr ⟨[.dat (IL xs), .own false (IL (zs ++ [0]))], [.dat (IL xs), .own false (IL zs)], ?_, .inl ?_, ⟨zs, rfl, by simp at hy; omega⟩, ?_⟩
        · simp only [g__law_told_t1, mb, mr, mo, nameM, conM, binM, unM, boolM, ifM, DL.andM, DL.orM, DL.notM, andV, orV, notV, chainM, nilA, consA, dvs, dv, ownAt, fzs, lstM, tupM, callM, callP, permL, fzv, seqS, skipS, ifS, setS, asg, freeAt, retS, retV, dropS, frz, frzS, asgS, nilG, consG, tupG, subG, listAt, methM, augS, augSubS, forS, seqM, treeV, startD, endV, bodyF, bodyI, startI, ioAt, slM, partM, bors, callL, callI, callO, DL.flatV, DL.flat, List.filterMap_cons, List.filterMap_nil, List.map_cons, List.map_nil, List.getElem?_cons_zero, List.getElem?_cons_succ, List.getElem?_nil, List.set_cons_zero, List.set_cons_succ, List.cons_append, List.nil_append, List.length_cons, List.length_nil, Option.bind_some, Option.bind_none, Option.map_some, Option.map_none, Nat.reduceSub, Nat.reduceAdd, List.replicate_succ, List.replicate_zero, Bool.not_true, Bool.not_false, if_true, if_false, Bool.false_eq_true, reduceIte, decide_true, decide_false, Nat.reduceLT, Nat.reduceLeDiff, reduceCtorEq, Option.some.injEq, Prod.mk.injEq, szOk0, hne, negI, hix, eqD_int]
        · have hp : popL (List.map PyData.int (zs ++ [0])) [] = some (.int 0, zs.map .int) := by
            unfold popL
            simp
          simp only [g__law_told_b1, mb, mr, mo, nameM, conM, binM, unM, boolM, ifM, DL.andM, DL.orM, DL.notM, andV, orV, notV, chainM, nilA, consA, dvs, dv, ownAt, fzs, lstM, tupM, callM, callP, permL, fzv, seqS, skipS, ifS, setS, asg, freeAt, retS, retV, dropS, frz, frzS, asgS, nilG, consG, tupG, subG, listAt, methM, augS, augSubS, forS, seqM, treeV, startD, endV, bodyF, bodyI, startI, ioAt, slM, partM, bors, callL, callI, callO, DL.flatV, DL.flat, List.filterMap_cons, List.filterMap_nil, List.map_cons, List.map_nil, List.getElem?_cons_zero, List.getElem?_cons_succ, List.getElem?_nil, List.set_cons_zero, List.set_cons_succ, List.cons_append, List.nil_append, List.length_cons, List.length_nil, Option.bind_some, Option.bind_none, Option.map_some, Option.map_none, Nat.reduceSub, Nat.reduceAdd, List.replicate_succ, List.replicate_zero, Bool.not_true, Bool.not_false, if_true, if_false, Bool.false_eq_true, reduceIte, decide_true, decide_false, Nat.reduceLT, Nat.reduceLeDiff, reduceCtorEq, Option.some.injEq, Prod.mk.injEq, hp]
        · show (zs.map PyData.int).length < ((zs ++ [0]).map PyData.int).length
          simp
      · refine .inl ⟨_, ?_, zs ++ [z], rfl, hy⟩
        simp only [g__law_told_t1, mb, mr, mo, nameM, conM, binM, unM, boolM, ifM, DL.andM, DL.orM, DL.notM, andV, orV, notV, chainM, nilA, consA, dvs, dv, ownAt, fzs, lstM, tupM, callM, callP, permL, fzv, seqS, skipS, ifS, setS, asg, freeAt, retS, retV, dropS, frz, frzS, asgS, nilG, consG, tupG, subG, listAt, methM, augS, augSubS, forS, seqM, treeV, startD, endV, bodyF, bodyI, startI, ioAt, slM, partM, bors, callL, callI, callO, DL.flatV, DL.flat, List.filterMap_cons, List.filterMap_nil, List.map_cons, List.map_nil, List.getElem?_cons_zero, List.getElem?_cons_succ, List.getElem?_nil, List.set_cons_zero, List.set_cons_succ, List.cons_append, List.nil_append, List.length_cons, List.length_nil, Option.bind_some, Option.bind_none, Option.map_some, Option.map_none, Nat.reduceSub, Nat.reduceAdd, List.replicate_succ, List.replicate_zero, Bool.not_true, Bool.not_false, if_true, if_false, Bool.false_eq_true, reduceIte, decide_true, decide_false, Nat.reduceLT, Nat.reduceLeDiff, reduceCtorEq, Option.some.injEq, Prod.mk.injEq, szOk0, hne, negI, hix, eqD_int, decide_eq_false hz0]
  obtain ⟨δ', h1, ys, rfl, h2⟩ := hw
  refine ⟨ys, ?_, h2⟩
  have hl : listD [IL xs] = some (.ow (IL xs)) := rfl
  simp only [m__law_told, g__law_told, g__law_told_s1, g__law_told_s2, mb, mr, mo, nameM, conM, binM, unM, boolM, ifM, DL.andM, DL.orM, DL.notM, andV, orV, notV, chainM, nilA, consA, dvs, dv, ownAt, fzs, lstM, tupM, callM, callP, permL, fzv, seqS, skipS, ifS, setS, asg, freeAt, retS, retV, dropS, frz, frzS, asgS, nilG, consG, tupG, subG, listAt, methM, augS, augSubS, forS, seqM, treeV, startD, endV, bodyF, bodyI, startI, ioAt, slM, partM, bors, callL, callI, callO, DL.flatV, DL.flat, List.filterMap_cons, List.filterMap_nil, List.map_cons, List.map_nil, List.getElem?_cons_zero, List.getElem?_cons_succ, List.getElem?_nil, List.set_cons_zero, List.set_cons_succ, List.cons_append, List.nil_append, List.length_cons, List.length_nil, Option.bind_some, Option.bind_none, Option.map_some, Option.map_none, Nat.reduceSub, Nat.reduceAdd, List.replicate_succ, List.replicate_zero, Bool.not_true, Bool.not_false, if_true, if_false, Bool.false_eq_true, reduceIte, decide_true, decide_false, Nat.reduceLT, Nat.reduceLeDiff, reduceCtorEq, Option.some.injEq, Prod.mk.injEq, hl, h1]
end K84
end
section
set_option maxRecDepth 100000
set_option maxHeartbeats 1000000
namespace K84
open PySem PySem.Spec L2 DL
abbrev Rw (M : List (List Int)) : D := .list (M.map IL)
def plainS (s : Sl) : Prop := s = .un ∨ ∃ x, s = .dat x
theorem rOk_small {j : Int} (h : 0 ≤ j ∧ j < 1000) : rOk j = true := by
  unfold rOk
  simp only [Bool.and_eq_true, decide_eq_true_eq]
  omega
theorem szOkL {n : Nat} (h : n ≤ 16777216) : szOk n = true := decide_eq_true h
theorem forL_cnt {gt : Tg} {body : Ss} (N : Nat) (I : Nat → DS → Prop) : ∀ (ds : List D) (k : Nat) (δ : DS), (∀ k d δ, k < N → I k δ → ∃ δ1 δ2, gt (.fz d) δ = some δ1 ∧ body δ1 = some (.nx, δ2) ∧ I (k + 1) δ2) → k + ds.length ≤ N → I k δ → ∃ δ', forL gt body ds δ = some (.nx, δ') ∧ I (k + ds.length) δ'
  | [], k, δ, _, _, i => ⟨δ, rfl, i⟩
  | d :: r, k, δ, h, hn, i => by
    rw [List.length_cons] at hn
    obtain ⟨δ1, δ2, h1, h2, h3⟩ := h k d δ (by omega) i
    obtain ⟨δ', e1, e2⟩ := forL_cnt N I r (k + 1) δ2 h (by omega) h3
    refine ⟨δ', ?_, ?_⟩
    · simp only [forL, h1, Option.bind_some, h2, e1]
    · rw [List.length_cons, show k + (r.length + 1) = k + 1 + r.length by omega]
      exact e2
/-- the numbers of one line -/
theorem line_ok {d : D} (hd : Pot d) (M : List (List Int)) (t : D) : ∃ (xs : List Int) (d' : D), g__law_right_c1 [.own true d, .own false (Rw M), .dat t, .un, .un, .un, .un, .un, .un, .un, .un] = some (.ow (IL xs), [.own true d', .own false (Rw M), .dat t, .un, .un, .un, .un, .un, .un, .un, .un]) ∧ xs.length ≤ 5 ∧ Pot d' := by
  obtain ⟨r, d1, h1, p1, r0, r1⟩ := draw_ok hd (n := 5) (by decide) (by decide)
  have hC := compL_inv (gt := asg 3) (ft := mr true) (fe := binM subI (callI m__law_draw (consA (nameM 0) (consA (conM (.int 3)) nilA))) (conM (.int 1))) (vs := [3]) (fun δ => ∃ d, Pot d ∧ δ = [.own true d, .own false (Rw M), .dat t, .un, .un, .un, .un, .un, .un, .un, .un]) (fun e => ∃ i : Int, e = .int i) (by
    rintro x δ ⟨d, hd, rfl⟩
    obtain ⟨r, d', h, p, -, -⟩ := draw_ok hd (n := 3) (by decide) (by decide)
    refine ⟨[.own true d, .own false (Rw M), .dat t, .dat x, .un, .un, .un, .un, .un, .un, .un], [.own true d, .own false (Rw M), .dat t, .dat x, .un, .un, .un, .un, .un, .un, .un], .fz (.int (r - 1)), .int (r - 1), [.own true d', .own false (Rw M), .dat t, .dat x, .un, .un, .un, .un, .un, .un, .un], ?_, rfl, ?_, rfl, ⟨_, rfl⟩, d', p, rfl⟩
    · simp only [mb, mr, mo, nameM, conM, binM, unM, boolM, ifM, DL.andM, DL.orM, DL.notM, andV, orV, notV, chainM, nilA, consA, dvs, dv, ownAt, fzs, lstM, tupM, callM, callP, permL, fzv, seqS, skipS, ifS, setS, asg, freeAt, retS, retV, dropS, frz, frzS, asgS, nilG, consG, tupG, subG, listAt, methM, augS, augSubS, forS, seqM, treeV, startD, endV, bodyF, bodyI, startI, ioAt, slM, partM, bors, callL, callI, callO, DL.flatV, DL.flat, List.filterMap_cons, List.filterMap_nil, List.map_cons, List.map_nil, List.getElem?_cons_zero, List.getElem?_cons_succ, List.getElem?_nil, List.set_cons_zero, List.set_cons_succ, List.cons_append, List.nil_append, List.length_cons, List.length_nil, Option.bind_some, Option.bind_none, Option.map_some, Option.map_none, Nat.reduceSub, Nat.reduceAdd, List.replicate_succ, List.replicate_zero, Bool.not_true, Bool.not_false, if_true, if_false, Bool.false_eq_true, reduceIte, decide_true, decide_false, Nat.reduceLT, Nat.reduceLeDiff, reduceCtorEq, Option.some.injEq, Prod.mk.injEq]
    · simp only [mb, mr, mo, nameM, conM, binM, unM, boolM, ifM, DL.andM, DL.orM, DL.notM, andV, orV, notV, chainM, nilA, consA, dvs, dv, ownAt, fzs, lstM, tupM, callM, callP, permL, fzv, seqS, skipS, ifS, setS, asg, freeAt, retS, retV, dropS, frz, frzS, asgS, nilG, consG, tupG, subG, listAt, methM, augS, augSubS, forS, seqM, treeV, startD, endV, bodyF, bodyI, startI, ioAt, slM, partM, bors, callL, callI, callO, DL.flatV, DL.flat, List.filterMap_cons, List.filterMap_nil, List.map_cons, List.map_nil, List.getElem?_cons_zero, List.getElem?_cons_succ, List.getElem?_nil, List.set_cons_zero, List.set_cons_succ, List.cons_append, List.nil_append, List.length_cons, List.length_nil, Option.bind_some, Option.bind_none, Option.map_some, Option.map_none, Nat.reduceSub, Nat.reduceAdd, List.replicate_succ, List.replicate_zero, Bool.not_true, Bool.not_false, if_true, if_false, Bool.false_eq_true, reduceIte, decide_true, decide_false, Nat.reduceLT, Nat.reduceLeDiff, reduceCtorEq, Option.some.injEq, Prod.mk.injEq, h, subI, intB]) (rngD 0 r.toNat) [.own true d1, .own false (Rw M), .dat t, .un, .un, .un, .un, .un, .un, .un, .un] ⟨d1, p1, rfl⟩
  obtain ⟨es, δ', e1, e2, e3, d', p', rfl⟩ := hC
  have key : ∀ l : List D, (∀ e ∈ l, ∃ i : Int, e = .int i) → ∃ m : List Int, l = m.map .int := by
    intro l
    induction l with
    | nil => exact fun _ => ⟨[], rfl⟩
    | cons a r ih =>
      intro h
      obtain ⟨m, rfl⟩ := ih fun e he => h e (List.mem_cons_of_mem _ he)
      obtain ⟨i, rfl⟩ := h a List.mem_cons_self
      exact ⟨i :: m, rfl⟩
  obtain ⟨xs, rfl⟩ := key es e3
  have hlen : xs.length ≤ 5 := by
    unfold rngD at e2
    simp at e2
    omega
  refine ⟨xs, d', ?_, hlen, p'⟩
  have hi : rngM1 (consA (callI m__law_draw (consA (nameM 0) (consA (conM (.int 5)) nilA))) nilA) [.own true d, .own false (Rw M), .dat t, .un, .un, .un, .un, .un, .un, .un, .un] = some (rngD 0 r.toNat, [.own true d1, .own false (Rw M), .dat t, .un, .un, .un, .un, .un, .un, .un, .un]) := by
    simp only [mb, mr, mo, nameM, conM, binM, unM, boolM, ifM, DL.andM, DL.orM, DL.notM, andV, orV, notV, chainM, nilA, consA, dvs, dv, ownAt, fzs, lstM, tupM, callM, callP, permL, fzv, seqS, skipS, ifS, setS, asg, freeAt, retS, retV, dropS, frz, frzS, asgS, nilG, consG, tupG, subG, listAt, methM, augS, augSubS, forS, seqM, treeV, startD, endV, bodyF, bodyI, startI, ioAt, slM, partM, bors, callL, callI, callO, DL.flatV, DL.flat, List.filterMap_cons, List.filterMap_nil, List.map_cons, List.map_nil, List.getElem?_cons_zero, List.getElem?_cons_succ, List.getElem?_nil, List.set_cons_zero, List.set_cons_succ, List.cons_append, List.nil_append, List.length_cons, List.length_nil, Option.bind_some, Option.bind_none, Option.map_some, Option.map_none, Nat.reduceSub, Nat.reduceAdd, List.replicate_succ, List.replicate_zero, Bool.not_true, Bool.not_false, if_true, if_false, Bool.false_eq_true, reduceIte, decide_true, decide_false, Nat.reduceLT, Nat.reduceLeDiff, reduceCtorEq, Option.some.injEq, Prod.mk.injEq, h1, rngM1, rOk_small (show 0 ≤ r ∧ r < 1000 by omega)]
  unfold g__law_right_c1 compM
  rw [hi]
  show (if _ then _ else _) = _
  rw [if_pos (by rfl)]
  show (compL _ _ _ _ _ [.own true d1, .own false (Rw M), .dat t, .un, .un, .un, .un, .un, .un, .un, .un]).bind _ = _
  rw [e1]
  show (if _ then _ else _) = _
  rw [if_pos (szOkL (by simp; omega))]
  rfl
theorem turn_ok {d : D} (hd : Pot d) {M : List (List Int)} (hM : M.length ≤ 50) (t : D) : ∃ (xs : List Int) (d' : D), g__law_right_b1 [.own true d, .own false (Rw M), .dat t, .un, .un, .un, .un, .un, .un, .un, .un] = some (.nx, [.own true d', .own false (Rw (M ++ [xs])), .dat t, .un, .un, .un, .un, .un, .un, .un, .un]) ∧ xs.length ≤ 5 ∧ Pot d' := by
  obtain ⟨xs, d', h, hx, p⟩ := line_ok hd M t
  obtain ⟨ys, h2, hy⟩ := told_ok xs (by omega)
  refine ⟨ys, d', ?_, by omega, p⟩
  have ha : appendL (M.map IL) [IL ys] = some (.none, (M ++ [ys]).map IL) := by
    unfold appendL
    show (if _ then _ else _) = _
    rw [if_pos (szOkL (by simp; omega))]
    simp
  unfold g__law_right_b1
  simp only [mb, mr, mo, nameM, conM, binM, unM, boolM, ifM, DL.andM, DL.orM, DL.notM, andV, orV, notV, chainM, nilA, consA, dvs, dv, ownAt, fzs, lstM, tupM, callM, callP, permL, fzv, seqS, skipS, ifS, setS, asg, freeAt, retS, retV, dropS, frz, frzS, asgS, nilG, consG, tupG, subG, listAt, methM, augS, augSubS, forS, seqM, treeV, startD, endV, bodyF, bodyI, startI, ioAt, slM, partM, bors, callL, callI, callO, DL.flatV, DL.flat, List.filterMap_cons, List.filterMap_nil, List.map_cons, List.map_nil, List.getElem?_cons_zero, List.getElem?_cons_succ, List.getElem?_nil, List.set_cons_zero, List.set_cons_succ, List.cons_append, List.nil_append, List.length_cons, List.length_nil, Option.bind_some, Option.bind_none, Option.map_some, Option.map_none, Nat.reduceSub, Nat.reduceAdd, List.replicate_succ, List.replicate_zero, Bool.not_true, Bool.not_false, if_true, if_false, Bool.false_eq_true, reduceIte, decide_true, decide_false, Nat.reduceLT, Nat.reduceLeDiff, reduceCtorEq, Option.some.injEq, Prod.mk.injEq, h, h2, ha]
theorem f1_ok {d : D} (hd : Pot d) : ∃ (M : List (List Int)) (d' : D) (s : Sl), g__law_right_f1 [.own true d, .own false (Rw []), .un, .un, .un, .un, .un, .un, .un, .un, .un] = some (.nx, [.own true d', .own false (Rw M), s, .un, .un, .un, .un, .un, .un, .un, .un]) ∧ M.length ≤ 5 ∧ (∀ m ∈ M, m.length ≤ 5) ∧ plainS s ∧ Pot d' := by
  obtain ⟨r, d1, h1, p1, r0, r1⟩ := draw_ok hd (n := 4) (by decide) (by decide)
  have hi : rngM1 (consA (binM addD (conM (.int 1)) (callI m__law_draw (consA (nameM 0) (consA (conM (.int 4)) nilA)))) nilA) [.own true d, .own false (Rw []), .un, .un, .un, .un, .un, .un, .un, .un, .un] = some (rngD 0 (1 + r).toNat, [.own true d1, .own false (Rw []), .un, .un, .un, .un, .un, .un, .un, .un, .un]) := by
    simp only [mb, mr, mo, nameM, conM, binM, unM, boolM, ifM, DL.andM, DL.orM, DL.notM, andV, orV, notV, chainM, nilA, consA, dvs, dv, ownAt, fzs, lstM, tupM, callM, callP, permL, fzv, seqS, skipS, ifS, setS, asg, freeAt, retS, retV, dropS, frz, frzS, asgS, nilG, consG, tupG, subG, listAt, methM, augS, augSubS, forS, seqM, treeV, startD, endV, bodyF, bodyI, startI, ioAt, slM, partM, bors, callL, callI, callO, DL.flatV, DL.flat, List.filterMap_cons, List.filterMap_nil, List.map_cons, List.map_nil, List.getElem?_cons_zero, List.getElem?_cons_succ, List.getElem?_nil, List.set_cons_zero, List.set_cons_succ, List.cons_append, List.nil_append, List.length_cons, List.length_nil, Option.bind_some, Option.bind_none, Option.map_some, Option.map_none, Nat.reduceSub, Nat.reduceAdd, List.replicate_succ, List.replicate_zero, Bool.not_true, Bool.not_false, if_true, if_false, Bool.false_eq_true, reduceIte, decide_true, decide_false, Nat.reduceLT, Nat.reduceLeDiff, reduceCtorEq, Option.some.injEq, Prod.mk.injEq, h1, addD, rngM1, rOk_small (show 0 ≤ 1 + r ∧ 1 + r < 1000 by omega)]
  obtain ⟨δ', hf, M, d', s, rfl, q1, q2, q3, q4⟩ := forL_cnt (gt := asg 2) (body := g__law_right_b1) 5 (fun k δ => ∃ (M : List (List Int)) (d : D) (s : Sl), δ = [.own true d, .own false (Rw M), s, .un, .un, .un, .un, .un, .un, .un, .un] ∧ M.length = k ∧ (∀ m ∈ M, m.length ≤ 5) ∧ plainS s ∧ Pot d) (rngD 0 (1 + r).toNat) 0 [.own true d1, .own false (Rw []), .un, .un, .un, .un, .un, .un, .un, .un, .un] (by
    rintro k x δ hk ⟨M, d, s, rfl, q1, q2, q3, q4⟩
    obtain ⟨xs, d', h, hx, p⟩ := turn_ok q4 (M := M) (by omega) x
    refine ⟨_, _, ?_, h, M ++ [xs], d', .dat x, rfl, by simp [q1], ?_, .inr ⟨x, rfl⟩, p⟩
    · rcases q3 with rfl | ⟨y, rfl⟩ <;> simp only [mb, mr, mo, nameM, conM, binM, unM, boolM, ifM, DL.andM, DL.orM, DL.notM, andV, orV, notV, chainM, nilA, consA, dvs, dv, ownAt, fzs, lstM, tupM, callM, callP, permL, fzv, seqS, skipS, ifS, setS, asg, freeAt, retS, retV, dropS, frz, frzS, asgS, nilG, consG, tupG, subG, listAt, methM, augS, augSubS, forS, seqM, treeV, startD, endV, bodyF, bodyI, startI, ioAt, slM, partM, bors, callL, callI, callO, DL.flatV, DL.flat, List.filterMap_cons, List.filterMap_nil, List.map_cons, List.map_nil, List.getElem?_cons_zero, List.getElem?_cons_succ, List.getElem?_nil, List.set_cons_zero, List.set_cons_succ, List.cons_append, List.nil_append, List.length_cons, List.length_nil, Option.bind_some, Option.bind_none, Option.map_some, Option.map_none, Nat.reduceSub, Nat.reduceAdd, List.replicate_succ, List.replicate_zero, Bool.not_true, Bool.not_false, if_true, if_false, Bool.false_eq_true, reduceIte, decide_true, decide_false, Nat.reduceLT, Nat.reduceLeDiff, reduceCtorEq, Option.some.injEq, Prod.mk.injEq]
    · intro m hm
      rcases List.mem_append.mp hm with hm | hm
      · exact q2 m hm
      · rw [List.mem_singleton.mp hm]; exact hx) (by unfold rngD; simp; omega) ⟨[], d1, .un, rfl, rfl, (by intro m hm; cases hm), .inl rfl, p1⟩
  refine ⟨M, d', s, ?_, ?_, q2, q3, q4⟩
  · unfold g__law_right_f1 forS
    rw [hi]
    exact hf
  · rw [q1]; unfold rngD; simp; omega
theorem s2_ok {d : D} (hd : Pot d) {M : List (List Int)} (hM : M.length ≤ 50) (s : Sl) : ∃ (xs : List Int) (d' : D), g__law_right_s2 [.own true d, .own false (Rw M), s, .un, .un, .un, .un, .un, .un, .un, .un] = some (.nx, [.own true d', .own false (Rw (M ++ [xs])), s, .un, .un, .un, .un, .un, .un, .un, .un]) ∧ xs.length ≤ 5 ∧ Pot d' := by
  obtain ⟨r, d1, h1, p1, r0, r1⟩ := draw_ok hd (n := 2) (by decide) (by decide)
  have ha : ∀ ys : List Int, appendL (M.map IL) [IL ys] = some (.none, (M ++ [ys]).map IL) := by
    intro ys
    unfold appendL
    show (if _ then _ else _) = _
    rw [if_pos (szOkL (by simp; omega))]
    simp
  by_cases hr : r = 0
  · obtain ⟨r', d2, h2, p2, -, -⟩ := draw_ok p1 (n := 9) (by decide) (by decide)
    refine ⟨[r' + 1], d2, ?_, by simp, p2⟩
    have ha : appendL (M.map IL) [.list [.int (r' + 1)]] = some (.none, (M ++ [[r' + 1]]).map IL) := ha [r' + 1]
    simp only [g__law_right_s2, mb, mr, mo, nameM, conM, binM, unM, boolM, ifM, DL.andM, DL.orM, DL.notM, andV, orV, notV, chainM, nilA, consA, dvs, dv, ownAt, fzs, lstM, tupM, callM, callP, permL, fzv, seqS, skipS, ifS, setS, asg, freeAt, retS, retV, dropS, frz, frzS, asgS, nilG, consG, tupG, subG, listAt, methM, augS, augSubS, forS, seqM, treeV, startD, endV, bodyF, bodyI, startI, ioAt, slM, partM, bors, callL, callI, callO, DL.flatV, DL.flat, List.filterMap_cons, List.filterMap_nil, List.map_cons, List.map_nil, List.getElem?_cons_zero, List.getElem?_cons_succ, List.getElem?_nil, List.set_cons_zero, List.set_cons_succ, List.cons_append, List.nil_append, List.length_cons, List.length_nil, Option.bind_some, Option.bind_none, Option.map_some, Option.map_none, Nat.reduceSub, Nat.reduceAdd, List.replicate_succ, List.replicate_zero, Bool.not_true, Bool.not_false, if_true, if_false, Bool.false_eq_true, reduceIte, decide_true, decide_false, Nat.reduceLT, Nat.reduceLeDiff, reduceCtorEq, Option.some.injEq, Prod.mk.injEq, h1, eqD_int, hr, h2, addD, szOk1, ha]
  · obtain ⟨r', d2, h2, p2, c0, c1⟩ := draw_ok p1 (n := 4) (by decide) (by decide)
    have go : ∀ xs : List Int, mulD (.list [.int 0]) (.int r') = some (.ow (IL xs)) → addD (IL xs) (IL [2]) = some (.ow (IL (xs ++ [2]))) → g__law_right_s2 [.own true d, .own false (Rw M), s, .un, .un, .un, .un, .un, .un, .un, .un] = some (.nx, [.own true d2, .own false (Rw (M ++ [xs ++ [2]])), s, .un, .un, .un, .un, .un, .un, .un, .un]) := by
      intro xs hm hs
      have ha := ha (xs ++ [2])
      have hs : addD (IL xs) (.list [.int 2]) = some (.ow (IL (xs ++ [2]))) := hs
      simp only [g__law_right_s2, mb, mr, mo, nameM, conM, binM, unM, boolM, ifM, DL.andM, DL.orM, DL.notM, andV, orV, notV, chainM, nilA, consA, dvs, dv, ownAt, fzs, lstM, tupM, callM, callP, permL, fzv, seqS, skipS, ifS, setS, asg, freeAt, retS, retV, dropS, frz, frzS, asgS, nilG, consG, tupG, subG, listAt, methM, augS, augSubS, forS, seqM, treeV, startD, endV, bodyF, bodyI, startI, ioAt, slM, partM, bors, callL, callI, callO, DL.flatV, DL.flat, List.filterMap_cons, List.filterMap_nil, List.map_cons, List.map_nil, List.getElem?_cons_zero, List.getElem?_cons_succ, List.getElem?_nil, List.set_cons_zero, List.set_cons_succ, List.cons_append, List.nil_append, List.length_cons, List.length_nil, Option.bind_some, Option.bind_none, Option.map_some, Option.map_none, Nat.reduceSub, Nat.reduceAdd, List.replicate_succ, List.replicate_zero, Bool.not_true, Bool.not_false, if_true, if_false, Bool.false_eq_true, reduceIte, decide_true, decide_false, Nat.reduceLT, Nat.reduceLeDiff, reduceCtorEq, Option.some.injEq, Prod.mk.injEq, h1, eqD_int, decide_eq_false hr, h2, hm, szOk1, hs, ha]
    have : r' = 0 ∨ r' = 1 ∨ r' = 2 ∨ r' = 3 := by omega
    rcases this with rfl | rfl | rfl | rfl
    · exact ⟨_, d2, go [] rfl rfl, by simp, p2⟩
    · exact ⟨_, d2, go [0] rfl rfl, by simp, p2⟩
    · exact ⟨_, d2, go [0, 0] rfl rfl, by simp, p2⟩
    · exact ⟨_, d2, go [0, 0, 0] rfl rfl, by simp, p2⟩
def mostG (t : D) : Option D := match t with
  | .tuple [.int i, .list l] => some (.int (i + (l.length : Int) - 1))
  | _ => none
theorem mostG_enum (M : List (List Int)) : (enumD (M.map IL)).filterMap mostG = (M.zipIdx.map fun p => (p.2 : Int) + (p.1.length : Int) - 1).map .int := by
  unfold enumD
  rw [List.zipIdx_map, List.map_map, List.filterMap_map, List.map_map, ← List.filterMap_eq_map']
  congr 1
  funext p
  show some (PyData.int ((p.2 : Int) + ((p.1.map PyData.int).length : Int) - 1)) = _
  rw [List.length_map]
  rfl
theorem s3_ok {M : List (List Int)} (hM : M.length ≤ 50) (hne : M ≠ []) (h5 : ∀ m ∈ M, m.length ≤ 5) (d : D) (s : Sl) : ∃ e : Int, e.natAbs ≤ 100 ∧ g__law_right_s3 [.own true d, .own false (Rw M), s, .un, .un, .un, .un, .un, .un, .un, .un] = some (.nx, [.own true d, .dat (Rw M), s, .un, .dat (.int e), .un, .un, .un, .un, .un, .un]) := by
  have hc : g__law_right_c2 [.own true d, .dat (Rw M), s, .un, .un, .un, .un, .un, .un, .un, .un] = some (.ow (IL (M.zipIdx.map fun p => (p.2 : Int) + (p.1.length : Int) - 1)), [.own true d, .dat (Rw M), s, .un, .un, .un, .un, .un, .un, .un, .un]) := by
    unfold g__law_right_c2
    have e := compM_gen (fi := enumA (consA (nameM 1) nilA)) (gt := tupG 2 (consG (asg 5) (consG (asg 6) nilG))) (ft := mr true) (fe := binM subI (binM addD (nameM 5) (callM lenD (consA (nameM 6) nilA))) (conM (.int 1))) (vs := [5, 6]) (δ := [.own true d, .dat (Rw M), s, .un, .un, .un, .un, .un, .un, .un, .un]) (ds := enumD (M.map IL)) mostG ?_ ?_ ?_ ?_ ?_
    · rw [e, mostG_enum]
    · simp only [mb, mr, mo, nameM, conM, binM, unM, boolM, ifM, DL.andM, DL.orM, DL.notM, andV, orV, notV, chainM, nilA, consA, dvs, dv, ownAt, fzs, lstM, tupM, callM, callP, permL, fzv, seqS, skipS, ifS, setS, asg, freeAt, retS, retV, dropS, frz, frzS, asgS, nilG, consG, tupG, subG, listAt, methM, augS, augSubS, forS, seqM, treeV, startD, endV, bodyF, bodyI, startI, ioAt, slM, partM, bors, callL, callI, callO, DL.flatV, DL.flat, List.filterMap_cons, List.filterMap_nil, List.map_cons, List.map_nil, List.getElem?_cons_zero, List.getElem?_cons_succ, List.getElem?_nil, List.set_cons_zero, List.set_cons_succ, List.cons_append, List.nil_append, List.length_cons, List.length_nil, Option.bind_some, Option.bind_none, Option.map_some, Option.map_none, Nat.reduceSub, Nat.reduceAdd, List.replicate_succ, List.replicate_zero, Bool.not_true, Bool.not_false, if_true, if_false, Bool.false_eq_true, reduceIte, decide_true, decide_false, Nat.reduceLT, Nat.reduceLeDiff, reduceCtorEq, Option.some.injEq, Prod.mk.injEq, enumA]
    · rfl
    · rfl
    · rw [mostG_enum]
      exact szOkL (by simp; omega)
    · intro t ht
      obtain ⟨p, hp, rfl⟩ := List.mem_map.mp ht
      rw [List.zipIdx_map] at hp
      obtain ⟨q, hq, rfl⟩ := List.mem_map.mp hp
      refine ⟨[.own true d, .dat (Rw M), s, .un, .un, .dat (.int (q.2 : Nat)), .dat (IL q.1), .un, .un, .un, .un], ?_, .inr ⟨.int ((q.2 : Int) + ((q.1.map PyData.int).length : Int) - 1), .fz (.int ((q.2 : Int) + ((q.1.map PyData.int).length : Int) - 1)), rfl, rfl, ?_, rfl⟩, ?_⟩
      · simp only [wipeD, Prod.map, id, itemsOf, mb, mr, mo, nameM, conM, binM, unM, boolM, ifM, DL.andM, DL.orM, DL.notM, andV, orV, notV, chainM, nilA, consA, dvs, dv, ownAt, fzs, lstM, tupM, callM, callP, permL, fzv, seqS, skipS, ifS, setS, asg, freeAt, retS, retV, dropS, frz, frzS, asgS, nilG, consG, tupG, subG, listAt, methM, augS, augSubS, forS, seqM, treeV, startD, endV, bodyF, bodyI, startI, ioAt, slM, partM, bors, callL, callI, callO, DL.flatV, DL.flat, List.filterMap_cons, List.filterMap_nil, List.map_cons, List.map_nil, List.getElem?_cons_zero, List.getElem?_cons_succ, List.getElem?_nil, List.set_cons_zero, List.set_cons_succ, List.cons_append, List.nil_append, List.length_cons, List.length_nil, Option.bind_some, Option.bind_none, Option.map_some, Option.map_none, Nat.reduceSub, Nat.reduceAdd, List.replicate_succ, List.replicate_zero, Bool.not_true, Bool.not_false, if_true, if_false, Bool.false_eq_true, reduceIte, decide_true, decide_false, Nat.reduceLT, Nat.reduceLeDiff, reduceCtorEq, Option.some.injEq, Prod.mk.injEq]
      · simp only [mb, mr, mo, nameM, conM, binM, unM, boolM, ifM, DL.andM, DL.orM, DL.notM, andV, orV, notV, chainM, nilA, consA, dvs, dv, ownAt, fzs, lstM, tupM, callM, callP, permL, fzv, seqS, skipS, ifS, setS, asg, freeAt, retS, retV, dropS, frz, frzS, asgS, nilG, consG, tupG, subG, listAt, methM, augS, augSubS, forS, seqM, treeV, startD, endV, bodyF, bodyI, startI, ioAt, slM, partM, bors, callL, callI, callO, DL.flatV, DL.flat, List.filterMap_cons, List.filterMap_nil, List.map_cons, List.map_nil, List.getElem?_cons_zero, List.getElem?_cons_succ, List.getElem?_nil, List.set_cons_zero, List.set_cons_succ, List.cons_append, List.nil_append, List.length_cons, List.length_nil, Option.bind_some, Option.bind_none, Option.map_some, Option.map_none, Nat.reduceSub, Nat.reduceAdd, List.replicate_succ, List.replicate_zero, Bool.not_true, Bool.not_false, if_true, if_false, Bool.false_eq_true, reduceIte, decide_true, decide_false, Nat.reduceLT, Nat.reduceLeDiff, reduceCtorEq, Option.some.injEq, Prod.mk.injEq, lenD, addD, subI, intB]
      · simp only [wipeD, mb, mr, mo, nameM, conM, binM, unM, boolM, ifM, DL.andM, DL.orM, DL.notM, andV, orV, notV, chainM, nilA, consA, dvs, dv, ownAt, fzs, lstM, tupM, callM, callP, permL, fzv, seqS, skipS, ifS, setS, asg, freeAt, retS, retV, dropS, frz, frzS, asgS, nilG, consG, tupG, subG, listAt, methM, augS, augSubS, forS, seqM, treeV, startD, endV, bodyF, bodyI, startI, ioAt, slM, partM, bors, callL, callI, callO, DL.flatV, DL.flat, List.filterMap_cons, List.filterMap_nil, List.map_cons, List.map_nil, List.getElem?_cons_zero, List.getElem?_cons_succ, List.getElem?_nil, List.set_cons_zero, List.set_cons_succ, List.cons_append, List.nil_append, List.length_cons, List.length_nil, Option.bind_some, Option.bind_none, Option.map_some, Option.map_none, Nat.reduceSub, Nat.reduceAdd, List.replicate_succ, List.replicate_zero, Bool.not_true, Bool.not_false, if_true, if_false, Bool.false_eq_true, reduceIte, decide_true, decide_false, Nat.reduceLT, Nat.reduceLeDiff, reduceCtorEq, Option.some.injEq, Prod.mk.injEq]
  have hne2 : (M.zipIdx.map fun p => (p.2 : Int) + (p.1.length : Int) - 1) ≠ [] := by
    intro h
    have := congrArg List.length h
    simp at this
    exact hne this
  obtain ⟨e, he⟩ := maxOf_some hne2
  refine ⟨e, ?_, ?_⟩
  · obtain ⟨q, hq, rfl⟩ := List.mem_map.mp (maxOf_spec he).1
    have h1 := (List.mem_zipIdx hq).2.1
    have h2 : q.1 ∈ M := by
      have := List.mem_zipIdx hq
      simp only [Nat.sub_zero] at this
      rw [this.2.2]
      exact List.getElem_mem _
    have := h5 _ h2
    simp at h1
    omega
  · simp only [g__law_right_s3, mb, mr, mo, nameM, conM, binM, unM, boolM, ifM, DL.andM, DL.orM, DL.notM, andV, orV, notV, chainM, nilA, consA, dvs, dv, ownAt, fzs, lstM, tupM, callM, callP, permL, fzv, seqS, skipS, ifS, setS, asg, freeAt, retS, retV, dropS, frz, frzS, asgS, nilG, consG, tupG, subG, listAt, methM, augS, augSubS, forS, seqM, treeV, startD, endV, bodyF, bodyI, startI, ioAt, slM, partM, bors, callL, callI, callO, DL.flatV, DL.flat, List.filterMap_cons, List.filterMap_nil, List.map_cons, List.map_nil, List.getElem?_cons_zero, List.getElem?_cons_succ, List.getElem?_nil, List.set_cons_zero, List.set_cons_succ, List.cons_append, List.nil_append, List.length_cons, List.length_nil, Option.bind_some, Option.bind_none, Option.map_some, Option.map_none, Nat.reduceSub, Nat.reduceAdd, List.replicate_succ, List.replicate_zero, Bool.not_true, Bool.not_false, if_true, if_false, Bool.false_eq_true, reduceIte, decide_true, decide_false, Nat.reduceLT, Nat.reduceLeDiff, reduceCtorEq, Option.some.injEq, Prod.mk.injEq, hc, maxLD, intsOf_im, he]
end K84
end
section
set_option maxRecDepth 100000
set_option maxHeartbeats 1000000
namespace K84
open PySem PySem.Spec L2 DL
/-! ### the values -/
theorem ty0_int (i : Int) : ty0 (.int i) := ⟨_, rfl⟩
theorem ty0_list (l : List D) : ty0 (.list l) := ⟨_, rfl⟩
theorem ty0_tuple (l : List D) : ty0 (.tuple l) := ⟨_, rfl⟩
theorem ty0_str (x : Str) : ty0 (.str x) := ⟨_, rfl⟩
theorem ty1_flat {d : D} (h : ty0 d) (e : itemsE d = []) : ty1 d := ⟨h, by rw [e]; intro x hx; cases hx⟩
theorem ty2_flat {d : D} (h : ty0 d) (e : itemsE d = []) : ty2 d := ⟨h, by rw [e]; intro x hx; cases hx⟩
theorem ty1_IL (m : List Int) : ty1 (IL m) := ⟨ty0_list _, fun x hx => by
  obtain ⟨i, -, rfl⟩ := List.mem_map.mp hx
  exact ty0_int i⟩
theorem ty2_rows (M : List (List Int)) : ty2 (Rw M) := ⟨ty0_list _, fun x hx => by
  obtain ⟨m, -, rfl⟩ := List.mem_map.mp hx
  exact ty1_IL m⟩
theorem ty2_rowsT (M : List (List Int)) : ty2 (.tuple (M.map IL)) := ⟨ty0_tuple _, fun x hx => by
  obtain ⟨m, -, rfl⟩ := List.mem_map.mp hx
  exact ty1_IL m⟩
theorem nice_pair {a b : D} (ha : ty2 a) (hb : ty0 b) : nice (.tuple [a, b]) := ⟨ty0_tuple _, fun l h => by
  cases h
  exact ⟨by simp, fun x y e => by cases e; exact ⟨ha, hb⟩⟩⟩
theorem nice_not {d : D} (h : ty0 d) (n : isTup d = false) : nice d := ⟨h, fun l e => by subst e; cases n⟩
theorem nice_len {l : List D} (h : l.length ≤ 100) (n : l.length ≠ 2) : nice (.tuple l) := ⟨ty0_tuple _, fun l' e => by
  cases e
  exact ⟨h, fun x y e => by subst e; exact absurd rfl n⟩⟩
theorem ty2_one (m : List Int) : ty2 (.list [IL m]) := ty2_rows [m]
theorem repr_bb (b : Bool) : ∃ s, reprD [.list [.bool b, .bool b]] = some (.fz (.str s)) ∧ SeqAt.shaped (.str s) = true := by
  refine ⟨PyData.shown (.list [.bool b, .bool b]), ?_, ?_⟩
  · unfold reprD
    exact if_pos (by cases b <;> decide +kernel)
  · cases b <;> decide +kernel
/-- what the law asks of one value -/
theorem ask_ok {v : D} (h : nice v) (d L s e vals t8 t10 : D) (s2 s10 : Sl) (hs : freeAt [.own true d, .dat L, s2, .un, .dat e, .un, .un, .dat vals, .un, .dat v, s10] 10 = true) : ∃ b, g__law_right_b2 [.own true d, .dat L, s2, .un, .dat e, .un, .un, .dat vals, .un, .dat v, s10] = some (.nx, [.own true d, .dat L, s2, .un, .dat e, .un, .un, .dat vals, .un, .dat v, .dat b]) := by
  have h1 := r_due h
  have h2 := r_is_form h
  obtain ⟨x, hr, hx⟩ := repr_bb (formB v)
  have hn := neD_refl hx
  refine ⟨.bool (formB v), ?_⟩
  unfold freeAt at hs
  simp only [List.getElem?_cons_succ, List.getElem?_cons_zero] at hs
  simp only [g__law_right_b2, mb, mr, mo, nameM, conM, binM, unM, boolM, ifM, DL.andM, DL.orM, DL.notM, andV, orV, notV, chainM, nilA, consA, dvs, dv, ownAt, fzs, lstM, tupM, callM, callP, permL, fzv, seqS, skipS, ifS, setS, asg, freeAt, retS, retV, dropS, frz, frzS, asgS, nilG, consG, tupG, subG, listAt, methM, augS, augSubS, forS, seqM, treeV, startD, endV, bodyF, bodyI, startI, ioAt, slM, partM, bors, callL, callI, callO, DL.flatV, DL.flat, List.filterMap_cons, List.filterMap_nil, List.map_cons, List.map_nil, List.getElem?_cons_zero, List.getElem?_cons_succ, List.getElem?_nil, List.set_cons_zero, List.set_cons_succ, List.cons_append, List.nil_append, List.length_cons, List.length_nil, Option.bind_some, Option.bind_none, Option.map_some, Option.map_none, Nat.reduceSub, Nat.reduceAdd, List.replicate_succ, List.replicate_zero, Bool.not_true, Bool.not_false, if_true, if_false, Bool.false_eq_true, reduceIte, decide_true, decide_false, Nat.reduceLT, Nat.reduceLeDiff, reduceCtorEq, Option.some.injEq, Prod.mk.injEq, h1, h2, hs, szOk2, hr, hn]
theorem s7_ok {d L e : D} {s2 : Sl} (vals : List D) (h : ∀ v ∈ vals, nice v) : ∃ δ', g__law_right_s7 [.own true d, .dat L, s2, .un, .dat e, .un, .un, .own false (.list vals), .un, .un, .un] = some (.nx, δ') ∧ ioAt δ' = some d := by
  obtain ⟨δ', hf, s9, s10, rfl, _⟩ := forL_inv (gt := asg 9) (body := g__law_right_b2) (fun _ δ => ∃ s9 s10, δ = [.own true d, .dat L, s2, .un, .dat e, .un, .un, .dat (.list vals), .un, s9, s10] ∧ plainS s9 ∧ plainS s10) vals [] [.own true d, .dat L, s2, .un, .dat e, .un, .un, .dat (.list vals), .un, .un, .un] (by
    rintro done v rest δ - hv ⟨s9, s10, rfl, p9, p10⟩
    obtain ⟨b, hb⟩ := ask_ok (h v hv) d L L e (.list vals) L L s2 s10 (by rcases p10 with rfl | ⟨y, rfl⟩ <;> rfl)
    refine ⟨_, _, ?_, .inl hb, _, _, rfl, .inr ⟨_, rfl⟩, .inr ⟨_, rfl⟩⟩
    rcases p9 with rfl | ⟨y, rfl⟩ <;> simp only [mb, mr, mo, nameM, conM, binM, unM, boolM, ifM, DL.andM, DL.orM, DL.notM, andV, orV, notV, chainM, nilA, consA, dvs, dv, ownAt, fzs, lstM, tupM, callM, callP, permL, fzv, seqS, skipS, ifS, setS, asg, freeAt, retS, retV, dropS, frz, frzS, asgS, nilG, consG, tupG, subG, listAt, methM, augS, augSubS, forS, seqM, treeV, startD, endV, bodyF, bodyI, startI, ioAt, slM, partM, bors, callL, callI, callO, DL.flatV, DL.flat, List.filterMap_cons, List.filterMap_nil, List.map_cons, List.map_nil, List.getElem?_cons_zero, List.getElem?_cons_succ, List.getElem?_nil, List.set_cons_zero, List.set_cons_succ, List.cons_append, List.nil_append, List.length_cons, List.length_nil, Option.bind_some, Option.bind_none, Option.map_some, Option.map_none, Nat.reduceSub, Nat.reduceAdd, List.replicate_succ, List.replicate_zero, Bool.not_true, Bool.not_false, if_true, if_false, Bool.false_eq_true, reduceIte, decide_true, decide_false, Nat.reduceLT, Nat.reduceLeDiff, reduceCtorEq, Option.some.injEq, Prod.mk.injEq]) ⟨_, _, rfl, .inl rfl, .inl rfl⟩
  refine ⟨[.own true d, .dat L, s2, .un, .dat e, .un, .un, .dat (.list vals), .un, s9, s10], ?_, ?_⟩
  · simp only [g__law_right_s7, g__law_right_f2, mb, mr, mo, nameM, conM, binM, unM, boolM, ifM, DL.andM, DL.orM, DL.notM, andV, orV, notV, chainM, nilA, consA, dvs, dv, ownAt, fzs, lstM, tupM, callM, callP, permL, fzv, seqS, skipS, ifS, setS, asg, freeAt, retS, retV, dropS, frz, frzS, asgS, nilG, consG, tupG, subG, listAt, methM, augS, augSubS, forS, seqM, treeV, startD, endV, bodyF, bodyI, startI, ioAt, slM, partM, bors, callL, callI, callO, DL.flatV, DL.flat, List.filterMap_cons, List.filterMap_nil, List.map_cons, List.map_nil, List.getElem?_cons_zero, List.getElem?_cons_succ, List.getElem?_nil, List.set_cons_zero, List.set_cons_succ, List.cons_append, List.nil_append, List.length_cons, List.length_nil, Option.bind_some, Option.bind_none, Option.map_some, Option.map_none, Nat.reduceSub, Nat.reduceAdd, List.replicate_succ, List.replicate_zero, Bool.not_true, Bool.not_false, if_true, if_false, Bool.false_eq_true, reduceIte, decide_true, decide_false, Nat.reduceLT, Nat.reduceLeDiff, reduceCtorEq, Option.some.injEq, Prod.mk.injEq, itemsOf]
    exact hf
  · rfl
theorem s456_ok {d : D} {M : List (List Int)} (hM : M.length ≤ 50) {e : Int} (he : e.natAbs ≤ 100) {s2 : Sl} (hs2 : plainS s2) : ∃ vals : List D, seqS g__law_right_s4 (seqS g__law_right_s5 g__law_right_s6) [.own true d, .dat (Rw M), s2, .un, .dat (.int e), .un, .un, .un, .un, .un, .un] = some (.nx, [.own true d, .dat (Rw M), s2, .un, .dat (.int e), .un, .un, .own false (.list vals), .un, .un, .un]) ∧ ∀ v ∈ vals, nice v := by
  have hc : g__law_right_c3 [.own true d, .dat (Rw M), s2, .un, .dat (.int e), .un, .un, .un, .un, .un, .un] = some (.ow (.list [.tuple [Rw M, .int (e + -2)], .tuple [Rw M, .int (e + -1)], .tuple [Rw M, .int (e + 0)], .tuple [Rw M, .int (e + 1)]]), [.own true d, .dat (Rw M), s2, .un, .dat (.int e), .un, .un, .un, .un, .un, .un]) := by
    unfold g__law_right_c3
    have hx := compM_gen (fi := seqM (lstM (consA (unM negI (conM (.int 2))) (consA (unM negI (conM (.int 1))) (consA (conM (.int 0)) (consA (conM (.int 1)) nilA)))))) (gt := asg 8) (ft := mr true) (fe := tupM (consA (nameM 1) (consA (binM addD (nameM 4) (nameM 8)) nilA))) (vs := [8]) (δ := [.own true d, .dat (Rw M), s2, .un, .dat (.int e), .un, .un, .un, .un, .un, .un]) (ds := [.int (-2), .int (-1), .int 0, .int 1]) (fun t => match t with
      | .int i => some (.tuple [Rw M, .int (e + i)])
      | _ => none) ?_ ?_ ?_ ?_ ?_
    · exact hx
    · have h4 : szOk 4 = true := rfl
      simp only [mb, mr, mo, nameM, conM, binM, unM, boolM, ifM, DL.andM, DL.orM, DL.notM, andV, orV, notV, chainM, nilA, consA, dvs, dv, ownAt, fzs, lstM, tupM, callM, callP, permL, fzv, seqS, skipS, ifS, setS, asg, freeAt, retS, retV, dropS, frz, frzS, asgS, nilG, consG, tupG, subG, listAt, methM, augS, augSubS, forS, seqM, treeV, startD, endV, bodyF, bodyI, startI, ioAt, slM, partM, bors, callL, callI, callO, DL.flatV, DL.flat, List.filterMap_cons, List.filterMap_nil, List.map_cons, List.map_nil, List.getElem?_cons_zero, List.getElem?_cons_succ, List.getElem?_nil, List.set_cons_zero, List.set_cons_succ, List.cons_append, List.nil_append, List.length_cons, List.length_nil, Option.bind_some, Option.bind_none, Option.map_some, Option.map_none, Nat.reduceSub, Nat.reduceAdd, List.replicate_succ, List.replicate_zero, Bool.not_true, Bool.not_false, if_true, if_false, Bool.false_eq_true, reduceIte, decide_true, decide_false, Nat.reduceLT, Nat.reduceLeDiff, reduceCtorEq, Option.some.injEq, Prod.mk.injEq, negI, h4, itemsOf]
    · rfl
    · rfl
    · rfl
    · intro t ht
      obtain ⟨i, rfl⟩ : ∃ i : Int, t = .int i := by
        simp only [List.mem_cons, List.not_mem_nil, or_false] at ht
        rcases ht with rfl | rfl | rfl | rfl <;> exact ⟨_, rfl⟩
      refine ⟨[.own true d, .dat (Rw M), s2, .un, .dat (.int e), .un, .un, .un, .dat (.int i), .un, .un], ?_, .inr ⟨_, .fz (.tuple [Rw M, .int (e + i)]), rfl, rfl, ?_, rfl⟩, ?_⟩
      · simp only [wipeD, mb, mr, mo, nameM, conM, binM, unM, boolM, ifM, DL.andM, DL.orM, DL.notM, andV, orV, notV, chainM, nilA, consA, dvs, dv, ownAt, fzs, lstM, tupM, callM, callP, permL, fzv, seqS, skipS, ifS, setS, asg, freeAt, retS, retV, dropS, frz, frzS, asgS, nilG, consG, tupG, subG, listAt, methM, augS, augSubS, forS, seqM, treeV, startD, endV, bodyF, bodyI, startI, ioAt, slM, partM, bors, callL, callI, callO, DL.flatV, DL.flat, List.filterMap_cons, List.filterMap_nil, List.map_cons, List.map_nil, List.getElem?_cons_zero, List.getElem?_cons_succ, List.getElem?_nil, List.set_cons_zero, List.set_cons_succ, List.cons_append, List.nil_append, List.length_cons, List.length_nil, Option.bind_some, Option.bind_none, Option.map_some, Option.map_none, Nat.reduceSub, Nat.reduceAdd, List.replicate_succ, List.replicate_zero, Bool.not_true, Bool.not_false, if_true, if_false, Bool.false_eq_true, reduceIte, decide_true, decide_false, Nat.reduceLT, Nat.reduceLeDiff, reduceCtorEq, Option.some.injEq, Prod.mk.injEq]
      · simp only [mb, mr, mo, nameM, conM, binM, unM, boolM, ifM, DL.andM, DL.orM, DL.notM, andV, orV, notV, chainM, nilA, consA, dvs, dv, ownAt, fzs, lstM, tupM, callM, callP, permL, fzv, seqS, skipS, ifS, setS, asg, freeAt, retS, retV, dropS, frz, frzS, asgS, nilG, consG, tupG, subG, listAt, methM, augS, augSubS, forS, seqM, treeV, startD, endV, bodyF, bodyI, startI, ioAt, slM, partM, bors, callL, callI, callO, DL.flatV, DL.flat, List.filterMap_cons, List.filterMap_nil, List.map_cons, List.map_nil, List.getElem?_cons_zero, List.getElem?_cons_succ, List.getElem?_nil, List.set_cons_zero, List.set_cons_succ, List.cons_append, List.nil_append, List.length_cons, List.length_nil, Option.bind_some, Option.bind_none, Option.map_some, Option.map_none, Nat.reduceSub, Nat.reduceAdd, List.replicate_succ, List.replicate_zero, Bool.not_true, Bool.not_false, if_true, if_false, Bool.false_eq_true, reduceIte, decide_true, decide_false, Nat.reduceLT, Nat.reduceLeDiff, reduceCtorEq, Option.some.injEq, Prod.mk.injEq, addD, szOk2]
      · simp only [wipeD, mb, mr, mo, nameM, conM, binM, unM, boolM, ifM, DL.andM, DL.orM, DL.notM, andV, orV, notV, chainM, nilA, consA, dvs, dv, ownAt, fzs, lstM, tupM, callM, callP, permL, fzv, seqS, skipS, ifS, setS, asg, freeAt, retS, retV, dropS, frz, frzS, asgS, nilG, consG, tupG, subG, listAt, methM, augS, augSubS, forS, seqM, treeV, startD, endV, bodyF, bodyI, startI, ioAt, slM, partM, bors, callL, callI, callO, DL.flatV, DL.flat, List.filterMap_cons, List.filterMap_nil, List.map_cons, List.map_nil, List.getElem?_cons_zero, List.getElem?_cons_succ, List.getElem?_nil, List.set_cons_zero, List.set_cons_succ, List.cons_append, List.nil_append, List.length_cons, List.length_nil, Option.bind_some, Option.bind_none, Option.map_some, Option.map_none, Nat.reduceSub, Nat.reduceAdd, List.replicate_succ, List.replicate_zero, Bool.not_true, Bool.not_false, if_true, if_false, Bool.false_eq_true, reduceIte, decide_true, decide_false, Nat.reduceLT, Nat.reduceLeDiff, reduceCtorEq, Option.some.injEq, Prod.mk.injEq]
  have hlog : decide (e.natAbs.log2 < 1920) = true := decide_eq_true (by
    by_cases h0 : e.natAbs = 0
    · rw [h0]; decide
    · have := (Nat.log2_lt h0 (k := 7)).mpr (Nat.lt_of_le_of_lt he (by decide))
      omega)
  have hstr : strI [.int e] = some (.fz (.str (toString e))) := if_pos hlog
  have htup : tupleD [Rw M] = some (.fz (.tuple (M.map IL))) := rfl
  have hadd : addD (Rw M) (.list [.list []]) = some (.ow (Rw (M ++ [[]]))) := by
    show (if _ then _ else _) = _
    rw [if_pos (szOkL (by simp; omega))]
    simp
  have z0 : szOk 0 = true := rfl
  have z1 : szOk 1 = true := rfl
  have z2 : szOk 2 = true := rfl
  have z3 : szOk 3 = true := rfl
  have z9 : szOk 9 = true := rfl
  have z10 : szOk 10 = true := rfl
  have z12 : szOk 12 = true := rfl
  have z14 : szOk 14 = true := rfl
  have z26 : szOk 26 = true := rfl
  refine ⟨[.tuple [Rw M, .int (e + -2)], .tuple [Rw M, .int (e + -1)], .tuple [Rw M, .int (e + 0)], .tuple [Rw M, .int (e + 1)],
    .tuple [.tuple (M.map IL), .int e], .list [Rw M, .int e], .tuple [Rw M], .tuple [Rw M, .int e, .int 0], .tuple [Rw M, .bool true], .tuple [Rw M, .str (toString e)], .tuple [Rw (M ++ [[]]), .int e], .tuple [.int e, Rw M], Rw M, .int e,
    .tuple [Rw M, .int 8], .tuple [Rw M, .int 9], .tuple [.list [.list [.int 1]], .int 0], .tuple [.list [], .int 0], .tuple [.list [.list [.int 1]], .int 8], .tuple [.list [.list [.int 1]], .int 9], .none, .tuple [], .str "", .dict [],
    .tuple [.list [.list [.int 0, .int 0, .int 0, .int 0, .int 0, .int 0, .int 0, .int 0, .int 1]], .int 8], .tuple [.list [.list [.int 0, .int 0, .int 0, .int 0, .int 0, .int 0, .int 0, .int 0, .int 1]], .int 7]], ?_, ?_⟩
  · simp only [g__law_right_s4, g__law_right_s5, g__law_right_s6, mb, mr, mo, nameM, conM, binM, unM, boolM, ifM, DL.andM, DL.orM, DL.notM, andV, orV, notV, chainM, nilA, consA, dvs, dv, ownAt, fzs, lstM, tupM, callM, callP, permL, fzv, seqS, skipS, ifS, setS, asg, freeAt, retS, retV, dropS, frz, frzS, asgS, nilG, consG, tupG, subG, listAt, methM, augS, augSubS, forS, seqM, treeV, startD, endV, bodyF, bodyI, startI, ioAt, slM, partM, bors, callL, callI, callO, DL.flatV, DL.flat, List.filterMap_cons, List.filterMap_nil, List.map_cons, List.map_nil, List.getElem?_cons_zero, List.getElem?_cons_succ, List.getElem?_nil, List.set_cons_zero, List.set_cons_succ, List.cons_append, List.nil_append, List.length_cons, List.length_nil, Option.bind_some, Option.bind_none, Option.map_some, Option.map_none, Nat.reduceSub, Nat.reduceAdd, List.replicate_succ, List.replicate_zero, Bool.not_true, Bool.not_false, if_true, if_false, Bool.false_eq_true, reduceIte, decide_true, decide_false, Nat.reduceLT, Nat.reduceLeDiff, reduceCtorEq, Option.some.injEq, Prod.mk.injEq, hc, hstr, htup, hadd, z0, z1, z2, z3, z9, z10, z12, dnewM, extendL, Nat.reduceAdd, z14, z26]
    try trivial
  · have nn : nice .none := nice_not ⟨_, rfl⟩ rfl
    have nd : nice (.dict []) := nice_not ⟨_, rfl⟩ rfl
    have R := ty2_rows M
    have iI : ty2 (.int e) := ty2_flat (ty0_int _) rfl
    intro v hv
    simp only [List.mem_cons, List.not_mem_nil, or_false] at hv
    rcases hv with rfl | rfl | rfl | rfl | rfl | rfl | rfl | rfl | rfl | rfl | rfl | rfl | rfl | rfl | rfl | rfl | rfl | rfl | rfl | rfl | rfl | rfl | rfl | rfl | rfl | rfl
    · exact nice_pair R (ty0_int _)
    · exact nice_pair R (ty0_int _)
    · exact nice_pair R (ty0_int _)
    · exact nice_pair R (ty0_int _)
    · exact nice_pair (ty2_rowsT M) (ty0_int _)
    · exact nice_not (ty0_list _) rfl
    · exact nice_len (by simp) (by simp)
    · exact nice_len (by simp) (by simp)
    · exact nice_pair R ⟨_, rfl⟩
    · exact nice_pair R (ty0_str _)
    · exact nice_pair (ty2_rows _) (ty0_int _)
    · exact nice_pair iI (ty0_list _)
    · exact nice_not (ty0_list _) rfl
    · exact nice_not (ty0_int _) rfl
    · exact nice_pair R (ty0_int _)
    · exact nice_pair R (ty0_int _)
    · exact nice_pair (ty2_one [1]) (ty0_int _)
    · exact nice_pair (ty2_rows []) (ty0_int _)
    · exact nice_pair (ty2_one [1]) (ty0_int _)
    · exact nice_pair (ty2_one [1]) (ty0_int _)
    · exact nn
    · exact nice_len (by simp) (by simp)
    · exact nice_not (ty0_str _) rfl
    · exact nd
    · exact nice_pair (ty2_one [0, 0, 0, 0, 0, 0, 0, 0, 1]) (ty0_int _)
    · exact nice_pair (ty2_one [0, 0, 0, 0, 0, 0, 0, 0, 1]) (ty0_int _)
theorem seq_ok {a b : Ss} {δ δ1 : DS} (h : a δ = some (.nx, δ1)) : seqS a b δ = b δ1 := by simp only [seqS, h]
theorem law_right_ok {d : D} (hd : Pot d) : ∃ d', m__law_right d [] = some (.fz (.bool true), d') := by
  obtain ⟨M, d1, s, hf1, hM, h5, hs, p1⟩ := f1_ok hd
  obtain ⟨xs, d2, h2, hx, p2⟩ := s2_ok p1 (M := M) (by omega) s
  have hM6 : (M ++ [xs]).length ≤ 50 := by simp; omega
  obtain ⟨e, he, h3⟩ := s3_ok hM6 (by simp) (by
    intro m hm
    rcases List.mem_append.mp hm with hm | hm
    · exact h5 m hm
    · rw [List.mem_singleton.mp hm]; exact hx) d2 s
  obtain ⟨vals, h4, hv⟩ := s456_ok (d := d2) hM6 he hs
  obtain ⟨δ', h7, ho⟩ := s7_ok (d := d2) (L := Rw (M ++ [xs])) (e := .int e) (s2 := s) vals hv
  have h1 : g__law_right_s1 [.own true d, .un, .un, .un, .un, .un, .un, .un, .un, .un, .un] = some (.nx, [.own true d, .own false (Rw []), .un, .un, .un, .un, .un, .un, .un, .un, .un]) := by
    simp only [g__law_right_s1, mb, mr, mo, nameM, conM, binM, unM, boolM, ifM, DL.andM, DL.orM, DL.notM, andV, orV, notV, chainM, nilA, consA, dvs, dv, ownAt, fzs, lstM, tupM, callM, callP, permL, fzv, seqS, skipS, ifS, setS, asg, freeAt, retS, retV, dropS, frz, frzS, asgS, nilG, consG, tupG, subG, listAt, methM, augS, augSubS, forS, seqM, treeV, startD, endV, bodyF, bodyI, startI, ioAt, slM, partM, bors, callL, callI, callO, DL.flatV, DL.flat, List.filterMap_cons, List.filterMap_nil, List.map_cons, List.map_nil, List.getElem?_cons_zero, List.getElem?_cons_succ, List.getElem?_nil, List.set_cons_zero, List.set_cons_succ, List.cons_append, List.nil_append, List.length_cons, List.length_nil, Option.bind_some, Option.bind_none, Option.map_some, Option.map_none, Nat.reduceSub, Nat.reduceAdd, List.replicate_succ, List.replicate_zero, Bool.not_true, Bool.not_false, if_true, if_false, Bool.false_eq_true, reduceIte, decide_true, decide_false, Nat.reduceLT, Nat.reduceLeDiff, reduceCtorEq, Option.some.injEq, Prod.mk.injEq, szOkL (Nat.zero_le _), Rw, true_and]
  have h456 : ∀ k : Ss, seqS g__law_right_s4 (seqS g__law_right_s5 (seqS g__law_right_s6 k)) [.own true d2, .dat (Rw (M ++ [xs])), s, .un, .dat (.int e), .un, .un, .un, .un, .un, .un] = k [.own true d2, .dat (Rw (M ++ [xs])), s, .un, .dat (.int e), .un, .un, .own false (.list vals), .un, .un, .un] := by
    intro k
    unfold seqS at h4 ⊢
    revert h4
    generalize g__law_right_s4 _ = o4
    rcases o4 with _ | ⟨_ | _ | _ | _, δ4⟩ <;> intro h4 <;> try cases h4
    revert h4
    show (match g__law_right_s5 δ4 with | some (.nx, δ1) => g__law_right_s6 δ1 | o => o) = _ → _
    show _ → (match g__law_right_s5 δ4 with | some (.nx, δ1) => (match g__law_right_s6 δ1 with | some (.nx, δ1) => k δ1 | o => o) | o => o) = _
    generalize g__law_right_s5 δ4 = o5
    rcases o5 with _ | ⟨_ | _ | _ | _, δ5⟩ <;> intro h4 <;> try cases h4
    replace h4 : g__law_right_s6 δ5 = _ := h4
    show (match g__law_right_s6 δ5 with | some (.nx, δ1) => k δ1 | o => o) = _
    rw [h4]
  refine ⟨d2, ?_⟩
  have hg : g__law_right (startI 11 d []) = some (.rt (.fz (.bool true)), δ') := by
    show g__law_right [.own true d, .un, .un, .un, .un, .un, .un, .un, .un, .un, .un] = _
    unfold g__law_right
    rw [seq_ok h1, seq_ok hf1, seq_ok h2, seq_ok h3, h456, seq_ok h7]
    rfl
  unfold m__law_right bodyI
  rw [hg]
  show ((some (Val.fz (PyData.bool true))).bind fun r => (ioAt δ').bind fun d' => some (r, d')) = _
  rw [ho]
  rfl
theorem law_true (ns : List Int) (h1 : ns.length ≤ 63) (h2 : ∀ z ∈ ns, Builtin.Int.intBits z ≤ 1048576) : m_law [scrD ns] = some (.fz (.bool true)) := by
  obtain ⟨d, hp, hd⟩ := pot_ok ns
  obtain ⟨d', hr⟩ := law_right_ok hd
  simp only [m_law, g_law, g_law_s1, mb, mr, mo, nameM, conM, binM, unM, boolM, ifM, DL.andM, DL.orM, DL.notM, andV, orV, notV, chainM, nilA, consA, dvs, dv, ownAt, fzs, lstM, tupM, callM, callP, permL, fzv, seqS, skipS, ifS, setS, asg, freeAt, retS, retV, dropS, frz, frzS, asgS, nilG, consG, tupG, subG, listAt, methM, augS, augSubS, forS, seqM, treeV, startD, endV, bodyF, bodyI, startI, ioAt, slM, partM, bors, callL, callI, callO, DL.flatV, DL.flat, List.filterMap_cons, List.filterMap_nil, List.map_cons, List.map_nil, List.getElem?_cons_zero, List.getElem?_cons_succ, List.getElem?_nil, List.set_cons_zero, List.set_cons_succ, List.cons_append, List.nil_append, List.length_cons, List.length_nil, Option.bind_some, Option.bind_none, Option.map_some, Option.map_none, Nat.reduceSub, Nat.reduceAdd, List.replicate_succ, List.replicate_zero, Bool.not_true, Bool.not_false, if_true, if_false, Bool.false_eq_true, reduceIte, decide_true, decide_false, Nat.reduceLT, Nat.reduceLeDiff, reduceCtorEq, Option.some.injEq, Prod.mk.injEq, hp, hr, DL.flatV, DL.flat]
end K84
end
section
set_option maxRecDepth 100000
set_option maxHeartbeats 4000000
namespace K84
open PySem PySem.Spec L2 DL
open PyProof.Rows hiding St

def topS (i : Nat) : Stmt := PySem.Challenge.pw_curvepieces_k84_any_value_as_form.main.body.getD i (.Pass ⟨0, 0, 0, 0⟩)

abbrev s_is_integer : Stmt := topS 1

abbrev s_is_list : Stmt := topS 3

abbrev s_greatest_powers : Stmt := topS 10

abbrev s__law_pot : Stmt := topS 14

abbrev s__law_draw : Stmt := topS 15

abbrev s__law_told : Stmt := topS 16

abbrev s_is_count : Stmt := topS 2

abbrev s_plane_in : Stmt := topS 6

abbrev s_is_plane : Stmt := topS 7

abbrev s_form_in : Stmt := topS 11

abbrev s_is_form : Stmt := topS 12

abbrev s__law_due : Stmt := topS 17

abbrev s__law_right : Stmt := topS 18

abbrev s_law : Stmt := topS 19

structure Tx (K : Fg) (mg : Str → Option Value) where
  a_is_integer : Addr
  d_is_integer : FuncData
  f_is_integer : L2.Fun K "is_integer" "is_integer" s_is_integer a_is_integer d_is_integer
  g_is_integer : mg "is_integer" = some (.ref a_is_integer)
  a_is_list : Addr
  d_is_list : FuncData
  f_is_list : L2.Fun K "is_list" "is_list" s_is_list a_is_list d_is_list
  g_is_list : mg "is_list" = some (.ref a_is_list)
  a_greatest_powers : Addr
  d_greatest_powers : FuncData
  f_greatest_powers : L2.Fun K "greatest_powers" "greatest_powers" s_greatest_powers a_greatest_powers d_greatest_powers
  g_greatest_powers : mg "greatest_powers" = some (.ref a_greatest_powers)
  a__law_pot : Addr
  d__law_pot : FuncData
  f__law_pot : L2.Fun K "_law_pot" "_law_pot" s__law_pot a__law_pot d__law_pot
  g__law_pot : mg "_law_pot" = some (.ref a__law_pot)
  a__law_draw : Addr
  d__law_draw : FuncData
  f__law_draw : L2.Fun K "_law_draw" "_law_draw" s__law_draw a__law_draw d__law_draw
  g__law_draw : mg "_law_draw" = some (.ref a__law_draw)
  a__law_told : Addr
  d__law_told : FuncData
  f__law_told : L2.Fun K "_law_told" "_law_told" s__law_told a__law_told d__law_told
  g__law_told : mg "_law_told" = some (.ref a__law_told)
  a_is_count : Addr
  d_is_count : FuncData
  f_is_count : L2.Fun K "is_count" "is_count" s_is_count a_is_count d_is_count
  g_is_count : mg "is_count" = some (.ref a_is_count)
  a_plane_in : Addr
  d_plane_in : FuncData
  f_plane_in : L2.Fun K "plane_in" "plane_in" s_plane_in a_plane_in d_plane_in
  g_plane_in : mg "plane_in" = some (.ref a_plane_in)
  a_is_plane : Addr
  d_is_plane : FuncData
  f_is_plane : L2.Fun K "is_plane" "is_plane" s_is_plane a_is_plane d_is_plane
  g_is_plane : mg "is_plane" = some (.ref a_is_plane)
  a_form_in : Addr
  d_form_in : FuncData
  f_form_in : L2.Fun K "form_in" "form_in" s_form_in a_form_in d_form_in
  g_form_in : mg "form_in" = some (.ref a_form_in)
  a_is_form : Addr
  d_is_form : FuncData
  f_is_form : L2.Fun K "is_form" "is_form" s_is_form a_is_form d_is_form
  g_is_form : mg "is_form" = some (.ref a_is_form)
  a__law_due : Addr
  d__law_due : FuncData
  f__law_due : L2.Fun K "_law_due" "_law_due" s__law_due a__law_due d__law_due
  g__law_due : mg "_law_due" = some (.ref a__law_due)
  a__law_right : Addr
  d__law_right : FuncData
  f__law_right : L2.Fun K "_law_right" "_law_right" s__law_right a__law_right d__law_right
  g__law_right : mg "_law_right" = some (.ref a__law_right)
  a_law : Addr
  d_law : FuncData
  f_law : L2.Fun K "law" "law" s_law a_law d_law
  g_law : mg "law" = some (.ref a_law)
  u_MOST_DEGREE : Value
  e_MOST_DEGREE : mg "MOST_DEGREE" = some u_MOST_DEGREE
  r_MOST_DEGREE : ∃ t, u_MOST_DEGREE = .int 8 t
  u_MOST_POWERS : Value
  e_MOST_POWERS : mg "MOST_POWERS" = some u_MOST_POWERS
  r_MOST_POWERS : ∃ t, u_MOST_POWERS = .int 8 t
  z_abs : mg "abs" = none
  z_all : mg "all" = none
  z_bool : mg "bool" = none
  z_divmod : mg "divmod" = none
  z_enumerate : mg "enumerate" = none
  z_int : mg "int" = none
  z_isinstance : mg "isinstance" = none
  z_len : mg "len" = none
  z_list : mg "list" = none
  z_max : mg "max" = none
  z_range : mg "range" = none
  z_repr : mg "repr" = none
  z_str : mg "str" = none
  z_tuple : mg "tuple" = none

section
variable {P : Program} {w : World} {K : Fg} {mg : Str → Option Value} {base : Heap}
theorem sc_is_integer : FnScope ["value"] ["value"] (defScope s_is_integer) := ⟨rfl, rfl, rfl, by decide +kernel, rfl, by decide +kernel, by decide +kernel⟩
theorem ok_is_integer (T : Tx K mg) : FnG P w K mg base 1 T.a_is_integer T.d_is_integer ["value"] (spF K 1 m_is_integer) := by
  unfold m_is_integer
  refine ok_def (n := 1) rfl rfl T.f_is_integer sc_is_integer fun B cdv A outer s H E hr hgd => ?_
  unfold g_is_integer g_is_integer_s1
  exact (sb_one (ss_ret (de_and (de_isi (by rfl) T.z_isinstance (de_name 0) (by rfl) T.z_int bt_int) (de_one (de_not (de_isi (by rfl) T.z_isinstance (de_name 0) (by rfl) T.z_bool bt_bool))))))
theorem sc_is_list : FnScope ["value"] ["value"] (defScope s_is_list) := ⟨rfl, rfl, rfl, by decide +kernel, rfl, by decide +kernel, by decide +kernel⟩
theorem ok_is_list (T : Tx K mg) : FnG P w K mg base 1 T.a_is_list T.d_is_list ["value"] (spF K 1 m_is_list) := by
  unfold m_is_list
  refine ok_def (n := 1) rfl rfl T.f_is_list sc_is_list fun B cdv A outer s H E hr hgd => ?_
  unfold g_is_list g_is_list_s1
  exact (sb_one (ss_ret (de_isi2 (by rfl) T.z_isinstance (de_name 0) (by rfl) T.z_list bt_list (by rfl) T.z_tuple bt_tuple)))
theorem sc_greatest_powers : FnScope ["plane", "i", "line"] ["plane"] (defScope s_greatest_powers) := ⟨rfl, rfl, rfl, by decide +kernel, rfl, by decide +kernel, by decide +kernel⟩
theorem ok_greatest_powers (T : Tx K mg) : FnG P w K mg base 1 T.a_greatest_powers T.d_greatest_powers ["plane"] (spF K 1 m_greatest_powers) := by
  unfold m_greatest_powers
  refine ok_def (n := 3) rfl rfl T.f_greatest_powers sc_greatest_powers fun B cdv A outer s H E hr hgd => ?_
  unfold g_greatest_powers g_greatest_powers_s1 g_greatest_powers_c1
  exact (sb_one (ss_ret (de_callB (cr_max rfl) fd_maxL (by rfl) T.z_max bt_max (da_cons (de_lc (own := [("i", 1), ("line", 2)]) rfl sc_greatest_powers.nd (di_enumA (by rfl) T.z_enumerate (da_cons (de_name 0) da_nil)) (blkOk_by (by kernel_rfl)) (by decide) (fun _ _ _ _ _ B => (dg_tup rfl (dgs_cons (dg_name 1 sc_greatest_powers.nd rfl (by first | exact Or.inl rfl | exact Or.inr rfl)) (dgs_cons (dg_name 2 sc_greatest_powers.nd rfl (by first | exact Or.inl rfl | exact Or.inr rfl)) dgs_nil)))) (fun _ _ _ _ _ => dts_one fun B => (dt_cmp (op_neD hr.units) od_ne (de_name 2) (de_lst da_nil))) (fun _ _ _ _ _ B => (de_op op_sub od_sub (de_op op_addA od_addA (de_name 1) (de_callB call_len fd_len (by rfl) T.z_len bt_len (da_cons (de_name 2) da_nil))) de_int))) da_nil))))
theorem sc__law_pot : FnScope ["_law_script", "_law_k", "_law_cell"] ["_law_script", "_law_k"] (defScope s__law_pot) := ⟨rfl, rfl, rfl, by decide +kernel, rfl, by decide +kernel, by decide +kernel⟩
theorem ok__law_pot (T : Tx K mg) : FnG P w K mg base 1 T.a__law_pot T.d__law_pot ["_law_script", "_law_k"] (spF K 2 m__law_pot) := by
  unfold m__law_pot
  refine ok_def (n := 3) rfl rfl T.f__law_pot sc__law_pot fun B cdv A outer s H E hr hgd => ?_
  unfold g__law_pot g__law_pot_s3 g__law_pot_s2 g__law_pot_s1
  exact (sb_cons (ss_set (i := 2) sc__law_pot.nd rfl (by first | exact Or.inl rfl | exact Or.inr rfl) (de_op op_addA od_addA (de_op op_mulA od_mulA de_int (de_name 1)) de_int))
  (sb_cons (ss_if (dt_cmp op_lt od_lt (de_name 1) (de_callB call_len fd_len (by rfl) T.z_len bt_len (da_cons (de_name 0) da_nil)))
  (sb_one (ss_set (i := 2) sc__law_pot.nd rfl (by first | exact Or.inl rfl | exact Or.inr rfl) (de_callB call_abs fd_abs (by rfl) T.z_abs bt_abs (da_cons (de_ix (de_name 0) (de_name 1)) da_nil))))
  sb_nil)
  (sb_one (ss_ret (de_lst (da_cons (de_callB (call_max2 rfl) fd_max2 (by rfl) T.z_max bt_max (da_cons de_int (da_cons (de_op op_sub od_sub (de_name 2) (de_op op_pow od_pow de_int de_int)) da_nil))) (da_cons (de_op op_addA od_addA (de_op op_modN od_modN (de_callT call_int1 fd_int (by rfl) T.z_int bt_int (da_cons (de_op op_addA od_addA (de_op op_addA od_addA (de_op op_mulA od_mulA (de_op op_modN od_modN (de_callT call_int1 fd_int (by rfl) T.z_int bt_int (da_cons (de_name 2) da_nil)) de_int) de_int) (de_op op_mulA od_mulA de_int (de_name 1))) de_int) da_nil)) de_int) de_int) da_nil)))))))
theorem sc__law_draw : FnScope ["_law_pot_here", "_law_size", "_law_digit"] ["_law_pot_here", "_law_size"] (defScope s__law_draw) := ⟨rfl, rfl, rfl, by decide +kernel, rfl, by decide +kernel, by decide +kernel⟩
theorem ok__law_draw (T : Tx K mg) : FnG P w K mg base 1 T.a__law_draw T.d__law_draw ["_law_pot_here", "_law_size"] (spI K 2 m__law_draw) := by
  unfold m__law_draw
  refine ok_defI (n := 3) rfl rfl rfl T.f__law_draw sc__law_draw fun B cdv A outer s H E hr hgd => ?_
  unfold g__law_draw g__law_draw_s3 g__law_draw_s2 g__law_draw_s1
  exact (sb_cons (ss_if (dt_cmp op_gt od_gt (de_ix (de_name 0) de_int) de_int)
  (sb_cons (ss_asg (de_callB call_divmod fd_divmod (by rfl) T.z_divmod bt_divmod (da_cons (de_ix (de_name 0) de_int) (da_cons (de_name 1) da_nil))) (dg_tup rfl (dgs_cons (dg_sub 0 (pv 0) de_int) (dgs_cons (dg_name 2 sc__law_draw.nd rfl (by first | exact Or.inl rfl | exact Or.inr rfl)) dgs_nil))))
  (sb_one (ss_ret (de_name 2))))
  sb_nil)
  (sb_cons (ss_asg (de_op op_modN od_modN (de_callT call_int1 fd_int (by rfl) T.z_int bt_int (da_cons (de_op op_addA od_addA (de_op op_mulA od_mulA (de_ix (de_name 0) de_int) de_int) de_int) da_nil)) de_int) (dg_sub 0 (pv 0) de_int))
  (sb_one (ss_ret (de_op op_modN od_modN (de_callT call_int1 fd_int (by rfl) T.z_int bt_int (da_cons (de_op op_fdivZ od_fdivZ (de_op op_modN od_modN (de_callT call_int1 fd_int (by rfl) T.z_int bt_int (da_cons (de_op op_mulA od_mulA (de_ix (de_name 0) de_int) (de_ix (de_name 0) de_int)) da_nil)) de_int) de_int) da_nil)) (de_name 1))))))
theorem sc__law_told : FnScope ["_law_some", "_law_found"] ["_law_some"] (defScope s__law_told) := ⟨rfl, rfl, rfl, by decide +kernel, rfl, by decide +kernel, by decide +kernel⟩
theorem ok__law_told (T : Tx K mg) : FnG P w K mg base 1 T.a__law_told T.d__law_told ["_law_some"] (spF K 1 m__law_told) := by
  unfold m__law_told
  refine ok_def (n := 2) rfl rfl T.f__law_told sc__law_told fun B cdv A outer s H E hr hgd => ?_
  unfold g__law_told g__law_told_s2 g__law_told_s1 g__law_told_w1 g__law_told_b1 g__law_told_t1
  exact (sb_cons (ss_set (i := 1) sc__law_told.nd rfl (by first | exact Or.inl rfl | exact Or.inr rfl) (de_callT call_list_of fd_list (by rfl) T.z_list bt_list (da_cons (de_name 0) da_nil)))
  (sb_cons (ss_while fuel PassesOwn.never (dw_pt (dw_and (dt_cmp (op_neD hr.units) od_ne (de_name 1) (de_lst da_nil)) (dw_and1 (dt_cmp (op_eqD hr.units) od_eq (de_ix (de_name 1) (de_un un_neg ud_neg de_int)) de_int))))
  (sb_one (ss_expr (de_meth0 1 PySem.F.plainAttrs_list PySem.F.slot_list_pop PySem.F.type_list_pop mt_pop md_pop (pv 1)))))
  (sb_one (ss_ret (de_name 1)))))
theorem sc_is_count : FnScope ["value"] ["value"] (defScope s_is_count) := ⟨rfl, rfl, rfl, by decide +kernel, rfl, by decide +kernel, by decide +kernel⟩
theorem ok_is_count (T : Tx K mg) : FnG P w K mg base 2 T.a_is_count T.d_is_count ["value"] (spF K 1 m_is_count) := by
  unfold m_is_count
  refine ok_def (n := 1) rfl rfl T.f_is_count sc_is_count fun B cdv A outer s H E hr hgd => ?_
  unfold g_is_count g_is_count_s1
  exact (sb_one (ss_ret (de_and (de_call (ok_is_integer T) (hr.mono (by decide)) hgd (bindK_of (ks := []) (is := [0]) T.f_is_integer fun _ _ _ _ _ _ us ws h1 h2 => match us, ws, h1, h2 with | [_], [], _, _ => rfl) (by rfl) T.g_is_integer T.f_is_integer.kp (da_cons (de_name 0) da_nil) dk_nil (lenA_cons lenA_nil) lenA_nil (fun xs h => match xs, h with | [_], _ => rfl)) (de_one (de_cmp op_ge od_ge (de_name 0) de_int)))))
theorem sc_plane_in : FnScope ["value", "line", "number"] ["value"] (defScope s_plane_in) := ⟨rfl, rfl, rfl, by decide +kernel, rfl, by decide +kernel, by decide +kernel⟩
theorem ok_plane_in (T : Tx K mg) : FnG P w K mg base 2 T.a_plane_in T.d_plane_in ["value"] (spF K 1 m_plane_in) := by
  unfold m_plane_in
  refine ok_def (n := 3) rfl rfl T.f_plane_in sc_plane_in fun B cdv A outer s H E hr hgd => ?_
  unfold g_plane_in g_plane_in_s3 g_plane_in_s2 g_plane_in_s1 g_plane_in_c2 g_plane_in_f1 g_plane_in_b1 g_plane_in_c1
  exact (sb_cons (ss_if (dw_pt (dw_or (dt_not (dt_val (de_call (ok_is_list T) (hr.mono (by decide)) hgd (bindK_of (ks := []) (is := [0]) T.f_is_list fun _ _ _ _ _ _ us ws h1 h2 => match us, ws, h1, h2 with | [_], [], _, _ => rfl) (by rfl) T.g_is_list T.f_is_list.kp (da_cons (de_name 0) da_nil) dk_nil (lenA_cons lenA_nil) lenA_nil (fun xs h => match xs, h with | [_], _ => rfl)))) (dw_or1 (dt_cmp op_gt od_gt (de_callB call_len fd_len (by rfl) T.z_len bt_len (da_cons (de_name 0) da_nil)) (de_op op_addA od_addA (de_gint (by rfl) T.e_MOST_DEGREE T.r_MOST_DEGREE) de_int)))))
  (sb_one (ss_ret de_non))
  sb_nil)
  (sb_cons (ss_for PassesOwn.never rfl (di_seq (de_name 0)) (dg_name 1 sc_plane_in.nd rfl (by first | exact Or.inl rfl | exact Or.inr rfl))
  (sb_cons (ss_if (dw_pt (dw_or (dt_not (dt_val (de_call (ok_is_list T) (hr.mono (by decide)) hgd (bindK_of (ks := []) (is := [0]) T.f_is_list fun _ _ _ _ _ _ us ws h1 h2 => match us, ws, h1, h2 with | [_], [], _, _ => rfl) (by rfl) T.g_is_list T.f_is_list.kp (da_cons (de_name 1) da_nil) dk_nil (lenA_cons lenA_nil) lenA_nil (fun xs h => match xs, h with | [_], _ => rfl)))) (dw_or (dt_cmp op_gt od_gt (de_callB call_len fd_len (by rfl) T.z_len bt_len (da_cons (de_name 1) da_nil)) (de_op op_addA od_addA (de_gint (by rfl) T.e_MOST_DEGREE T.r_MOST_DEGREE) de_int)) (dw_or1 (dt_not (dt_val (de_callB (cr_all rfl) fd_all (by rfl) T.z_all bt_all (da_cons (de_lc (own := [("number", 2)]) rfl sc_plane_in.nd (di_seq (de_name 1)) (blkOk_by (by kernel_rfl)) (by decide) (fun _ _ _ _ _ B => (dg_name 2 sc_plane_in.nd rfl (by first | exact Or.inl rfl | exact Or.inr rfl))) (fun _ _ _ _ _ => dts_nil) (fun _ _ _ _ _ B => (de_call (ok_is_integer T) (hr.mono (by decide)) hgd (bindK_of (ks := []) (is := [0]) T.f_is_integer fun _ _ _ _ _ _ us ws h1 h2 => match us, ws, h1, h2 with | [_], [], _, _ => rfl) (by rfl) T.g_is_integer T.f_is_integer.kp (da_cons (de_name 2) da_nil) dk_nil (lenA_cons lenA_nil) lenA_nil (fun xs h => match xs, h with | [_], _ => rfl)))) da_nil))))))))
  (sb_one (ss_ret de_non))
  sb_nil)
  (sb_one (ss_if (dw_pt (dw_and (dt_cmp op_gt od_gt (de_callB call_len fd_len (by rfl) T.z_len bt_len (da_cons (de_name 1) da_nil)) de_int) (dw_and1 (dt_cmp (op_eqD hr.units) od_eq (de_ix (de_name 1) (de_un un_neg ud_neg de_int)) de_int))))
  (sb_one (ss_ret de_non))
  sb_nil))))
  (sb_cons (ss_if (dw_pt (dw_and (dt_cmp op_gt od_gt (de_callB call_len fd_len (by rfl) T.z_len bt_len (da_cons (de_name 0) da_nil)) de_int) (dw_and1 (dt_cmp (op_eqD hr.units) od_eq (de_callB call_len fd_len (by rfl) T.z_len bt_len (da_cons (de_ix (de_name 0) (de_un un_neg ud_neg de_int)) da_nil)) de_int))))
  (sb_one (ss_ret de_non))
  sb_nil)
  (sb_one (ss_ret (de_lc (own := [("line", 1)]) rfl sc_plane_in.nd (di_seq (de_name 0)) (blkOk_by (by kernel_rfl)) (by decide) (fun _ _ _ _ _ B => (dg_name 1 sc_plane_in.nd rfl (by first | exact Or.inl rfl | exact Or.inr rfl))) (fun _ _ _ _ _ => dts_nil) (fun _ _ _ _ _ B => (de_callT call_list_of fd_list (by rfl) T.z_list bt_list (da_cons (de_name 1) da_nil)))))))))
theorem sc_is_plane : FnScope ["value"] ["value"] (defScope s_is_plane) := ⟨rfl, rfl, rfl, by decide +kernel, rfl, by decide +kernel, by decide +kernel⟩
theorem ok_is_plane (T : Tx K mg) : FnG P w K mg base 3 T.a_is_plane T.d_is_plane ["value"] (spF K 1 m_is_plane) := by
  unfold m_is_plane
  refine ok_def (n := 1) rfl rfl T.f_is_plane sc_is_plane fun B cdv A outer s H E hr hgd => ?_
  unfold g_is_plane g_is_plane_s1
  exact (sb_one (ss_ret (de_cmp op_notN od_isnot (de_call (ok_plane_in T) (hr.mono (by decide)) hgd (bindK_of (ks := []) (is := [0]) T.f_plane_in fun _ _ _ _ _ _ us ws h1 h2 => match us, ws, h1, h2 with | [_], [], _, _ => rfl) (by rfl) T.g_plane_in T.f_plane_in.kp (da_cons (de_name 0) da_nil) dk_nil (lenA_cons lenA_nil) lenA_nil (fun xs h => match xs, h with | [_], _ => rfl)) de_non)))
theorem sc_form_in : FnScope ["value", "plane"] ["value"] (defScope s_form_in) := ⟨rfl, rfl, rfl, by decide +kernel, rfl, by decide +kernel, by decide +kernel⟩
theorem ok_form_in (T : Tx K mg) : FnG P w K mg base 3 T.a_form_in T.d_form_in ["value"] (spF K 1 m_form_in) := by
  unfold m_form_in
  refine ok_def (n := 2) rfl rfl T.f_form_in sc_form_in fun B cdv A outer s H E hr hgd => ?_
  unfold g_form_in g_form_in_s4 g_form_in_s3 g_form_in_s2 g_form_in_s1
  exact (sb_cons (ss_if (dw_pt (dw_or (dt_not (dt_val (de_isi (by rfl) T.z_isinstance (de_name 0) (by rfl) T.z_tuple bt_tuple))) (dw_or (dt_cmp (op_neD hr.units) od_ne (de_callB call_len fd_len (by rfl) T.z_len bt_len (da_cons (de_name 0) da_nil)) de_int) (dw_or (dt_not (dt_val (de_call (ok_is_count T) (hr.mono (by decide)) hgd (bindK_of (ks := []) (is := [0]) T.f_is_count fun _ _ _ _ _ _ us ws h1 h2 => match us, ws, h1, h2 with | [_], [], _, _ => rfl) (by rfl) T.g_is_count T.f_is_count.kp (da_cons (de_ix (de_name 0) de_int) da_nil) dk_nil (lenA_cons lenA_nil) lenA_nil (fun xs h => match xs, h with | [_], _ => rfl)))) (dw_or1 (dt_cmp op_gt od_gt (de_ix (de_name 0) de_int) (de_gint (by rfl) T.e_MOST_POWERS T.r_MOST_POWERS)))))))
  (sb_one (ss_ret de_non))
  sb_nil)
  (sb_cons (ss_set (i := 1) sc_form_in.nd rfl (by first | exact Or.inl rfl | exact Or.inr rfl) (de_call (ok_plane_in T) (hr.mono (by decide)) hgd (bindK_of (ks := []) (is := [0]) T.f_plane_in fun _ _ _ _ _ _ us ws h1 h2 => match us, ws, h1, h2 with | [_], [], _, _ => rfl) (by rfl) T.g_plane_in T.f_plane_in.kp (da_cons (de_ix (de_name 0) de_int) da_nil) dk_nil (lenA_cons lenA_nil) lenA_nil (fun xs h => match xs, h with | [_], _ => rfl)))
  (sb_cons (ss_if (dw_pt (dw_or (dt_cmp op_isN od_is (de_name 1) de_non) (dw_or (dt_cmp (op_eqD hr.units) od_eq (de_name 1) (de_lst da_nil)) (dw_or1 (dt_cmp op_gt od_gt (de_callL (ok_greatest_powers T) (hr.mono (by decide)) hgd (bindK_of (ks := []) (is := [0]) T.f_greatest_powers fun _ _ _ _ _ _ us ws h1 h2 => match us, ws, h1, h2 with | [_], [], _, _ => rfl) (by rfl) T.g_greatest_powers T.f_greatest_powers.kp (da_cons (de_name 1) da_nil) (lenA_cons lenA_nil) fun xs h => match xs, h with | [_], _ => rfl) (de_ix (de_name 0) de_int))))))
  (sb_one (ss_ret de_non))
  sb_nil)
  (sb_one (ss_frz 1 (ss_ret (de_tup (da_cons (de_name 1) (da_cons (de_ix (de_name 0) de_int) da_nil)))))))))
theorem sc_is_form : FnScope ["value"] ["value"] (defScope s_is_form) := ⟨rfl, rfl, rfl, by decide +kernel, rfl, by decide +kernel, by decide +kernel⟩
theorem ok_is_form (T : Tx K mg) : FnG P w K mg base 4 T.a_is_form T.d_is_form ["value"] (spF K 1 m_is_form) := by
  unfold m_is_form
  refine ok_def (n := 1) rfl rfl T.f_is_form sc_is_form fun B cdv A outer s H E hr hgd => ?_
  unfold g_is_form g_is_form_s1
  exact (sb_one (ss_ret (de_cmp op_notN od_isnot (de_call (ok_form_in T) (hr.mono (by decide)) hgd (bindK_of (ks := []) (is := [0]) T.f_form_in fun _ _ _ _ _ _ us ws h1 h2 => match us, ws, h1, h2 with | [_], [], _, _ => rfl) (by rfl) T.g_form_in T.f_form_in.kp (da_cons (de_name 0) da_nil) dk_nil (lenA_cons lenA_nil) lenA_nil (fun xs h => match xs, h with | [_], _ => rfl)) de_non)))
theorem sc__law_due : FnScope ["_law_value", "_law_i", "_law_line", "_law_j", "_law_number"] ["_law_value"] (defScope s__law_due) := ⟨rfl, rfl, rfl, by decide +kernel, rfl, by decide +kernel, by decide +kernel⟩
theorem ok__law_due (T : Tx K mg) : FnG P w K mg base 4 T.a__law_due T.d__law_due ["_law_value"] (spF K 1 m__law_due) := by
  unfold m__law_due
  refine ok_def (n := 5) rfl rfl T.f__law_due sc__law_due fun B cdv A outer s H E hr hgd => ?_
  unfold g__law_due g__law_due_s3 g__law_due_s2 g__law_due_s1 g__law_due_f1 g__law_due_b1 g__law_due_c1
  exact (sb_cons (ss_if (dw_pt (dw_or (dt_not (dt_val (de_isi (by rfl) T.z_isinstance (de_name 0) (by rfl) T.z_tuple bt_tuple))) (dw_or (dt_cmp (op_neD hr.units) od_ne (de_callB call_len fd_len (by rfl) T.z_len bt_len (da_cons (de_name 0) da_nil)) de_int) (dw_or (dt_not (dt_val (de_call (ok_is_plane T) (hr.mono (by decide)) hgd (bindK_of (ks := []) (is := [0]) T.f_is_plane fun _ _ _ _ _ _ us ws h1 h2 => match us, ws, h1, h2 with | [_], [], _, _ => rfl) (by rfl) T.g_is_plane T.f_is_plane.kp (da_cons (de_ix (de_name 0) de_int) da_nil) dk_nil (lenA_cons lenA_nil) lenA_nil (fun xs h => match xs, h with | [_], _ => rfl)))) (dw_or1 (dt_cmp (op_eqD hr.units) od_eq (de_callB call_len fd_len (by rfl) T.z_len bt_len (da_cons (de_ix (de_name 0) de_int) da_nil)) de_int))))))
  (sb_one (ss_ret de_bl))
  sb_nil)
  (sb_cons (ss_if (dw_pt (dw_or (dt_not (dt_val (de_isi (by rfl) T.z_isinstance (de_ix (de_name 0) de_int) (by rfl) T.z_int bt_int))) (dw_or (dt_val (de_isi (by rfl) T.z_isinstance (de_ix (de_name 0) de_int) (by rfl) T.z_bool bt_bool)) (dw_or1 (dt_not (dt_chain op_le od_le op_le od_le de_int (de_ix (de_name 0) de_int) de_int))))))
  (sb_one (ss_ret de_bl))
  sb_nil)
  (sb_cons (ss_for PassesOwn.never rfl (di_enumA (by rfl) T.z_enumerate (da_cons (de_ix (de_name 0) de_int) da_nil)) (dg_tup rfl (dgs_cons (dg_name 1 sc__law_due.nd rfl (by first | exact Or.inl rfl | exact Or.inr rfl)) (dgs_cons (dg_name 2 sc__law_due.nd rfl (by first | exact Or.inl rfl | exact Or.inr rfl)) dgs_nil)))
  (sb_one (ss_if (dt_cmp op_gt od_gt (de_callB call_len fd_len (by rfl) T.z_len bt_len (da_cons (de_lc (own := [("_law_j", 3), ("_law_number", 4)]) rfl sc__law_due.nd (di_enumA (by rfl) T.z_enumerate (da_cons (de_name 2) da_nil)) (blkOk_by (by kernel_rfl)) (by decide) (fun _ _ _ _ _ B => (dg_tup rfl (dgs_cons (dg_name 3 sc__law_due.nd rfl (by first | exact Or.inl rfl | exact Or.inr rfl)) (dgs_cons (dg_name 4 sc__law_due.nd rfl (by first | exact Or.inl rfl | exact Or.inr rfl)) dgs_nil)))) (fun _ _ _ _ _ => dts_one fun B => (dw_pt (dw_and (dt_cmp (op_neD hr.units) od_ne (de_name 4) de_int) (dw_and1 (dt_cmp op_gt od_gt (de_op op_addA od_addA (de_name 1) (de_name 3)) (de_ix (de_name 0) de_int)))))) (fun _ _ _ _ _ B => (de_name 3))) da_nil)) de_int)
  (sb_one (ss_ret de_bl))
  sb_nil)))
  (sb_one (ss_ret de_bl)))))
theorem sc__law_right : FnScope ["_law_pot_here", "_law_lines", "_law_turn", "_law_at", "_law_most", "_law_i", "_law_line", "_law_values", "_law_step", "_law_value", "_law_due_here"] ["_law_pot_here"] (defScope s__law_right) := ⟨rfl, rfl, rfl, by decide +kernel, rfl, by decide +kernel, by decide +kernel⟩
theorem ok__law_right (T : Tx K mg) : FnG P w K mg base 5 T.a__law_right T.d__law_right ["_law_pot_here"] (spI K 1 m__law_right) := by
  unfold m__law_right
  refine ok_defI (n := 11) rfl rfl rfl T.f__law_right sc__law_right fun B cdv A outer s H E hr hgd => ?_
  unfold g__law_right g__law_right_s8 g__law_right_s7 g__law_right_s6 g__law_right_s5 g__law_right_s4 g__law_right_s3 g__law_right_s2 g__law_right_s1 g__law_right_f2 g__law_right_b2 g__law_right_c3 g__law_right_c2 g__law_right_f1 g__law_right_b1 g__law_right_c1
  exact (sb_cons (ss_set (i := 1) sc__law_right.nd rfl (by first | exact Or.inl rfl | exact Or.inr rfl) (de_lst da_nil))
  (sb_cons (ss_for PassesOwn.never rfl (di_range1 (by rfl) T.z_range (da_cons (de_op op_addA od_addA de_int (de_callI (ok__law_draw T) (hr.mono (by decide)) hgd (bindK_of (ks := []) (is := [0, 1]) T.f__law_draw fun _ _ _ _ _ _ us ws h1 h2 => match us, ws, h1, h2 with | [_, _], [], _, _ => rfl) (by rfl) T.g__law_draw T.f__law_draw.kp (da_cons (de_name 0) (da_cons de_int da_nil)) (lenA_cons (lenA_cons lenA_nil)) fun xs h => match xs, h with | [_, _], _ => rfl)) da_nil)) (dg_name 2 sc__law_right.nd rfl (by first | exact Or.inl rfl | exact Or.inr rfl))
  (sb_one (ss_expr (de_meth 1 PySem.F.plainAttrs_list PySem.F.slot_list_append PySem.F.type_list_append mt_append md_append (pv 1) (da_cons (de_call (ok__law_told T) (hr.mono (by decide)) hgd (bindK_of (ks := []) (is := [0]) T.f__law_told fun _ _ _ _ _ _ us ws h1 h2 => match us, ws, h1, h2 with | [_], [], _, _ => rfl) (by rfl) T.g__law_told T.f__law_told.kp (da_cons (de_lc (own := [("_law_at", 3)]) rfl sc__law_right.nd (di_range1 (by rfl) T.z_range (da_cons (de_callI (ok__law_draw T) (hr.mono (by decide)) hgd (bindK_of (ks := []) (is := [0, 1]) T.f__law_draw fun _ _ _ _ _ _ us ws h1 h2 => match us, ws, h1, h2 with | [_, _], [], _, _ => rfl) (by rfl) T.g__law_draw T.f__law_draw.kp (da_cons (de_name 0) (da_cons de_int da_nil)) (lenA_cons (lenA_cons lenA_nil)) fun xs h => match xs, h with | [_, _], _ => rfl) da_nil)) (blkOk_by (by kernel_rfl)) (by decide) (fun _ _ _ _ _ B => (dg_name 3 sc__law_right.nd rfl (by first | exact Or.inl rfl | exact Or.inr rfl))) (fun _ _ _ _ _ => dts_nil) (fun _ _ _ _ _ B => (de_op op_sub od_sub (de_callI (ok__law_draw T) (hr.mono (by decide)) hgd (bindK_of (ks := []) (is := [0, 1]) T.f__law_draw fun _ _ _ _ _ _ us ws h1 h2 => match us, ws, h1, h2 with | [_, _], [], _, _ => rfl) (by rfl) T.g__law_draw T.f__law_draw.kp (da_cons (de_name 0) (da_cons de_int da_nil)) (lenA_cons (lenA_cons lenA_nil)) fun xs h => match xs, h with | [_, _], _ => rfl) de_int))) da_nil) dk_nil (lenA_cons lenA_nil) lenA_nil (fun xs h => match xs, h with | [_], _ => rfl)) da_nil)))))
  (sb_cons (ss_expr (de_meth 1 PySem.F.plainAttrs_list PySem.F.slot_list_append PySem.F.type_list_append mt_append md_append (pv 1) (da_cons (de_if (dt_cmp (op_eqD hr.units) od_eq (de_callI (ok__law_draw T) (hr.mono (by decide)) hgd (bindK_of (ks := []) (is := [0, 1]) T.f__law_draw fun _ _ _ _ _ _ us ws h1 h2 => match us, ws, h1, h2 with | [_, _], [], _, _ => rfl) (by rfl) T.g__law_draw T.f__law_draw.kp (da_cons (de_name 0) (da_cons de_int da_nil)) (lenA_cons (lenA_cons lenA_nil)) fun xs h => match xs, h with | [_, _], _ => rfl) de_int) (de_lst (da_cons (de_op op_addA od_addA (de_callI (ok__law_draw T) (hr.mono (by decide)) hgd (bindK_of (ks := []) (is := [0, 1]) T.f__law_draw fun _ _ _ _ _ _ us ws h1 h2 => match us, ws, h1, h2 with | [_, _], [], _, _ => rfl) (by rfl) T.g__law_draw T.f__law_draw.kp (da_cons (de_name 0) (da_cons de_int da_nil)) (lenA_cons (lenA_cons lenA_nil)) fun xs h => match xs, h with | [_, _], _ => rfl) de_int) da_nil)) (de_op op_addA od_addA (de_op op_mulA od_mulA (de_lst (da_cons de_int da_nil)) (de_callI (ok__law_draw T) (hr.mono (by decide)) hgd (bindK_of (ks := []) (is := [0, 1]) T.f__law_draw fun _ _ _ _ _ _ us ws h1 h2 => match us, ws, h1, h2 with | [_, _], [], _, _ => rfl) (by rfl) T.g__law_draw T.f__law_draw.kp (da_cons (de_name 0) (da_cons de_int da_nil)) (lenA_cons (lenA_cons lenA_nil)) fun xs h => match xs, h with | [_, _], _ => rfl)) (de_lst (da_cons de_int da_nil)))) da_nil)))
  (sb_cons (ss_frz 1 (ss_set (i := 4) sc__law_right.nd rfl (by first | exact Or.inl rfl | exact Or.inr rfl) (de_callB (cr_max rfl) fd_maxL (by rfl) T.z_max bt_max (da_cons (de_lc (own := [("_law_i", 5), ("_law_line", 6)]) rfl sc__law_right.nd (di_enumA (by rfl) T.z_enumerate (da_cons (de_name 1) da_nil)) (blkOk_by (by kernel_rfl)) (by decide) (fun _ _ _ _ _ B => (dg_tup rfl (dgs_cons (dg_name 5 sc__law_right.nd rfl (by first | exact Or.inl rfl | exact Or.inr rfl)) (dgs_cons (dg_name 6 sc__law_right.nd rfl (by first | exact Or.inl rfl | exact Or.inr rfl)) dgs_nil)))) (fun _ _ _ _ _ => dts_nil) (fun _ _ _ _ _ B => (de_op op_sub od_sub (de_op op_addA od_addA (de_name 5) (de_callB call_len fd_len (by rfl) T.z_len bt_len (da_cons (de_name 6) da_nil))) de_int))) da_nil))))
  (sb_cons (ss_frz 1 (ss_setLc (i := 7) (own := [("_law_step", 8)]) rfl sc__law_right.nd rfl rfl (sw_true rfl rfl rfl (by decide +kernel)) (di_seq (de_lst (da_cons (de_un un_neg ud_neg de_int) (da_cons (de_un un_neg ud_neg de_int) (da_cons de_int (da_cons de_int da_nil)))))) (blkOk_by (by kernel_rfl)) (by decide) (fun _ _ _ _ _ B => (dg_name 8 sc__law_right.nd rfl (by first | exact Or.inl rfl | exact Or.inr rfl))) (fun _ _ _ _ _ => dts_nil) (fun _ _ _ _ _ B => (de_tup (da_cons (de_name 1) (da_cons (de_op op_addA od_addA (de_name 4) (de_name 8)) da_nil))))))
  (sb_cons (ss_frz 1 (ss_expr (de_meth 7 PySem.F.plainAttrs_list PySem.F.slot_list_extend PySem.F.type_list_extend mt_extend md_extend (pv 7) (da_cons (de_lst (da_cons (de_tup (da_cons (de_callT call_tuple_of fd_tuple (by rfl) T.z_tuple bt_tuple (da_cons (de_name 1) da_nil)) (da_cons (de_name 4) da_nil))) (da_cons (de_lst (da_cons (de_name 1) (da_cons (de_name 4) da_nil))) (da_cons (de_tup (da_cons (de_name 1) da_nil)) (da_cons (de_tup (da_cons (de_name 1) (da_cons (de_name 4) (da_cons de_int da_nil)))) (da_cons (de_tup (da_cons (de_name 1) (da_cons de_bl da_nil))) (da_cons (de_tup (da_cons (de_name 1) (da_cons (de_callT call_str_int fd_str (by rfl) T.z_str bt_str (da_cons (de_name 4) da_nil)) da_nil))) (da_cons (de_tup (da_cons (de_op op_addA od_addA (de_name 1) (de_lst (da_cons (de_lst da_nil) da_nil))) (da_cons (de_name 4) da_nil))) (da_cons (de_tup (da_cons (de_name 4) (da_cons (de_name 1) da_nil))) (da_cons (de_name 1) (da_cons (de_name 4) da_nil))))))))))) da_nil))))
  (sb_cons (ss_frz 1 (ss_expr (de_meth 7 PySem.F.plainAttrs_list PySem.F.slot_list_extend PySem.F.type_list_extend mt_extend md_extend (pv 7) (da_cons (de_lst (da_cons (de_tup (da_cons (de_name 1) (da_cons de_int da_nil))) (da_cons (de_tup (da_cons (de_name 1) (da_cons de_int da_nil))) (da_cons (de_tup (da_cons (de_lst (da_cons (de_lst (da_cons de_int da_nil)) da_nil)) (da_cons de_int da_nil))) (da_cons (de_tup (da_cons (de_lst da_nil) (da_cons de_int da_nil))) (da_cons (de_tup (da_cons (de_lst (da_cons (de_lst (da_cons de_int da_nil)) da_nil)) (da_cons de_int da_nil))) (da_cons (de_tup (da_cons (de_lst (da_cons (de_lst (da_cons de_int da_nil)) da_nil)) (da_cons de_int da_nil))) (da_cons de_non (da_cons (de_tup da_nil) (da_cons de_str (da_cons de_dnew (da_cons (de_tup (da_cons (de_lst (da_cons (de_lst (da_cons de_int (da_cons de_int (da_cons de_int (da_cons de_int (da_cons de_int (da_cons de_int (da_cons de_int (da_cons de_int (da_cons de_int da_nil)))))))))) da_nil)) (da_cons de_int da_nil))) (da_cons (de_tup (da_cons (de_lst (da_cons (de_lst (da_cons de_int (da_cons de_int (da_cons de_int (da_cons de_int (da_cons de_int (da_cons de_int (da_cons de_int (da_cons de_int (da_cons de_int da_nil)))))))))) da_nil)) (da_cons de_int da_nil))) da_nil))))))))))))) da_nil))))
  (sb_cons (ss_frz 7 (ss_for PassesOwn.never rfl (di_seq (de_name 7)) (dg_name 9 sc__law_right.nd rfl (by first | exact Or.inl rfl | exact Or.inr rfl))
  (sb_cons (ss_set (i := 10) sc__law_right.nd rfl (by first | exact Or.inl rfl | exact Or.inr rfl) (de_call (ok__law_due T) (hr.mono (by decide)) hgd (bindK_of (ks := []) (is := [0]) T.f__law_due fun _ _ _ _ _ _ us ws h1 h2 => match us, ws, h1, h2 with | [_], [], _, _ => rfl) (by rfl) T.g__law_due T.f__law_due.kp (da_cons (de_name 9) da_nil) dk_nil (lenA_cons lenA_nil) lenA_nil (fun xs h => match xs, h with | [_], _ => rfl)))
  (sb_one (ss_if (dt_cmp (op_neD hr.units) od_ne (de_callB (call_reprD hgd hr.units) fd_repr (by rfl) T.z_repr bt_repr (da_cons (de_lst (da_cons (de_call (ok_is_form T) (hr.mono (by decide)) hgd (bindK_of (ks := []) (is := [0]) T.f_is_form fun _ _ _ _ _ _ us ws h1 h2 => match us, ws, h1, h2 with | [_], [], _, _ => rfl) (by rfl) T.g_is_form T.f_is_form.kp (da_cons (de_name 9) da_nil) dk_nil (lenA_cons lenA_nil) lenA_nil (fun xs h => match xs, h with | [_], _ => rfl)) (da_cons (de_call0 (ok_is_form T) (hr.mono (by decide)) hgd (bindK_of (ks := ["value"]) (is := [0]) T.f_is_form fun _ _ _ _ _ _ us ws h1 h2 => match us, ws, h1, h2 with | [], [_], _, _ => rfl) (by rfl) T.g_is_form T.f_is_form.kp (dk_cons (de_name 9) dk_nil) (lenA_cons lenA_nil) (fun xs h => match xs, h with | [_], _ => rfl)) da_nil))) da_nil)) (de_callB (call_reprD hgd hr.units) fd_repr (by rfl) T.z_repr bt_repr (da_cons (de_lst (da_cons (de_name 10) (da_cons (de_name 10) da_nil))) da_nil)))
  (sb_one (ss_ret de_bl))
  sb_nil)))))
  (sb_one (ss_ret de_bl))))))))))
theorem sc_law : FnScope ["_law_script"] ["_law_script"] (defScope s_law) := ⟨rfl, rfl, rfl, by decide +kernel, rfl, by decide +kernel, by decide +kernel⟩
theorem ok_law (T : Tx K mg) : FnG P w K mg base 6 T.a_law T.d_law ["_law_script"] (spF K 1 m_law) := by
  unfold m_law
  refine ok_def (n := 1) rfl rfl T.f_law sc_law fun B cdv A outer s H E hr hgd => ?_
  unfold g_law g_law_s1
  exact (sb_one (ss_ret (de_callO (ok__law_right T) (hr.mono (by decide)) hgd (bindK_of (ks := []) (is := [0]) T.f__law_right fun _ _ _ _ _ _ us ws h1 h2 => match us, ws, h1, h2 with | [_], [], _, _ => rfl) (by rfl) T.g__law_right T.f__law_right.kp (de_call (ok__law_pot T) (hr.mono (by decide)) hgd (bindK_of (ks := []) (is := [0, 1]) T.f__law_pot fun _ _ _ _ _ _ us ws h1 h2 => match us, ws, h1, h2 with | [_, _], [], _, _ => rfl) (by rfl) T.g__law_pot T.f__law_pot.kp (da_cons (de_name 0) (da_cons de_int da_nil)) dk_nil (lenA_cons (lenA_cons lenA_nil)) lenA_nil (fun xs h => match xs, h with | [_, _], _ => rfl)) fun xs h => match xs, h with | [_], _ => rfl)))
end
theorem all_mk {l : PySem.W.OpenLaw} {w : World} {K : Fg} {h : Heap} {mg : Str → Option Value} {fa : Addr} (X : K.In h) (G : h.Ns mainGlobals mg) (hfa : mg "law" = some (.ref fa))
        {f1 : Addr} {od1 an1 : Option Addr} {sl1 : Array (Option Value)} {oc1 kV1 dc1 pm1 cd1 ct1 : Value} (a1 : PySem.W.nsIn K mainGlobals "is_integer" = some (some (.ref f1))) (l1 : K.lookup f1 = some ⟨oc1, od1, .func (PySem.W.fnOf "is_integer" "is_integer" (defArgs s_is_integer) (defBody s_is_integer) (defScope s_is_integer) .none kV1 dc1 pm1 an1 cd1 ct1), sl1⟩) (c1 : PySem.W.codeIn K cd1 "is_integer" = true) (k1 : PySem.W.keepIn K (.ref f1) = true)
    {f2 : Addr} {od2 an2 : Option Addr} {sl2 : Array (Option Value)} {oc2 kV2 dc2 pm2 cd2 ct2 : Value} (a2 : PySem.W.nsIn K mainGlobals "is_list" = some (some (.ref f2))) (l2 : K.lookup f2 = some ⟨oc2, od2, .func (PySem.W.fnOf "is_list" "is_list" (defArgs s_is_list) (defBody s_is_list) (defScope s_is_list) .none kV2 dc2 pm2 an2 cd2 ct2), sl2⟩) (c2 : PySem.W.codeIn K cd2 "is_list" = true) (k2 : PySem.W.keepIn K (.ref f2) = true)
    {f3 : Addr} {od3 an3 : Option Addr} {sl3 : Array (Option Value)} {oc3 kV3 dc3 pm3 cd3 ct3 : Value} (a3 : PySem.W.nsIn K mainGlobals "greatest_powers" = some (some (.ref f3))) (l3 : K.lookup f3 = some ⟨oc3, od3, .func (PySem.W.fnOf "greatest_powers" "greatest_powers" (defArgs s_greatest_powers) (defBody s_greatest_powers) (defScope s_greatest_powers) .none kV3 dc3 pm3 an3 cd3 ct3), sl3⟩) (c3 : PySem.W.codeIn K cd3 "greatest_powers" = true) (k3 : PySem.W.keepIn K (.ref f3) = true)
    {f4 : Addr} {od4 an4 : Option Addr} {sl4 : Array (Option Value)} {oc4 kV4 dc4 pm4 cd4 ct4 : Value} (a4 : PySem.W.nsIn K mainGlobals "_law_pot" = some (some (.ref f4))) (l4 : K.lookup f4 = some ⟨oc4, od4, .func (PySem.W.fnOf "_law_pot" "_law_pot" (defArgs s__law_pot) (defBody s__law_pot) (defScope s__law_pot) .none kV4 dc4 pm4 an4 cd4 ct4), sl4⟩) (c4 : PySem.W.codeIn K cd4 "_law_pot" = true) (k4 : PySem.W.keepIn K (.ref f4) = true)
    {f5 : Addr} {od5 an5 : Option Addr} {sl5 : Array (Option Value)} {oc5 kV5 dc5 pm5 cd5 ct5 : Value} (a5 : PySem.W.nsIn K mainGlobals "_law_draw" = some (some (.ref f5))) (l5 : K.lookup f5 = some ⟨oc5, od5, .func (PySem.W.fnOf "_law_draw" "_law_draw" (defArgs s__law_draw) (defBody s__law_draw) (defScope s__law_draw) .none kV5 dc5 pm5 an5 cd5 ct5), sl5⟩) (c5 : PySem.W.codeIn K cd5 "_law_draw" = true) (k5 : PySem.W.keepIn K (.ref f5) = true)
    {f6 : Addr} {od6 an6 : Option Addr} {sl6 : Array (Option Value)} {oc6 kV6 dc6 pm6 cd6 ct6 : Value} (a6 : PySem.W.nsIn K mainGlobals "_law_told" = some (some (.ref f6))) (l6 : K.lookup f6 = some ⟨oc6, od6, .func (PySem.W.fnOf "_law_told" "_law_told" (defArgs s__law_told) (defBody s__law_told) (defScope s__law_told) .none kV6 dc6 pm6 an6 cd6 ct6), sl6⟩) (c6 : PySem.W.codeIn K cd6 "_law_told" = true) (k6 : PySem.W.keepIn K (.ref f6) = true)
    {f7 : Addr} {od7 an7 : Option Addr} {sl7 : Array (Option Value)} {oc7 kV7 dc7 pm7 cd7 ct7 : Value} (a7 : PySem.W.nsIn K mainGlobals "is_count" = some (some (.ref f7))) (l7 : K.lookup f7 = some ⟨oc7, od7, .func (PySem.W.fnOf "is_count" "is_count" (defArgs s_is_count) (defBody s_is_count) (defScope s_is_count) .none kV7 dc7 pm7 an7 cd7 ct7), sl7⟩) (c7 : PySem.W.codeIn K cd7 "is_count" = true) (k7 : PySem.W.keepIn K (.ref f7) = true)
    {f8 : Addr} {od8 an8 : Option Addr} {sl8 : Array (Option Value)} {oc8 kV8 dc8 pm8 cd8 ct8 : Value} (a8 : PySem.W.nsIn K mainGlobals "plane_in" = some (some (.ref f8))) (l8 : K.lookup f8 = some ⟨oc8, od8, .func (PySem.W.fnOf "plane_in" "plane_in" (defArgs s_plane_in) (defBody s_plane_in) (defScope s_plane_in) .none kV8 dc8 pm8 an8 cd8 ct8), sl8⟩) (c8 : PySem.W.codeIn K cd8 "plane_in" = true) (k8 : PySem.W.keepIn K (.ref f8) = true)
    {f9 : Addr} {od9 an9 : Option Addr} {sl9 : Array (Option Value)} {oc9 kV9 dc9 pm9 cd9 ct9 : Value} (a9 : PySem.W.nsIn K mainGlobals "is_plane" = some (some (.ref f9))) (l9 : K.lookup f9 = some ⟨oc9, od9, .func (PySem.W.fnOf "is_plane" "is_plane" (defArgs s_is_plane) (defBody s_is_plane) (defScope s_is_plane) .none kV9 dc9 pm9 an9 cd9 ct9), sl9⟩) (c9 : PySem.W.codeIn K cd9 "is_plane" = true) (k9 : PySem.W.keepIn K (.ref f9) = true)
    {f10 : Addr} {od10 an10 : Option Addr} {sl10 : Array (Option Value)} {oc10 kV10 dc10 pm10 cd10 ct10 : Value} (a10 : PySem.W.nsIn K mainGlobals "form_in" = some (some (.ref f10))) (l10 : K.lookup f10 = some ⟨oc10, od10, .func (PySem.W.fnOf "form_in" "form_in" (defArgs s_form_in) (defBody s_form_in) (defScope s_form_in) .none kV10 dc10 pm10 an10 cd10 ct10), sl10⟩) (c10 : PySem.W.codeIn K cd10 "form_in" = true) (k10 : PySem.W.keepIn K (.ref f10) = true)
    {f11 : Addr} {od11 an11 : Option Addr} {sl11 : Array (Option Value)} {oc11 kV11 dc11 pm11 cd11 ct11 : Value} (a11 : PySem.W.nsIn K mainGlobals "is_form" = some (some (.ref f11))) (l11 : K.lookup f11 = some ⟨oc11, od11, .func (PySem.W.fnOf "is_form" "is_form" (defArgs s_is_form) (defBody s_is_form) (defScope s_is_form) .none kV11 dc11 pm11 an11 cd11 ct11), sl11⟩) (c11 : PySem.W.codeIn K cd11 "is_form" = true) (k11 : PySem.W.keepIn K (.ref f11) = true)
    {f12 : Addr} {od12 an12 : Option Addr} {sl12 : Array (Option Value)} {oc12 kV12 dc12 pm12 cd12 ct12 : Value} (a12 : PySem.W.nsIn K mainGlobals "_law_due" = some (some (.ref f12))) (l12 : K.lookup f12 = some ⟨oc12, od12, .func (PySem.W.fnOf "_law_due" "_law_due" (defArgs s__law_due) (defBody s__law_due) (defScope s__law_due) .none kV12 dc12 pm12 an12 cd12 ct12), sl12⟩) (c12 : PySem.W.codeIn K cd12 "_law_due" = true) (k12 : PySem.W.keepIn K (.ref f12) = true)
    {f13 : Addr} {od13 an13 : Option Addr} {sl13 : Array (Option Value)} {oc13 kV13 dc13 pm13 cd13 ct13 : Value} (a13 : PySem.W.nsIn K mainGlobals "_law_right" = some (some (.ref f13))) (l13 : K.lookup f13 = some ⟨oc13, od13, .func (PySem.W.fnOf "_law_right" "_law_right" (defArgs s__law_right) (defBody s__law_right) (defScope s__law_right) .none kV13 dc13 pm13 an13 cd13 ct13), sl13⟩) (c13 : PySem.W.codeIn K cd13 "_law_right" = true) (k13 : PySem.W.keepIn K (.ref f13) = true)
    {f14 : Addr} {od14 an14 : Option Addr} {sl14 : Array (Option Value)} {oc14 kV14 dc14 pm14 cd14 ct14 : Value} (a14 : PySem.W.nsIn K mainGlobals "law" = some (some (.ref f14))) (l14 : K.lookup f14 = some ⟨oc14, od14, .func (PySem.W.fnOf "law" "law" (defArgs s_law) (defBody s_law) (defScope s_law) .none kV14 dc14 pm14 an14 cd14 ct14), sl14⟩) (c14 : PySem.W.codeIn K cd14 "law" = true) (k14 : PySem.W.keepIn K (.ref f14) = true)
    {t_MOST_DEGREE : Tok} (e_MOST_DEGREE : PySem.W.nsIn K mainGlobals "MOST_DEGREE" = some (some (.int 8 t_MOST_DEGREE)))
    {t_MOST_POWERS : Tok} (e_MOST_POWERS : PySem.W.nsIn K mainGlobals "MOST_POWERS" = some (some (.int 8 t_MOST_POWERS)))
    (z_abs : PySem.W.nsIn K mainGlobals "abs" = some none)
    (z_all : PySem.W.nsIn K mainGlobals "all" = some none)
    (z_bool : PySem.W.nsIn K mainGlobals "bool" = some none)
    (z_divmod : PySem.W.nsIn K mainGlobals "divmod" = some none)
    (z_enumerate : PySem.W.nsIn K mainGlobals "enumerate" = some none)
    (z_int : PySem.W.nsIn K mainGlobals "int" = some none)
    (z_isinstance : PySem.W.nsIn K mainGlobals "isinstance" = some none)
    (z_len : PySem.W.nsIn K mainGlobals "len" = some none)
    (z_list : PySem.W.nsIn K mainGlobals "list" = some none)
    (z_max : PySem.W.nsIn K mainGlobals "max" = some none)
    (z_range : PySem.W.nsIn K mainGlobals "range" = some none)
    (z_repr : PySem.W.nsIn K mainGlobals "repr" = some none)
    (z_str : PySem.W.nsIn K mainGlobals "str" = some none)
    (z_tuple : PySem.W.nsIn K mainGlobals "tuple" = some none) :
    ∃ fd : FuncData, (∀ (s : Shared) (v : Value), BindsTo s fd ⟨[v], []⟩ [("_law_script", v)]) ∧ ∀ base : Heap, K.In base → base.Ns mainGlobals mg → FnG l.prog w K mg base 6 fa fd ["_law_script"] (spF K 1 m_law) := by
  have e := hfa.symm.trans (PySem.W.mg_of X G a14)
  cases e
  let T : Tx K mg := { a_is_integer := _, d_is_integer := _, f_is_integer := fun_mk (st := s_is_integer) l1 c1 k1, g_is_integer := PySem.W.mg_of X G a1, a_is_list := _, d_is_list := _, f_is_list := fun_mk (st := s_is_list) l2 c2 k2, g_is_list := PySem.W.mg_of X G a2, a_greatest_powers := _, d_greatest_powers := _, f_greatest_powers := fun_mk (st := s_greatest_powers) l3 c3 k3, g_greatest_powers := PySem.W.mg_of X G a3, a__law_pot := _, d__law_pot := _, f__law_pot := fun_mk (st := s__law_pot) l4 c4 k4, g__law_pot := PySem.W.mg_of X G a4, a__law_draw := _, d__law_draw := _, f__law_draw := fun_mk (st := s__law_draw) l5 c5 k5, g__law_draw := PySem.W.mg_of X G a5, a__law_told := _, d__law_told := _, f__law_told := fun_mk (st := s__law_told) l6 c6 k6, g__law_told := PySem.W.mg_of X G a6, a_is_count := _, d_is_count := _, f_is_count := fun_mk (st := s_is_count) l7 c7 k7, g_is_count := PySem.W.mg_of X G a7, a_plane_in := _, d_plane_in := _, f_plane_in := fun_mk (st := s_plane_in) l8 c8 k8, g_plane_in := PySem.W.mg_of X G a8, a_is_plane := _, d_is_plane := _, f_is_plane := fun_mk (st := s_is_plane) l9 c9 k9, g_is_plane := PySem.W.mg_of X G a9, a_form_in := _, d_form_in := _, f_form_in := fun_mk (st := s_form_in) l10 c10 k10, g_form_in := PySem.W.mg_of X G a10, a_is_form := _, d_is_form := _, f_is_form := fun_mk (st := s_is_form) l11 c11 k11, g_is_form := PySem.W.mg_of X G a11, a__law_due := _, d__law_due := _, f__law_due := fun_mk (st := s__law_due) l12 c12 k12, g__law_due := PySem.W.mg_of X G a12, a__law_right := _, d__law_right := _, f__law_right := fun_mk (st := s__law_right) l13 c13 k13, g__law_right := PySem.W.mg_of X G a13, a_law := _, d_law := _, f_law := fun_mk (st := s_law) l14 c14 k14, g_law := PySem.W.mg_of X G a14, u_MOST_DEGREE := _, e_MOST_DEGREE := PySem.W.mg_of X G e_MOST_DEGREE, r_MOST_DEGREE := ⟨_, rfl⟩, u_MOST_POWERS := _, e_MOST_POWERS := PySem.W.mg_of X G e_MOST_POWERS, r_MOST_POWERS := ⟨_, rfl⟩, z_abs := PySem.W.mg_none_of X G z_abs, z_all := PySem.W.mg_none_of X G z_all, z_bool := PySem.W.mg_none_of X G z_bool, z_divmod := PySem.W.mg_none_of X G z_divmod, z_enumerate := PySem.W.mg_none_of X G z_enumerate, z_int := PySem.W.mg_none_of X G z_int, z_isinstance := PySem.W.mg_none_of X G z_isinstance, z_len := PySem.W.mg_none_of X G z_len, z_list := PySem.W.mg_none_of X G z_list, z_max := PySem.W.mg_none_of X G z_max, z_range := PySem.W.mg_none_of X G z_range, z_repr := PySem.W.mg_none_of X G z_repr, z_str := PySem.W.mg_none_of X G z_str, z_tuple := PySem.W.mg_none_of X G z_tuple }
  exact ⟨T.d_law, fun s v => .of_eq rfl, fun base _ _ => ok_law T⟩
end K84
end
set_option maxRecDepth 100000
open PySem PySem.W PyProof.Rows
set_option maxHeartbeats 0 in
theorem PySem.Challenge.cw_curvepieces_k84_any_value_as_form_holds : PySem.Challenge.rw_curvepieces_k84_any_value_as_form.Holds := by
  w_on; o_law; k_head; (case hw => w_witness2)
  k_fill
  refine DL.walk_ofG (l := PySem.Challenge.rw_curvepieces_k84_any_value_as_form) (n := 63) (k := 6) (x := "_law_script") (F := K84.m_law) rfl (by decide) rfl ⟨rfl, by decide, by decide⟩ (fun w h Y => PySem.W.kIn_of Y) ?F K84.law_true
  case F =>
    intro w mg fa h KX G hmg
    refine' K84.all_mk KX G hmg ?a1 ?l1 ?c1 ?k1 ?a2 ?l2 ?c2 ?k2 ?a3 ?l3 ?c3 ?k3 ?a4 ?l4 ?c4 ?k4 ?a5 ?l5 ?c5 ?k5 ?a6 ?l6 ?c6 ?k6 ?a7 ?l7 ?c7 ?k7 ?a8 ?l8 ?c8 ?k8 ?a9 ?l9 ?c9 ?k9 ?a10 ?l10 ?c10 ?k10 ?a11 ?l11 ?c11 ?k11 ?a12 ?l12 ?c12 ?k12 ?a13 ?l13 ?c13 ?k13 ?a14 ?l14 ?c14 ?k14 ?e_MOST_DEGREE ?e_MOST_POWERS ?z_abs ?z_all ?z_bool ?z_divmod ?z_enumerate ?z_int ?z_isinstance ?z_len ?z_list ?z_max ?z_range ?z_repr ?z_str ?z_tuple
    (case a1 => k_is); (case l1 => k_is); (case c1 => k_is); (case k1 => k_is); (case a2 => k_is); (case l2 => k_is); (case c2 => k_is); (case k2 => k_is); (case a3 => k_is); (case l3 => k_is); (case c3 => k_is); (case k3 => k_is); (case a4 => k_is); (case l4 => k_is); (case c4 => k_is); (case k4 => k_is); (case a5 => k_is); (case l5 => k_is); (case c5 => k_is); (case k5 => k_is); (case a6 => k_is); (case l6 => k_is); (case c6 => k_is); (case k6 => k_is); (case a7 => k_is); (case l7 => k_is); (case c7 => k_is); (case k7 => k_is); (case a8 => k_is); (case l8 => k_is); (case c8 => k_is); (case k8 => k_is); (case a9 => k_is); (case l9 => k_is); (case c9 => k_is); (case k9 => k_is); (case a10 => k_is); (case l10 => k_is); (case c10 => k_is); (case k10 => k_is); (case a11 => k_is); (case l11 => k_is); (case c11 => k_is); (case k11 => k_is); (case a12 => k_is); (case l12 => k_is); (case c12 => k_is); (case k12 => k_is); (case a13 => k_is); (case l13 => k_is); (case c13 => k_is); (case k13 => k_is); (case a14 => k_is); (case l14 => k_is); (case c14 => k_is); (case k14 => k_is); (case e_MOST_DEGREE => k_is); (case e_MOST_POWERS => k_is); (case z_abs => k_is); (case z_all => k_is); (case z_bool => k_is); (case z_divmod => k_is); (case z_enumerate => k_is); (case z_int => k_is); (case z_isinstance => k_is); (case z_len => k_is); (case z_list => k_is); (case z_max => k_is); (case z_range => k_is); (case z_repr => k_is); (case z_str => k_is); (case z_tuple => k_is)
