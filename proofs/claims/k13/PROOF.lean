import PyProof.Rows.All
import Wide.All
import OpenK.AllK
import Wide.FinOn
import HandS.ForMost
import HandS.IsInst
import HandS.Wide
import HandS.WideBits
import HandS.Defaults
import PyProof.ReprRoads
import HandS.TupAny
import HandS.Style
import HandS.Zip
import HandS.EndBits
import KE.GoesMore
import KE.GoesEnum
import HandS.TryOnly
import PySem.Challenge.RW_curvepieces_k13_whole_resultants_two_way
set_option Elab.async false
set_option linter.all false
section
set_option maxRecDepth 100000
set_option maxHeartbeats 4000000
/-! data layer: values as trees, frames as lists of slots -/
namespace DL
open PySem PySem.Spec L2
open PyProof.Rows hiding St

abbrev D := PyData
abbrev Fg := PySem.W.Frag

def keyD : Key → D
  | .inl i => .int i
  | .inr x => .str x

mutual
inductive Tr (K : Fg) (H : Hp) : V → D → Prop
  | non : Tr K H .non .none
  | bl (b : Bool) : Tr K H (.bl b) (.bool b)
  | int (i : Int) : Tr K H (.int i) (.int i)
  | str (x : Str) : Tr K H (.str x) (.str x)
  | lst {a : Addr} {xs : List V} {ds : List D} : H a = some (.lst xs) → TrAll K H xs ds → Tr K H (.ref a) (.list ds)
  | tup {a : Addr} {xs : List V} {ds : List D} : SqT K H a xs → TrAll K H xs ds → Tr K H (.ref a) (.tuple ds)
  | dic {a : Addr} {kvs : List (Key × V)} {es : List (D × D)} : H a = some (.dK kvs) → TrKV K H kvs es → Tr K H (.ref a) (.dict es)
  | scr {a : Addr} {ns : List Int} : SqL K H a (ns.map V.int) → Tr K H (.ref a) (.dict [(.none, .list (ns.map .int))])
inductive TrAll (K : Fg) (H : Hp) : List V → List D → Prop
  | nil : TrAll K H [] []
  | cons {v : V} {vs : List V} {d : D} {ds : List D} : Tr K H v d → TrAll K H vs ds → TrAll K H (v :: vs) (d :: ds)
inductive TrKV (K : Fg) (H : Hp) : List (Key × V) → List (D × D) → Prop
  | nil : TrKV K H [] []
  | cons {k : Key} {v : V} {vs : List (Key × V)} {d : D} {ds : List (D × D)} : Tr K H v d → TrKV K H vs ds → TrKV K H ((k, v) :: vs) ((keyD k, d) :: ds)
end

theorem Same.tup {K : Fg} {H H' : Hp} {a : Addr} {xs : List V} (e : Same H H') (h : SqT K H a xs) : SqT K H' a xs := by
  rcases h with (h | ⟨o, h⟩) | h
  · exact .inl (.inl (e _ _ h))
  · exact .inl (.inr ⟨o, e _ _ h⟩)
  · exact .inr h
theorem Same.rd {H H' : Hp} {a : Addr} {u : HO} (e : Same H H') (h : Rd H a u) : Rd H' a u := by
  rcases h with h | ⟨o, h⟩
  · exact .inl (e _ _ h)
  · exact .inr ⟨o, e _ _ h⟩

mutual
theorem Tr.mono {K : Fg} {H H' : Hp} (s : Same H H') : ∀ {v : V} {d : D}, Tr K H v d → Tr K H' v d
  | _, _, .non => .non
  | _, _, .bl b => .bl b
  | _, _, .int i => .int i
  | _, _, .str x => .str x
  | _, _, .lst a b => .lst (s _ _ a) (TrAll.mono s b)
  | _, _, .tup a b => .tup (Same.tup s a) (TrAll.mono s b)
  | _, _, .dic a b => .dic (s _ _ a) (TrKV.mono s b)
  | _, _, .scr a => .scr (s.seq a)
theorem TrAll.mono {K : Fg} {H H' : Hp} (s : Same H H') : ∀ {v : List V} {d : List D}, TrAll K H v d → TrAll K H' v d
  | _, _, .nil => .nil
  | _, _, .cons a b => .cons (Tr.mono s a) (TrAll.mono s b)
theorem TrKV.mono {K : Fg} {H H' : Hp} (s : Same H H') : ∀ {v : List (Key × V)} {d : List (D × D)}, TrKV K H v d → TrKV K H' v d
  | _, _, .nil => .nil
  | _, _, .cons a b => .cons (Tr.mono s a) (TrKV.mono s b)
end

section
variable {K : Fg} {H : Hp}
theorem TrAll.len : ∀ {vs : List V} {ds : List D}, TrAll K H vs ds → vs.length = ds.length
  | _, _, .nil => rfl
  | _, _, .cons _ b => by simp [TrAll.len b]
theorem TrAll.get : ∀ {vs : List V} {ds : List D} {i : Nat} {d : D}, TrAll K H vs ds → ds[i]? = some d → ∃ v, vs[i]? = some v ∧ Tr K H v d
  | _, _, _, _, .nil, h => by simp at h
  | _, _, 0, _, .cons a _, h => by
    simp only [List.getElem?_cons_zero, Option.some.injEq] at h
    subst h
    exact ⟨_, rfl, a⟩
  | _, _, i + 1, _, .cons _ b, h => by
    simp only [List.getElem?_cons_succ] at h
    obtain ⟨v, e, t⟩ := TrAll.get b h
    exact ⟨v, by simpa using e, t⟩
theorem TrAll.getV : ∀ {vs : List V} {ds : List D} {i : Nat} {v : V}, TrAll K H vs ds → vs[i]? = some v → ∃ d, ds[i]? = some d ∧ Tr K H v d
  | _, _, _, _, .nil, h => by simp at h
  | _, _, 0, _, .cons a _, h => by
    simp only [List.getElem?_cons_zero, Option.some.injEq] at h
    subst h
    exact ⟨_, rfl, a⟩
  | _, _, i + 1, _, .cons _ b, h => by
    simp only [List.getElem?_cons_succ] at h
    obtain ⟨v, e, t⟩ := TrAll.getV b h
    exact ⟨v, by simpa using e, t⟩
theorem TrAll.append : ∀ {vs ws : List V} {ds es : List D}, TrAll K H vs ds → TrAll K H ws es → TrAll K H (vs ++ ws) (ds ++ es)
  | _, _, _, _, .nil, h => h
  | _, _, _, _, .cons a b, h => .cons a (TrAll.append b h)
theorem TrAll.take (n : Nat) : ∀ {vs : List V} {ds : List D}, TrAll K H vs ds → TrAll K H (vs.take n) (ds.take n) := by
  induction n with
  | zero => intro _ _ _; exact .nil
  | succ n ih =>
    intro vs ds h
    cases h with
    | nil => exact .nil
    | cons a b => exact .cons a (ih b)
theorem TrAll.drop (n : Nat) : ∀ {vs : List V} {ds : List D}, TrAll K H vs ds → TrAll K H (vs.drop n) (ds.drop n) := by
  induction n with
  | zero => intro _ _ h; exact h
  | succ n ih =>
    intro vs ds h
    cases h with
    | nil => exact .nil
    | cons a b => exact ih b
theorem TrAll.set {v : V} {d : D} (t : Tr K H v d) : ∀ {vs : List V} {ds : List D} (i : Nat), TrAll K H vs ds → TrAll K H (vs.set i v) (ds.set i d)
  | _, _, _, .nil => .nil
  | _, _, 0, .cons _ b => .cons t b
  | _, _, i + 1, .cons a b => .cons a (TrAll.set t i b)
theorem TrAll.reverse : ∀ {vs : List V} {ds : List D}, TrAll K H vs ds → TrAll K H vs.reverse ds.reverse
  | _, _, .nil => .nil
  | _, _, .cons a b => by
    rw [List.reverse_cons, List.reverse_cons]
    exact TrAll.append (TrAll.reverse b) (.cons a .nil)
theorem TrAll.replicate {vs : List V} {ds : List D} (h : TrAll K H vs ds) : ∀ n : Nat, TrAll K H (List.replicate n vs).flatten (List.replicate n ds).flatten
  | 0 => .nil
  | n + 1 => by
    rw [List.replicate_succ, List.replicate_succ, List.flatten_cons, List.flatten_cons]
    exact TrAll.append h (TrAll.replicate h n)
theorem TrAll.ints : ∀ {ns : List Int}, TrAll K H (ns.map V.int) (ns.map PyData.int)
  | [] => .nil
  | n :: r => .cons (.int n) TrAll.ints
end

theorem keyD_ne (k : Key) : keyD k ≠ .none := by cases k <;> exact fun h => nomatch h
theorem TrKV.key {K : Fg} {H : Hp} : ∀ {kvs : List (Key × V)} {es : List (D × D)}, TrKV K H kvs es → ∀ p ∈ es, p.1 ≠ .none
  | _, _, .nil, p, h => by cases h
  | _, _, .cons (k := k) (ds := ds) a b, p, h => by
    rcases List.mem_cons.mp h with h | h
    · rw [h]; exact keyD_ne k
    · exact TrKV.key b p h
/-- the root of a value in H, what hangs on it in G -/
inductive View (K : Fg) (G H : Hp) : V → D → Prop
  | sc {v : V} {d : D} : Tr K G v d → View K G H v d
  | lst {a : Addr} {xs : List V} {ds : List D} : H a = some (.lst xs) → TrAll K G xs ds → View K G H (.ref a) (.list ds)
  | dic {a : Addr} {kvs : List (Key × V)} {es : List (D × D)} : H a = some (.dK kvs) → TrKV K G kvs es → View K G H (.ref a) (.dict es)

section
variable {K : Fg} {G H : Hp}
theorem View.tr (s : Same G H) {v : V} {d : D} (h : View K G H v d) : Tr K H v d := by
  cases h with
  | sc h => exact Tr.mono s h
  | lst a b => exact .lst a (TrAll.mono s b)
  | dic a b => exact .dic a (TrKV.mono s b)
theorem View.list (s : Same G H) {v : V} {ds : List D} (h : View K G H v (.list ds)) : ∃ a xs, v = .ref a ∧ H a = some (.lst xs) ∧ TrAll K G xs ds := by
  cases h with
  | sc h =>
    cases h with
    | lst a b => exact ⟨_, _, rfl, s _ _ a, b⟩
  | lst a b => exact ⟨_, _, rfl, a, b⟩
theorem View.tuple (s : Same G H) {v : V} {ds : List D} (h : View K G H v (.tuple ds)) : ∃ a xs, v = .ref a ∧ SqT K H a xs ∧ TrAll K G xs ds := by
  cases h with
  | sc h =>
    cases h with
    | tup a b => exact ⟨_, _, rfl, Same.tup s a, b⟩
/-- the script: a list of ints that is read alone -/
def scrD (ns : List Int) : D := .dict [(.none, .list (ns.map .int))]
theorem ints_inj : ∀ {a b : List Int}, a.map PyData.int = b.map PyData.int → a = b
  | [], [], _ => rfl
  | [], _ :: _, h => by cases h
  | _ :: _, [], h => by cases h
  | x :: a, y :: b, h => by
    rw [List.map_cons, List.map_cons] at h
    injection h with h1 h2
    injection h1 with h1
    rw [h1, ints_inj h2]
theorem View.scr (s : Same G H) {v : V} {ns : List Int} (h : View K G H v (scrD ns)) : ∃ a, v = .ref a ∧ SqL K H a (ns.map V.int) := by
  unfold scrD at h
  generalize hz : (PyData.dict [(.none, .list (ns.map .int))]) = z at h
  cases h with
  | sc h =>
    cases h with
    | dic a b =>
      injection hz with hz
      subst hz
      exact (TrKV.key b _ List.mem_cons_self rfl).elim
    | scr a =>
      injection hz with hz
      injection hz with hz
      injection hz with _ hz
      injection hz with hz
      rw [ints_inj hz]
      exact ⟨_, rfl, s.seq a⟩
    | _ => cases hz
  | lst a b => cases hz
  | dic a b =>
    injection hz with hz
    subst hz
    exact (TrKV.key b _ List.mem_cons_self rfl).elim
theorem View.tupT {v : V} {ds : List D} (h : View K G H v (.tuple ds)) : Tr K G v (.tuple ds) := by cases h with | sc h => exact h
theorem View.up {H' : Hp} (s : Same H H') {v : V} {d : D} (h : View K G H v d) : View K G H' v d := by
  cases h with
  | sc h => exact .sc h
  | lst a b => exact .lst (s _ _ a) b
  | dic a b => exact .dic (s _ _ a) b
theorem View.int {v : V} {i : Int} (h : View K G H v (.int i)) : v = .int i := by
  cases h with | sc h => cases h; rfl
theorem View.bool {v : V} {b : Bool} (h : View K G H v (.bool b)) : v = .bl b := by
  cases h with | sc h => cases h; rfl
theorem View.str {v : V} {x : Str} (h : View K G H v (.str x)) : v = .str x := by
  cases h with | sc h => cases h; rfl
theorem View.none {v : V} (h : View K G H v .none) : v = .non := by
  cases h with | sc h => cases h; rfl
end

/-- the heap has grown -/
structure Ex (G H G' H' : Hp) : Prop where
  g : Same G G'
  gh : Same G' H'
  h : Same H H'
  nw : ∀ a o, G' a = some o → G a = none → H a = none
theorem Ex.refl {G H : Hp} (s : Same G H) : Ex G H G H := ⟨Same.refl _, s, Same.refl _, fun a o h n => by rw [h] at n; cases n⟩
theorem same_upd {H : Hp} {p : Addr} {o : HO} (free : H p = none) : Same H (upd H p o) := fun b x e => by
  rw [upd_ne (ne_of_none e free)]
  exact e
theorem Ex.push {G H : Hp} (s : Same G H) {p : Addr} (o : HO) (h : H p = none) : Ex G H G (upd H p o) := ⟨Same.refl _, s.trans (same_upd h), same_upd h, fun a o h n => by rw [h] at n; cases n⟩
theorem same_upd2 {G H : Hp} (s : Same G H) {p : Addr} {o : HO} : Same (upd G p o) (upd H p o) := fun b x e => by
  by_cases hb : b = p
  · subst hb
    rw [upd_same] at e ⊢
    exact e
  · rw [upd_ne hb] at e ⊢
    exact s _ _ e
theorem Ex.pushF {G H : Hp} (s : Same G H) {p : Addr} (o : HO) (h : H p = none) : Ex G H (upd G p o) (upd H p o) where
  g := same_upd (s.free h)
  gh := same_upd2 s
  h := same_upd h
  nw := fun a u e n => by
    by_cases hb : a = p
    · rw [hb]; exact h
    · rw [upd_ne hb] at e
      rw [e] at n
      cases n
/-- an object of H is given to G -/
theorem Ex.give {G H : Hp} (s : Same G H) {p : Addr} {o : HO} (h : H p = some o) : Same (upd G p o) H := fun b x e => by
  by_cases hb : b = p
  · subst hb
    rw [upd_same] at e
    rw [h]
    exact e
  · rw [upd_ne hb] at e
    exact s _ _ e

/-- a slot: unset; a tree that stays; a list, a dict of one's own (b: handed in, given back) -/
inductive Sl where
  | un
  | dat (d : D)
  | own (b : Bool) (d : D)
inductive Val where
  | fz (d : D)
  | ow (d : D)
  | sl (i : Nat)
abbrev DS := List Sl
abbrev Me (α : Type) := DS → Option (α × DS)

structure Bs where
  G0 : Hp
  H0 : Hp
  io : List (Nat × Addr)
  lo : Addr → Prop

inductive Root (K : Fg) (G H : Hp) (a : Addr) : D → Prop
  | lst {xs : List V} {ds : List D} : H a = some (.lst xs) → TrAll K G xs ds → Root K G H a (.list ds)
  | dic {kvs : List (Key × V)} {es : List (D × D)} : H a = some (.dK kvs) → TrKV K G kvs es → Root K G H a (.dict es)
theorem Root.mono {K : Fg} {G H G' H' : Hp} (s : Same G G') {a : Addr} (e : ∀ o, H a = some o → H' a = some o) {d : D} (h : Root K G H a d) : Root K G' H' a d := by
  cases h with
  | lst x y => exact .lst (e _ x) (TrAll.mono s y)
  | dic x y => exact .dic (e _ x) (TrKV.mono s y)
theorem Root.ex {K : Fg} {G H : Hp} {a : Addr} {d : D} (h : Root K G H a d) : ∃ o, H a = some o := by
  cases h with
  | lst x y => exact ⟨_, x⟩
  | dic x y => exact ⟨_, x⟩
theorem Root.view {K : Fg} {G H : Hp} {a : Addr} {d : D} (h : Root K G H a d) : View K G H (.ref a) d := by
  cases h with
  | lst x y => exact .lst x y
  | dic x y => exact .dic x y
/-- given to G the root is a tree -/
theorem Root.give {K : Fg} {G H : Hp} {a : Addr} {d : D} (s : Same G H) (n : G a = none) (h : Root K G H a d) : ∃ o, H a = some o ∧ Tr K (upd G a o) (.ref a) d := by
  cases h with
  | lst x y => exact ⟨_, x, .lst upd_same (TrAll.mono (same_upd n) y)⟩
  | dic x y => exact ⟨_, x, .dic upd_same (TrKV.mono (same_upd n) y)⟩

structure RelS (K : Fg) (B : Bs) (G H : Hp) (δ : DS) (σ : L2.St) : Prop where
  len : δ.length = σ.length
  same : Same G H
  g0 : Same B.G0 G
  nw : ∀ a o, G a = some o → B.G0 a = none → (B.H0 a = none ∨ B.lo a)
  frame : ∀ b o, B.H0 b = some o → (∀ p ∈ B.io, p.2 ≠ b) → ¬ B.lo b → H b = some o
  dom : ∀ b o, B.H0 b = some o → ∃ o', H b = some o'
  iod : ∀ p ∈ B.io, ∃ o, B.H0 p.2 = some o
  dat : ∀ (i : Nat) (d : D), δ[i]? = some (.dat d) → ∃ v, σ[i]? = some (some v) ∧ Tr K G v d
  own : ∀ (i : Nat) (b : Bool) (d : D), δ[i]? = some (.own b d) → ∃ a, σ[i]? = some (some (V.ref a)) ∧ G a = none ∧ (if b = true then (i, a) ∈ B.io else (B.H0 a = none ∨ B.lo a)) ∧ Root K G H a d
  inj : ∀ (i j : Nat) (b b' : Bool) (a : Addr) (d d' : D), δ[i]? = some (.own b d) → δ[j]? = some (.own b' d') → σ[i]? = some (some (V.ref a)) → σ[j]? = some (some (V.ref a)) → i = j

section
variable {K : Fg} {B : Bs} {G H G' H' : Hp} {δ δ' : DS} {σ : L2.St}
theorem RelS.none0 (R : RelS K B G H δ σ) {a : Addr} (h : H a = none) : B.H0 a = none := by
  cases e : B.H0 a with
  | none => rfl
  | some o =>
    obtain ⟨o', e'⟩ := R.dom a o e
    rw [h] at e'
    cases e'
theorem RelS.ex (R : RelS K B G H δ σ) (x : Ex G H G' H') : RelS K B G' H' δ σ where
  len := R.len
  same := x.gh
  g0 := R.g0.trans x.g
  nw := fun a o e n => by
    cases q : G a with
    | some u => exact R.nw a u q n
    | none => exact .inl (R.none0 (x.nw a o e q))
  frame := fun b o e n l => x.h _ _ (R.frame b o e n l)
  iod := R.iod
  dom := fun b o e => by
    obtain ⟨o', e'⟩ := R.dom b o e
    exact ⟨o', x.h _ _ e'⟩
  dat := fun i d e => by
    obtain ⟨v, e1, t⟩ := R.dat i d e
    exact ⟨v, e1, Tr.mono x.g t⟩
  own := fun i b d e => by
    obtain ⟨a, e1, n, m, r⟩ := R.own i b d e
    refine ⟨a, e1, ?_, m, Root.mono x.g (fun o q => x.h _ _ q) r⟩
    cases q : G' a with
    | none => rfl
    | some o =>
      obtain ⟨o', e'⟩ := r.ex
      rw [x.nw a o q n] at e'
      cases e'
  inj := R.inj
end

/-- a value's relation -/
def RV (K : Fg) (B : Bs) (G H : Hp) (δ : DS) (σ : L2.St) : V → Val → Prop
  | v, .fz d => Tr K G v d
  | v, .sl i => σ[i]? = some (some v)
  | v, .ow d => ∃ a, v = .ref a ∧ G a = none ∧ (B.H0 a = none ∨ B.lo a) ∧ Root K G H a d ∧ ∀ (i : Nat) (b : Bool) (d' : D), δ[i]? = some (.own b d') → σ[i]? ≠ some (some (V.ref a))

def ownAt (δ : DS) (i : Nat) : Option D := match δ[i]? with
  | some (.own _ d) => some d
  | _ => none
def dv (δ : DS) : Val → Option D
  | .fz d => some d
  | .ow d => some d
  | .sl i => ownAt δ i
def fzv : Val → Val
  | .ow d => .fz d
  | v => v

def tOf (K : Fg) (B : Bs) (f : Me Val) : TE := fun σ H Q => ∃ G δ r δ', RelS K B G H δ σ ∧ f δ = some (r, δ') ∧
  ∀ v G' H', Same G G' → RelS K B G' H' δ' σ → RV K B G' H' δ' σ v r → Q v H'
def ttOf (K : Fg) (B : Bs) (f : Me Bool) : TT := fun σ H Q => ∃ G δ r δ', RelS K B G H δ σ ∧ f δ = some (r, δ') ∧
  ∀ G' H', Same G G' → RelS K B G' H' δ' σ → Q r H'
def RVs (K : Fg) (B : Bs) (G H : Hp) (δ : DS) (σ : L2.St) : List V → List Val → Prop := Paired fun v r => RV K B G H δ σ v (fzv r)
def taOf (K : Fg) (B : Bs) (f : Me (List Val)) : TA := fun σ H Q => ∃ G δ r δ', RelS K B G H δ σ ∧ f δ = some (r, δ') ∧
  ∀ vs G' H', Same G G' → RelS K B G' H' δ' σ → RVs K B G' H' δ' σ vs r → Q vs H'

abbrev DE (X : Cx) (B : Bs) (e : Expr) (f : Me Val) : Prop := PE X e (tOf X.K B f)
abbrev DT (X : Cx) (B : Bs) (e : Expr) (f : Me Bool) : Prop := PT X e (ttOf X.K B f)
abbrev DA (X : Cx) (B : Bs) (es : List Expr) (f : Me (List Val)) : Prop := PA X es (taOf X.K B f)

section
variable {K : Fg} {B : Bs} {G H G' H' : Hp} {δ δ' : DS} {σ : L2.St}
theorem RV.view (R : RelS K B G H δ σ) {v : V} {r : Val} {d : D} (h : RV K B G H δ σ v r) (e : dv δ r = some d) : View K G H v d := by
  cases r with
  | fz c =>
    cases e
    exact .sc h
  | ow c =>
    cases e
    obtain ⟨a, rfl, _, _, r, _⟩ := h
    exact r.view
  | sl i =>
    have e : ownAt δ i = some d := e
    unfold ownAt at e
    cases q : δ[i]? with
    | none => rw [q] at e; cases e
    | some s =>
      rw [q] at e
      cases s with
      | own b c =>
        cases e
        obtain ⟨a, e1, _, _, r⟩ := R.own i b _ q
        have h' : σ[i]? = some (some v) := h
        rw [e1] at h'
        cases h'
        exact r.view
      | un => cases e
      | dat c => cases e
/-- a new root is frozen -/
theorem RV.freeze (R : RelS K B G H δ σ) {v : V} {r : Val} (h : RV K B G H δ σ v r) : ∃ G', Same G G' ∧ RelS K B G' H δ σ ∧ RV K B G' H δ σ v (fzv r) := by
  cases r with
  | fz c => exact ⟨G, Same.refl _, R, h⟩
  | sl i => exact ⟨G, Same.refl _, R, h⟩
  | ow c =>
    obtain ⟨a, rfl, n, n0, r, u⟩ := h
    obtain ⟨o, e, t⟩ := r.give R.same n
    refine ⟨upd G a o, same_upd n, ⟨R.len, Ex.give R.same e, R.g0.trans (same_upd n), fun b p q m => ?_, R.frame, R.dom, R.iod, fun i d q => ?_, fun i b d q => ?_, R.inj⟩, t⟩
    · by_cases hb : b = a
      · rw [hb]; exact n0
      · rw [upd_ne hb] at q
        exact R.nw b p q m
    · obtain ⟨v, e1, t⟩ := R.dat i d q
      exact ⟨v, e1, Tr.mono (same_upd n) t⟩
    · obtain ⟨c, e1, m, k, r'⟩ := R.own i b d q
      have hc : c ≠ a := fun z => u i b d q (z ▸ e1)
      exact ⟨c, e1, by rw [upd_ne hc]; exact m, k, Root.mono (same_upd n) (fun _ z => z) r'⟩
theorem dv_fzv (δ : DS) (r : Val) : dv δ (fzv r) = dv δ r := by cases r <;> rfl
/-- what stays of a value that is no new root -/
theorem RV.stay {r : Val} {v : V} (s : Same G G') (h : RV K B G H δ σ v (fzv r)) : RV K B G' H' δ' σ v (fzv r) := by
  cases r with
  | fz c => exact Tr.mono s h
  | ow c => exact Tr.mono s h
  | sl i => exact h
end
end DL
end
section
set_option maxRecDepth 100000
set_option maxHeartbeats 4000000
namespace DL
open PySem PySem.Spec L2
open PyProof.Rows hiding St

def mr {α : Type} (a : α) : Me α := fun δ => some (a, δ)
def mb {α β : Type} (f : Me α) (g : α → Me β) : Me β := fun δ => match f δ with
  | some (a, δ') => g a δ'
  | none => none
theorem mb_some {α β : Type} {f : Me α} {g : α → Me β} {δ δ' : DS} {b : β} (h : mb f g δ = some (b, δ')) : ∃ a δ1, f δ = some (a, δ1) ∧ g a δ1 = some (b, δ') := by
  unfold mb at h
  cases q : f δ with
  | none => rw [q] at h; cases h
  | some p =>
    obtain ⟨a, δ1⟩ := p
    rw [q] at h
    exact ⟨a, δ1, rfl, h⟩
/-- a value reckoned of others, the frame as it is -/
def mo {α : Type} (f : DS → Option α) : Me α := fun δ => match f δ with
  | some a => some (a, δ)
  | none => none
theorem mo_some {α : Type} {f : DS → Option α} {δ δ' : DS} {b : α} (h : mo f δ = some (b, δ')) : f δ = some b ∧ δ' = δ := by
  unfold mo at h
  cases q : f δ with
  | none => rw [q] at h; cases h
  | some p => rw [q] at h; cases h; exact ⟨rfl, rfl⟩

theorem ite_some {α : Type} {c : Bool} {a r : α} (h : (if c = true then some a else none) = some r) : c = true ∧ a = r := by
  cases c with
  | true => rw [if_pos rfl] at h; exact ⟨rfl, Option.some.inj h⟩
  | false => rw [if_neg Bool.false_ne_true] at h; cases h
theorem PE.weak {X : Cx} {e : Expr} {t t' : TE} (h : PE X e t) (i : ∀ σ H Q, t' σ H Q → t σ H Q) : PE X e t' := ⟨fun pins s σ H Q I w => h.run pins s σ H Q I (i _ _ _ w)⟩
theorem PT.weak {X : Cx} {e : Expr} {t t' : TT} (h : PT X e t) (i : ∀ σ H Q, t' σ H Q → t σ H Q) : PT X e t' := ⟨fun pins s σ H Q I w => h.run pins s σ H Q I (i _ _ _ w)⟩
theorem PW.weak {X : Cx} {e : Expr} {t t' : TT} (h : PW X e t) (i : ∀ σ H Q, t' σ H Q → t σ H Q) : PW X e t' := ⟨fun wh pins s σ H Q I w => h.run wh pins s σ H Q I (i _ _ _ w)⟩
theorem PA.weak {X : Cx} {e : List Expr} {t t' : TA} (h : PA X e t) (i : ∀ σ H Q, t' σ H Q → t σ H Q) : PA X e t' := ⟨fun p pins s σ H Q I w => h.run p pins s σ H Q I (i _ _ _ w)⟩
theorem PS.weak {X : Cx} {e : Stmt} {t t' : TS} (h : PS X e t) (i : ∀ D σ H, t' D σ H → t D σ H) : PS X e t' := ⟨fun pins s σ H D I w => h.run pins s σ H D I (i _ _ _ w)⟩
theorem PSs.weak {X : Cx} {e : List Stmt} {t t' : TS} (h : PSs X e t) (i : ∀ D σ H, t' D σ H → t D σ H) : PSs X e t' := ⟨fun pins s σ H D I w => h.run pins s σ H D I (i _ _ _ w)⟩

section
variable {X : Cx} {B : Bs} {pos : Pos}

/-! ### names, constants -/
def nameM (i : Nat) : Me Val := fun δ => match δ[i]? with
  | some (.dat d) => some (.fz d, δ)
  | some (.own _ _) => some (.sl i, δ)
  | _ => none
theorem de_name (i : Nat) {x : Str} (hN : X.N[i]? = some x := by rfl) (hv : Vis X.env.scope x := by first | exact Or.inl rfl | exact Or.inr (Or.inl rfl) | exact Or.inr (Or.inr rfl)) (hd : (x == ("__debug__" : Str)) = false := by decide)
    (hcd : (x == ("__classdict__" : Str)) = false := by decide) : DE X B (.Name x pos) (nameM i) := by
  refine PE.weak (pe_var hN hv hd hcd) fun σ H Q h => ?_
  obtain ⟨G, δ, r, δ', R, e, k⟩ := h
  unfold nameM at e
  split at e
  · rename_i d q
    cases e
    obtain ⟨v, e1, t⟩ := R.dat i d q
    exact ⟨v, e1, k v G H (Same.refl _) R t⟩
  · rename_i b d q
    cases e
    obtain ⟨a, e1, _⟩ := R.own i b d q
    exact ⟨_, e1, k _ G H (Same.refl _) R e1⟩
  · cases e
def conM (d : D) : Me Val := fun δ => some (.fz d, δ)
theorem de_con {e : Expr} {v : V} {d : D} (h : PE X e (tC v)) (t : ∀ G : Hp, Tr X.K G v d) : DE X B e (conM d) := by
  refine PE.weak h fun σ H Q h => ?_
  obtain ⟨G, δ, r, δ', R, e, k⟩ := h
  cases e
  exact k v G H (Same.refl _) R (t G)
theorem de_int {i j} : DE X B (.Constant (.int i) j pos) (conM (.int i)) := de_con pe_int fun _ => .int i
theorem de_bl {i j} : DE X B (.Constant (.bool i) j pos) (conM (.bool i)) := de_con pe_bl fun _ => .bl i
theorem de_str {i j} : DE X B (.Constant (.str i) j pos) (conM (.str i)) := de_con pe_str fun _ => .str i
theorem de_non {j} : DE X B (.Constant .none j pos) (conM .none) := de_con pe_non fun _ => .non
/-- a module's int, text -/
theorem de_gint {x : Str} {n : Int} {u : Value} (hg : Gl X x) (hm : X.mg x = some u) (r : ∃ t, u = .int n t) (hd : (x == ("__debug__" : Str)) = false := by decide) : DE X B (.Name x pos) (conM (.int n)) := de_con (pe_glob (v := .int n) hg hm r hd) fun _ => .int n
theorem de_gstr {x : Str} {n : Str} {u : Value} (hg : Gl X x) (hm : X.mg x = some u) (r : ∃ t, u = .str n t) (hd : (x == ("__debug__" : Str)) = false := by decide) : DE X B (.Name x pos) (conM (.str n)) := de_con (pe_glob (v := .str n) hg hm r hd) fun _ => .str n

/-! ### operators -/
/-- a result: what a rule hands back -/
def RO (K : Fg) (G' H H' : Hp) (v : V) : Val → Prop
  | .fz d => Tr K G' v d
  | .ow d => ∃ a, v = .ref a ∧ H a = none ∧ G' a = none ∧ Root K G' H' a d
  | .sl _ => False
theorem RO.rv {K : Fg} {G H G' H' : Hp} {δ : DS} {σ : L2.St} (R : RelS K B G H δ σ) {v : V} {r : Val} (h : RO K G' H H' v r) : RV K B G' H' δ σ v r := by
  cases r with
  | fz d => exact h
  | sl i => exact h.elim
  | ow d =>
    obtain ⟨a, rfl, n, n', r⟩ := h
    refine ⟨a, rfl, n', .inl (R.none0 n), r, fun i b d' q z => ?_⟩
    obtain ⟨c, e1, _, _, r'⟩ := R.own i b d' q
    rw [e1] at z
    cases z
    obtain ⟨o, e⟩ := r'.ex
    rw [n] at e
    cases e
/-- flat: no address -/
def flat : D → Bool
  | .none => true
  | .bool _ => true
  | .int _ => true
  | .str _ => true
  | _ => false
theorem Tr.flat {K : Fg} {H H' : Hp} {v : V} {d : D} (h : Tr K H v d) (f : DL.flat d = true) : Tr K H' v d := by
  cases h with
  | non => exact .non
  | bl b => exact .bl b
  | int i => exact .int i
  | str x => exact .str x
  | lst _ _ => cases f
  | tup _ _ => cases f
  | dic _ _ => cases f
  | scr _ => cases f

def OpD (K : Fg) (r : R2) (h : D → D → Option Val) : Prop := ∀ (G H : Hp) (x y : V) (d e : D) (res : Val) (Q : VK), Same G H → View K G H x d → View K G H y e → h d e = some res →
  (∀ v G' H', Ex G H G' H' → RO K G' H H' v res → Q v H') → r x y H Q
def binM (h : D → D → Option Val) (f g : Me Val) : Me Val := mb f fun x => mb g fun y => mo fun δ => (dv δ x).bind fun a => (dv δ y).bind fun b => h a b
theorem tOp_of {K : Fg} {r : R2} {h : D → D → Option Val} {f g : Me Val} (hd : OpD K r h) : ∀ σ H Q, tOf K B (binM h f g) σ H Q → tOp r (tOf K B f) (tOf K B g) σ H Q := by
  intro σ H Q hq
  obtain ⟨G, δ, res, δ', R, e, k⟩ := hq
  obtain ⟨x, δ1, e1, e⟩ := mb_some e
  obtain ⟨y, δ2, e2, e⟩ := mb_some e
  obtain ⟨e3, rfl⟩ := mo_some e
  obtain ⟨a, ea, e3⟩ := Option.bind_eq_some_iff.mp e3
  obtain ⟨b, eb, e3⟩ := Option.bind_eq_some_iff.mp e3
  refine ⟨G, δ, x, δ1, R, e1, fun v G1 H1 s1 R1 v1 => ?_⟩
  obtain ⟨G1', s1', R1', v1'⟩ := v1.freeze R1
  refine ⟨G1', δ1, y, δ', R1', e2, fun w G2 H2 s2 R2 v2 => ?_⟩
  have v1'' := RV.stay (B := B) (G' := G2) (H' := H2) (δ' := δ') s2 v1'
  refine hd G2 H2 v w a b res Q R2.same (v1''.view R2 (by rw [dv_fzv]; exact ea)) (v2.view R2 eb) e3 fun u G' H' x ro => ?_
  exact k u G' H' (((s1.trans s1').trans s2).trans x.g) (R2.ex x) (ro.rv R2)
theorem de_op {a b : Expr} {op : Operator} {r : R2} {h : D → D → Option Val} {f g : Me Val} (ho : OpR X (binaryOp op) r) (hd : OpD X.K r h) (ha : DE X B a f) (hb : DE X B b g) : DE X B (.BinOp a op b pos) (binM h f g) :=
  PE.weak (pe_op ho ha hb) (tOp_of hd)
theorem de_cmp {a b : Expr} {op : CmpOp} {r : R2} {h : D → D → Option Val} {f g : Me Val} (ho : OpR X (compareOp op) r) (hd : OpD X.K r h) (ha : DE X B a f) (hb : DE X B b g) (hm : behindInMarks op b = false := by first | exact nomark _ | rfl) :
    DE X B (.Compare a [op] [b] pos) (binM h f g) := PE.weak (pe_cmpR ho ha hb hm) (tOp_of hd)
/-- a test's bool -/
def boolM (f : Me Val) : Me Bool := fun δ => match f δ with
  | some (.fz (.bool b), δ') => some (b, δ')
  | _ => none
theorem boolM_some {f : Me Val} {δ δ' : DS} {b : Bool} (h : boolM f δ = some (b, δ')) : f δ = some (.fz (.bool b), δ') := by
  unfold boolM at h
  split at h
  · rename_i b' δ1 q
    cases h
    exact q
  · cases h
theorem tTest_of {K : Fg} {f : Me Val} : ∀ σ H Q, ttOf K B (boolM f) σ H Q → tOf K B f σ H fun x H' => ∃ k, x = .bl k ∧ Q k H' := by
  intro σ H Q h
  obtain ⟨G, δ, r, δ', R, e, k⟩ := h
  refine ⟨G, δ, _, δ', R, boolM_some e, fun v G' H' s R' t => ?_⟩
  have t : Tr K G' v (.bool r) := t
  cases t
  exact ⟨r, rfl, k G' H' s R'⟩
theorem dt_cmp {a b : Expr} {op : CmpOp} {r : R2} {h : D → D → Option Val} {f g : Me Val} (ho : OpR X (compareOp op) r) (hd : OpD X.K r h) (ha : DE X B a f) (hb : DE X B b g) (hm : behindInMarks op b = false := by first | exact nomark _ | rfl) :
    DT X B (.Compare a [op] [b] pos) (boolM (binM h f g)) := PT.weak (pt_cmpR ho ha hb hm) fun σ H Q q => tOp_of hd σ H _ (tTest_of σ H Q q)
theorem dt_val {e : Expr} {f : Me Val} (h : DE X B e f) (he : ∀ whole, isTrue e X.env whole = (do let v ← whole; standAt e.pos; holding [v] (truthy v)) := by intro _; rfl) : DT X B e (boolM f) :=
  PT.weak (pt_val h he) fun σ H Q q => tTest_of σ H Q q
/-- unary -/
def UnD (K : Fg) (r : V → Hp → VK → Prop) (h : D → Option Val) : Prop := ∀ (G H : Hp) (x : V) (d : D) (res : Val) (Q : VK), Same G H → View K G H x d → h d = some res →
  (∀ v G' H', Ex G H G' H' → RO K G' H H' v res → Q v H') → r x H Q
def unM (h : D → Option Val) (f : Me Val) : Me Val := mb f fun x => mo fun δ => (dv δ x).bind h
theorem tUn_of {K : Fg} {r : V → Hp → VK → Prop} {h : D → Option Val} {f : Me Val} (hd : UnD K r h) : ∀ σ H Q, tOf K B (unM h f) σ H Q → tUn r (tOf K B f) σ H Q := by
  intro σ H Q hq
  obtain ⟨G, δ, res, δ', R, e, k⟩ := hq
  obtain ⟨x, δ1, e1, e⟩ := mb_some e
  obtain ⟨e3, rfl⟩ := mo_some e
  obtain ⟨a, ea, e3⟩ := Option.bind_eq_some_iff.mp e3
  refine ⟨G, δ, x, _, R, e1, fun v G1 H1 s1 R1 v1 => ?_⟩
  refine hd G1 H1 v a res Q R1.same (v1.view R1 ea) e3 fun u G' H' x ro => ?_
  exact k u G' H' (s1.trans x.g) (R1.ex x) (ro.rv R1)
theorem de_un {a : Expr} {op : UnaryOp} {r : V → Hp → VK → Prop} {h : D → Option Val} {f : Me Val} (ho : UnR X (unaryOp op) r) (hd : UnD X.K r h) (ha : DE X B a f) : DE X B (.UnaryOp op a pos) (unM h f) :=
  PE.weak (pe_un ho ha) (tUn_of hd)

/-! ### the operators by kinds -/
def intB (g : Int → Int → Option D) : D → D → Option Val
  | .int i, .int j => (g i j).map .fz
  | _, _ => none
theorem opd_int {K : Fg} {C : Int → Int → Prop} {g : Int → Int → V} {h : Int → Int → Option D} (hh : ∀ i j d, h i j = some d → C i j ∧ ∀ G, Tr K G (g i j) d) : OpD K (rI C g) (intB h) := by
  intro G H x y d e res Q s vx vy hr k
  cases d with
  | int i =>
    cases e with
    | int j =>
      obtain ⟨z, hz, rfl⟩ := Option.map_eq_some_iff.mp hr
      obtain ⟨c, t⟩ := hh i j z hz
      exact ⟨i, j, vx.int, vy.int, c, k _ G H (Ex.refl s) (t G)⟩
    | _ => cases hr
  | _ => cases hr
theorem opd_int0 {K : Fg} {g : Int → Int → V} {h : Int → Int → Option D} (hh : ∀ i j d, h i j = some d → ∀ G, Tr K G (g i j) d) : OpD K (rI0 g) (intB h) := by
  intro G H x y d e res Q s vx vy hr k
  cases d with
  | int i =>
    cases e with
    | int j =>
      obtain ⟨z, hz, rfl⟩ := Option.map_eq_some_iff.mp hr
      exact ⟨i, j, vx.int, vy.int, k _ G H (Ex.refl s) (hh i j z hz G)⟩
    | _ => cases hr
  | _ => cases hr
def addI : D → D → Option Val := intB fun i j => some (.int (i + j))
def subI : D → D → Option Val := intB fun i j => some (.int (i - j))
/-- both together below a million bits -/
def mulOk (i j : Int) : Bool := decide (i.natAbs.log2 + j.natAbs.log2 < 1000000)
def mulI : D → D → Option Val := intB fun i j => if mulOk i j then some (.int (i * j)) else none
def divOk (j : Int) : Bool := decide (0 < j) && decide (j.natAbs.log2 < 9000)
def fdivI : D → D → Option Val := intB fun i j => if divOk j then some (.int (i / j)) else none
def modI : D → D → Option Val := intB fun i j => if decide (0 < j) then some (.int (i % j)) else none
def ltI : D → D → Option Val := intB fun i j => some (.bool (decide (i < j)))
def leI : D → D → Option Val := intB fun i j => some (.bool (decide (i ≤ j)))
def gtI : D → D → Option Val := intB fun i j => some (.bool (decide (j < i)))
def geI : D → D → Option Val := intB fun i j => some (.bool (decide (j ≤ i)))
theorem od_add {K : Fg} : OpD K (rI0 fun i j => .int (i + j)) addI := opd_int0 fun i j d h G => by cases h; exact .int _
theorem od_sub {K : Fg} : OpD K (rI0 fun i j => .int (i - j)) subI := opd_int0 fun i j d h G => by cases h; exact .int _
theorem od_mul {K : Fg} : OpD K (rI CMulW fun i j => .int (i * j)) mulI := opd_int fun i j d h => by
  split at h
  · rename_i c
    cases h
    have c2 : i.natAbs.log2 + j.natAbs.log2 < 1000000 := of_decide_eq_true c
    exact ⟨c2, fun _ => .int _⟩
  · cases h
theorem od_fdiv {K : Fg} : OpD K (rI CDivW fun i j => .int (i / j)) fdivI := opd_int fun i j d h => by
  split at h
  · rename_i c
    cases h
    unfold divOk at c
    rw [Bool.and_eq_true] at c
    exact ⟨⟨of_decide_eq_true c.1, of_decide_eq_true c.2⟩, fun _ => .int _⟩
  · cases h
theorem od_mod {K : Fg} : OpD K (rI (fun _ j => 0 < j) fun i j => .int (i % j)) modI := opd_int fun i j d h => by
  split at h
  · rename_i c
    cases h
    exact ⟨of_decide_eq_true c, fun _ => .int _⟩
  · cases h
theorem od_lt {K : Fg} : OpD K (rI0 fun i j => .bl (decide (i < j))) ltI := opd_int0 fun i j d h G => by cases h; exact .bl _
theorem od_le {K : Fg} : OpD K (rI0 fun i j => .bl (decide (i ≤ j))) leI := opd_int0 fun i j d h G => by cases h; exact .bl _
theorem od_gt {K : Fg} : OpD K (rI0 fun i j => .bl (decide (j < i))) gtI := opd_int0 fun i j d h G => by cases h; exact .bl _
theorem od_ge {K : Fg} : OpD K (rI0 fun i j => .bl (decide (j ≤ i))) geI := opd_int0 fun i j d h G => by cases h; exact .bl _
def negI : D → Option Val
  | .int i => some (.fz (.int (-i)))
  | _ => none
theorem ud_neg {K : Fg} : UnD K (rU fun i => .int (-i)) negI := by
  intro G H x d res Q s vx hr k
  cases d with
  | int i =>
    cases hr
    exact ⟨i, vx.int, k _ G H (Ex.refl s) (.int _)⟩
  | _ => cases hr
def szOk (n : Nat) : Bool := decide (n ≤ 16777216)
theorem szOk_le {n : Nat} (h : szOk n = true) : n ≤ sizeLine := by
  rw [sizeLine_eq]
  exact of_decide_eq_true h
end

/-! ### either of two rules -/
def orD (h h' : D → D → Option Val) : D → D → Option Val := fun a b => match h a b with
  | some r => some r
  | none => h' a b
theorem OpD.or {K : Fg} {r r' : R2} {h h' : D → D → Option Val} (a : OpD K r h) (b : OpD K r' h') : OpD K (fun x y H Q => r x y H Q ∨ r' x y H Q) (orD h h') := by
  intro G H x y d e res Q s vx vy hr k
  unfold orD at hr
  split at hr
  · rename_i z q
    cases hr
    exact .inl (a G H x y d e _ Q s vx vy q k)
  · exact .inr (b G H x y d e _ Q s vx vy hr k)
theorem OpD.eq {K : Fg} {r : R2} {h h' : D → D → Option Val} (a : OpD K r h) (e : ∀ x y z, h' x y = some z → h x y = some z) : OpD K r h' :=
  fun G H x y d e' res Q s vx vy hr k => a G H x y d e' res Q s vx vy (e _ _ _ hr) k
/-- a new list, a new tuple of trees -/
theorem RO.newL {K : Fg} {G H : Hp} (s : Same G H) {xs : List V} {ds : List D} (t : TrAll K G xs ds) {p : Addr} (n : H p = none) : RO K G H (upd H p (.lst xs)) (.ref p) (.ow (.list ds)) := ⟨p, rfl, n, s.free n, .lst upd_same t⟩
theorem RO.newT {K : Fg} {G H : Hp} (s : Same G H) {xs : List V} {ds : List D} (t : TrAll K G xs ds) {p : Addr} (n : H p = none) : RO K (upd G p (.tup xs)) H (upd H p (.tup xs)) (.ref p) (.fz (.tuple ds)) :=
  Tr.tup (.inl (.inl upd_same)) (TrAll.mono (same_upd (s.free n)) t)

def addD : D → D → Option Val
  | .int i, .int j => some (.fz (.int (i + j)))
  | .list a, .list b => if szOk (a.length + b.length) then some (.ow (.list (a ++ b))) else none
  | .tuple a, .tuple b => if szOk (a.length + b.length) then some (.fz (.tuple (a ++ b))) else none
  | .str a, .str b => if szOk (a.length + b.length) then some (.fz (.str (a ++ b))) else none
  | _, _ => none
def rAdd (K : Fg) : R2 := fun x y H Q => rI0 (fun i j => .int (i + j)) x y H Q ∨ rCat x y H Q ∨ rCatA K x y H Q ∨ (∃ i j, x = .str i ∧ y = .str j ∧ i.length + j.length ≤ sizeLine ∧ Q (.str (i ++ j)) H)
theorem op_addA {X : Cx} : OpR X (binaryOp .Add) (rAdd X.K) := op_add.or (op_cat.or (op_catA.or op_add_str))
theorem od_addA {K : Fg} : OpD K (rAdd K) addD := by
  intro G H x y d e res Q s vx vy hr k
  cases d with
  | int i =>
    cases e with
    | int j => cases hr; exact .inl ⟨i, j, vx.int, vy.int, k _ G H (Ex.refl s) (.int _)⟩
    | _ => cases hr
  | list a =>
    cases e with
    | list b =>
      obtain ⟨c, hr⟩ := ite_some hr
      subst hr
      obtain ⟨p, xs, rfl, hx, tx⟩ := vx.list s
      obtain ⟨q, ys, rfl, hy, ty⟩ := vy.list s
      refine .inr (.inl ⟨p, q, xs, ys, rfl, rfl, hx, hy, by rw [tx.len, ty.len]; exact szOk_le c, fun z n => ?_⟩)
      exact k _ G _ (Ex.push s _ n) (RO.newL s (tx.append ty) n)
    | _ => cases hr
  | tuple a =>
    cases e with
    | tuple b =>
      obtain ⟨c, hr⟩ := ite_some hr
      subst hr
      obtain ⟨p, xs, ep, hx, tx⟩ := vx.tuple s
      obtain ⟨q, ys, eq, hy, ty⟩ := vy.tuple s
      have fx : Tr K G x (.tuple a) := by cases vx with | sc h => exact h
      have fy : Tr K G y (.tuple b) := by cases vy with | sc h => exact h
      subst ep eq
      refine .inr (.inr (.inl ⟨p, q, xs, ys, rfl, rfl, hx, hy, by rw [tx.len, ty.len]; exact szOk_le c, fun z => ?_, fun _ z => ?_, fun _ _ z n => ?_⟩))
      · subst z
        cases tx
        exact k _ G H (Ex.refl s) fy
      · subst z
        cases ty
        rw [List.append_nil] at k
        exact k _ G H (Ex.refl s) fx
      · exact k _ _ _ (Ex.pushF s _ n) (RO.newT s (tx.append ty) n)
    | _ => cases hr
  | str a =>
    cases e with
    | str b =>
      obtain ⟨c, hr⟩ := ite_some hr
      subst hr
      exact .inr (.inr (.inr ⟨a, b, vx.str, vy.str, szOk_le c, k _ G H (Ex.refl s) (.str _)⟩))
    | _ => cases hr
  | _ => cases hr
def ixOk (k : Int) : Bool := decide (-(2 ^ 63) ≤ k) && decide (k < 2 ^ 63)
theorem ixOk_le {k : Int} (h : ixOk k = true) : -(2 ^ 63) ≤ k ∧ k < 2 ^ 63 := by
  unfold ixOk at h
  rw [Bool.and_eq_true] at h
  exact ⟨of_decide_eq_true h.1, of_decide_eq_true h.2⟩
def mulD : D → D → Option Val
  | .int i, .int j => if mulOk i j then some (.fz (.int (i * j))) else none
  | .list a, .int k => if ixOk k && szOk (a.length * k.toNat) then some (.ow (.list (List.replicate k.toNat a).flatten)) else none
  | _, _ => none
def rMulA : R2 := fun x y H Q => rI CMulW (fun i j => .int (i * j)) x y H Q ∨ rRep x y H Q
theorem op_mulA {X : Cx} : OpR X (binaryOp .Mult) rMulA := op_mulW.or op_rep
theorem od_mulA {K : Fg} : OpD K rMulA mulD := by
  intro G H x y d e res Q s vx vy hr k
  cases d with
  | int i =>
    cases e with
    | int j =>
      obtain ⟨c, hr⟩ := ite_some hr
      subst hr
      have c2 : i.natAbs.log2 + j.natAbs.log2 < 1000000 := of_decide_eq_true c
      exact .inl ⟨i, j, vx.int, vy.int, c2, k _ G H (Ex.refl s) (.int _)⟩
    | _ => cases hr
  | list a =>
    cases e with
    | int j =>
      obtain ⟨c, hr⟩ := ite_some hr
      subst hr
      rw [Bool.and_eq_true] at c
      obtain ⟨p, xs, rfl, hx, tx⟩ := vx.list s
      have b := ixOk_le c.1
      refine .inr ⟨p, j, xs, rfl, vy.int, hx, b.1, b.2, by rw [tx.len]; exact szOk_le c.2, fun z n => ?_⟩
      exact k _ G _ (Ex.push s _ n) (RO.newL s (tx.replicate _) n)
    | _ => cases hr
  | _ => cases hr
/-- // and % of any signs -/
def CDivZ (_ j : Int) : Prop := j ≠ 0 ∧ j.natAbs.log2 < 9000
theorem op_fdivZ {X : Cx} : OpR X (binaryOp .FloorDiv) (rI CDivZ fun i j => .int (i.fdiv j)) := opI fun i j _ _ _ _ _ hc q => floordiv_int hc.1 q (.inl (PyProof.noPylong_of_log2 hc.2))
def fdivD : D → D → Option Val := intB fun i j => if decide (j ≠ 0) && decide (j.natAbs.log2 < 9000) then some (.int (i.fdiv j)) else none
theorem od_fdivZ {K : Fg} : OpD K (rI CDivZ fun i j => .int (i.fdiv j)) fdivD := opd_int fun i j d h => by
  obtain ⟨c, rfl⟩ := ite_some h
  rw [Bool.and_eq_true] at c
  exact ⟨⟨of_decide_eq_true c.1, of_decide_eq_true c.2⟩, fun _ => .int _⟩
def modD : D → D → Option Val := intB fun i j => if decide (j ≠ 0) then some (.int (i.fmod j)) else none
theorem od_modN {K : Fg} : OpD K (rI (fun _ j => j ≠ 0) fun i j => .int (i.fmod j)) modD := opd_int fun i j d h => by
  obtain ⟨c, rfl⟩ := ite_some h
  exact ⟨of_decide_eq_true c, fun _ => .int _⟩
def powD : D → D → Option Val := intB fun i j => if decide (0 ≤ j) && decide (j ≤ 1000000) && decide (i.natAbs < 2 ^ 64) then some (.int (i ^ j.toNat)) else none
theorem od_pow {K : Fg} : OpD K (rI CPow fun i j => .int (i ^ j.toNat)) powD := opd_int fun i j d h => by
  obtain ⟨c, rfl⟩ := ite_some h
  rw [Bool.and_eq_true, Bool.and_eq_true] at c
  exact ⟨⟨of_decide_eq_true c.1.1, of_decide_eq_true c.1.2, of_decide_eq_true c.2⟩, fun _ => .int _⟩

/-! ### == and != -/
mutual
theorem Tr.dp {K : Fg} {H : Hp} : ∀ {v : V} {d : D}, Tr K H v d → d.canLay0 = true → Dp K H v d
  | _, _, .non, _ => .non
  | _, _, .bl b, _ => .bl b
  | _, _, .int i, _ => .int i
  | _, _, .str x, _ => .str x
  | _, _, .lst a b, h => .lst (.inl (.inl a)) (TrAll.dp b (by simpa [PyData.canLay0] using h))
  | _, _, .tup a b, h => .tup a (TrAll.dp b (by simpa [PyData.canLay0] using h))
  | _, _, .dic _ _, h => by simp [PyData.canLay0] at h
  | _, _, .scr _, h => by simp [PyData.canLay0] at h
theorem TrAll.dp {K : Fg} {H : Hp} : ∀ {v : List V} {d : List D}, TrAll K H v d → PyData.canLayAll0 d = true → DpAll K H v d
  | _, _, .nil, _ => .nil
  | _, _, .cons (d := d) (ds := ds) a b, h => by
    have h' : d.canLay0 = true ∧ PyData.canLayAll0 ds = true := by simpa [PyData.canLayAll0] using h
    exact .cons (Tr.dp a h'.1) (TrAll.dp b h'.2)
end
def eqD : D → D → Option Val := fun d e => if SeqAt.shaped d && SeqAt.shaped e then some (.fz (.bool (PyData.eqv d e))) else none
def neD : D → D → Option Val := fun d e => if SeqAt.shaped d && SeqAt.shaped e then some (.fz (.bool (!PyData.eqv d e))) else none
theorem od_eq {K : Fg} : OpD K (rEqD K) eqD := by
  intro G H x y d e res Q s vx vy hr k
  obtain ⟨c, rfl⟩ := ite_some hr
  rw [Bool.and_eq_true] at c
  exact ⟨d, e, Tr.dp (vx.tr s) (SeqAt.canLay_of_shaped c.1), Tr.dp (vy.tr s) (SeqAt.canLay_of_shaped c.2), c.1, c.2, k _ G H (Ex.refl s) (.bl _)⟩
theorem od_ne {K : Fg} : OpD K (rNeD K) neD := by
  intro G H x y d e res Q s vx vy hr k
  obtain ⟨c, rfl⟩ := ite_some hr
  rw [Bool.and_eq_true] at c
  exact ⟨d, e, Tr.dp (vx.tr s) (SeqAt.canLay_of_shaped c.1), Tr.dp (vy.tr s) (SeqAt.canLay_of_shaped c.2), c.1, c.2, k _ G H (Ex.refl s) (.bl _)⟩
def isNone : D → Bool
  | .none => true
  | _ => false
theorem View.isNone {K : Fg} {G H : Hp} {v : V} {d : D} (h : View K G H v d) : decide (v = .non) = DL.isNone d := by
  cases h with
  | sc h => cases h <;> rfl
  | lst _ _ => rfl
  | dic _ _ => rfl
def isD : D → D → Option Val
  | d, .none => some (.fz (.bool (isNone d)))
  | _, _ => none
def isnotD : D → D → Option Val
  | d, .none => some (.fz (.bool (!isNone d)))
  | _, _ => none
theorem od_is {K : Fg} : OpD K (fun x y H Q => y = .non ∧ Q (.bl (decide (x = .non))) H) isD := by
  intro G H x y d e res Q s vx vy hr k
  cases e with
  | none => cases hr; exact ⟨vy.none, k _ G H (Ex.refl s) (by rw [vx.isNone]; exact .bl _)⟩
  | _ => cases hr
theorem od_isnot {K : Fg} : OpD K (fun x y H Q => y = .non ∧ Q (.bl (!decide (x = .non))) H) isnotD := by
  intro G H x y d e res Q s vx vy hr k
  cases e with
  | none => cases hr; exact ⟨vy.none, k _ G H (Ex.refl s) (by rw [vx.isNone]; exact .bl _)⟩
  | _ => cases hr
end DL
end
section
set_option maxRecDepth 100000
set_option maxHeartbeats 4000000
namespace DL
open PySem PySem.Spec L2
open PyProof.Rows hiding St

section
variable {X : Cx} {B : Bs} {pos : Pos}

/-! ### if, and, or, not -/
def ifM {α : Type} (c : Me Bool) (f g : Me α) : Me α := mb c fun b => if b = true then f else g
theorem de_if {c a b : Expr} {fc : Me Bool} {f g : Me Val} (hc : DT X B c fc) (ha : DE X B a f) (hb : DE X B b g) : DE X B (.IfExp c a b pos) (ifM fc f g) := by
  refine PE.weak (pe_ifExp hc ha hb) fun σ H Q h => ?_
  obtain ⟨G, δ, r, δ', R, e, k⟩ := h
  obtain ⟨x, δ1, e1, e⟩ := mb_some e
  refine ⟨G, δ, x, δ1, R, e1, fun G1 H1 s1 R1 => ?_⟩
  cases x with
  | true => exact ⟨G1, δ1, r, δ', R1, e, fun v G' H' s R' q => k v G' H' (s1.trans s) R' q⟩
  | false => exact ⟨G1, δ1, r, δ', R1, e, fun v G' H' s R' q => k v G' H' (s1.trans s) R' q⟩
def andM (f g : Me Bool) : Me Bool := mb f fun b => if b = true then g else mr false
def orM (f g : Me Bool) : Me Bool := mb f fun b => if b = true then mr true else g
def notM (f : Me Bool) : Me Bool := mb f fun b => mr (!b)
abbrev DW (X : Cx) (B : Bs) (e : Expr) (f : Me Bool) : Prop := PW X e (ttOf X.K B f)
theorem dw_pt {e : Expr} {f : Me Bool} (h : DW X B e f) : DT X B e f := PW.pt h
theorem dw_and1 {a : Expr} {f : Me Bool} (ha : DT X B a f) : DW X B (.BoolOp .And [a] pos) f := pw_and1 ha
theorem dw_or1 {a : Expr} {f : Me Bool} (ha : DT X B a f) : DW X B (.BoolOp .Or [a] pos) f := pw_or1 ha
theorem dw_and {a b : Expr} {rest : List Expr} {f g : Me Bool} (ha : DT X B a f) (hb : DW X B (.BoolOp .And (b :: rest) pos) g) : DW X B (.BoolOp .And (a :: b :: rest) pos) (andM f g) := by
  refine PW.weak (pw_and ha hb) fun σ H Q h => ?_
  obtain ⟨G, δ, r, δ', R, e, k⟩ := h
  obtain ⟨x, δ1, e1, e⟩ := mb_some e
  refine ⟨G, δ, x, δ1, R, e1, fun G1 H1 s1 R1 => ?_⟩
  cases x with
  | true => exact ⟨G1, δ1, r, δ', R1, e, fun G' H' s R' => k G' H' (s1.trans s) R'⟩
  | false =>
    cases e
    exact k G1 H1 s1 R1
theorem dw_or {a b : Expr} {rest : List Expr} {f g : Me Bool} (ha : DT X B a f) (hb : DW X B (.BoolOp .Or (b :: rest) pos) g) : DW X B (.BoolOp .Or (a :: b :: rest) pos) (orM f g) := by
  refine PW.weak (pw_or ha hb) fun σ H Q h => ?_
  obtain ⟨G, δ, r, δ', R, e, k⟩ := h
  obtain ⟨x, δ1, e1, e⟩ := mb_some e
  refine ⟨G, δ, x, δ1, R, e1, fun G1 H1 s1 R1 => ?_⟩
  cases x with
  | false => exact ⟨G1, δ1, r, δ', R1, e, fun G' H' s R' => k G' H' (s1.trans s) R'⟩
  | true =>
    cases e
    exact k G1 H1 s1 R1
theorem dt_not {a : Expr} {f : Me Bool} (ha : DT X B a f) : DT X B (.UnaryOp .Not a pos) (notM f) := by
  refine PT.weak (pt_not ha) fun σ H Q h => ?_
  obtain ⟨G, δ, r, δ', R, e, k⟩ := h
  obtain ⟨x, δ1, e1, e⟩ := mb_some e
  cases e
  exact ⟨G, δ, x, _, R, e1, fun G1 H1 s1 R1 => k G1 H1 s1 R1⟩
/-- a bool as a value -/
def valM (f : Me Bool) : Me Val := mb f fun b => mr (.fz (.bool b))
theorem valM_bool {f : Me Val} : ∀ {δ δ' : DS} {b : Bool}, f δ = some (.fz (.bool b), δ') → boolM f δ = some (b, δ') := fun h => by
  unfold boolM
  rw [h]
theorem tOf_bool {K : Fg} {f : Me Val} {σ : L2.St} {H : Hp} {Q : Bool → Hp → Prop} (h : ttOf K B (boolM f) σ H Q) : tOf K B f σ H fun x H' => ∃ k, x = .bl k ∧ Q k H' := tTest_of σ H Q h
/-- and, or, not as values -/
def andV (f g : Me Val) : Me Val := mb (boolM f) fun b => if b = true then g else mr (.fz (.bool false))
def orV (f g : Me Val) : Me Val := mb (boolM f) fun b => if b = true then mr (.fz (.bool true)) else g
def notV (f : Me Val) : Me Val := mb (boolM f) fun b => mr (.fz (.bool (!b)))
theorem de_one {op : BoolOp} {a : Expr} {f : Me Val} (h : DE X B a f) : DE X B (.BoolOp op [a] pos) f := pe_one h
theorem boolM_of {K : Fg} {f : Me Val} {σ : L2.St} {H : Hp} {δ δ1 : DS} {b : Bool} {G : Hp} {Q : VK} (R : RelS K B G H δ σ) (e1 : boolM f δ = some (b, δ1)) (k : ∀ G' H', Same G G' → RelS K B G' H' δ1 σ → Q (.bl b) H') : tOf K B f σ H Q := by
  refine ⟨G, δ, _, δ1, R, boolM_some e1, fun v G' H' s R' t => ?_⟩
  have t : Tr K G' v (.bool b) := t
  cases t
  exact k G' H' s R'
theorem de_and {a b : Expr} {rest : List Expr} {f g : Me Val} (ha : DE X B a f) (hb : DE X B (.BoolOp .And (b :: rest) pos) g) : DE X B (.BoolOp .And (a :: b :: rest) pos) (andV f g) := by
  refine PE.weak (pe_and ha hb) fun σ H Q h => ?_
  obtain ⟨G, δ, r, δ', R, e, k⟩ := h
  obtain ⟨x, δ1, e1, e⟩ := mb_some e
  refine boolM_of R e1 fun G1 H1 s1 R1 => ⟨x, rfl, ?_⟩
  cases x with
  | true => exact ⟨G1, δ1, r, δ', R1, e, fun v G' H' s R' q => k v G' H' (s1.trans s) R' q⟩
  | false =>
    cases e
    exact k _ G1 H1 s1 R1 (.bl false)
theorem de_or {a b : Expr} {rest : List Expr} {f g : Me Val} (ha : DE X B a f) (hb : DE X B (.BoolOp .Or (b :: rest) pos) g) : DE X B (.BoolOp .Or (a :: b :: rest) pos) (orV f g) := by
  refine PE.weak (pe_or ha hb) fun σ H Q h => ?_
  obtain ⟨G, δ, r, δ', R, e, k⟩ := h
  obtain ⟨x, δ1, e1, e⟩ := mb_some e
  refine boolM_of R e1 fun G1 H1 s1 R1 => ⟨x, rfl, ?_⟩
  cases x with
  | false => exact ⟨G1, δ1, r, δ', R1, e, fun v G' H' s R' q => k v G' H' (s1.trans s) R' q⟩
  | true =>
    cases e
    exact k _ G1 H1 s1 R1 (.bl true)
theorem de_not {a : Expr} {f : Me Val} (ha : DE X B a f) : DE X B (.UnaryOp .Not a pos) (notV f) := by
  refine PE.weak (pe_not ha) fun σ H Q h => ?_
  obtain ⟨G, δ, r, δ', R, e, k⟩ := h
  obtain ⟨x, δ1, e1, e⟩ := mb_some e
  cases e
  exact boolM_of R e1 fun G1 H1 s1 R1 => ⟨x, rfl, k _ G1 H1 s1 R1 (.bl _)⟩
/-- a < b < c -/
def chainM (h h' : D → D → Option Val) (f g m : Me Val) : Me Val := mb f fun x => mb g fun y => mb (boolM (mo fun δ => (dv δ x).bind fun a => (dv δ y).bind fun b => h a b)) fun c =>
  if c = true then mb m fun z => mo fun δ => (dv δ y).bind fun a => (dv δ z).bind fun b => h' a b else mr (.fz (.bool false))
theorem tChain_of {K : Fg} {r r' : R2} {h h' : D → D → Option Val} {f g m : Me Val} (hd : OpD K r h) (hd' : OpD K r' h') : ∀ σ H Q, tOf K B (chainM h h' f g m) σ H Q → tChain r r' (tOf K B f) (tOf K B g) (tOf K B m) σ H Q := by
  intro σ H Q hq
  obtain ⟨G, δ, res, δ', R, e, k⟩ := hq
  obtain ⟨x, δ1, e1, e⟩ := mb_some e
  obtain ⟨y, δ2, e2, e⟩ := mb_some e
  obtain ⟨c, δ3, e3, e⟩ := mb_some e
  obtain ⟨e3, rfl⟩ := mo_some (boolM_some e3)
  obtain ⟨a, ea, e3⟩ := Option.bind_eq_some_iff.mp e3
  obtain ⟨b, eb, e3⟩ := Option.bind_eq_some_iff.mp e3
  refine ⟨G, δ, x, δ1, R, e1, fun v G1 H1 s1 R1 v1 => ?_⟩
  obtain ⟨G1', s1', R1', v1'⟩ := v1.freeze R1
  refine ⟨G1', δ1, y, _, R1', e2, fun w G2 H2 s2 R2 v2 => ?_⟩
  obtain ⟨G2', s2', R2', v2'⟩ := v2.freeze R2
  have v1'' := RV.stay (B := B) (G' := G2') (H' := H2) (δ' := δ3) (s2.trans s2') v1'
  refine hd G2' H2 v w a b _ _ R2'.same (v1''.view R2' (by rw [dv_fzv]; exact ea)) (v2'.view R2' (by rw [dv_fzv]; exact eb)) e3 fun u G3 H3 x3 ro => ?_
  have ro : Tr K G3 u (.bool c) := ro
  cases ro
  refine ⟨c, rfl, ?_⟩
  have R3 := R2'.ex x3
  cases c with
  | false =>
    cases e
    exact k _ G3 H3 ((((s1.trans s1').trans s2).trans s2').trans x3.g) R3 (.bl false)
  | true =>
    obtain ⟨z, δ4, e4, e⟩ := mb_some e
    obtain ⟨e5, rfl⟩ := mo_some e
    obtain ⟨a', ea', e5⟩ := Option.bind_eq_some_iff.mp e5
    obtain ⟨b', eb', e5⟩ := Option.bind_eq_some_iff.mp e5
    refine ⟨G3, δ3, z, _, R3, e4, fun w4 G4 H4 s4 R4 v4 => ?_⟩
    have v2'' := RV.stay (B := B) (G' := G4) (H' := H4) (δ' := δ') (x3.g.trans s4) v2'
    refine hd' G4 H4 w w4 a' b' _ _ R4.same (v2''.view R4 (by rw [dv_fzv]; exact ea')) (v4.view R4 eb') e5 fun u5 G5 H5 x5 ro5 => ?_
    exact k u5 G5 H5 ((((((s1.trans s1').trans s2).trans s2').trans x3.g).trans s4).trans x5.g) (R4.ex x5) (ro5.rv R4)
theorem de_chain {a b c : Expr} {op op' : CmpOp} {r r' : R2} {h h' : D → D → Option Val} {f g m : Me Val} (ho : OpR X (compareOp op) r) (hd : OpD X.K r h) (ho' : OpR X (compareOp op') r') (hd' : OpD X.K r' h') (ha : DE X B a f) (hb : DE X B b g) (hc : DE X B c m)
    (hm : lastMarks [op, op'] [b, c] = false := by with_unfolding_all rfl) : DE X B (.Compare a [op, op'] [b, c] pos) (chainM h h' f g m) := PE.weak (pe_chain ho ho' ha hb hc hm) (tChain_of hd hd')
theorem dt_chain {a b c : Expr} {op op' : CmpOp} {r r' : R2} {h h' : D → D → Option Val} {f g m : Me Val} (ho : OpR X (compareOp op) r) (hd : OpD X.K r h) (ho' : OpR X (compareOp op') r') (hd' : OpD X.K r' h') (ha : DE X B a f) (hb : DE X B b g) (hc : DE X B c m)
    (hm : lastMarks [op, op'] [b, c] = false := by with_unfolding_all rfl) : DT X B (.Compare a [op, op'] [b, c] pos) (boolM (chainM h h' f g m)) := PT.weak (pt_chain ho ho' ha hb hc hm) fun σ H Q q => tChain_of hd hd' σ H _ (tTest_of σ H Q q)

/-! ### argument lists -/
theorem RVs.stay {K : Fg} {G G' H H' : Hp} {δ δ' : DS} {σ : L2.St} (s : Same G G') : ∀ {vs : List V} {rs : List Val}, RVs K B G H δ σ vs rs → RVs K B G' H' δ' σ vs rs
  | _, _, .nil => .nil
  | _, _, .cons a b => .cons (RV.stay s a) (RVs.stay s b)
def nilA : Me (List Val) := mr []
def consA (f : Me Val) (g : Me (List Val)) : Me (List Val) := mb f fun x => mb g fun xs => mr (x :: xs)
theorem da_nil : DA X B [] nilA := by
  refine PA.weak pa_nil fun σ H Q h => ?_
  obtain ⟨G, δ, r, δ', R, e, k⟩ := h
  cases e
  exact k [] G H (Same.refl _) R .nil
theorem da_cons {e : Expr} {es : List Expr} {f : Me Val} {g : Me (List Val)} (ha : DE X B e f) (hr : DA X B es g) (hs : starEach (e :: es) X.env = (false, eval e X.env) :: starEach es X.env := by rfl) : DA X B (e :: es) (consA f g) := by
  refine PA.weak (pa_cons ha hr hs) fun σ H Q h => ?_
  obtain ⟨G, δ, r, δ', R, e, k⟩ := h
  obtain ⟨x, δ1, e1, e⟩ := mb_some e
  obtain ⟨xs, δ2, e2, e⟩ := mb_some e
  cases e
  refine ⟨G, δ, x, δ1, R, e1, fun v G1 H1 s1 R1 v1 => ?_⟩
  obtain ⟨G1', s1', R1', v1'⟩ := v1.freeze R1
  refine ⟨G1', δ1, xs, _, R1', e2, fun vs G2 H2 s2 R2 v2 => ?_⟩
  exact k (v :: vs) G2 H2 ((s1.trans s1').trans s2) R2 (.cons (RV.stay s2 v1') v2)
def dvs (δ : DS) : List Val → Option (List D)
  | [] => some []
  | r :: rs => (dv δ r).bind fun d => (dvs δ rs).bind fun ds => some (d :: ds)
theorem RVs.view {K : Fg} {G H : Hp} {δ : DS} {σ : L2.St} (R : RelS K B G H δ σ) : ∀ {vs : List V} {rs : List Val} {ds : List D}, RVs K B G H δ σ vs rs → dvs δ rs = some ds → Paired (View K G H) vs ds
  | _, _, _, .nil, h => by cases h; exact .nil
  | _, _, _, .cons a b, h => by
    obtain ⟨d, h1, h⟩ := Option.bind_eq_some_iff.mp h
    obtain ⟨es, h2, h⟩ := Option.bind_eq_some_iff.mp h
    cases h
    exact .cons (a.view R (by rw [dv_fzv]; exact h1)) (RVs.view R b h2)
/-- all trees -/
def fzs : List Val → Option (List D)
  | [] => some []
  | .sl _ :: _ => none
  | .fz d :: rs => (fzs rs).bind fun ds => some (d :: ds)
  | .ow d :: rs => (fzs rs).bind fun ds => some (d :: ds)
theorem RVs.trees {K : Fg} {G H : Hp} {δ : DS} {σ : L2.St} : ∀ {vs : List V} {rs : List Val} {ds : List D}, RVs K B G H δ σ vs rs → fzs rs = some ds → TrAll K G vs ds
  | _, _, _, .nil, h => by cases h; exact .nil
  | _, _, _, .cons (b := r) a b, h => by
    cases r with
    | sl i => cases h
    | fz d =>
      obtain ⟨es, h2, h⟩ := Option.bind_eq_some_iff.mp h
      cases h
      exact .cons a (RVs.trees b h2)
    | ow d =>
      obtain ⟨es, h2, h⟩ := Option.bind_eq_some_iff.mp h
      cases h
      exact .cons a (RVs.trees b h2)
/-! ### displays -/
def lstM (fa : Me (List Val)) : Me Val := mb fa fun xs => mo fun _ => (fzs xs).bind fun ds => if szOk ds.length then some (.ow (.list ds)) else none
def tupM (fa : Me (List Val)) : Me Val := mb fa fun xs => mo fun _ => (fzs xs).bind fun ds => if szOk ds.length then some (.fz (.tuple ds)) else none
theorem de_lst {es : List Expr} {fa : Me (List Val)} (h : DA X B es fa) : DE X B (.List es pos) (lstM fa) := by
  refine PE.weak (pe_lst h) fun σ H Q h => ?_
  obtain ⟨G, δ, r, δ', R, e, k⟩ := h
  obtain ⟨xs, δ1, e1, e⟩ := mb_some e
  obtain ⟨e2, rfl⟩ := mo_some e
  obtain ⟨ds, ed, e2⟩ := Option.bind_eq_some_iff.mp e2
  obtain ⟨c, rfl⟩ := ite_some e2
  refine ⟨G, δ, xs, _, R, e1, fun vs G1 H1 s1 R1 v1 => ?_⟩
  have t := v1.trees ed
  refine ⟨by rw [t.len]; exact szOk_le c, fun p n => ?_⟩
  have x := Ex.push R1.same (.lst vs) n
  exact k _ _ _ (s1.trans x.g) (R1.ex x) ((RO.newL R1.same t n).rv R1)
theorem de_tup {es : List Expr} {x1} {fa : Me (List Val)} (h : DA X B es fa) : DE X B (.Tuple es x1 pos) (tupM fa) := by
  refine PE.weak (pe_tup h) fun σ H Q h => ?_
  obtain ⟨G, δ, r, δ', R, e, k⟩ := h
  obtain ⟨xs, δ1, e1, e⟩ := mb_some e
  obtain ⟨e2, rfl⟩ := mo_some e
  obtain ⟨ds, ed, e2⟩ := Option.bind_eq_some_iff.mp e2
  obtain ⟨c, rfl⟩ := ite_some e2
  refine ⟨G, δ, xs, _, R, e1, fun vs G1 H1 s1 R1 v1 => ?_⟩
  have t := v1.trees ed
  refine ⟨by rw [t.len]; exact szOk_le c, fun p n => ?_⟩
  have x := Ex.pushF R1.same (.tup vs) n
  exact k _ _ _ (s1.trans x.g) (R1.ex x) (RO.rv (H := H1) R1 (RO.newT R1.same t n))

/-! ### built-in functions -/
def FnD (K : Fg) (r : List V → Hp → VK → Prop) (h : List D → Option Val) : Prop := ∀ (G H : Hp) (vs : List V) (ds : List D) (res : Val) (Q : VK), Same G H → Paired (View K G H) vs ds → h ds = some res →
  (∀ v G' H', Ex G H G' H' → RO K G' H H' v res → Q v H') → r vs H Q
def callM (h : List D → Option Val) (fa : Me (List Val)) : Me Val := mb fa fun xs => mo fun δ => (dvs δ xs).bind h
theorem tCB_of {K : Fg} {r : List V → Hp → VK → Prop} {h : List D → Option Val} {fa : Me (List Val)} (hd : FnD K r h) : ∀ σ H Q, tOf K B (callM h fa) σ H Q → tCB r (taOf K B fa) σ H Q := by
  intro σ H Q hq
  obtain ⟨G, δ, res, δ', R, e, k⟩ := hq
  obtain ⟨xs, δ1, e1, e⟩ := mb_some e
  obtain ⟨e2, rfl⟩ := mo_some e
  obtain ⟨ds, ed, e2⟩ := Option.bind_eq_some_iff.mp e2
  refine ⟨G, δ, xs, _, R, e1, fun vs G1 H1 s1 R1 v1 => ?_⟩
  refine hd G1 H1 vs ds res Q R1.same (v1.view R1 ed) e2 fun u G' H' x ro => ?_
  exact k u G' H' (s1.trans x.g) (R1.ex x) (ro.rv R1)
theorem de_callB {x : Str} {id : String} {r : List V → Hp → VK → Prop} {h : List D → Option Val} {e : Expr} {es : List Expr} {fa : Me (List Val)} {p : Pos} (hc : CallR X (.builtin id) r) (hd : FnD X.K r h) (hg : Gl X x) (hm : X.mg x = none) (hv : bootBuiltins x = some (.builtin id)) (ha : DA X B (e :: es) fa) (hn : x ≠ "__name__" := by decide) (hdb : (x == ("__debug__" : Str)) = false := by decide)
    (he : starEach (e :: es) X.env = (false, eval e X.env) :: starEach es X.env := by rfl) (hpl : (backTo pos (starEach es X.env)).any (·.1) = false := by rfl) : DE X B (.Call (.Name x p) (e :: es) [] pos) (callM h fa) :=
  PE.weak (pe_callB hc hg hm hv ha hn hdb he hpl) (tCB_of hd)
theorem de_callT {x : Str} {T : String} {r : List V → Hp → VK → Prop} {h : List D → Option Val} {e : Expr} {es : List Expr} {fa : Me (List Val)} {p : Pos} (hc : CallR X (.type T) r) (hd : FnD X.K r h) (hg : Gl X x) (hm : X.mg x = none) (hv : bootBuiltins x = some (.type T)) (ha : DA X B (e :: es) fa) (hn : x ≠ "__name__" := by decide) (hdb : (x == ("__debug__" : Str)) = false := by decide)
    (he : starEach (e :: es) X.env = (false, eval e X.env) :: starEach es X.env := by rfl) (hpl : (backTo pos (starEach es X.env)).any (·.1) = false := by rfl) : DE X B (.Call (.Name x p) (e :: es) [] pos) (callM h fa) :=
  PE.weak (pe_callTy hc hg hm hv ha hn hdb he hpl) (tCB_of hd)
theorem view1 {K : Fg} {G H : Hp} {vs : List V} {d : D} (h : Paired (View K G H) vs [d]) : ∃ v, vs = [v] ∧ View K G H v d := by
  cases h with
  | cons a b => cases b; exact ⟨_, rfl, a⟩
theorem view2 {K : Fg} {G H : Hp} {vs : List V} {d e : D} (h : Paired (View K G H) vs [d, e]) : ∃ v w, vs = [v, w] ∧ View K G H v d ∧ View K G H w e := by
  cases h with
  | cons a b =>
    obtain ⟨w, rfl, c⟩ := view1 b
    exact ⟨_, _, rfl, a, c⟩
/-- len -/
def lenD : List D → Option Val
  | [.list ds] => some (.fz (.int ds.length))
  | [.tuple ds] => some (.fz (.int ds.length))
  | [.str x] => if szOk x.length then some (.fz (.int x.length)) else none
  | [.dict [(.none, .list ds)]] => some (.fz (.int ds.length))
  | _ => none
theorem ints_of : ∀ {ds : List D} {vs : List V} {K : Fg} {H : Hp}, TrAll K H vs ds → ∀ {ns : List Int}, vs = ns.map V.int → ds = ns.map PyData.int
  | _, _, _, _, .nil, [], _ => rfl
  | _, _, _, _, .nil, _ :: _, h => by cases h
  | _, _, _, _, .cons a b, [], h => by cases h
  | _, _, _, _, .cons a b, n :: r, h => by
    rw [List.map_cons] at h
    injection h with h1 h2
    subst h1
    cases a
    rw [List.map_cons, ints_of b h2]
theorem View.scr' {K : Fg} {G H : Hp} (s : Same G H) {v : V} {ds : List D} (h : View K G H v (.dict [(.none, .list ds)])) : ∃ (a : Addr) (ns : List Int), v = .ref a ∧ SqL K H a (ns.map V.int) ∧ ds = ns.map PyData.int := by
  generalize hz : (PyData.dict [(PyData.none, PyData.list ds)]) = z at h
  cases h with
  | sc h =>
    cases h with
    | dic a b =>
      injection hz with hz
      subst hz
      exact (TrKV.key b _ List.mem_cons_self rfl).elim
    | scr a =>
      injection hz with hz
      injection hz with hz
      injection hz with _ hz
      injection hz with hz
      exact ⟨_, _, rfl, s.seq a, hz⟩
    | _ => cases hz
  | lst a b => cases hz
  | dic a b =>
    injection hz with hz
    subst hz
    exact (TrKV.key b _ List.mem_cons_self rfl).elim
theorem fd_len {K : Fg} : FnD K (fun xs H Q => ∃ x n, xs = [x] ∧ LenV K x H n ∧ Q (.int n) H) lenD := by
  intro G H vs ds res Q s vv hr k
  unfold lenD at hr
  split at hr
  · cases hr
    obtain ⟨v, rfl, v1⟩ := view1 vv
    obtain ⟨a, xs, rfl, hx, t⟩ := v1.list s
    exact ⟨_, _, rfl, .inl ⟨xs, .inl (.inl hx), t.len.symm⟩, k _ G H (Ex.refl s) (.int _)⟩
  · cases hr
    obtain ⟨v, rfl, v1⟩ := view1 vv
    obtain ⟨a, xs, rfl, hx, t⟩ := v1.tuple s
    exact ⟨_, _, rfl, .inr ⟨xs, hx, t.len.symm⟩, k _ G H (Ex.refl s) (.int _)⟩
  · obtain ⟨c, rfl⟩ := ite_some hr
    obtain ⟨v, rfl, v1⟩ := view1 vv
    cases v1.str
    exact ⟨_, _, rfl, ⟨szOk_le c, rfl⟩, k _ G H (Ex.refl s) (.int _)⟩
  · cases hr
    obtain ⟨v, rfl, v1⟩ := view1 vv
    obtain ⟨a, ns, rfl, hx, rfl⟩ := v1.scr' s
    refine ⟨_, _, rfl, .inl ⟨_, hx, rfl⟩, ?_⟩
    rw [List.length_map] at k ⊢
    exact k _ G H (Ex.refl s) (.int _)
  · cases hr
/-- list(x), tuple(x) -/
def listD : List D → Option Val
  | [.list ds] => some (.ow (.list ds))
  | [.tuple ds] => some (.ow (.list ds))
  | _ => none
theorem fd_list {K : Fg} : FnD K (fun xs H Q => ∃ p ys, xs = [.ref p] ∧ (SqL K H p ys ∨ SqT K H p ys) ∧ ∀ l, H l = none → Q (.ref l) (upd H l (.lst ys))) listD := by
  intro G H vs ds res Q s vv hr k
  unfold listD at hr
  split at hr
  · cases hr
    obtain ⟨v, rfl, v1⟩ := view1 vv
    obtain ⟨a, xs, rfl, hx, t⟩ := v1.list s
    exact ⟨a, xs, rfl, .inl (.inl (.inl hx)), fun l n => k _ G _ (Ex.push s _ n) (RO.newL s t n)⟩
  · cases hr
    obtain ⟨v, rfl, v1⟩ := view1 vv
    obtain ⟨a, xs, rfl, hx, t⟩ := v1.tuple s
    exact ⟨a, xs, rfl, .inr hx, fun l n => k _ G _ (Ex.push s _ n) (RO.newL s t n)⟩
  · cases hr
def tupleD : List D → Option Val
  | [.list ds] => some (.fz (.tuple ds))
  | [.tuple ds] => some (.fz (.tuple ds))
  | _ => none
theorem fd_tuple {K : Fg} : FnD K (fun xs H Q => ∃ p ys, xs = [.ref p] ∧ ((SqL K H p ys ∧ ∀ l, H l = none → Q (.ref l) (upd H l (.tup ys))) ∨ (SqT K H p ys ∧ Q (.ref p) H))) tupleD := by
  intro G H vs ds res Q s vv hr k
  unfold tupleD at hr
  split at hr
  · cases hr
    obtain ⟨v, rfl, v1⟩ := view1 vv
    obtain ⟨a, xs, rfl, hx, t⟩ := v1.list s
    exact ⟨a, xs, rfl, .inl ⟨.inl (.inl hx), fun l n => k _ _ _ (Ex.pushF s _ n) (RO.newT s t n)⟩⟩
  · cases hr
    obtain ⟨v, rfl, v1⟩ := view1 vv
    have f := v1.tupT
    obtain ⟨a, xs, rfl, hx, t⟩ := v1.tuple s
    exact ⟨a, xs, rfl, .inr ⟨hx, k _ G H (Ex.refl s) f⟩⟩
  · cases hr
/-- int(x), abs(x), max(a, b), min(a, b), divmod(a, b) -/
def intD : List D → Option Val
  | [.int i] => some (.fz (.int i))
  | [.bool b] => some (.fz (.int (if b then 1 else 0)))
  | _ => none
theorem fd_int {K : Fg} : FnD K (fun xs H Q => (∃ i, xs = [.int i] ∧ Q (.int i) H) ∨ ∃ k, xs = [.bl k] ∧ Q (.int (if k then 1 else 0)) H) intD := by
  intro G H vs ds res Q s vv hr k
  unfold intD at hr
  split at hr
  · cases hr
    obtain ⟨v, rfl, v1⟩ := view1 vv
    cases v1.int
    exact .inl ⟨_, rfl, k _ G H (Ex.refl s) (.int _)⟩
  · cases hr
    obtain ⟨v, rfl, v1⟩ := view1 vv
    cases v1.bool
    exact .inr ⟨_, rfl, k _ G H (Ex.refl s) (.int _)⟩
  · cases hr
def absD : List D → Option Val
  | [.int i] => some (.fz (.int (if i < 0 then -i else i)))
  | _ => none
theorem fd_abs {K : Fg} : FnD K (fun xs H Q => ∃ i, xs = [.int i] ∧ Q (.int (if i < 0 then -i else i)) H) absD := by
  intro G H vs ds res Q s vv hr k
  unfold absD at hr
  split at hr
  · cases hr
    obtain ⟨v, rfl, v1⟩ := view1 vv
    cases v1.int
    exact ⟨_, rfl, k _ G H (Ex.refl s) (.int _)⟩
  · cases hr
def max2D : List D → Option Val
  | [.int i, .int j] => some (.fz (.int (if j > i then j else i)))
  | _ => none
theorem fd_max2 {K : Fg} : FnD K (fun xs H Q => ∃ i j, xs = [.int i, .int j] ∧ Q (.int (if j > i then j else i)) H) max2D := by
  intro G H vs ds res Q s vv hr k
  unfold max2D at hr
  split at hr
  · cases hr
    obtain ⟨v, w, rfl, v1, v2⟩ := view2 vv
    cases v1.int
    cases v2.int
    exact ⟨_, _, rfl, k _ G H (Ex.refl s) (.int _)⟩
  · cases hr
def min2D : List D → Option Val
  | [.int i, .int j] => some (.fz (.int (if j < i then j else i)))
  | _ => none
theorem fd_min2 {K : Fg} : FnD K (fun xs H Q => ∃ i j, xs = [.int i, .int j] ∧ Q (.int (if j < i then j else i)) H) min2D := by
  intro G H vs ds res Q s vv hr k
  unfold min2D at hr
  split at hr
  · cases hr
    obtain ⟨v, w, rfl, v1, v2⟩ := view2 vv
    cases v1.int
    cases v2.int
    exact ⟨_, _, rfl, k _ G H (Ex.refl s) (.int _)⟩
  · cases hr
def divmodD : List D → Option Val
  | [.int i, .int j] => if decide (0 < j) && decide (j < 1073741824) then some (.fz (.tuple [.int (i / j), .int (i % j)])) else none
  | _ => none
theorem fd_divmod {K : Fg} : FnD K (fun xs H Q => ∃ i j, xs = [.int i, .int j] ∧ CDiv i j ∧ ∀ p, H p = none → Q (.ref p) (upd H p (.tup [.int (i / j), .int (i % j)]))) divmodD := by
  intro G H vs ds res Q s vv hr k
  unfold divmodD at hr
  split at hr
  · obtain ⟨c, rfl⟩ := ite_some hr
    rw [Bool.and_eq_true] at c
    obtain ⟨v, w, rfl, v1, v2⟩ := view2 vv
    cases v1.int
    cases v2.int
    exact ⟨_, _, rfl, ⟨of_decide_eq_true c.1, of_decide_eq_true c.2⟩, fun p n => k _ _ _ (Ex.pushF s _ n) (RO.newT s (.cons (.int _) (.cons (.int _) .nil)) n)⟩
  · cases hr
/-- lists of ints, of bools -/
def intsOf : List D → Option (List Int)
  | [] => some []
  | .int i :: r => (intsOf r).bind fun l => some (i :: l)
  | _ => none
def boolsOf : List D → Option (List Bool)
  | [] => some []
  | .bool i :: r => (boolsOf r).bind fun l => some (i :: l)
  | _ => none
theorem intsOf_map : ∀ ns : List Int, intsOf (ns.map PyData.int) = some ns
  | [] => rfl
  | n :: r => by rw [List.map_cons]; unfold intsOf; rw [intsOf_map r]; rfl
theorem boolsOf_map : ∀ ns : List Bool, boolsOf (ns.map PyData.bool) = some ns
  | [] => rfl
  | n :: r => by rw [List.map_cons]; unfold boolsOf; rw [boolsOf_map r]; rfl
theorem TrAll.intsOf {K : Fg} {G : Hp} : ∀ {vs : List V} {ds : List D} {ns : List Int}, TrAll K G vs ds → DL.intsOf ds = some ns → vs = ns.map V.int
  | _, _, _, .nil, h => by cases h; rfl
  | _, _, _, .cons a b, h => by
    cases a with
    | int i =>
      obtain ⟨l, h1, h⟩ := Option.bind_eq_some_iff.mp h
      cases h
      rw [TrAll.intsOf b h1]
      rfl
    | _ => cases h
theorem TrAll.boolsOf {K : Fg} {G : Hp} : ∀ {vs : List V} {ds : List D} {ns : List Bool}, TrAll K G vs ds → DL.boolsOf ds = some ns → vs = ns.map V.bl
  | _, _, _, .nil, h => by cases h; rfl
  | _, _, _, .cons a b, h => by
    cases a with
    | bl i =>
      obtain ⟨l, h1, h⟩ := Option.bind_eq_some_iff.mp h
      cases h
      rw [TrAll.boolsOf b h1]
      rfl
    | _ => cases h
def allD : List D → Option Val
  | [.list ds] => (boolsOf ds).bind fun bs => some (.fz (.bool (bs.all id)))
  | _ => none
def anyD : List D → Option Val
  | [.list ds] => (boolsOf ds).bind fun bs => some (.fz (.bool (bs.any id)))
  | _ => none
def sumD : List D → Option Val
  | [.list ds] => (intsOf ds).bind fun bs => some (.fz (.int bs.sum))
  | _ => none
theorem fd_all {K : Fg} : FnD K (rAll K) allD := by
  intro G H vs ds res Q s vv hr k
  unfold allD at hr
  split at hr
  · obtain ⟨bs, hb, hr⟩ := Option.bind_eq_some_iff.mp hr
    cases hr
    obtain ⟨v, rfl, v1⟩ := view1 vv
    obtain ⟨a, xs, rfl, hx, t⟩ := v1.list s
    cases t.boolsOf hb
    exact ⟨a, bs, rfl, .inl (.inl hx), k _ G H (Ex.refl s) (.bl _)⟩
  · cases hr
theorem fd_any {K : Fg} : FnD K (rAny K) anyD := by
  intro G H vs ds res Q s vv hr k
  unfold anyD at hr
  split at hr
  · obtain ⟨bs, hb, hr⟩ := Option.bind_eq_some_iff.mp hr
    cases hr
    obtain ⟨v, rfl, v1⟩ := view1 vv
    obtain ⟨a, xs, rfl, hx, t⟩ := v1.list s
    cases t.boolsOf hb
    exact ⟨a, bs, rfl, .inl (.inl hx), k _ G H (Ex.refl s) (.bl _)⟩
  · cases hr
theorem fd_sum {K : Fg} : FnD K (rSum K) sumD := by
  intro G H vs ds res Q s vv hr k
  unfold sumD at hr
  split at hr
  · obtain ⟨bs, hb, hr⟩ := Option.bind_eq_some_iff.mp hr
    cases hr
    obtain ⟨v, rfl, v1⟩ := view1 vv
    obtain ⟨a, xs, rfl, hx, t⟩ := v1.list s
    cases t.intsOf hb
    exact ⟨a, bs, rfl, .inl (.inl hx), k _ G H (Ex.refl s) (.int _)⟩
  · cases hr
/-- the greatest of a list -/
def maxOf : List Int → Option Int
  | [] => none
  | n :: r => match maxOf r with
    | none => some n
    | some m => some (if n ≤ m then m else n)
theorem maxOf_spec : ∀ {ns : List Int} {m : Int}, maxOf ns = some m → m ∈ ns ∧ ∀ y ∈ ns, y ≤ m
  | [], _, h => by cases h
  | n :: r, m, h => by
    unfold maxOf at h
    cases q : maxOf r with
    | none =>
      rw [q] at h
      cases h
      cases r with
      | nil => exact ⟨List.mem_cons_self, fun y hy => by cases hy with | head => exact Int.le_refl _ | tail _ h => cases h⟩
      | cons a b =>
        unfold maxOf at q
        split at q <;> cases q
    | some k =>
      rw [q] at h
      obtain ⟨h1, h2⟩ := maxOf_spec q
      have h : (if n ≤ k then k else n) = m := Option.some.inj h
      by_cases c : n ≤ k
      · rw [if_pos c] at h
        subst h
        exact ⟨List.mem_cons_of_mem _ h1, fun y hy => by cases hy with | head => exact c | tail _ z => exact h2 y z⟩
      · rw [if_neg c] at h
        subst h
        exact ⟨List.mem_cons_self, fun y hy => by
          cases hy with
          | head => exact Int.le_refl _
          | tail _ z => have := h2 y z; omega⟩
theorem maxOf_eq {ns : List Int} {m k : Int} (h : maxOf ns = some m) (h1 : k ∈ ns) (h2 : ∀ y ∈ ns, y ≤ k) : k = m := by
  obtain ⟨a, b⟩ := maxOf_spec h
  have := h2 m a
  have := b k h1
  omega
def maxLD : List D → Option Val
  | [.list ds] => (intsOf ds).bind fun ns => (maxOf ns).bind fun m => some (.fz (.int m))
  | _ => none
theorem fd_maxL {K : Fg} : FnD K (rMax K) maxLD := by
  intro G H vs ds res Q s vv hr k
  unfold maxLD at hr
  split at hr
  · obtain ⟨ns, hb, hr⟩ := Option.bind_eq_some_iff.mp hr
    obtain ⟨m, hm, hr⟩ := Option.bind_eq_some_iff.mp hr
    cases hr
    obtain ⟨v, rfl, v1⟩ := view1 vv
    obtain ⟨a, xs, rfl, hx, t⟩ := v1.list s
    cases t.intsOf hb
    refine ⟨a, ns, rfl, .inl (.inl hx), ?_, fun j h1 h2 => ?_⟩
    · cases ns with
      | nil => cases hm
      | cons => exact Nat.zero_lt_succ _
    · rw [maxOf_eq hm h1 h2]
      exact k _ G H (Ex.refl s) (.int _)
  · cases hr

/-! ### isinstance -/
def tyName : D → Option String
  | .none => some "NoneType"
  | .bool _ => some "bool"
  | .int _ => some "int"
  | .str _ => some "str"
  | .list _ => some "list"
  | .tuple _ => some "tuple"
  | .dict [] => some "dict"
  | .dict ((.none, _) :: _) => none
  | .dict _ => some "dict"
theorem View.ty {K : Fg} {G H : Hp} (s : Same G H) {v : V} {d : D} {T : String} (h : View K G H v d) (e : tyName d = some T) : TyX K H v (.type T) := by
  cases h with
  | sc h =>
    cases h with
    | non => cases e; exact .base .non
    | bl b => cases e; exact .base (.bl b)
    | int i => cases e; exact .base (.int i)
    | str x => cases e; exact .base (.str x)
    | lst a b => cases e; exact .base (.lst (s _ _ a))
    | tup a b =>
      cases e
      rcases a with (a | ⟨o, a⟩) | ⟨o, its, n, a, c, _⟩
      · exact .base (.tup (s _ _ a))
      · exact .fTuple (s _ _ a)
      · exact .kTuple a c
    | dic a b =>
      cases b with
      | nil => cases e; exact .base (.dK (s _ _ a))
      | @cons q _ _ _ _ t r => cases q <;> (cases e; exact .base (.dK (s _ _ a)))
    | scr a => cases e
  | lst a b => cases e; exact .base (.lst a)
  | dic a b =>
    cases b with
    | nil => cases e; exact .base (.dK a)
    | @cons q _ _ _ _ t r => cases q <;> (cases e; exact .base (.dK a))
def isT (a b : String) : Bool := a == b || (a == "bool" && b == "int")
theorem kit_table : (["NoneType", "bool", "int", "str", "list", "tuple", "dict"].all fun a => ["bool", "int", "str", "list", "tuple", "dict"].all fun b => kitB a b == some (isT a b)) = true := by decide +kernel
theorem kit_isT {a b : String} (ha : a ∈ ["NoneType", "bool", "int", "str", "list", "tuple", "dict"]) (hb : b ∈ ["bool", "int", "str", "list", "tuple", "dict"]) : kitB a b = some (isT a b) := by
  have h := List.all_eq_true.mp (List.all_eq_true.mp kit_table a ha) b hb
  exact eq_of_beq h
theorem tyName_mem {d : D} {T : String} (e : tyName d = some T) : T ∈ ["NoneType", "bool", "int", "str", "list", "tuple", "dict"] := by
  unfold tyName at e
  split at e <;> first | (cases e; simp; done) | cases e
def isiD (T : String) (d : D) : Option Val := (tyName d).bind fun t => some (.fz (.bool (isT t T)))
theorem de_isi {e : Expr} {f : Me Val} {p p2 : Pos} {T : Str} {Ts : String} (hg : Gl X "isinstance") (hm : X.mg "isinstance" = none) (ha : DE X B e f) (hg2 : Gl X T) (hm2 : X.mg T = none) (hv : bootBuiltins T = some (.type Ts)) (hT : Ts ∈ ["bool", "int", "str", "list", "tuple", "dict"] := by decide)
    (hn : T ≠ "__name__" := by decide) (hd : (T == ("__debug__" : Str)) = false := by decide)
    (he : starEach [e, .Name T p2] X.env = (false, eval e X.env) :: starEach [.Name T p2] X.env := by rfl) (he2 : starEach [.Name T p2] X.env = (false, eval (.Name T p2) X.env) :: starEach [] X.env := by rfl) (hpl : (backTo pos (starEach [.Name T p2] X.env)).any (·.1) = false := by rfl) :
    DE X B (.Call (.Name "isinstance" p) [e, .Name T p2] [] pos) (unM (isiD Ts) f) := by
  refine PE.weak (pe_callB call_isi hg hm (by decide +kernel) (pa_cons ha (pa_cons (pe_bltn (v := .ty Ts) hg2 hm2 hv rfl hn hd) pa_nil he2) he) (by decide) (by decide) he hpl) fun σ H Q h => ?_
  obtain ⟨G, δ, res, δ', R, e, k⟩ := h
  obtain ⟨x, δ1, e1, e⟩ := mb_some e
  obtain ⟨e3, rfl⟩ := mo_some e
  obtain ⟨a, ea, e3⟩ := Option.bind_eq_some_iff.mp e3
  obtain ⟨t, et, e3⟩ := Option.bind_eq_some_iff.mp e3
  cases e3
  refine ⟨G, δ, x, _, R, e1, fun v G1 H1 s1 R1 v1 => ?_⟩
  exact ⟨v, .ty Ts, .type t, .type Ts, _, rfl, .ty Ts, (v1.view R1 ea).ty R1.same et, kit_ty (kit_isT (tyName_mem et) hT), k _ G1 H1 s1 R1 (.bl _)⟩
def isiD2 (T U : String) (d : D) : Option Val := (tyName d).bind fun t => some (.fz (.bool (isT t T || isT t U)))
theorem de_isi2 {e : Expr} {f : Me Val} {p p2 p3 pt : Pos} {kt} {T U : Str} {Ts Us : String} (hg : Gl X "isinstance") (hm : X.mg "isinstance" = none) (ha : DE X B e f) (hg2 : Gl X T) (hm2 : X.mg T = none) (hv : bootBuiltins T = some (.type Ts)) (hg3 : Gl X U) (hm3 : X.mg U = none) (hv3 : bootBuiltins U = some (.type Us)) (hT : Ts ∈ ["bool", "int", "str", "list", "tuple", "dict"] := by decide) (hU : Us ∈ ["bool", "int", "str", "list", "tuple", "dict"] := by decide)
    (hn : T ≠ "__name__" := by decide) (hd : (T == ("__debug__" : Str)) = false := by decide) (hn3 : U ≠ "__name__" := by decide) (hd3 : (U == ("__debug__" : Str)) = false := by decide)
    (he : starEach [e, .Tuple [.Name T p2, .Name U p3] kt pt] X.env = (false, eval e X.env) :: starEach [.Tuple [.Name T p2, .Name U p3] kt pt] X.env := by rfl)
    (he2 : starEach [.Tuple [.Name T p2, .Name U p3] kt pt] X.env = (false, eval (.Tuple [.Name T p2, .Name U p3] kt pt) X.env) :: starEach [] X.env := by rfl) (hpl : (backTo pos (starEach [.Tuple [.Name T p2, .Name U p3] kt pt] X.env)).any (·.1) = false := by rfl)
    (he3 : starEach [.Name T p2, .Name U p3] X.env = (false, eval (.Name T p2) X.env) :: starEach [.Name U p3] X.env := by rfl) (he4 : starEach [.Name U p3] X.env = (false, eval (.Name U p3) X.env) :: starEach [] X.env := by rfl) :
    DE X B (.Call (.Name "isinstance" p) [e, .Tuple [.Name T p2, .Name U p3] kt pt] [] pos) (unM (isiD2 Ts Us) f) := by
  refine PE.weak (pe_callB call_isiT hg hm (by decide +kernel) (pa_cons ha (pa_cons (pe_tup (pa_cons (pe_bltn (v := .ty Ts) hg2 hm2 hv rfl hn hd) (pa_cons (pe_bltn (v := .ty Us) hg3 hm3 hv3 rfl hn3 hd3) pa_nil he4) he3)) pa_nil he2) he) (by decide) (by decide) he hpl) fun σ H Q h => ?_
  obtain ⟨G, δ, res, δ', R, e, k⟩ := h
  obtain ⟨x, δ1, e1, e⟩ := mb_some e
  obtain ⟨e3, rfl⟩ := mo_some e
  obtain ⟨a, ea, e3⟩ := Option.bind_eq_some_iff.mp e3
  obtain ⟨t, et, e3⟩ := Option.bind_eq_some_iff.mp e3
  cases e3
  refine ⟨G, δ, x, _, R, e1, fun v G1 H1 s1 R1 v1 => ?_⟩
  refine ⟨by show 2 ≤ sizeLine; decide, fun p n => ?_⟩
  have x := Ex.push R1.same (.tup [.ty Ts, .ty Us]) n
  have ty := ((v1.view R1 ea).ty R1.same et)
  refine ⟨v, p, [.ty Ts, .ty Us], .type t, [.type Ts, .type Us], _, rfl, upd_same, .cons (.ty Ts) (.cons (.ty Us) .nil), ?_, kitAny_cons (b := isT t Ts) (r := isT t Ts || isT t Us) (kit_ty (kit_isT (tyName_mem et) hT)) (fun h => ?_) (fun h => by rw [h]; rfl), k _ G1 _ (s1.trans x.g) (R1.ex x) (.bl _)⟩
  · exact View.ty x.gh ((v1.view R1 ea).up x.h) et
  · rw [h, Bool.false_or]
    refine kitAny_cons (b := isT t Us) (kit_ty (kit_isT (tyName_mem et) hU)) (fun h => by rw [h]; exact kitAny_nil) fun h => h
end
end DL
end
section
set_option maxRecDepth 100000
set_option maxHeartbeats 4000000
namespace DL
open PySem PySem.Spec L2
open PyProof.Rows hiding St

section
variable {X : Cx} {B : Bs} {pos : Pos}

/-! ### items, slices -/
theorem atI_tr {K : Fg} {G : Hp} {xs : List V} {ds : List D} {i : Int} {d : D} (t : TrAll K G xs ds) (h : atI ds i = some d) : ∃ v, atI xs i = some v ∧ Tr K G v d := by
  unfold atI at h ⊢
  rw [t.len]
  obtain ⟨j, e, h⟩ := Option.bind_eq_some_iff.mp h
  obtain ⟨v, e2, t2⟩ := t.get h
  exact ⟨v, by rw [e]; exact e2, t2⟩
def ixD : D → D → Option Val
  | .list ds, .int i => (atI ds i).bind fun d => some (.fz d)
  | .tuple ds, .int i => (atI ds i).bind fun d => some (.fz d)
  | .str x, .int i => if szOk x.length then (atI x.cps.toList i).bind fun c => some (.fz (.str ⟨#[c]⟩)) else none
  | .dict [(.none, .list ds)], .int i => (atI ds i).bind fun d => some (.fz d)
  | _, _ => none
theorem atI_ints {ns : List Int} {i : Int} {d : D} (h : atI (ns.map PyData.int) i = some d) : ∃ n : Int, atI (ns.map V.int) i = some (.int n) ∧ d = .int n := by
  unfold atI at h ⊢
  rw [List.length_map] at h ⊢
  obtain ⟨j, e, h⟩ := Option.bind_eq_some_iff.mp h
  rw [List.getElem?_map] at h
  obtain ⟨n, e2, rfl⟩ := Option.map_eq_some_iff.mp h
  exact ⟨n, by rw [e]; show (ns.map V.int)[j]? = _; rw [List.getElem?_map, e2]; rfl, rfl⟩
theorem od_ix {K : Fg} : OpD K (rIx K) ixD := by
  intro G H x y d e res Q s vx vy hr k
  unfold ixD at hr
  split at hr
  · obtain ⟨c, hc, hr⟩ := Option.bind_eq_some_iff.mp hr
    cases hr
    obtain ⟨a, xs, rfl, hx, t⟩ := vx.list s
    obtain ⟨v, e1, t1⟩ := atI_tr t hc
    exact .inl ⟨a, xs, _, v, rfl, vy.int, .inl (.inl hx), e1, k _ G H (Ex.refl s) t1⟩
  · obtain ⟨c, hc, hr⟩ := Option.bind_eq_some_iff.mp hr
    cases hr
    obtain ⟨a, xs, rfl, hx, t⟩ := vx.tuple s
    obtain ⟨v, e1, t1⟩ := atI_tr t hc
    exact .inr (.inl ⟨a, xs, _, v, rfl, vy.int, hx, e1, k _ G H (Ex.refl s) t1⟩)
  · rename_i z i
    by_cases hz : szOk z.length = true
    · rw [if_pos hz] at hr
      obtain ⟨c, hc, hr⟩ := Option.bind_eq_some_iff.mp hr
      cases hr
      exact .inr (.inr ⟨z, i, c, vx.str, vy.int, szOk_le hz, hc, k _ G H (Ex.refl s) (.str _)⟩)
    · rw [if_neg hz] at hr
      cases hr
  · obtain ⟨c, hc, hr⟩ := Option.bind_eq_some_iff.mp hr
    cases hr
    obtain ⟨a, ns, rfl, hx, rfl⟩ := vx.scr' s
    obtain ⟨n, e1, rfl⟩ := atI_ints hc
    exact .inl ⟨a, _, _, _, rfl, vy.int, hx, e1, k _ G H (Ex.refl s) (.int _)⟩
  · cases hr
theorem de_ix {a b : Expr} {f g : Me Val} (ha : DE X B a f) (hb : DE X B b g) (hs : PlainIx b := by exact fun _ _ => rfl) : DE X B (.Subscript a b pos) (binM ixD f g) := PE.weak (pe_ix ix_seq ha hb hs) (tOp_of od_ix)

/-- a part of a slice -/
def toOf (K : Fg) (B : Bs) (f : Me (Option Int)) : TO := fun σ H Q => ∃ G δ r δ', RelS K B G H δ σ ∧ f δ = some (r, δ') ∧
  ∀ G' H', Same G G' → RelS K B G' H' δ' σ → Q r H'
abbrev DP (X : Cx) (B : Bs) (e : Option Expr) (f : Me (Option Int)) : Prop := PO X e (toOf X.K B f)
theorem PO.weak {X : Cx} {e : Option Expr} {t t' : TO} (h : PO X e t) (i : ∀ σ H Q, t' σ H Q → t σ H Q) : PO X e t' := ⟨fun pins s σ H Q I w => h.run pins s σ H Q I (i _ _ _ w)⟩
def partM (f : Me Val) : Me (Option Int) := fun δ => match f δ with
  | some (.fz (.int i), δ') => some (some i, δ')
  | _ => none
theorem dp_none : DP X B none (mr none) := PO.weak po_none fun σ H Q h => by
  obtain ⟨G, δ, r, δ', R, e, k⟩ := h
  cases e
  exact k G H (Same.refl _) R
theorem dp_some {e : Expr} {f : Me Val} (h : DE X B e f) : DP X B (some e) (partM f) := PO.weak (po_some h) fun σ H Q h => by
  obtain ⟨G, δ, r, δ', R, e, k⟩ := h
  unfold partM at e
  split at e
  · rename_i i δ1 q
    cases e
    refine ⟨G, δ, _, _, R, q, fun v G' H' s R' t => ?_⟩
    have t : Tr X.K G' v (.int i) := t
    cases t
    exact ⟨i, rfl, k G' H' s R'⟩
  · cases e
def cutD (ds : List D) (lo hi : Option Int) : List D := (ds.drop (HT.sIx ds.length 0 lo)).take (HT.sIx ds.length ds.length hi - HT.sIx ds.length 0 lo)
theorem cut_tr {K : Fg} {G : Hp} {xs : List V} {ds : List D} (lo hi : Option Int) (t : TrAll K G xs ds) : TrAll K G (cutV xs lo hi) (cutD ds lo hi) := by
  unfold cutV cutD
  rw [t.len]
  exact (t.drop _).take _
def slD (d : D) (lo hi : Option Int) : Option Val := match d with
  | .list ds => some (.ow (.list (cutD ds lo hi)))
  | .tuple ds => some (.fz (.tuple (cutD ds lo hi)))
  | .str x => if szOk x.length then some (.fz (.str (cutS x lo hi))) else none
  | _ => none
def rSlAll (K : Fg) : V → Option Int → Option Int → Hp → VK → Prop := fun x lo hi H Q => rSlL K x lo hi H Q ∨ rSlA K x lo hi H Q ∨ rSlS x lo hi H Q
theorem sl_all {X : Cx} : SlR X (rSlAll X.K) := sl_list.or (sl_tupA.or sl_str)
theorem cutV_whole {xs : List V} {lo hi : Option Int} (h : HT.sIx xs.length 0 lo = 0 ∧ HT.sIx xs.length xs.length hi = xs.length) : cutV xs lo hi = xs := by
  unfold cutV
  rw [h.1, h.2]
  simp
theorem cutD_whole {xs : List D} {lo hi : Option Int} (h : HT.sIx xs.length 0 lo = 0 ∧ HT.sIx xs.length xs.length hi = xs.length) : cutD xs lo hi = xs := by
  unfold cutD
  rw [h.1, h.2]
  simp
def slM (f : Me Val) (l u : Me (Option Int)) : Me Val := mb f fun x => mb l fun lo => mb u fun hi => mo fun δ => (dv δ x).bind fun d => slD d lo hi
theorem de_slice {e : Expr} {lo hi : Option Expr} {p2 : Pos} {f : Me Val} {l u : Me (Option Int)} (he : DE X B e f) (hl : DP X B lo l) (hu : DP X B hi u) : DE X B (.Subscript e (.Slice lo hi none p2) pos) (slM f l u) := by
  refine PE.weak (pe_slice sl_all he hl hu) fun σ H Q h => ?_
  obtain ⟨G, δ, r, δ', R, e, k⟩ := h
  obtain ⟨x, δ1, e1, e⟩ := mb_some e
  obtain ⟨a, δ2, e2, e⟩ := mb_some e
  obtain ⟨b, δ3, e3, e⟩ := mb_some e
  obtain ⟨e4, rfl⟩ := mo_some e
  obtain ⟨d, ed, e4⟩ := Option.bind_eq_some_iff.mp e4
  refine ⟨G, δ, x, δ1, R, e1, fun v G1 H1 s1 R1 v1 => ?_⟩
  obtain ⟨G1', s1', R1', v1'⟩ := v1.freeze R1
  refine ⟨G1', δ1, a, δ2, R1', e2, fun G2 H2 s2 R2 => ?_⟩
  refine ⟨G2, δ2, b, _, R2, e3, fun G3 H3 s3 R3 => ?_⟩
  have v3 := RV.stay (B := B) (G' := G3) (H' := H3) (δ' := δ') (s2.trans s3) v1'
  have vw := v3.view R3 (by rw [dv_fzv]; exact ed)
  have sg := ((s1.trans s1').trans s2).trans s3
  cases d with
  | list ds =>
    cases e4
    obtain ⟨p, xs, rfl, hx, t⟩ := vw.list R3.same
    refine .inl ⟨p, xs, rfl, .inl (.inl hx), fun q n => ?_⟩
    have x := Ex.push R3.same (.lst (cutV xs a b)) n
    exact k _ _ _ (sg.trans x.g) (R3.ex x) (RO.rv R3 (RO.newL R3.same (cut_tr a b t) n))
  | tuple ds =>
    cases e4
    have ft := vw.tupT
    obtain ⟨p, xs, rfl, hx, t⟩ := vw.tuple R3.same
    refine .inr (.inl ⟨p, xs, rfl, hx, fun z => ?_, fun _ q n => ?_⟩)
    · rw [t.len] at z
      rw [cutD_whole z] at k
      exact k _ G3 H3 sg R3 ft
    · have x := Ex.pushF R3.same (.tup (cutV xs a b)) n
      exact k _ _ _ (sg.trans x.g) (R3.ex x) (RO.rv (H := H3) R3 (RO.newT R3.same (cut_tr a b t) n))
  | str z =>
    obtain ⟨c, rfl⟩ := ite_some e4
    cases vw.str
    exact .inr (.inr ⟨z, rfl, szOk_le c, k _ G3 H3 sg R3 (.str _)⟩)
  | _ => cases e4
/-- xs[::-1] of a list -/
def revD : D → Option Val
  | .list ds => some (.ow (.list ds.reverse))
  | _ => none
theorem de_rev {e : Expr} {kk : Nat} {p1 p2 p3 : Pos} {f : Me Val} (he : DE X B e f) : DE X B (.Subscript e (.Slice none none (some (.UnaryOp .USub (.Constant (.int 1) kk p1) p2)) p3) pos) (unM revD f) := by
  refine PE.weak (pe_revL he) fun σ H Q h => ?_
  obtain ⟨G, δ, res, δ', R, e, k⟩ := h
  obtain ⟨x, δ1, e1, e⟩ := mb_some e
  obtain ⟨e3, rfl⟩ := mo_some e
  obtain ⟨a, ea, e3⟩ := Option.bind_eq_some_iff.mp e3
  refine ⟨G, δ, x, _, R, e1, fun v G1 H1 s1 R1 v1 => ?_⟩
  have vw := v1.view R1 ea
  cases a with
  | list ds =>
    cases e3
    obtain ⟨p, xs, rfl, hx, t⟩ := vw.list R1.same
    refine ⟨p, xs, rfl, .inl (.inl hx), fun q n => ?_⟩
    have x := Ex.push R1.same (.lst xs.reverse) n
    exact k _ _ _ (s1.trans x.g) (R1.ex x) (RO.rv R1 (RO.newL R1.same t.reverse n))
  | _ => cases e3

/-! ### statements -/
inductive Fl where
  | nx
  | bk
  | ct
  | rt (v : Val)
abbrev Ss := DS → Option (Fl × DS)
def FlPost (K : Fg) (B : Bs) (E : Ends) (G H : Hp) (δ : DS) (σ : L2.St) : Fl → Prop
  | .nx => E.nx σ H
  | .bk => E.bk σ H
  | .ct => E.ct σ H
  | .rt r => ∀ v, RV K B G H δ σ v r → E.rt v H
def SOf (K : Fg) (B : Bs) (g : Ss) : TS := fun E σ H => ∃ G δ fl δ', RelS K B G H δ σ ∧ g δ = some (fl, δ') ∧ ∀ σ' G' H', Same G G' → RelS K B G' H' δ' σ' → FlPost K B E G' H' δ' σ' fl
abbrev SS (X : Cx) (B : Bs) (st : Stmt) (g : Ss) : Prop := PS X st (SOf X.K B g)
abbrev SB (X : Cx) (B : Bs) (st : List Stmt) (g : Ss) : Prop := PSs X st (SOf X.K B g)
def skipS : Ss := fun δ => some (.nx, δ)
def seqS (g h : Ss) : Ss := fun δ => match g δ with
  | some (.nx, δ1) => h δ1
  | r => r
theorem SOf.skip {K : Fg} {E : Ends} {σ : L2.St} {H : Hp} {fl : Fl} (h : SOf K B (fun δ => some (fl, δ)) E σ H) : ∃ G δ, RelS K B G H δ σ ∧ FlPost K B E G H δ σ fl := by
  obtain ⟨G, δ, fl', δ', R, e, k⟩ := h
  cases e
  exact ⟨G, δ, R, k σ G H (Same.refl _) R⟩
theorem sb_nil : SB X B [] skipS := PSs.weak pss_nil fun E σ H h => by
  obtain ⟨G, δ, R, k⟩ := SOf.skip h
  exact k
theorem sb_cons {st : Stmt} {rest : List Stmt} {g h : Ss} (h1 : SS X B st g) (h2 : SB X B rest h) : SB X B (st :: rest) (seqS g h) := PSs.weak (pss_cons h1 h2) fun E σ H q => by
  obtain ⟨G, δ, fl, δ', R, e, k⟩ := q
  unfold seqS at e
  cases hg : g δ with
  | none => rw [hg] at e; cases e
  | some p =>
    obtain ⟨f1, δ1⟩ := p
    rw [hg] at e
    refine ⟨G, δ, f1, δ1, R, hg, fun σ' G' H' s R' => ?_⟩
    cases f1 with
    | nx => exact ⟨G', δ1, fl, δ', R', e, fun σ2 G2 H2 s2 R2 => k σ2 G2 H2 (s.trans s2) R2⟩
    | bk =>
      cases e
      exact k σ' G' H' s R'
    | ct =>
      cases e
      exact k σ' G' H' s R'
    | rt v =>
      cases e
      exact k σ' G' H' s R'
theorem sb_one {st : Stmt} {g : Ss} (h : SS X B st g) : SB X B [st] g := pss_one h
theorem ss_pass : SS X B (.Pass pos) skipS := PS.weak ps_pass fun E σ H h => by
  obtain ⟨G, δ, R, k⟩ := SOf.skip h
  exact k
theorem ss_break : SS X B (.Break pos) (fun δ => some (.bk, δ)) := PS.weak ps_break fun E σ H h => by
  obtain ⟨G, δ, R, k⟩ := SOf.skip h
  exact k
theorem ss_continue : SS X B (.Continue pos) (fun δ => some (.ct, δ)) := PS.weak ps_continue fun E σ H h => by
  obtain ⟨G, δ, R, k⟩ := SOf.skip h
  exact k
/-- never come to -/
theorem ss_never {st : Stmt} : SS X B st (fun _ => none) := PS.weak ps_never fun E σ H h => by
  obtain ⟨G, δ, fl, δ', R, e, k⟩ := h
  cases e
theorem sb_never {st : List Stmt} : SB X B st (fun _ => none) := PSs.weak pss_never fun E σ H h => by
  obtain ⟨G, δ, fl, δ', R, e, k⟩ := h
  cases e
def ifS (c : Me Bool) (g h : Ss) : Ss := fun δ => match c δ with
  | some (true, δ1) => g δ1
  | some (false, δ1) => h δ1
  | none => none
theorem ss_if {c : Expr} {a b : List Stmt} {fc : Me Bool} {g h : Ss} (hc : DT X B c fc) (ha : SB X B a g) (hb : SB X B b h) : SS X B (.If c a b pos) (ifS fc g h) := PS.weak (ps_if hc ha hb) fun E σ H q => by
  obtain ⟨G, δ, fl, δ', R, e, k⟩ := q
  unfold ifS at e
  cases hg : fc δ with
  | none => rw [hg] at e; cases e
  | some p =>
    obtain ⟨x, δ1⟩ := p
    rw [hg] at e
    refine ⟨G, δ, x, δ1, R, hg, fun G1 H1 s1 R1 => ?_⟩
    cases x with
    | true => exact ⟨G1, δ1, fl, δ', R1, e, fun σ2 G2 H2 s2 R2 => k σ2 G2 H2 (s1.trans s2) R2⟩
    | false => exact ⟨G1, δ1, fl, δ', R1, e, fun σ2 G2 H2 s2 R2 => k σ2 G2 H2 (s1.trans s2) R2⟩

/-! ### slots stored -/
/-- a slot may be stored: it is no handed-in list -/
def freeAt (δ : DS) (i : Nat) : Bool := match δ[i]? with
  | some (.own true _) => false
  | _ => true
def asg (i : Nat) (v : Val) (δ : DS) : Option DS := if freeAt δ i then (match v with
  | .fz d => some (δ.set i (.dat d))
  | .ow d => some (δ.set i (.own false d))
  | .sl _ => none) else none
theorem RelS.set {K : Fg} {G H : Hp} {δ δ' : DS} {σ : L2.St} {i : Nat} {v : V} {r : Val} (R : RelS K B G H δ σ) (h : RV K B G H δ σ v r) (e : asg i r δ = some δ') : RelS K B G H δ' (σ.set i (some v)) := by
  have other : ∀ {s s' : Sl} {j : Nat}, (δ.set i s)[j]? = some s' → (j = i ∧ s = s') ∨ (j ≠ i ∧ δ[j]? = some s') := fun {s s' j} q => by
    by_cases hj : j = i
    · subst hj
      have hl : j < δ.length := by
        have := (List.getElem?_eq_some_iff.mp q).1
        rwa [List.length_set] at this
      rw [List.getElem?_set_self hl] at q
      exact .inl ⟨rfl, Option.some.inj q⟩
    · rw [List.getElem?_set_ne (Ne.symm hj)] at q
      exact .inr ⟨hj, q⟩
  have hs : ∀ {s : Sl} {j : Nat} {s' : Sl}, (δ.set i s)[j]? = some s' → j = i → (σ.set i (some v))[j]? = some (some v) := fun {s j s'} q hj => by
    subst hj
    have hl : j < δ.length := by
      have := (List.getElem?_eq_some_iff.mp q).1
      rwa [List.length_set] at this
    rw [List.getElem?_set_self (by rw [← R.len]; exact hl)]
  unfold asg at e
  split at e
  · rename_i hfree
    cases r with
    | fz d =>
      cases e
      refine ⟨by rw [List.length_set, List.length_set]; exact R.len, R.same, R.g0, R.nw, R.frame, R.dom, R.iod, fun j d' q => ?_, fun j b d' q => ?_, fun j k b b' a d1 d2 q1 q2 z1 z2 => ?_⟩
      · rcases other q with ⟨hj, hd⟩ | ⟨hj, q'⟩
        · cases hd
          exact ⟨v, hs q hj, h⟩
        · rw [List.getElem?_set_ne (Ne.symm hj)]
          exact R.dat j d' q'
      · rcases other q with ⟨hj, hd⟩ | ⟨hj, q'⟩
        · cases hd
        · rw [List.getElem?_set_ne (Ne.symm hj)]
          exact R.own j b d' q'
      · rcases other q1 with ⟨hj, hd⟩ | ⟨hj, q1'⟩
        · cases hd
        · rcases other q2 with ⟨hk, hd⟩ | ⟨hk, q2'⟩
          · cases hd
          · rw [List.getElem?_set_ne (Ne.symm hj)] at z1
            rw [List.getElem?_set_ne (Ne.symm hk)] at z2
            exact R.inj j k b b' a d1 d2 q1' q2' z1 z2
    | sl j => cases e
    | ow d =>
      cases e
      obtain ⟨a0, rfl, n, n0, rt, u⟩ := h
      refine ⟨by rw [List.length_set, List.length_set]; exact R.len, R.same, R.g0, R.nw, R.frame, R.dom, R.iod, fun j d' q => ?_, fun j b d' q => ?_, fun j k b b' a d1 d2 q1 q2 z1 z2 => ?_⟩
      · rcases other q with ⟨hj, hd⟩ | ⟨hj, q'⟩
        · cases hd
        · rw [List.getElem?_set_ne (Ne.symm hj)]
          exact R.dat j d' q'
      · rcases other q with ⟨hj, hd⟩ | ⟨hj, q'⟩
        · cases hd
          exact ⟨a0, hs q hj, n, n0, rt⟩
        · rw [List.getElem?_set_ne (Ne.symm hj)]
          exact R.own j b d' q'
      · rcases other q1 with ⟨hj, hd⟩ | ⟨hj, q1'⟩
        · rcases other q2 with ⟨hk, hd'⟩ | ⟨hk, q2'⟩
          · rw [hj, hk]
          · have z1' := hs q1 hj
            rw [z1'] at z1
            cases z1
            rw [List.getElem?_set_ne (Ne.symm hk)] at z2
            exact (u k b' d2 q2' z2).elim
        · rcases other q2 with ⟨hk, hd'⟩ | ⟨hk, q2'⟩
          · have z2' := hs q2 hk
            rw [z2'] at z2
            cases z2
            rw [List.getElem?_set_ne (Ne.symm hj)] at z1
            exact (u j b d1 q1' z1).elim
          · rw [List.getElem?_set_ne (Ne.symm hj)] at z1
            rw [List.getElem?_set_ne (Ne.symm hk)] at z2
            exact R.inj j k b b' a d1 d2 q1' q2' z1 z2
  · cases e
/-- a slot is forgotten, or its list given to what stays -/
theorem RelS.drop {K : Fg} {G H : Hp} {δ : DS} {σ : L2.St} (i : Nat) (R : RelS K B G H δ σ) : RelS K B G H (δ.set i .un) σ := by
  have other : ∀ {s' : Sl} {j : Nat}, s' ≠ .un → (δ.set i .un)[j]? = some s' → δ[j]? = some s' := fun {s' j} hn q => by
    by_cases hj : j = i
    · subst hj
      have hl : j < δ.length := by
        have := (List.getElem?_eq_some_iff.mp q).1
        rwa [List.length_set] at this
      rw [List.getElem?_set_self hl] at q
      exact (hn (Option.some.inj q).symm).elim
    · rw [List.getElem?_set_ne (Ne.symm hj)] at q
      exact q
  exact ⟨by rw [List.length_set]; exact R.len, R.same, R.g0, R.nw, R.frame, R.dom, R.iod, fun j d q => R.dat j d (other (fun z => nomatch z) q), fun j b d q => R.own j b d (other (fun z => nomatch z) q), fun j k b b' a d1 d2 q1 q2 => R.inj j k b b' a d1 d2 (other (fun z => nomatch z) q1) (other (fun z => nomatch z) q2)⟩
def setS (i : Nat) (f : Me Val) : Ss := fun δ => match f δ with
  | some (v, δ1) => (asg i v δ1).bind fun δ2 => some (.nx, δ2)
  | none => none
theorem ss_set {i : Nat} {x : Str} {e : Expr} {f : Me Val} {pos' : Pos} (hN : X.N.Nodup) (hi : X.N[i]? = some x) (hx : Loc X.env.scope x) (he : DE X B e f) (hs : swapsWith e (some (.Name x pos')) pos.line X.env = pure false := by rfl) (hf : X.fn x = true ∨ X.env.scope.names.lookup x = some .local := by first | exact .inl rfl | exact .inr rfl | assumption) :
    SS X B (.Assign [.Name x pos'] e pos) (setS i f) := PS.weak (ps_set hN hi hx he hs hf) fun E σ H q => by
  obtain ⟨G, δ, fl, δ', R, e, k⟩ := q
  unfold setS at e
  cases hg : f δ with
  | none => rw [hg] at e; cases e
  | some p =>
    obtain ⟨v, δ1⟩ := p
    rw [hg] at e
    obtain ⟨δ2, e2, e3⟩ := Option.bind_eq_some_iff.mp e
    cases e3
    exact ⟨G, δ, v, δ1, R, hg, fun u G1 H1 s1 R1 v1 => k _ G1 H1 s1 (R1.set v1 e2)⟩
/-- return -/
def retV (v : Val) (δ : DS) : Option (Fl × DS) := match v with
  | .fz d => some (.rt (.fz d), δ)
  | .ow d => some (.rt (.ow d), δ)
  | .sl i => match δ[i]? with
    | some (.own false d) => some (.rt (.ow d), δ.set i .un)
    | _ => none
def retS (f : Me Val) : Ss := fun δ => match f δ with
  | some (v, δ1) => retV v δ1
  | none => none
theorem ss_ret {e : Expr} {f : Me Val} (he : DE X B e f) : SS X B (.Return (some e) pos) (retS f) := PS.weak (ps_ret he) fun E σ H q => by
  obtain ⟨G, δ, fl, δ', R, e, k⟩ := q
  unfold retS at e
  cases hg : f δ with
  | none => rw [hg] at e; cases e
  | some p =>
    obtain ⟨v, δ1⟩ := p
    rw [hg] at e
    refine ⟨G, δ, v, δ1, R, hg, fun u G1 H1 s1 R1 v1 => ?_⟩
    cases v with
    | fz d =>
      cases e
      exact k σ G1 H1 s1 R1 u v1
    | ow d =>
      cases e
      exact k σ G1 H1 s1 R1 u v1
    | sl i =>
      have e : (match δ1[i]? with | some (.own false d) => some (Fl.rt (.ow d), δ1.set i .un) | _ => none) = some (fl, δ') := e
      split at e
      · rename_i d q
        cases e
        have v1 : σ[i]? = some (some u) := v1
        obtain ⟨a, e1, n, m, rt⟩ := R1.own i false d q
        rw [v1] at e1
        cases e1
        refine k σ G1 H1 s1 (R1.drop i) _ ⟨a, rfl, n, m, rt, fun j b d' q' z => ?_⟩
        by_cases hj : j = i
        · subst hj
          have hl : j < δ1.length := (List.getElem?_eq_some_iff.mp q).1
          rw [List.getElem?_set_self hl] at q'
          cases q'
        · rw [List.getElem?_set_ne (Ne.symm hj)] at q'
          exact hj (R1.inj j i b false a d' d q' q z v1)
      · cases e
theorem ss_retN : SS X B (.Return none pos) (fun δ => some (.rt (.fz .none), δ)) := PS.weak ps_retN fun E σ H h => by
  obtain ⟨G, δ, R, k⟩ := SOf.skip h
  exact k .non .non
/-- an expression for its effect -/
def dropS (f : Me Val) : Ss := fun δ => match f δ with
  | some (_, δ1) => some (.nx, δ1)
  | none => none
theorem ss_expr {e : Expr} {f : Me Val} (he : DE X B e f) (hs : swapsWith e none pos.line X.env = pure false := by rfl) : SS X B (.Expr e pos) (dropS f) := PS.weak (ps_expr he hs) fun E σ H q => by
  obtain ⟨G, δ, fl, δ', R, e, k⟩ := q
  unfold dropS at e
  cases hg : f δ with
  | none => rw [hg] at e; cases e
  | some p =>
    obtain ⟨v, δ1⟩ := p
    rw [hg] at e
    cases e
    exact ⟨G, δ, v, _, R, hg, fun u G1 H1 s1 R1 v1 => k σ G1 H1 s1 R1⟩
/-- ahead of a statement a list is given to what stays -/
def frz (i : Nat) (δ : DS) : DS := match δ[i]? with
  | some (.own false d) => δ.set i (.dat d)
  | _ => δ
def frzS (i : Nat) (g : Ss) : Ss := fun δ => g (frz i δ)
theorem RelS.frz {K : Fg} {G H : Hp} {δ : DS} {σ : L2.St} (i : Nat) (R : RelS K B G H δ σ) : ∃ G', Same G G' ∧ RelS K B G' H (frz i δ) σ := by
  unfold DL.frz
  split
  · rename_i d q
    obtain ⟨a, e1, n, m, rt⟩ := R.own i false d q
    have r : RV K B G H (δ.set i .un) σ (.ref a) (.ow d) := ⟨a, rfl, n, m, rt, fun j b d' q' z => by
      by_cases hj : j = i
      · subst hj
        have hl : j < δ.length := (List.getElem?_eq_some_iff.mp q).1
        rw [List.getElem?_set_self hl] at q'
        cases q'
      · rw [List.getElem?_set_ne (Ne.symm hj)] at q'
        exact hj (R.inj j i b false a d' d q' q z e1)⟩
    obtain ⟨G', s, R', t⟩ := r.freeze (R.drop i)
    have hl : i < δ.length := (List.getElem?_eq_some_iff.mp q).1
    have hfree : freeAt (δ.set i .un) i = true := by
      unfold freeAt
      rw [List.getElem?_set_self hl]
    have R2 := R'.set (i := i) (δ' := δ.set i (.dat d)) t (by unfold asg; rw [if_pos hfree]; show some ((δ.set i .un).set i (.dat d)) = _; rw [List.set_set])
    have es : σ.set i (some (.ref a)) = σ := by
      apply List.ext_getElem?
      intro j
      by_cases hj : j = i
      · subst hj
        rw [List.getElem?_set_self (by rw [← R.len]; exact hl), e1]
      · rw [List.getElem?_set_ne (Ne.symm hj)]
    rw [es] at R2
    exact ⟨G', s, R2⟩
  · exact ⟨G, Same.refl _, R⟩
theorem ss_frz {st : Stmt} {g : Ss} (i : Nat) (h : SS X B st g) : SS X B st (frzS i g) := PS.weak h fun E σ H q => by
  obtain ⟨G, δ, fl, δ', R, e, k⟩ := q
  obtain ⟨G', s, R'⟩ := R.frz i
  exact ⟨G', _, fl, δ', R', e, fun σ2 G2 H2 s2 R2 => k σ2 G2 H2 (s.trans s2) R2⟩

/-! ### targets -/
abbrev Tg := Val → DS → Option DS
abbrev Tgs := List D → DS → Option DS
/-- but for the slots ws the frame is as it was -/
def Off (ws : List Nat) (σ σ' : L2.St) : Prop := σ'.length = σ.length ∧ ∀ j, j ∉ ws → σ'[j]? = σ[j]?
theorem Off.refl (ws : List Nat) (σ : L2.St) : Off ws σ σ := ⟨rfl, fun _ _ => rfl⟩
theorem Off.set {i : Nat} {σ : L2.St} {v : Option V} : Off [i] σ (σ.set i v) := ⟨List.length_set, fun j hj => List.getElem?_set_ne (fun h => hj (by simp [h]))⟩
theorem Off.trans {w1 w2 : List Nat} {a b c : L2.St} (h : Off w1 a b) (h' : Off w2 b c) : Off (w1 ++ w2) a c :=
  ⟨h'.1.trans h.1, fun j hj => (h'.2 j fun z => hj (List.mem_append_right _ z)).trans (h.2 j fun z => hj (List.mem_append_left _ z))⟩
def tgOf (K : Fg) (B : Bs) (ws : List Nat) (g : Tg) : TG := fun v σ H Q => ∃ G δ r δ', RelS K B G H δ σ ∧ RV K B G H δ σ v r ∧ g r δ = some δ' ∧ ∀ σ' G' H', Same G G' → RelS K B G' H' δ' σ' → Off ws σ σ' → Q σ' H'
def tgsOf (K : Fg) (B : Bs) (ws : List Nat) (g : Tgs) : TGs := fun vs σ H Q => ∃ G δ ds δ', RelS K B G H δ σ ∧ TrAll K G vs ds ∧ g ds δ = some δ' ∧ ∀ σ' G' H', Same G G' → RelS K B G' H' δ' σ' → Off ws σ σ' → Q σ' H'
abbrev DG (X : Cx) (B : Bs) (ws : List Nat) (e : Expr) (g : Tg) : Prop := PG X e (tgOf X.K B ws g)
abbrev DGs (X : Cx) (B : Bs) (ws : List Nat) (e : List Expr) (g : Tgs) : Prop := PGs X e (tgsOf X.K B ws g)
theorem PG.weak {X : Cx} {e : Expr} {t t' : TG} (h : PG X e t) (i : ∀ v σ H Q, t' v σ H Q → t v σ H Q) : PG X e t' := ⟨fun pins s σ H v u Q I r w => h.run pins s σ H v u Q I r (i _ _ _ _ w)⟩
theorem PGs.weak {X : Cx} {e : List Expr} {t t' : TGs} (h : PGs X e t) (i : ∀ v σ H Q, t' v σ H Q → t v σ H Q) : PGs X e t' := ⟨fun pins s σ H v u Q I r w => h.run pins s σ H v u Q I r (i _ _ _ _ w)⟩
theorem dg_name (i : Nat) {x : Str} (hN : X.N.Nodup) (hi : X.N[i]? = some x) (hx : Loc X.env.scope x) (hf : X.fn x = true ∨ X.env.scope.names.lookup x = some .local := by first | exact .inl rfl | exact .inr rfl | assumption) : DG X B [i] (.Name x pos) (asg i) :=
  PG.weak (pg_name hN hi hx hf) fun v σ H Q q => by
    obtain ⟨G, δ, r, δ', R, rv, e, k⟩ := q
    exact k _ G H (Same.refl _) (R.set rv e) Off.set
def nilG : Tgs := fun ds δ => match ds with
  | [] => some δ
  | _ => none
def consG (g : Tg) (h : Tgs) : Tgs := fun ds δ => match ds with
  | d :: r => (g (.fz d) δ).bind (h r)
  | _ => none
theorem dgs_nil : DGs X B [] [] nilG := PGs.weak pgs_nil fun vs σ H Q q => by
  obtain ⟨G, δ, ds, δ', R, t, e, k⟩ := q
  unfold nilG at e
  split at e
  · cases e
    cases t
    exact ⟨rfl, k σ G H (Same.refl _) R (Off.refl _ _)⟩
  · cases e
theorem dgs_cons {e : Expr} {es : List Expr} {g : Tg} {h : Tgs} {w1 w2 : List Nat} (h1 : DG X B w1 e g) (h2 : DGs X B w2 es h) (hs : (assignEach (e :: es) X.env).map (·.2) = assign e X.env :: (assignEach es X.env).map (·.2) := by rfl) : DGs X B (w1 ++ w2) (e :: es) (consG g h) := PGs.weak (pgs_cons h1 h2 hs) fun vs σ H Q q => by
  obtain ⟨G, δ, ds, δ', R, t, e, k⟩ := q
  unfold consG at e
  split at e
  · rename_i d r
    obtain ⟨δ1, e1, e2⟩ := Option.bind_eq_some_iff.mp e
    cases t with
    | cons a b => exact ⟨_, _, rfl, G, δ, .fz d, δ1, R, a, e1, fun σ1 G1 H1 s1 R1 o1 => ⟨G1, δ1, r, δ', R1, TrAll.mono s1 b, e2, fun σ2 G2 H2 s2 R2 o2 => k σ2 G2 H2 (s1.trans s2) R2 (o1.trans o2)⟩⟩
  · cases e
def tupG (n : Nat) (g : Tgs) : Tg := fun v δ => match v with
  | .fz (.tuple ds) => if ds.length = n then g ds δ else none
  | _ => none
theorem dg_tup {es : List Expr} {kk : Nat} {g : Tgs} {n : Nat} {ws : List Nat} (hc : X.calm = true) (h : DGs X B ws es g) (hn : (assignEach es X.env).length = n := by rfl) (hst : (assignEach es X.env).findIdx? (·.1) = none := by rfl) : DG X B ws (.Tuple es kk pos) (tupG n g) := PG.weak (pg_tup hc h hn hst) fun v σ H Q q => by
  obtain ⟨G, δ, r, δ', R, rv, e, k⟩ := q
  unfold tupG at e
  split at e
  · rename_i ds
    split at e
    · rename_i hl
      have rv : Tr X.K G v (.tuple ds) := rv
      cases rv with
      | @tup a xs _ hx t => exact ⟨a, xs, rfl, Same.tup R.same hx, by rw [t.len]; exact hl, G, δ, ds, δ', R, t, e, k⟩
    · cases e
  · cases e
/-- x[i] = .., x a list of one's own -/
theorem RelS.wr {K : Fg} {G H : Hp} {δ : DS} {σ : L2.St} {j : Nat} {b : Bool} {d d' : D} {a : Addr} {o : HO} (R : RelS K B G H δ σ) (q : δ[j]? = some (.own b d)) (e1 : σ[j]? = some (some (V.ref a))) (n : G a = none) (m : if b = true then (j, a) ∈ B.io else (B.H0 a = none ∨ B.lo a)) (rt : Root K G (upd H a o) a d') :
    RelS K B G (upd H a o) (δ.set j (.own b d')) σ := by
  have hl : j < δ.length := (List.getElem?_eq_some_iff.mp q).1
  have other : ∀ {s' : Sl} {i : Nat}, (δ.set j (.own b d'))[i]? = some s' → (i = j ∧ s' = .own b d') ∨ (i ≠ j ∧ δ[i]? = some s') := fun {s' i} z => by
    by_cases hj : i = j
    · subst hj
      rw [List.getElem?_set_self hl] at z
      exact .inl ⟨rfl, (Option.some.inj z).symm⟩
    · rw [List.getElem?_set_ne (Ne.symm hj)] at z
      exact .inr ⟨hj, z⟩
  have sm : Same G (upd H a o) := fun c x z => by
    have hc : c ≠ a := fun w => by rw [w, n] at z; cases z
    rw [upd_ne hc]
    exact R.same _ _ z
  refine ⟨by rw [List.length_set]; exact R.len, sm, R.g0, R.nw, fun c x z hio hlo => ?_, fun c x z => ?_, R.iod, fun i e z => ?_, fun i b' e z => ?_, fun i k b1 b2 c e e' z1 z2 y1 y2 => ?_⟩
  · have hc : c ≠ a := fun w => by
      subst w
      cases b with
      | true => exact hio (j, c) m rfl
      | false =>
        rcases (show B.H0 c = none ∨ B.lo c from m) with m' | m'
        · rw [m'] at z
          cases z
        · exact hlo m'
    rw [upd_ne hc]
    exact R.frame c x z hio hlo
  · by_cases hc : c = a
    · subst hc
      exact ⟨o, upd_same⟩
    · rw [upd_ne hc]
      exact R.dom c x z
  · rcases other z with ⟨_, w⟩ | ⟨_, z'⟩
    · cases w
    · exact R.dat i e z'
  · rcases other z with ⟨hj, w⟩ | ⟨hj, z'⟩
    · cases w
      rw [hj]
      exact ⟨a, e1, n, m, rt⟩
    · obtain ⟨c, f1, f2, f3, f4⟩ := R.own i b' e z'
      have hc : c ≠ a := fun w => by
        subst w
        exact hj (R.inj i j b' b c e d z' q f1 e1)
      exact ⟨c, f1, f2, f3, Root.mono (Same.refl _) (fun x y => by rw [upd_ne hc]; exact y) f4⟩
  · rcases other z1 with ⟨hi, w⟩ | ⟨hi, z1'⟩
    · rcases other z2 with ⟨hk, w'⟩ | ⟨hk, z2'⟩
      · rw [hi, hk]
      · subst hi
        exact R.inj i k b b2 c d e' q z2' y1 y2
    · rcases other z2 with ⟨hk, w'⟩ | ⟨hk, z2'⟩
      · subst hk
        exact R.inj i k b1 b c e d z1' q y1 y2
      · exact R.inj i k b1 b2 c e e' z1' z2' y1 y2
/-- the own list in a slot -/
def listAt (δ : DS) (j : Nat) : Option (Bool × List D) := match δ[j]? with
  | some (.own b (.list ds)) => some (b, ds)
  | _ => none
theorem listAt_some {δ : DS} {j : Nat} {p : Bool × List D} (h : listAt δ j = some p) : δ[j]? = some (.own p.1 (.list p.2)) := by
  unfold listAt at h
  split at h
  · rename_i b ds q
    cases h
    exact q
  · cases h
def subG (j : Nat) (fi : Me Val) : Tg := fun v δ => match v with
  | .sl _ => none
  | .fz d | .ow d => (listAt δ j).bind fun _ => match fi δ with
    | some (.fz (.int k), δ1) => (listAt δ1 j).bind fun p => (ixN p.2.length k).bind fun m => some (δ1.set j (.own p.1 (.list (p.2.set m d))))
    | _ => none
theorem subG_fz {j : Nat} {fi : Me Val} {v : Val} {δ δ' : DS} (h : subG j fi v δ = some δ') : ∃ p0 d k δ1 p m, listAt δ j = some p0 ∧ fzv v = .fz d ∧ fi δ = some (.fz (.int k), δ1) ∧ listAt δ1 j = some p ∧ ixN p.2.length k = some m ∧ δ' = δ1.set j (.own p.1 (.list (p.2.set m d))) := by
  have go : ∀ d, ((listAt δ j).bind fun _ => match fi δ with
    | some (.fz (.int k), δ1) => (listAt δ1 j).bind fun p => (ixN p.2.length k).bind fun m => some (δ1.set j (.own p.1 (.list (p.2.set m d))))
    | _ => none) = some δ' → ∃ p0 k δ1 p m, listAt δ j = some p0 ∧ fi δ = some (.fz (.int k), δ1) ∧ listAt δ1 j = some p ∧ ixN p.2.length k = some m ∧ δ' = δ1.set j (.own p.1 (.list (p.2.set m d))) := fun d h => by
    obtain ⟨p0, e0, h⟩ := Option.bind_eq_some_iff.mp h
    split at h
    · rename_i k δ1 q
      obtain ⟨p, e1, h⟩ := Option.bind_eq_some_iff.mp h
      obtain ⟨m, e2, h⟩ := Option.bind_eq_some_iff.mp h
      cases h
      exact ⟨p0, k, δ1, p, m, e0, q, e1, e2, rfl⟩
    · cases h
  cases v with
  | sl i => cases h
  | fz d =>
    obtain ⟨p0, k, δ1, p, m, h0, h⟩ := go d h
    exact ⟨p0, d, k, δ1, p, m, h0, rfl, h⟩
  | ow d =>
    obtain ⟨p0, k, δ1, p, m, h0, h⟩ := go d h
    exact ⟨p0, d, k, δ1, p, m, h0, rfl, h⟩
theorem dg_sub (j : Nat) {o i : Expr} {fi : Me Val} (ho : PE X o (tVar j)) (hi : DE X B i fi) (ha : ∀ v, assign (.Subscript o i pos) X.env v = (do
      let z ← holding [v] (eval o X.env)
      let k ← holding [v, z] (eval i X.env)
      standAt pos
      holding [v, z, k] (setItem z k v)
      release [v, z, k] []) := by intro _; rfl) : DG X B [] (.Subscript o i pos) (subG j fi) := PG.weak (pg_sub ho hi set_list ha) fun v σ H Q q => by
  obtain ⟨G, δ, r, δ', R, rv, e, k⟩ := q
  obtain ⟨p0, d, n, δ1, p, m, e0, ev, e1, e2, e3, rfl⟩ := subG_fz e
  obtain ⟨G0, s0, R0, rv0⟩ := rv.freeze R
  rw [ev] at rv0
  obtain ⟨a, hx, _⟩ := R0.own j p0.1 _ (listAt_some e0)
  refine ⟨_, hx, G0, δ, _, δ1, R0, e1, fun u G1 H1 s1 R1 v1 => ?_⟩
  have v1 : Tr X.K G1 u (.int n) := v1
  cases v1
  have q0 := listAt_some e2
  obtain ⟨a', f1, f2, f3, f4⟩ := R1.own j p.1 _ q0
  rw [hx] at f1
  cases f1
  cases f4 with
  | @lst xs ds h1 h2 => exact ⟨a, xs, n, m, rfl, rfl, h1, by rw [h2.len]; exact e3, k σ G1 _ (s0.trans s1) (R1.wr q0 hx f2 f3 (.lst upd_same (TrAll.set (Tr.mono s1 rv0) m h2))) (Off.refl _ _)⟩
def asgS (f : Me Val) (g : Tg) : Ss := fun δ => match f δ with
  | some (v, δ1) => (g v δ1).bind fun δ2 => some (.nx, δ2)
  | none => none
theorem ss_asg {tg e : Expr} {f : Me Val} {g : Tg} {ws : List Nat} (he : DE X B e f) (hg : DG X B ws tg g) (hs : swapsWithSole [tg] e pos.line X.env = pure false := by rfl) (hw : swappedStores [tg] e X.env = pure none := by rfl)
    (h1 : (assignEach [tg] X.env).map (·.2) = [assign tg X.env] := by rfl) : SS X B (.Assign [tg] e pos) (asgS f g) := PS.weak (ps_asg he hg hs hw h1) fun E σ H q => by
  obtain ⟨G, δ, fl, δ', R, e, k⟩ := q
  unfold asgS at e
  cases hg : f δ with
  | none => rw [hg] at e; cases e
  | some p =>
    obtain ⟨v, δ1⟩ := p
    rw [hg] at e
    obtain ⟨δ2, e2, e3⟩ := Option.bind_eq_some_iff.mp e
    cases e3
    exact ⟨G, δ, v, δ1, R, hg, fun u G1 H1 s1 R1 v1 => ⟨G1, δ1, v, _, R1, v1, e2, fun σ2 G2 H2 s2 R2 _ => k σ2 G2 H2 (s1.trans s2) R2⟩⟩
/-- a, b = x, y -/
def parS (i j : Nat) (fa : Me (List Val)) : Ss := fun δ => match fa δ with
  | some ([v, w], δ1) => (asg i (fzv v) δ1).bind fun δ2 => (asg j (fzv w) δ2).bind fun δ3 => some (.nx, δ3)
  | _ => none
theorem ss_par {i j : Nat} {x y : Str} {a b : Expr} {fa : Me (List Val)} {px py pt : Pos} {kt k2 pt2} (hc : X.calm = true) (hN : X.N.Nodup) (hi : X.N[i]? = some x) (hj : X.N[j]? = some y) (hij : i ≠ j)
    (hx : X.env.scope.names.lookup x = some .local) (hy : X.env.scope.names.lookup y = some .local) (ha : DA X B [a, b] fa)
    (hw : swappedStores [.Tuple [.Name x px, .Name y py] kt pt] (.Tuple [a, b] k2 pt2) X.env = pure (some [x, y])) (hs : swapsWithSole [.Tuple [.Name x px, .Name y py] kt pt] (.Tuple [a, b] k2 pt2) pos.line X.env = pure false := by rfl) :
    SS X B (.Assign [.Tuple [.Name x px, .Name y py] kt pt] (.Tuple [a, b] k2 pt2) pos) (parS i j fa) := PS.weak (ps_par hc hN hi hj hij hx hy ha hw hs) fun E σ H q => by
  obtain ⟨G, δ, fl, δ', R, e, k⟩ := q
  unfold parS at e
  split at e
  · rename_i v w δ1 hg
    obtain ⟨δ2, e2, e⟩ := Option.bind_eq_some_iff.mp e
    obtain ⟨δ3, e3, e⟩ := Option.bind_eq_some_iff.mp e
    cases e
    refine ⟨G, δ, _, δ1, R, hg, fun vs G1 H1 s1 R1 v1 => ?_⟩
    cases v1 with
    | cons a1 b1 =>
      cases b1 with
      | cons a2 b2 =>
        cases b2
        refine ⟨_, _, rfl, ?_⟩
        have R2 := R1.set a1 e2
        cases w with
        | fz d => exact k _ G1 H1 s1 (R2.set (r := .fz d) a2 e3)
        | ow d => exact k _ G1 H1 s1 (R2.set (r := .fz d) a2 e3)
        | sl d =>
          unfold asg at e3
          split at e3 <;> cases e3
  · cases e
end
end DL
end
section
set_option maxRecDepth 100000
set_option maxHeartbeats 4000000
namespace DL
open PySem PySem.Spec L2
open PyProof.Rows hiding St

section
variable {X : Cx} {B : Bs} {pos : Pos}

/-! ### methods of a list of one's own -/
def MtD (K : Fg) (r : V → List V → Hp → VK → Prop) (h : List D → List D → Option (D × List D)) : Prop := ∀ (G H : Hp) (a : Addr) (xs : List V) (ds : List D) (vs : List V) (as : List D) (q : D × List D) (Q : VK), Same G H → H a = some (.lst xs) → TrAll K G xs ds → TrAll K G vs as → h ds as = some q →
  (∀ v ys, Tr K G v q.1 → TrAll K G ys q.2 → Q v (upd H a (.lst ys))) → r (.ref a) vs H Q
def methM (j : Nat) (h : List D → List D → Option (D × List D)) (fa : Me (List Val)) : Me Val := fun δ => (listAt δ j).bind fun _ => match fa δ with
  | some (rs, δ1) => (fzs rs).bind fun as => (listAt δ1 j).bind fun p => (h p.2 as).bind fun q => some (.fz q.1, δ1.set j (.own p.1 (.list q.2)))
  | none => none
theorem methM_some {j : Nat} {h : List D → List D → Option (D × List D)} {fa : Me (List Val)} {δ δ' : DS} {r : Val} (e : methM j h fa δ = some (r, δ')) :
    ∃ p0 rs δ1 as p q, listAt δ j = some p0 ∧ fa δ = some (rs, δ1) ∧ fzs rs = some as ∧ listAt δ1 j = some p ∧ h p.2 as = some q ∧ r = .fz q.1 ∧ δ' = δ1.set j (.own p.1 (.list q.2)) := by
  unfold methM at e
  obtain ⟨p0, e0, e⟩ := Option.bind_eq_some_iff.mp e
  split at e
  · rename_i rs δ1 e1
    obtain ⟨as, e2, e⟩ := Option.bind_eq_some_iff.mp e
    obtain ⟨p, e3, e⟩ := Option.bind_eq_some_iff.mp e
    obtain ⟨q, e4, e⟩ := Option.bind_eq_some_iff.mp e
    cases e
    exact ⟨p0, rs, δ1, as, p, q, e0, e1, e2, e3, e4, rfl, rfl⟩
  · cases e
theorem meth_of {K : Fg} {j : Nat} {r : V → List V → Hp → VK → Prop} {h : List D → List D → Option (D × List D)} {fa : Me (List Val)} (hd : MtD K r h) : ∀ σ H Q, tOf K B (methM j h fa) σ H Q → tBM K "list" r (tVar j) (taOf K B fa) σ H Q := by
  intro σ H Q hq
  obtain ⟨G, δ, res, δ', R, e, k⟩ := hq
  obtain ⟨p0, rs, δ1, as, p, q, e0, e1, e2, e3, e4, rfl, rfl⟩ := methM_some e
  obtain ⟨a, hx, _, _, rt⟩ := R.own j p0.1 _ (listAt_some e0)
  refine ⟨_, hx, ?_, G, δ, rs, δ1, R, e1, fun vs G1 H1 s1 R1 v1 => ?_⟩
  · cases rt with
    | lst h1 h2 => exact .inl ⟨rfl, _, .inl (.inl h1)⟩
  · have q0 := listAt_some e3
    obtain ⟨a', f1, f2, f3, f4⟩ := R1.own j p.1 _ q0
    rw [hx] at f1
    cases f1
    cases f4 with
    | @lst xs ds h1 h2 => exact hd G1 H1 a xs p.2 vs as q Q R1.same h1 h2 (v1.trees e2) e4 fun v ys t ty => k v G1 _ s1 (R1.wr q0 hx f2 f3 (.lst upd_same ty)) t
theorem de_meth (j : Nat) {name : Str} {id : String} {apos cpos : Pos} {o e : Expr} {es : List Expr} {fa : Me (List Val)} {r : V → List V → Hp → VK → Prop} {h : List D → List D → Option (D × List D)} (pa : PlainAttrs "list") (slot : Slot "list" name id) (hty : typeOf (.builtin id) = pure (.type "method_descriptor")) (hm : MtR X id r) (hd : MtD X.K r h) (ho : PE X o (tVar j)) (ha : DA X B (e :: es) fa)
    (onRow : (apos.endLine == cpos.line) = true := by rfl) (plainBase : attributeBase o name X.env (eval o X.env) = eval o X.env := by rfl) (args1 : starEach (e :: es) X.env = (false, eval e X.env) :: starEach es X.env := by rfl)
    (noStar : (backTo cpos (starEach es X.env)).any (·.1) = false := by rfl) (few : ((backTo cpos (starEach (e :: es) X.env)).all (fun x => !x.1) && (backToKw cpos (keywordEach [] X.env)).all (fun x => x.1.isSome) && decide ((e :: es).length + ([] : List Keyword).length + (if ([] : List Keyword).isEmpty then 0 else 1) < 30)) = true := by rfl) :
    DE X B (.Call (.Attribute o name apos) (e :: es) [] cpos) (methM j h fa) := PE.weak (pe_bm pa slot hty hm ho ha plainBase few onRow args1 noStar) (meth_of hd)
theorem meth0_of {K : Fg} {j : Nat} {r : V → List V → Hp → VK → Prop} {h : List D → List D → Option (D × List D)} (hd : MtD K r h) : ∀ σ H Q, tOf K B (methM j h nilA) σ H Q → tBM0 K "list" r (tVar j) σ H Q := by
  intro σ H Q hq
  obtain ⟨G, δ, res, δ', R, e, k⟩ := hq
  obtain ⟨p0, rs, δ1, as, p, q, e0, e1, e2, e3, e4, rfl, rfl⟩ := methM_some e
  cases e1
  cases e2
  obtain ⟨a, hx, f2, f3, rt⟩ := R.own j p.1 _ (listAt_some e3)
  cases rt with
  | @lst xs ds h1 h2 => exact ⟨_, hx, .inl ⟨rfl, _, .inl (.inl h1)⟩, hd G H a xs p.2 [] [] q Q R.same h1 h2 .nil e4 fun v ys t ty => k v G _ (Same.refl _) (R.wr (listAt_some e3) hx f2 f3 (.lst upd_same ty)) t⟩
theorem de_meth0 (j : Nat) {name : Str} {id : String} {apos cpos : Pos} {o : Expr} {r : V → List V → Hp → VK → Prop} {h : List D → List D → Option (D × List D)} (pa : PlainAttrs "list") (slot : Slot "list" name id) (hty : typeOf (.builtin id) = pure (.type "method_descriptor")) (hm : MtR X id r) (hd : MtD X.K r h) (ho : PE X o (tVar j))
    (hbase : attributeBase o name X.env (eval o X.env) = eval o X.env := by rfl) (hline : (apos.endLine == cpos.line) = true := by rfl) :
    DE X B (.Call (.Attribute o name apos) [] [] cpos) (methM j h nilA) := PE.weak (pe_bm0 pa slot hty hm ho hbase hline) (meth0_of hd)
def appendL (ds as : List D) : Option (D × List D) := match as with
  | [d] => if szOk (ds.length + 1) then some (.none, ds ++ [d]) else none
  | _ => none
theorem md_append {K : Fg} : MtD K rAppend appendL := by
  intro G H a xs ds vs as q Q s h1 t tv hr k
  unfold appendL at hr
  split at hr
  · obtain ⟨c, rfl⟩ := ite_some hr
    cases tv with
    | cons u w =>
      cases w
      exact ⟨a, xs, _, rfl, rfl, h1, by rw [t.len]; exact szOk_le c, k _ _ .non (t.append (.cons u .nil))⟩
  · cases hr
def popL (ds as : List D) : Option (D × List D) := match as with
  | [] => (ds[ds.length - 1]?).bind fun d => some (d, ds.dropLast)
  | _ => none
theorem TrAll.dropLast {K : Fg} {G : Hp} {xs : List V} {ds : List D} (t : TrAll K G xs ds) : TrAll K G xs.dropLast ds.dropLast := by
  rw [List.dropLast_eq_take, List.dropLast_eq_take, t.len]
  exact t.take _
theorem md_pop {K : Fg} : MtD K rPop popL := by
  intro G H a xs ds vs as q Q s h1 t tv hr k
  unfold popL at hr
  split at hr
  · obtain ⟨d, hd, hr⟩ := Option.bind_eq_some_iff.mp hr
    cases hr
    cases tv
    obtain ⟨v, hv, tv⟩ := t.get hd
    exact ⟨a, xs, v, rfl, rfl, h1, by rw [t.len]; exact hv, k _ _ tv t.dropLast⟩
  · cases hr
theorem TrAll.erase {K : Fg} {G : Hp} : ∀ {xs : List V} {ds : List D} (i : Nat), TrAll K G xs ds → TrAll K G (xs.eraseIdx i) (ds.eraseIdx i)
  | _, _, _, .nil => .nil
  | _, _, 0, .cons _ b => b
  | _, _, i + 1, .cons a b => .cons a (TrAll.erase i b)
def popAtL (ds as : List D) : Option (D × List D) := match as with
  | [.int i] => if ixOk i then (seqIndex? i ds.length).bind fun k => (ds[k]?).bind fun d => some (d, ds.eraseIdx k) else none
  | _ => none
theorem md_popAt {K : Fg} : MtD K rPopAt popAtL := by
  intro G H a xs ds vs as q Q s h1 t tv hr k
  unfold popAtL at hr
  split at hr
  · rename_i i
    by_cases c : ixOk i = true
    · rw [if_pos c] at hr
      obtain ⟨j, hj, hr⟩ := Option.bind_eq_some_iff.mp hr
      obtain ⟨d, hd, hr⟩ := Option.bind_eq_some_iff.mp hr
      cases hr
      cases tv with
      | cons u w =>
        cases w
        cases u
        obtain ⟨v, hv, tv⟩ := t.get hd
        have b := ixOk_le c
        exact ⟨a, xs, i, j, v, rfl, rfl, h1, b.1, b.2, by rw [t.len]; exact hj, hv, k _ _ tv (t.erase j)⟩
    · rw [if_neg c] at hr
      cases hr
  · cases hr
def extendL (ds as : List D) : Option (D × List D) := match as with
  | [.list es] => if szOk (ds.length + es.length) then some (.none, ds ++ es) else none
  | _ => none
theorem md_extend {K : Fg} : MtD K rExtend extendL := by
  intro G H a xs ds vs as q Q s h1 t tv hr k
  unfold extendL at hr
  split at hr
  · obtain ⟨c, rfl⟩ := ite_some hr
    cases tv with
    | cons u w =>
      cases w
      cases u with
      | lst g1 g2 => exact ⟨a, _, xs, _, rfl, rfl, h1, s _ _ g1, by rw [t.len, g2.len]; exact szOk_le c, k _ _ .non (t.append g2)⟩
  · cases hr

/-! ### x op= e -/
def augS (i : Nat) (h : D → D → Option Val) (f : Me Val) : Ss := fun δ => match δ[i]? with
  | some (.dat a) => match f δ with
    | some (v, δ1) => (dv δ1 v).bind fun b => (h a b).bind fun r => (asg i r δ1).bind fun δ2 => some (.nx, δ2)
    | none => none
  | _ => none
theorem ss_aug {i : Nat} {x : Str} {e : Expr} {op : Operator} {r : R2} {h : D → D → Option Val} {f : Me Val} {pos' : Pos} (hN : X.N.Nodup) (hi : X.N[i]? = some x) (hx : Loc X.env.scope x) (he : DE X B e f) (ho : OpR X (inplaceOp op) r) (hd : OpD X.K r h) (hf : X.fn x = true ∨ X.env.scope.names.lookup x = some .local := by first | exact .inl rfl | exact .inr rfl | assumption) :
    SS X B (.AugAssign (.Name x pos') op e pos) (augS i h f) := PS.weak (ps_aug (ti := r) hN hi hx he ho hf) fun E σ H q => by
  obtain ⟨G, δ, fl, δ', R, e, k⟩ := q
  unfold augS at e
  split at e
  · rename_i a q0
    split at e
    · rename_i v δ1 q1
      obtain ⟨b, e1, e⟩ := Option.bind_eq_some_iff.mp e
      obtain ⟨res, e2, e⟩ := Option.bind_eq_some_iff.mp e
      obtain ⟨δ2, e3, e⟩ := Option.bind_eq_some_iff.mp e
      cases e
      obtain ⟨x, hx, t⟩ := R.dat i a q0
      refine ⟨x, hx, G, δ, v, δ1, R, q1, fun u G1 H1 s1 R1 v1 => ?_⟩
      refine hd G1 H1 x u a b res _ R1.same (.sc (Tr.mono s1 t)) (v1.view R1 e1) e2 fun w G2 H2 x2 ro => ?_
      have R2 := R1.ex x2
      exact k _ G2 H2 (s1.trans x2.g) (R2.set (ro.rv R1) e3)
    · cases e
  · cases e
def rGetL (K : Fg) : V → V → Hp → VK → Prop := fun x y H Q => ∃ p xs i v, x = .ref p ∧ y = .int i ∧ SqL K H p xs ∧ 0 ≤ i ∧ xs[i.toNat]? = some v ∧ Q v H
theorem get_list : PGet X (rGetL X.K) := by
  intro pins s σ H o i ov iv Q I ro ri h
  obtain ⟨p, xs, n, v, rfl, rfl, hq, h0, hv, q⟩ := h
  cases ro
  obtain ⟨t, rfl⟩ := ri
  obtain ⟨its, r, pl, hz⟩ := I.list hq
  obtain ⟨u, hu, ru⟩ := r.get hv
  have hn : n.toNat < xs.length := (List.getElem?_eq_some_iff.mp hv).1
  have hl : xs.length ≤ 16777216 := by rw [← sizeLine_eq]; exact hz
  exact wpAny_getItem_list pl.isList h0 (by omega) (by simpa using hu) ⟨v, H, I, ru, q⟩
/-- x[i] op= e, x a list of one's own -/
def augSubS (j : Nat) (fi : Me Val) (h : D → D → Option Val) (fe : Me Val) : Ss := fun δ => (listAt δ j).bind fun _ => match fi δ with
  | some (.fz (.int n), δ1) => (listAt δ1 j).bind fun p => if decide (0 ≤ n) then (p.2[n.toNat]?).bind fun a => match fe δ1 with
    | some (v, δ2) => (dv δ2 v).bind fun b => match h a b with
      | some (.fz c) => (listAt δ2 j).bind fun p2 => (ixN p2.2.length n).bind fun m => some (.nx, δ2.set j (.own p2.1 (.list (p2.2.set m c))))
      | _ => none
    | none => none else none
  | _ => none
theorem ss_augSub (j : Nat) {o i e : Expr} {op : Operator} {r : R2} {h : D → D → Option Val} {fi fe : Me Val} {tpos : Pos} (ho : PE X o (tVar j)) (hi : DE X B i fi) (he : DE X B e fe) (hp : OpR X (inplaceOp op) r) (hd : OpD X.K r h)
    (ha : ∀ ov iv new, augStore i ov iv new = (do holding [new, ov, iv] (setItem ov iv new); release [new, ov, iv] []; pure .next) := by intros; rfl) : SS X B (.AugAssign (.Subscript o i tpos) op e pos) (augSubS j fi h fe) := PS.weak (ps_augS (tip := r) ho hi get_list he hp set_list ha) fun E σ H q => by
  obtain ⟨G, δ, fl, δ', R, e, k⟩ := q
  unfold augSubS at e
  obtain ⟨p0, e0, e⟩ := Option.bind_eq_some_iff.mp e
  split at e
  · rename_i n δ1 e1
    obtain ⟨p, e2, e⟩ := Option.bind_eq_some_iff.mp e
    split at e
    · rename_i hn
      obtain ⟨a, e3, e⟩ := Option.bind_eq_some_iff.mp e
      split at e
      · rename_i v δ2 e4
        obtain ⟨b, e5, e⟩ := Option.bind_eq_some_iff.mp e
        split at e
        · rename_i c e6
          obtain ⟨p2, e7, e⟩ := Option.bind_eq_some_iff.mp e
          obtain ⟨m, e8, e⟩ := Option.bind_eq_some_iff.mp e
          cases e
          obtain ⟨ad, hx, _⟩ := R.own j p0.1 _ (listAt_some e0)
          refine ⟨_, hx, G, δ, _, δ1, R, e1, fun u G1 H1 s1 R1 v1 => ?_⟩
          have v1 : Tr X.K G1 u (.int n) := v1
          cases v1
          obtain ⟨a', f1, f2, f3, f4⟩ := R1.own j p.1 _ (listAt_some e2)
          rw [hx] at f1
          cases f1
          cases f4 with
          | @lst xs ds h1 h2 =>
            obtain ⟨y, hy, ty⟩ := h2.get e3
            refine ⟨ad, xs, n, y, rfl, rfl, .inl (.inl h1), of_decide_eq_true hn, hy, ?_⟩
            refine ⟨G1, δ1, v, δ2, R1, e4, fun w G2 H2 s2 R2 v2 => ?_⟩
            refine hd G2 H2 y w a b _ _ R2.same (.sc (Tr.mono s2 ty)) (v2.view R2 e5) e6 fun z G3 H3 x3 ro => ?_
            have ro : Tr X.K G3 z c := ro
            have R3 := R2.ex x3
            have q0 := listAt_some e7
            obtain ⟨a'', f1, f2, f3, f4⟩ := R3.own j p2.1 _ q0
            rw [hx] at f1
            cases f1
            cases f4 with
            | @lst xs2 ds2 g1 g2 =>
              exact ⟨ad, xs2, n, m, rfl, rfl, g1, by rw [g2.len]; exact e8, k σ G3 _ ((s1.trans s2).trans x3.g) (R3.wr q0 hx f2 f3 (.lst upd_same (TrAll.set ro m g2)))⟩
        · cases e
      · cases e
    · cases e
  · cases e
theorem iop_addA : OpR X (inplaceOp .Add) (rI0 fun i j => .int (i + j)) := iop_add
theorem od_iadd {K : Fg} : OpD K (rI0 fun i j => .int (i + j)) addI := od_add
theorem od_isub {K : Fg} : OpD K (rI0 fun i j => .int (i - j)) subI := od_sub

/-! ### for -/
def ItD (K : Fg) (J : It) (ds : List D) (G1 : Hp) : Prop := ∀ (i : Nat) (G H : Hp), Same G1 G → Same G H →
  (∀ d, ds[i]? = some d → J.go i H ∧ ∀ x H', J.yld i H x H' → ∃ G', Ex G H G' H' ∧ Tr K G' x d) ∧ (ds.length ≤ i → J.stop i H)
def tiOf (K : Fg) (B : Bs) (f : Me (List D)) : TI := fun σ H R => ∃ G δ ds δ', RelS K B G H δ σ ∧ f δ = some (ds, δ') ∧
  ∀ J G' H', Same G G' → RelS K B G' H' δ' σ → ItD K J ds G' → R J H'
abbrev DI (X : Cx) (B : Bs) (tg iter : Expr) (f : Me (List D)) : Prop := PI X tg iter (tiOf X.K B f)
theorem PI.weak {X : Cx} {tg iter : Expr} {t t' : TI} (h : PI X tg iter t) (i : ∀ σ H R, t' σ H R → t σ H R) : PI X tg iter t' := ⟨fun pins s σ H R I w => h.run pins s σ H R I (i _ _ _ w)⟩
theorem PI.or {X : Cx} {tg iter : Expr} {t t' : TI} (h : PI X tg iter t) (h' : PI X tg iter t') : PI X tg iter (fun σ H R => t σ H R ∨ t' σ H R) := ⟨fun pins s σ H R I w => w.elim (h.run pins s σ H R I) (h'.run pins s σ H R I)⟩
def forL (gt : Tg) (body : Ss) : List D → Ss
  | [], δ => some (.nx, δ)
  | d :: r, δ => (gt (.fz d) δ).bind fun δ1 => match body δ1 with
    | some (.nx, δ2) => forL gt body r δ2
    | some (.ct, δ2) => forL gt body r δ2
    | some (.bk, δ2) => some (.nx, δ2)
    | some (.rt v, δ2) => some (.rt v, δ2)
    | none => none
def forS (fi : Me (List D)) (gt : Tg) (body : Ss) : Ss := fun δ => match fi δ with
  | some (ds, δ1) => forL gt body ds δ1
  | none => none
theorem for_of {K : Fg} {ws : List Nat} {fi : Me (List D)} {gt : Tg} {body : Ss} : ∀ E σ H, SOf K B (forS fi gt body) E σ H → tFor (tiOf K B fi) (tgOf K B ws gt) (SOf K B body) E σ H := by
  intro E σ H q
  obtain ⟨G, δ, fl, δ', R, e, k⟩ := q
  unfold forS at e
  cases hf : fi δ with
  | none => rw [hf] at e; cases e
  | some p =>
    obtain ⟨ds, δ1⟩ := p
    rw [hf] at e
    refine ⟨G, δ, ds, δ1, R, hf, fun J G1 H1 s1 R1 it => ?_⟩
    refine ⟨fun i m σ H => ∃ G δ, m = ds.length - i ∧ i ≤ ds.length ∧ Same G1 G ∧ RelS K B G H δ σ ∧ forL gt body (ds.drop i) δ = some (fl, δ') ∧ ∀ σ' G' H', Same G G' → RelS K B G' H' δ' σ' → FlPost K B E G' H' δ' σ' fl,
      ⟨ds.length, G1, δ1, rfl, Nat.zero_le _, Same.refl _, R1, e, fun σ' G' H' s R' => k σ' G' H' (s1.trans s) R'⟩, ?_⟩
    rintro i m σ2 H2 ⟨G2, δ2, rfl, hi, s2, R2, e2, k2⟩
    obtain ⟨it1, it2⟩ := it i G2 H2 s2 R2.same
    by_cases hlt : i < ds.length
    · rw [List.drop_eq_getElem_cons hlt] at e2
      obtain ⟨go, yl⟩ := it1 ds[i] (by simp [hlt])
      refine .inr ⟨go, fun σ' H' => ∃ G δ, Same G1 G ∧ RelS K B G H' δ σ' ∧ forL gt body (ds.drop (i + 1)) δ = some (fl, δ') ∧ ∀ σ'' G' H', Same G G' → RelS K B G' H' δ' σ'' → FlPost K B E G' H' δ' σ'' fl, fun σ' H' ⟨G', δ3, a, b, c, d⟩ => ⟨ds.length - (i + 1), by omega, G', δ3, rfl, hlt, a, b, c, d⟩, fun x H3 y3 => ?_⟩
      obtain ⟨G3, x3, t3⟩ := yl x H3 y3
      obtain ⟨δ3, e3, e4⟩ := Option.bind_eq_some_iff.mp e2
      refine ⟨G3, δ2, .fz ds[i], δ3, R2.ex x3, t3, e3, fun σ4 G4 H4 s4 R4 _ => ?_⟩
      cases hb : body δ3 with
      | none => rw [hb] at e4; cases e4
      | some p =>
        obtain ⟨fb, δ5⟩ := p
        rw [hb] at e4
        refine ⟨G4, δ3, fb, δ5, R4, hb, fun σ5 G5 H5 s5 R5 => ?_⟩
        have sg : Same G2 G5 := (x3.g.trans s4).trans s5
        cases fb with
        | nx => exact ⟨G5, δ5, s2.trans sg, R5, e4, fun σ6 G6 H6 s6 R6 => k2 σ6 G6 H6 (sg.trans s6) R6⟩
        | ct => exact ⟨G5, δ5, s2.trans sg, R5, e4, fun σ6 G6 H6 s6 R6 => k2 σ6 G6 H6 (sg.trans s6) R6⟩
        | bk =>
          cases e4
          exact k2 σ5 G5 H5 sg R5
        | rt v =>
          cases e4
          exact k2 σ5 G5 H5 sg R5
    · have hz : i = ds.length := by omega
      subst hz
      rw [List.drop_length] at e2
      cases e2
      exact .inl ⟨it2 (Nat.le_refl _), k2 σ2 G2 H2 (Same.refl _) R2⟩
theorem ss_for {tg iter : Expr} {body : List Stmt} {ws : List Nat} {fi : Me (List D)} {gt : Tg} {g : Ss} (hp : PassesOwn (model X.prog X.w) X.A X.env X.xe) (hc : X.calm = true) (hi : DI X B tg iter fi) (hg : DG X B ws tg gt) (hb : SB X B body g)
    (hs : ∀ x, foldedSetIterable iter X.env x = pure x := by intro _; rfl) : SS X B (.For tg iter body [] pos) (forS fi gt g) := PS.weak (ps_for hp hc hi hg hb hs) for_of

/-! ### while -/
def whileN (c : Me Bool) (body : Ss) : Nat → Ss
  | 0, _ => none
  | n + 1, δ => match c δ with
    | some (true, δ1) => (match body δ1 with
      | some (.nx, δ2) => whileN c body n δ2
      | some (.ct, δ2) => whileN c body n δ2
      | some (.bk, δ2) => some (.nx, δ2)
      | some (.rt v, δ2) => some (.rt v, δ2)
      | none => none)
    | some (false, δ1) => some (.nx, δ1)
    | none => none
theorem while_of {K : Fg} {c : Me Bool} {body : Ss} (n : Nat) : ∀ E σ H, SOf K B (whileN c body n) E σ H → tWhile (ttOf K B c) (SOf K B body) E σ H := by
  intro E σ H q
  obtain ⟨G, δ, fl, δ', R, e, k⟩ := q
  refine ⟨fun m σ H => ∃ G δ, RelS K B G H δ σ ∧ whileN c body m δ = some (fl, δ') ∧ ∀ σ' G' H', Same G G' → RelS K B G' H' δ' σ' → FlPost K B E G' H' δ' σ' fl, ⟨n, G, δ, R, e, k⟩, ?_⟩
  rintro m σ2 H2 ⟨G2, δ2, R2, e2, k2⟩
  cases m with
  | zero => cases e2
  | succ m =>
    unfold whileN at e2
    cases hc : c δ2 with
    | none => rw [hc] at e2; cases e2
    | some p =>
      obtain ⟨b, δ3⟩ := p
      rw [hc] at e2
      refine ⟨G2, δ2, b, δ3, R2, hc, fun G3 H3 s3 R3 => ?_⟩
      cases b with
      | false =>
        cases e2
        exact k2 σ2 G3 H3 s3 R3
      | true =>
        refine ⟨fun σ' H' => ∃ G δ, RelS K B G H' δ σ' ∧ whileN c body m δ = some (fl, δ') ∧ ∀ σ'' G' H', Same G G' → RelS K B G' H' δ' σ'' → FlPost K B E G' H' δ' σ'' fl, fun σ' H' h => ⟨m, Nat.lt_succ_self _, h⟩, ?_⟩
        have e2 : (match body δ3 with
          | some (.nx, δ2) => whileN c body m δ2
          | some (.ct, δ2) => whileN c body m δ2
          | some (.bk, δ2) => some (Fl.nx, δ2)
          | some (.rt v, δ2) => some (Fl.rt v, δ2)
          | none => none) = some (fl, δ') := e2
        cases hb : body δ3 with
        | none => rw [hb] at e2; cases e2
        | some p =>
          obtain ⟨fb, δ5⟩ := p
          rw [hb] at e2
          refine ⟨G3, δ3, fb, δ5, R3, hb, fun σ5 G5 H5 s5 R5 => ?_⟩
          cases fb with
          | nx => exact ⟨G5, δ5, R5, e2, fun σ6 G6 H6 s6 R6 => k2 σ6 G6 H6 ((s3.trans s5).trans s6) R6⟩
          | ct => exact ⟨G5, δ5, R5, e2, fun σ6 G6 H6 s6 R6 => k2 σ6 G6 H6 ((s3.trans s5).trans s6) R6⟩
          | bk =>
            cases e2
            exact k2 σ5 G5 H5 (s3.trans s5) R5
          | rt v =>
            cases e2
            exact k2 σ5 G5 H5 (s3.trans s5) R5
theorem ss_while (n : Nat) {c : Expr} {body : List Stmt} {fc : Me Bool} {g : Ss} (hp : PassesOwn (model X.prog X.w) X.A X.env X.xe) (hc : DT X B c fc) (hb : SB X B body g) : SS X B (.While c body [] pos) (whileN fc g n) := PS.weak (ps_while hp hc hb) (while_of n)
theorem whileN_more {c : Me Bool} {body : Ss} : ∀ {n k : Nat} {δ : DS} {r : Fl × DS}, whileN c body n δ = some r → n ≤ k → whileN c body k δ = some r
  | 0, _, _, _, h, _ => by cases h
  | n + 1, 0, _, _, _, hk => by omega
  | n + 1, k + 1, δ, r, h, hk => by
    unfold whileN at h ⊢
    cases hc : c δ with
    | none => rw [hc] at h; cases h
    | some p =>
      obtain ⟨b, δ1⟩ := p
      rw [hc] at h
      cases b with
      | false => exact h
      | true =>
        cases hb : body δ1 with
        | none => simp only [hb] at h; cases h
        | some p =>
          obtain ⟨fb, δ5⟩ := p
          simp only [hb] at h ⊢
          cases fb with
          | nx => exact whileN_more h (by omega)
          | ct => exact whileN_more h (by omega)
          | bk => exact h
          | rt v => exact h

/-! ### what is walked -/
def itemsOf : Val → Option (List D)
  | .fz (.list ds) => some ds
  | .fz (.tuple ds) => some ds
  | .ow (.list ds) => some ds
  | .fz (.dict [(.none, .list ds)]) => some ds
  | _ => none
def seqM (f : Me Val) : Me (List D) := mb f fun x => mo fun _ => itemsOf x
theorem it_list {K : Fg} {G1 : Hp} {a : Addr} {xs : List V} {ds : List D} (h : SqL K G1 a xs) (t : TrAll K G1 xs ds) : ItD K (Itl K a) ds G1 := fun i G H s sh => by
  have q : SqL K H a xs := (s.trans sh).seq h
  refine ⟨fun d hd => ?_, fun hi => ⟨xs, q, by rw [t.len]; exact hi⟩⟩
  obtain ⟨v, hv, tv⟩ := t.get hd
  refine ⟨⟨xs, v, q, hv⟩, fun x H' y => ?_⟩
  obtain ⟨rfl, y⟩ := y
  have := y xs q
  rw [hv] at this
  cases this
  exact ⟨G, Ex.refl sh, Tr.mono s tv⟩
theorem it_tup {K : Fg} {G1 : Hp} {a : Addr} {xs : List V} {ds : List D} (h : SqT K G1 a xs) (t : TrAll K G1 xs ds) : ItD K (Itt K a) ds G1 := fun i G H s sh => by
  have q : SqT K H a xs := Same.tup (s.trans sh) h
  refine ⟨fun d hd => ?_, fun hi => ⟨xs, q, by rw [t.len]; exact hi⟩⟩
  obtain ⟨v, hv, tv⟩ := t.get hd
  refine ⟨⟨xs, v, q, hv⟩, fun x H' y => ?_⟩
  obtain ⟨rfl, y⟩ := y
  have := y xs q
  rw [hv] at this
  cases this
  exact ⟨G, Ex.refl sh, Tr.mono s tv⟩
theorem Tr.listI {K : Fg} {G : Hp} {v : V} {ds : List D} (h : Tr K G v (.list ds)) : ∃ a xs, v = .ref a ∧ SqL K G a xs ∧ TrAll K G xs ds := by
  cases h with
  | lst a b => exact ⟨_, _, rfl, .inl (.inl a), b⟩
theorem Tr.tupI {K : Fg} {G : Hp} {v : V} {ds : List D} (h : Tr K G v (.tuple ds)) : ∃ a xs, v = .ref a ∧ SqT K G a xs ∧ TrAll K G xs ds := by
  cases h with
  | tup a b => exact ⟨_, _, rfl, a, b⟩
theorem Tr.scrI {K : Fg} {G : Hp} {v : V} {ds : List D} (h : Tr K G v (.dict [(.none, .list ds)])) : ∃ a xs, v = .ref a ∧ SqL K G a xs ∧ TrAll K G xs ds := by
  obtain ⟨a, ns, rfl, hq, rfl⟩ := View.scr' (Same.refl G) (.sc h)
  exact ⟨a, _, rfl, hq, .ints⟩
theorem di_seq {tg l : Expr} {f : Me Val} (hl : DE X B l f) : DI X B tg l (seqM f) := PI.weak (PI.or (pi_list hl) (pi_tup hl)) fun σ H Q q => by
  obtain ⟨G, δ, ds, δ', R, e, k⟩ := q
  obtain ⟨x, δ1, e1, e⟩ := mb_some e
  obtain ⟨e2, rfl⟩ := mo_some e
  unfold itemsOf at e2
  split at e2
  · cases e2
    refine .inl ⟨G, δ, _, _, R, e1, fun v G1 H1 s1 R1 v1 => ?_⟩
    obtain ⟨a, xs, rfl, h, t⟩ := Tr.listI v1
    exact ⟨a, rfl, ⟨xs, R1.same.seq h⟩, k _ G1 H1 s1 R1 (it_list h t)⟩
  · cases e2
    refine .inr ⟨G, δ, _, _, R, e1, fun v G1 H1 s1 R1 v1 => ?_⟩
    obtain ⟨a, xs, rfl, h, t⟩ := Tr.tupI v1
    exact ⟨a, rfl, ⟨xs, Same.tup R1.same h⟩, k _ G1 H1 s1 R1 (it_tup h t)⟩
  · cases e2
    refine .inl ⟨G, δ, _, _, R, e1, fun v G1 H1 s1 R1 v1 => ?_⟩
    obtain ⟨G2, s2, R2, v2⟩ := v1.freeze R1
    obtain ⟨a, xs, rfl, h, t⟩ := Tr.listI v2
    exact ⟨a, rfl, ⟨xs, R2.same.seq h⟩, k _ G2 H1 (s1.trans s2) R2 (it_list h t)⟩
  · cases e2
    refine .inl ⟨G, δ, _, _, R, e1, fun v G1 H1 s1 R1 v1 => ?_⟩
    obtain ⟨a, xs, rfl, h, t⟩ := Tr.scrI v1
    exact ⟨a, rfl, ⟨xs, R1.same.seq h⟩, k _ G1 H1 s1 R1 (it_list h t)⟩
  · cases e2
/-- range -/
def rngD (lo : Int) (n : Nat) : List D := (List.range n).map fun i => .int (lo + (i : Nat))
def rOk (j : Int) : Bool := decide (-(2 ^ 62) ≤ j) && decide (j < 2 ^ 62)
theorem rOk_le {j : Int} (h : rOk j = true) : -(2 ^ 62) ≤ j ∧ j < 2 ^ 62 := by
  unfold rOk at h
  rw [Bool.and_eq_true] at h
  exact ⟨of_decide_eq_true h.1, of_decide_eq_true h.2⟩
theorem it_rng {K : Fg} {G1 : Hp} {lo : Int} {n : Nat} : ItD K (Itr lo n) (rngD lo n) G1 := fun i G H s sh => by
  refine ⟨fun d hd => ?_, fun hi => by unfold rngD at hi; rw [List.length_map, List.length_range] at hi; exact hi⟩
  unfold rngD at hd
  rw [List.getElem?_map] at hd
  obtain ⟨m, hm, rfl⟩ := Option.map_eq_some_iff.mp hd
  have hl := (List.getElem?_eq_some_iff.mp hm).1
  rw [List.length_range] at hl
  rw [List.getElem?_range hl] at hm
  cases hm
  refine ⟨hl, fun x H' y => ?_⟩
  obtain ⟨rfl, rfl⟩ := y
  exact ⟨G, Ex.refl sh, .int _⟩
def rngM1 (fa : Me (List Val)) : Me (List D) := mb fa fun xs => mo fun _ => match xs with
  | [.fz (.int j)] => if rOk j then some (rngD 0 j.toNat) else none
  | _ => none
def rngM2 (fa : Me (List Val)) : Me (List D) := mb fa fun xs => mo fun _ => match xs with
  | [.fz (.int i), .fz (.int j)] => if rOk i && rOk j then some (rngD i (j - i).toNat) else none
  | _ => none
theorem di_range1 {tg a : Expr} {fa : Me (List Val)} {p : Pos} (hg : Gl X "range") (hm : X.mg "range" = none) (ha : DA X B [a] fa) (hs : starEach [a] X.env = [(false, eval a X.env)] := by rfl) : DI X B tg (.Call (.Name "range" p) [a] [] pos) (rngM1 fa) := PI.weak (pi_range1 hg hm ha hs) fun σ H Q q => by
  obtain ⟨G, δ, ds, δ', R, e, k⟩ := q
  obtain ⟨xs, δ1, e1, e⟩ := mb_some e
  obtain ⟨e2, rfl⟩ := mo_some e
  refine ⟨G, δ, _, _, R, e1, fun vs G1 H1 s1 R1 v1 => ?_⟩
  split at e2
  · obtain ⟨c, rfl⟩ := ite_some e2
    cases v1 with
    | cons a b =>
      cases b
      have a : Tr X.K G1 _ (.int _) := a
      cases a
      have c' := rOk_le c
      exact ⟨_, rfl, c'.1, c'.2, k _ G1 H1 s1 R1 it_rng⟩
  · cases e2
theorem di_range2 {tg a b : Expr} {fa : Me (List Val)} {p : Pos} (hg : Gl X "range") (hm : X.mg "range" = none) (ha : DA X B [a, b] fa) (hs : starEach [a, b] X.env = [(false, eval a X.env), (false, eval b X.env)] := by rfl) (hs2 : starEach [b] X.env = [(false, eval b X.env)] := by rfl) : DI X B tg (.Call (.Name "range" p) [a, b] [] pos) (rngM2 fa) := PI.weak (pi_range2 hg hm ha hs hs2) fun σ H Q q => by
  obtain ⟨G, δ, ds, δ', R, e, k⟩ := q
  obtain ⟨xs, δ1, e1, e⟩ := mb_some e
  obtain ⟨e2, rfl⟩ := mo_some e
  refine ⟨G, δ, _, _, R, e1, fun vs G1 H1 s1 R1 v1 => ?_⟩
  split at e2
  · obtain ⟨c, rfl⟩ := ite_some e2
    rw [Bool.and_eq_true] at c
    cases v1 with
    | cons a b =>
      cases b with
      | cons a2 b =>
        cases b
        have a : Tr X.K G1 _ (.int _) := a
        have a2 : Tr X.K G1 _ (.int _) := a2
        cases a
        cases a2
        have c1 := rOk_le c.1
        have c2 := rOk_le c.2
        exact ⟨_, _, rfl, ⟨c1.1, c1.2, c2.1, c2.2⟩, k _ G1 H1 s1 R1 it_rng⟩
  · cases e2
/-- enumerate, zip of lists -/
def enumD (ds : List D) : List D := ds.zipIdx.map fun p => .tuple [.int (p.2 : Nat), p.1]
def zipD (ds es : List D) : List D := (ds.zip es).map fun p => .tuple [p.1, p.2]
theorem it_enum {K : Fg} {G1 : Hp} {a : Addr} {xs : List V} {ds : List D} (h : SqL K G1 a xs) (t : TrAll K G1 xs ds) : ItD K (Ite K a) (enumD ds) G1 := fun i G H s sh => by
  have q : SqL K H a xs := (s.trans sh).seq h
  refine ⟨fun d hd => ?_, fun hi => ⟨xs, q, by unfold enumD at hi; rw [List.length_map, List.length_zipIdx] at hi; rw [t.len]; exact hi⟩⟩
  unfold enumD at hd
  rw [List.getElem?_map, List.getElem?_zipIdx] at hd
  obtain ⟨p, hp, rfl⟩ := Option.map_eq_some_iff.mp hd
  obtain ⟨e, he, rfl⟩ := Option.map_eq_some_iff.mp hp
  obtain ⟨v, hv, tv⟩ := t.get he
  refine ⟨⟨xs, v, q, hv⟩, fun x H' y => ?_⟩
  obtain ⟨T, z, rfl, n, rfl, y⟩ := y
  have := y xs q
  rw [hv] at this
  cases this
  refine ⟨_, Ex.pushF sh _ n, ?_⟩
  rw [Nat.zero_add]
  exact Tr.tup (.inl (.inl upd_same)) (TrAll.mono (same_upd (sh.free n)) (.cons (.int _) (.cons (Tr.mono s tv) .nil)))
theorem it_zip {K : Fg} {G1 : Hp} {a b : Addr} {xs ys : List V} {ds es : List D} (h : SqL K G1 a xs) (t : TrAll K G1 xs ds) (h2 : SqL K G1 b ys) (t2 : TrAll K G1 ys es) : ItD K (Itz K a b) (zipD ds es) G1 := fun i G H s sh => by
  have q : SqL K H a xs := (s.trans sh).seq h
  have q2 : SqL K H b ys := (s.trans sh).seq h2
  refine ⟨fun d hd => ?_, fun hi => ⟨xs, ys, q, q2, by unfold zipD at hi; rw [List.length_map, List.length_zip] at hi; rw [t.len, t2.len]; omega⟩⟩
  unfold zipD at hd
  rw [List.getElem?_map] at hd
  obtain ⟨p, hp, rfl⟩ := Option.map_eq_some_iff.mp hd
  rw [List.getElem?_zip_eq_some] at hp
  obtain ⟨v, hv, tv⟩ := t.get hp.1
  obtain ⟨w, hw, tw⟩ := t2.get hp.2
  refine ⟨⟨xs, ys, v, w, q, q2, hv, hw⟩, fun x H' y => ?_⟩
  obtain ⟨T, z, z2, rfl, n, rfl, y, y2⟩ := y
  have h1 := y xs q
  have h2 := y2 ys q2
  rw [hv] at h1
  rw [hw] at h2
  cases h1
  cases h2
  exact ⟨_, Ex.pushF sh _ n, Tr.tup (.inl (.inl upd_same)) (TrAll.mono (same_upd (sh.free n)) (.cons (Tr.mono s tv) (.cons (Tr.mono s tw) .nil)))⟩
def enumM (fa : Me (List Val)) : Me (List D) := mb fa fun xs => mo fun _ => match xs with
  | [.fz (.list ds)] => some (enumD ds)
  | [.ow (.list ds)] => some (enumD ds)
  | _ => none
def zipM (fa : Me (List Val)) : Me (List D) := mb fa fun xs => mo fun _ => (fzs xs).bind fun as => match as with
  | [.list ds, .list es] => some (zipD ds es)
  | _ => none
theorem di_enum {e : Expr} {fa : Me (List Val)} {p tpos : Pos} {elts : List Expr} {kk : Nat} (hg : Gl X "enumerate") (hm : X.mg "enumerate" = none) (ha : DA X B [e] fa) (hs : starEach [e] X.env = [(false, eval e X.env)] := by rfl) : DI X B (.Tuple elts kk tpos) (.Call (.Name "enumerate" p) [e] [] pos) (enumM fa) := PI.weak (pi_enum hg hm ha hs) fun σ H Q q => by
  obtain ⟨G, δ, ds, δ', R, e, k⟩ := q
  obtain ⟨xs, δ1, e1, e⟩ := mb_some e
  obtain ⟨e2, rfl⟩ := mo_some e
  refine ⟨G, δ, _, _, R, e1, fun vs G1 H1 s1 R1 v1 => ?_⟩
  split at e2
  · cases e2
    cases v1 with
    | cons a b =>
      cases b
      obtain ⟨c, ys, rfl, h, t⟩ := Tr.listI (show Tr X.K G1 _ (.list _) from a)
      exact ⟨c, ys, rfl, R1.same.seq h, k _ G1 H1 s1 R1 (it_enum h t)⟩
  · cases e2
    cases v1 with
    | cons a b =>
      cases b
      obtain ⟨c, ys, rfl, h, t⟩ := Tr.listI (show Tr X.K G1 _ (.list _) from a)
      exact ⟨c, ys, rfl, R1.same.seq h, k _ G1 H1 s1 R1 (it_enum h t)⟩
  · cases e2
theorem di_zip {e e2 : Expr} {fa : Me (List Val)} {p tpos : Pos} {elts : List Expr} {kk : Nat} (hg : Gl X "zip") (hm : X.mg "zip" = none) (ha : DA X B [e, e2] fa)
    (hs : starEach [e, e2] X.env = (false, eval e X.env) :: starEach [e2] X.env := by rfl) (hpl : (backTo pos (starEach [e2] X.env)).any (·.1) = false := by rfl) : DI X B (.Tuple elts kk tpos) (.Call (.Name "zip" p) [e, e2] [] pos) (zipM fa) := PI.weak (pi_zip hg hm ha hs hpl) fun σ H Q q => by
  obtain ⟨G, δ, ds, δ', R, e, k⟩ := q
  obtain ⟨xs, δ1, e1, e⟩ := mb_some e
  obtain ⟨e2, rfl⟩ := mo_some e
  obtain ⟨as, e3, e2⟩ := Option.bind_eq_some_iff.mp e2
  refine ⟨G, δ, _, _, R, e1, fun vs G1 H1 s1 R1 v1 => ?_⟩
  have t := v1.trees e3
  split at e2
  · cases e2
    cases t with
    | cons a b =>
      cases b with
      | cons b c =>
        cases c
        obtain ⟨p, ys, rfl, h, t⟩ := Tr.listI a
        obtain ⟨q, zs, rfl, h2, t2⟩ := Tr.listI b
        exact ⟨p, q, ys, zs, rfl, R1.same.seq h, R1.same.seq h2, k _ G1 H1 s1 R1 (it_zip h t h2 t2)⟩
  · cases e2
end
end DL
end
section
set_option maxRecDepth 100000
set_option maxHeartbeats 4000000
namespace DL
open PySem PySem.Spec L2
open PyProof.Rows hiding St

/-! ### comprehensions -/
def wipeD (δ : DS) : List Nat → DS
  | [] => δ
  | v :: vs => (wipeD δ vs).set v .un
def backD (δ0 δ : DS) : List Nat → DS
  | [] => δ
  | v :: vs => (backD δ0 δ vs).set v (δ0.getD v .un)
def plainAt (δ : DS) (v : Nat) : Bool := match δ[v]? with
  | some (.own _ _) => false
  | _ => true
theorem wipeD_len (δ : DS) : ∀ vs : List Nat, (wipeD δ vs).length = δ.length
  | [] => rfl
  | v :: vs => by unfold wipeD; rw [List.length_set, wipeD_len δ vs]
theorem backD_len (δ0 δ : DS) : ∀ vs : List Nat, (backD δ0 δ vs).length = δ.length
  | [] => rfl
  | v :: vs => by unfold backD; rw [List.length_set, backD_len δ0 δ vs]
theorem wipeD_get {δ : DS} {j : Nat} {s : Sl} (h : s ≠ .un) : ∀ {vs : List Nat}, (wipeD δ vs)[j]? = some s → δ[j]? = some s ∧ j ∉ vs
  | [], q => ⟨q, by simp⟩
  | v :: vs, q => by
    unfold wipeD at q
    by_cases hv : v = j
    · subst hv
      by_cases hl : v < (wipeD δ vs).length
      · rw [List.getElem?_set_self hl] at q
        cases q
        exact (h rfl).elim
      · rw [List.getElem?_eq_none (by simpa using hl)] at q
        cases q
    · rw [List.getElem?_set_ne hv] at q
      obtain ⟨a, b⟩ := wipeD_get h q
      exact ⟨a, by simp only [List.mem_cons, not_or]; exact ⟨fun e => hv e.symm, b⟩⟩
theorem wipeD_dat {δ : DS} {j : Nat} {d : D} {vs : List Nat} (q : (wipeD δ vs)[j]? = some (.dat d)) : δ[j]? = some (.dat d) ∧ j ∉ vs := wipeD_get (by intro z; cases z) q
theorem wipeD_own {δ : DS} {j : Nat} {b : Bool} {d : D} {vs : List Nat} (q : (wipeD δ vs)[j]? = some (.own b d)) : δ[j]? = some (.own b d) ∧ j ∉ vs := wipeD_get (by intro z; cases z) q
theorem backD_get {δ0 δ : DS} {j : Nat} {s : Sl} : ∀ {vs : List Nat}, (backD δ0 δ vs)[j]? = some s → (j ∉ vs ∧ δ[j]? = some s) ∨ (j ∈ vs ∧ (δ0[j]? = some s ∨ s = .un))
  | [], q => .inl ⟨by simp, q⟩
  | v :: vs, q => by
    unfold backD at q
    by_cases hv : v = j
    · subst hv
      by_cases hl : v < (backD δ0 δ vs).length
      · rw [List.getElem?_set_self hl] at q
        refine .inr ⟨List.mem_cons_self, ?_⟩
        rw [List.getD_eq_getElem?_getD] at q
        cases hz : δ0[v]? with
        | none =>
          rw [hz] at q
          cases q
          exact .inr rfl
        | some t =>
          rw [hz] at q
          cases q
          exact .inl rfl
      · rw [List.getElem?_eq_none (by simpa using hl)] at q
        cases q
    · rw [List.getElem?_set_ne hv] at q
      rcases backD_get q with ⟨a, b⟩ | ⟨a, b⟩
      · exact .inl ⟨by simp only [List.mem_cons, not_or]; exact ⟨fun e => hv e.symm, a⟩, b⟩
      · exact .inr ⟨List.mem_cons_of_mem _ a, b⟩
theorem wipe_in {σ : L2.St} {i : Nat} (hl : i < σ.length) : ∀ {vs : List Nat}, i ∈ vs → (wipe σ vs)[i]? = some none
  | v :: vs, h => by
    unfold wipe
    by_cases hv : v = i
    · subst hv
      rw [List.getElem?_set_self (by rw [wipe_length]; exact hl)]
    · rw [List.getElem?_set_ne hv]
      exact wipe_in hl ((List.mem_cons.mp h).resolve_left fun e => hv e.symm)
theorem wipe_off {σ σ2 : L2.St} {ws vs : List Nat} (h : Off ws (wipe σ vs) σ2) (hw : ∀ i ∈ ws, i ∈ vs) : wipe σ2 vs = wipe σ vs := by
  have hl : σ2.length = σ.length := h.1.trans (wipe_length σ vs)
  apply List.ext_getElem?
  intro i
  by_cases hi : i ∈ vs
  · by_cases hz : i < σ.length
    · rw [wipe_in hz hi, wipe_in (by rw [hl]; exact hz) hi]
    · rw [List.getElem?_eq_none (by rw [wipe_length]; omega), List.getElem?_eq_none (by rw [wipe_length]; omega)]
  · rw [wipe_out hi, h.2 i (fun z => hi (hw i z))]
section
variable {K : Fg} {B : Bs} {G H G' H' : Hp} {δ δ' : DS} {σ σ' : L2.St}
theorem RelS.agree (vs : List Nat) (R : RelS K B G H δ σ) (h : σ'.length = σ.length) (e : ∀ i, i ∉ vs → σ'[i]? = σ[i]?) : RelS K B G H (wipeD δ vs) σ' where
  len := by rw [wipeD_len, h]; exact R.len
  same := R.same
  g0 := R.g0
  nw := R.nw
  frame := R.frame
  dom := R.dom
  iod := R.iod
  dat := fun i d q => by
    obtain ⟨a, b⟩ := wipeD_dat q
    rw [e i b]
    exact R.dat i d a
  own := fun i b d q => by
    obtain ⟨a, hb⟩ := wipeD_own q
    rw [e i hb]
    exact R.own i b d a
  inj := fun i j b b' a d d' q1 q2 z1 z2 => by
    obtain ⟨a1, h1⟩ := wipeD_own q1
    obtain ⟨a2, h2⟩ := wipeD_own q2
    rw [e i h1] at z1
    rw [e j h2] at z2
    exact R.inj i j b b' a d d' a1 a2 z1 z2
theorem RelS.back {vs : List Nat} {δ1 : DS} (R1 : RelS K B G H δ1 σ) (R : RelS K B G' H' δ (wipe σ vs)) (s : Same G G') (hp : ∀ v ∈ vs, plainAt δ1 v = true) : RelS K B G' H' (backD δ1 δ vs) σ where
  len := by rw [backD_len, R.len, wipe_length]
  same := R.same
  g0 := R.g0
  nw := R.nw
  frame := R.frame
  dom := R.dom
  iod := R.iod
  dat := fun i d q => by
    rcases backD_get q with ⟨a, b⟩ | ⟨a, b | b⟩
    · obtain ⟨v, e, t⟩ := R.dat i d b
      rw [wipe_out a] at e
      exact ⟨v, e, t⟩
    · obtain ⟨v, e, t⟩ := R1.dat i d b
      exact ⟨v, e, Tr.mono s t⟩
    · cases b
  own := fun i b d q => by
    rcases backD_get q with ⟨a, c⟩ | ⟨a, c | c⟩
    · obtain ⟨v, e, t⟩ := R.own i b d c
      rw [wipe_out a] at e
      exact ⟨v, e, t⟩
    · have := hp i a
      unfold plainAt at this
      rw [c] at this
      cases this
    · cases c
  inj := fun i j b b' a d d' q1 q2 z1 z2 => by
    rcases backD_get q1 with ⟨a1, c1⟩ | ⟨a1, c1 | c1⟩
    · rcases backD_get q2 with ⟨a2, c2⟩ | ⟨a2, c2 | c2⟩
      · rw [← wipe_out a1] at z1
        rw [← wipe_out a2] at z2
        exact R.inj i j b b' a d d' c1 c2 z1 z2
      · have := hp j a2
        unfold plainAt at this
        rw [c2] at this
        cases this
      · cases c2
    · have := hp i a1
      unfold plainAt at this
      rw [c1] at this
      cases this
    · cases c1
/-- a block's base -/
def blkB (B : Bs) (G H : Hp) (δ : DS) (σ : L2.St) : Bs := ⟨G, H, B.io, fun a => ∃ (i : Nat) (d : D), δ[i]? = some (.own false d) ∧ σ[i]? = some (some (V.ref a))⟩
theorem RelS.blk (R : RelS K B G H δ σ) : RelS K (blkB B G H δ σ) G H δ σ where
  len := R.len
  same := R.same
  g0 := Same.refl _
  nw := fun a o e n => by
    have n : G a = none := n
    rw [n] at e
    cases e
  frame := fun _ _ e _ _ => e
  dom := fun _ o e => ⟨o, e⟩
  iod := fun p hp => by
    obtain ⟨o, e⟩ := R.iod p hp
    exact R.dom _ _ e
  dat := R.dat
  own := fun i b d q => by
    obtain ⟨a, e, n, m, r⟩ := R.own i b d q
    refine ⟨a, e, n, ?_, r⟩
    cases b with
    | true => exact m
    | false => exact .inr ⟨i, d, q, e⟩
  inj := R.inj
theorem RelS.lo (R : RelS K B G H δ σ) {a : Addr} (h : (blkB B G H δ σ).lo a) : B.H0 a = none ∨ B.lo a := by
  obtain ⟨i, d, q, e⟩ := h
  obtain ⟨a', e', _, m, _⟩ := R.own i false d q
  rw [e] at e'
  cases e'
  exact m
theorem RelS.rebase (R : RelS K B G H δ σ) (R3 : RelS K (blkB B G H δ σ) G' H' δ' σ') : RelS K B G' H' δ' σ' where
  len := R3.len
  same := R3.same
  g0 := R.g0.trans R3.g0
  nw := fun a o e n => by
    cases q : G a with
    | some u => exact R.nw a u q n
    | none =>
      rcases R3.nw a o e q with z | z
      · exact .inl (R.none0 z)
      · exact R.lo z
  frame := fun b o e n l => R3.frame b o (R.frame b o e n l) n fun z => by
    rcases R.lo z with w | w
    · rw [w] at e
      cases e
    · exact l w
  dom := fun b o e => by
    obtain ⟨o', e'⟩ := R.dom b o e
    exact R3.dom b o' e'
  iod := R.iod
  dat := R3.dat
  own := fun i b d q => by
    obtain ⟨a, e, n, m, r⟩ := R3.own i b d q
    refine ⟨a, e, n, ?_, r⟩
    cases b with
    | true => exact m
    | false =>
      rcases (show H a = none ∨ _ from m) with z | z
      · exact .inl (R.none0 z)
      · exact R.lo z
  inj := R3.inj
/-- an object apart is written -/
theorem RelS.apart {p : Addr} {o : HO} (R : RelS K B G H δ σ) (g : G p = none) (h0 : B.H0 p = none) (hr : ∀ (i : Nat) (b : Bool) (d : D), δ[i]? = some (.own b d) → σ[i]? ≠ some (some (V.ref p))) : RelS K B G (upd H p o) δ σ where
  len := R.len
  same := fun a x e => by
    have ha : a ≠ p := fun z => by rw [z, g] at e; cases e
    rw [upd_ne ha]
    exact R.same _ _ e
  g0 := R.g0
  nw := R.nw
  frame := fun b x e n l => by
    have ha : b ≠ p := fun z => by rw [z, h0] at e; cases e
    rw [upd_ne ha]
    exact R.frame b x e n l
  dom := fun b x e => by
    have ha : b ≠ p := fun z => by rw [z, h0] at e; cases e
    rw [upd_ne ha]
    exact R.dom b x e
  iod := R.iod
  dat := R.dat
  own := fun i b d q => by
    obtain ⟨a, e, n, m, r⟩ := R.own i b d q
    have ha : a ≠ p := fun z => hr i b d q (z ▸ e)
    exact ⟨a, e, n, m, Root.mono (Same.refl _) (fun x y => by rw [upd_ne ha]; exact y) r⟩
  inj := R.inj
end

def treeV : Val → Option D
  | .fz d => some d
  | .ow d => some d
  | .sl _ => none
def compL (gt : Tg) (ft : Me Bool) (fe : Me Val) (vs : List Nat) : List D → DS → Option (List D × DS)
  | [], δ => some ([], δ)
  | d :: r, δ => (gt (.fz d) δ).bind fun δ1 => match ft δ1 with
    | some (true, δ2) => (match fe δ2 with
      | some (v, δ3) => (treeV v).bind fun e => (compL gt ft fe vs r (wipeD δ3 vs)).bind fun p => some (e :: p.1, p.2)
      | none => none)
    | some (false, δ2) => compL gt ft fe vs r (wipeD δ2 vs)
    | none => none
def compM (fi : Me (List D)) (gt : Tg) (ft : Me Bool) (fe : Me Val) (vs : List Nat) : Me Val := fun δ => match fi δ with
  | some (ds, δ1) => if vs.all (plainAt δ1) then (compL gt ft fe vs ds (wipeD δ1 vs)).bind fun p => if szOk p.1.length then some (.ow (.list p.1), backD δ1 p.2 vs) else none else none
  | none => none
def toE (K : Fg) (f : Me Val) : TE := fun σ H Q => ∃ B, tOf K B f σ H Q
def ttE (K : Fg) (f : Me Bool) : TT := fun σ H Q => ∃ B, ttOf K B f σ H Q
def tgE (K : Fg) (ws : List Nat) (g : Tg) : TG := fun v σ H Q => ∃ B, tgOf K B ws g v σ H Q
theorem pe_E {X : Cx} {e : Expr} {f : Me Val} (h : ∀ B, DE X B e f) : PE X e (toE X.K f) := ⟨fun pins s σ H Q I ⟨B, w⟩ => (h B).run pins s σ H Q I w⟩
theorem pt_E {X : Cx} {e : Expr} {f : Me Bool} (h : ∀ B, DT X B e f) : PT X e (ttE X.K f) := ⟨fun pins s σ H Q I ⟨B, w⟩ => (h B).run pins s σ H Q I w⟩
theorem pg_E {X : Cx} {e : Expr} {ws : List Nat} {g : Tg} (h : ∀ B, DG X B ws e g) : PG X e (tgE X.K ws g) := ⟨fun pins s σ H v u Q I r ⟨B, w⟩ => (h B).run pins s σ H v u Q I r w⟩
abbrev DTs (X : Cx) (es : List Expr) (f : Me Bool) : Prop := PTs X es (ttE X.K f)
theorem dts_nil {X : Cx} : DTs X [] (mr true) := ⟨fun pins s σ H Q I w => pts_nil.run pins s σ H Q I (by
  obtain ⟨B, G, δ, r, δ', R, e, k⟩ := w
  cases e
  exact k G H (Same.refl _) R)⟩
theorem dts_one {X : Cx} {e : Expr} {f : Me Bool} (h : ∀ B, DT X B e f) : DTs X [e] f := pts_one (pt_E h)
section
variable {X : Cx} {B : Bs} {pos : Pos}
theorem lc_of {K : Fg} {ws vs : List Nat} {fi : Me (List D)} {gt : Tg} {ft : Me Bool} {fe : Me Val} (hw : ∀ i ∈ ws, i ∈ vs) : ∀ σ H Q, tOf K B (compM fi gt ft fe vs) σ H Q → tLc (tiOf K B fi) (tgE K ws gt) (ttE K ft) (toE K fe) vs σ H Q := by
  intro σ H Q q
  obtain ⟨G, δ, res, δ', R, e, k⟩ := q
  unfold compM at e
  cases hf : fi δ with
  | none => rw [hf] at e; cases e
  | some p =>
    obtain ⟨ds, δ1⟩ := p
    rw [hf] at e
    have e : (if vs.all (plainAt δ1) = true then (compL gt ft fe vs ds (wipeD δ1 vs)).bind fun p => if szOk p.1.length then some (Val.ow (.list p.1), backD δ1 p.2 vs) else none else none) = some (res, δ') := e
    by_cases hpl : vs.all (plainAt δ1) = true
    · rw [if_pos hpl] at e
      obtain ⟨⟨fin, δf⟩, e1, e⟩ := Option.bind_eq_some_iff.mp e
      obtain ⟨hsz, e⟩ := ite_some e
      cases e
      have hpl' : ∀ v ∈ vs, plainAt δ1 v = true := List.all_eq_true.mp hpl
      refine ⟨G, δ, ds, δ1, R, hf, fun J G1 H1 s1 R1 it D hD => ?_⟩
      have R0 : RelS K B G1 H1 (wipeD δ1 vs) (wipe σ vs) := R1.agree vs (wipe_length σ vs) fun i hi => wipe_out hi
      have hD0 : B.H0 D = none := R1.none0 hD
      have hDio : ∀ p ∈ B.io, p.2 ≠ D := fun p hp z => by
        obtain ⟨o, e⟩ := R1.iod p hp
        rw [z, hD0] at e
        cases e
      refine ⟨fun i m H => ∃ G δ acc as rest, m = ds.length - i ∧ i ≤ ds.length ∧ Same G1 G ∧ RelS K B G H δ (wipe σ vs) ∧ G D = none ∧ (∀ (i : Nat) (b : Bool) (d : DL.D), δ[i]? = some (.own b d) → (wipe σ vs)[i]? ≠ some (some (V.ref D))) ∧ H D = some (.lst acc) ∧ TrAll K G acc as ∧ compL gt ft fe vs (ds.drop i) δ = some (rest, δf) ∧ as ++ rest = fin,
        ⟨ds.length, G1, wipeD δ1 vs, [], [], fin, rfl, Nat.zero_le _, Same.refl _, R0.ex (Ex.push R0.same _ hD), R0.same.free hD, fun i b d q z => ?_, upd_same, .nil, e1, rfl⟩, ?_⟩
      · obtain ⟨a, e2, _, _, rt⟩ := R0.own i b d q
        rw [z] at e2
        cases e2
        obtain ⟨o, e3⟩ := rt.ex
        rw [hD] at e3
        cases e3
      rintro i m H2 ⟨G2, δ2, acc, as, rest, rfl, hi, s2, R2, g2, rt2, hacc, tacc, ec, efin⟩
      obtain ⟨it1, it2⟩ := it i G2 H2 s2 R2.same
      by_cases hlt : i < ds.length
      · rw [List.drop_eq_getElem_cons hlt] at ec
        obtain ⟨go, yl⟩ := it1 ds[i] (by simp [hlt])
        refine .inr ⟨go, fun H => ∃ G δ acc as rest, Same G1 G ∧ RelS K B G H δ (wipe σ vs) ∧ G D = none ∧ (∀ (i : Nat) (b : Bool) (d : DL.D), δ[i]? = some (.own b d) → (wipe σ vs)[i]? ≠ some (some (V.ref D))) ∧ H D = some (.lst acc) ∧ TrAll K G acc as ∧ compL gt ft fe vs (ds.drop (i + 1)) δ = some (rest, δf) ∧ as ++ rest = fin,
          fun H' ⟨G', δ3, acc', as', rest', a, b, c, d, e, f, g, h⟩ => ⟨ds.length - (i + 1), by omega, G', δ3, acc', as', rest', rfl, hlt, a, b, c, d, e, f, g, h⟩, fun x H3 y3 => ?_⟩
        obtain ⟨G3, x3, t3⟩ := yl x H3 y3
        have R3 := R2.ex x3
        have g3 : G3 D = none := by
          cases q : G3 D with
          | none => rfl
          | some o =>
            have := x3.nw D o q g2
            rw [hacc] at this
            cases this
        have h3 : H3 D = some (.lst acc) := x3.h _ _ hacc
        obtain ⟨δ4, e4, e5⟩ := Option.bind_eq_some_iff.mp ec
        have noLo : ¬ (blkB B G3 H3 δ2 (wipe σ vs)).lo D := fun ⟨j, d, q, z⟩ => rt2 j false d q z
        -- what holds of D behind the block's steps
        have keepD : ∀ {G4 H4 : Hp} {δ4 : DS} {σ4 : L2.St}, RelS K (blkB B G3 H3 δ2 (wipe σ vs)) G4 H4 δ4 σ4 → G4 D = none ∧ H4 D = some (.lst acc) ∧ (∀ (i : Nat) (b : Bool) (d : DL.D), δ4[i]? = some (.own b d) → σ4[i]? ≠ some (some (V.ref D))) := fun {G4 H4 δ4 σ4} R4 => by
          refine ⟨?_, R4.frame D _ h3 hDio noLo, fun j b d q z => ?_⟩
          · cases q : G4 D with
            | none => rfl
            | some o =>
              rcases R4.nw D o q g3 with w | w
              · have w : H3 D = none := w
                rw [h3] at w
                cases w
              · exact (noLo w).elim
          · obtain ⟨a, e6, _, m, _⟩ := R4.own j b d q
            rw [z] at e6
            cases e6
            cases b with
            | true => exact hDio _ (show (j, D) ∈ B.io from m) rfl
            | false =>
              rcases (show H3 D = none ∨ _ from m) with w | w
              · rw [h3] at w
                cases w
              · exact noLo w
        refine ⟨_, G3, δ2, .fz ds[i], δ4, R3.blk, t3, e4, fun σ4 G4 H4 s4 R4 off4 => ⟨wipe_off off4 hw, ?_⟩⟩
        have wp : wipe σ4 vs = wipe σ vs := wipe_off off4 hw
        have offw : ∀ j, j ∉ vs → (wipe σ vs)[j]? = σ4[j]? := fun j hj => by rw [← wp, wipe_out hj]
        have lenw : (wipe σ vs).length = σ4.length := by rw [← wp, wipe_length]
        cases hft : ft δ4 with
        | none => rw [hft] at e5; cases e5
        | some p =>
          obtain ⟨b, δ5⟩ := p
          rw [hft] at e5
          refine ⟨_, G4, δ4, b, δ5, R4, hft, fun G5 H5 s5 R5 => ?_⟩
          cases b with
          | false =>
            have e5 : compL gt ft fe vs (ds.drop (i + 1)) (wipeD δ5 vs) = some (rest, δf) := e5
            obtain ⟨k1, k2, k3⟩ := keepD R5
            refine (show (if false = true then _ else _) from iteF ?_)
            refine ⟨G5, wipeD δ5 vs, acc, as, rest, ((s2.trans x3.g).trans s4).trans s5, (R3.rebase R5).agree vs lenw offw, k1, fun j b d q z => ?_, k2, TrAll.mono ((x3.g.trans s4).trans s5) tacc, e5, efin⟩
            obtain ⟨q1, q2⟩ := wipeD_own q
            rw [offw j q2] at z
            exact k3 j b d q1 z
          | true =>
            have e5 : (match fe δ5 with
              | some (v, δ3) => (treeV v).bind fun e => (compL gt ft fe vs (ds.drop (i + 1)) (wipeD δ3 vs)).bind fun p => some (e :: p.1, p.2)
              | none => none) = some (rest, δf) := e5
            cases hfe : fe δ5 with
            | none => rw [hfe] at e5; cases e5
            | some p =>
              obtain ⟨v, δ6⟩ := p
              rw [hfe] at e5
              obtain ⟨y, ey, e5⟩ := Option.bind_eq_some_iff.mp e5
              obtain ⟨⟨rest', δf'⟩, e6, e5⟩ := Option.bind_eq_some_iff.mp e5
              cases e5
              refine (show (if true = true then _ else _) from iteT ?_)
              refine ⟨_, G5, δ5, v, δ6, R5, hfe, fun u G6 H6 s6 R6 v6 => ?_⟩
              obtain ⟨G7, s7, R7, v7⟩ := v6.freeze R6
              have ty : Tr K G7 u y := by
                cases v with
                | fz d => cases ey; exact v7
                | ow d => cases ey; exact v7
                | sl j => cases ey
              obtain ⟨k1, k2, k3⟩ := keepD R7
              have sg : Same G2 G7 := (((x3.g.trans s4).trans s5).trans s6).trans s7
              have hsz' : acc.length < sizeLine := by
                have h1 := szOk_le hsz
                have h2 : (as ++ y :: rest').length ≤ sizeLine := by rw [efin]; exact h1
                rw [List.length_append, List.length_cons, ← tacc.len] at h2
                omega
              have k3' : ∀ (j : Nat) (b : Bool) (d : DL.D), (wipeD δ6 vs)[j]? = some (.own b d) → (wipe σ vs)[j]? ≠ some (some (V.ref D)) := fun j b d q z => by
                obtain ⟨q1, q2⟩ := wipeD_own q
                rw [offw j q2] at z
                exact k3 j b d q1 z
              refine ⟨acc, k2, hsz', G7, wipeD δ6 vs, acc ++ [u], as ++ [y], rest', s2.trans sg, ((R3.rebase R7).agree vs lenw offw).apart k1 hD0 k3', k1, k3', upd_same, (TrAll.mono sg tacc).append (.cons ty .nil), e6, by rw [List.append_assoc]; exact efin⟩
      · have hz : i = ds.length := by omega
        subst hz
        rw [List.drop_length] at ec
        cases ec
        rw [List.append_nil] at efin
        subst efin
        refine .inl ⟨it2 (Nat.le_refl _), ?_⟩
        refine k _ G2 H2 (s1.trans s2) (R1.back R2 s2 hpl') ⟨D, rfl, g2, .inl hD0, .lst hacc tacc, fun j b d q z => ?_⟩
        rcases backD_get q with ⟨a, c⟩ | ⟨a, c | c⟩
        · rw [← wipe_out a] at z
          exact rt2 j b d c z
        · have := hpl' j a
          unfold plainAt at this
          rw [c] at this
          cases this
        · cases c
    · rw [if_neg hpl] at e
      cases e
theorem de_lc {elt tg iter : Expr} {ifs : List Expr} {scope : Scope} {own : List (Str × Nat)} {ws : List Nat} {fi : Me (List D)} {gt : Tg} {ft : Me Bool} {fe : Me Val} (hc : X.calm = true) (hN : X.N.Nodup) (hi : DI X B tg iter fi) (ok : BlkOk X.N X.env.scope scope own)
    (hw : ∀ i ∈ ws, i ∈ own.map (·.2))
    (hg : ∀ (s : Shared) (H : Hp) (C : Addr) (cl : List (Str × Addr)) (fp : List Addr) (B : Bs), DG (X.blk s H scope (compEnvC scope cl C X.env) fp) B ws tg gt)
    (ht : ∀ (s : Shared) (H : Hp) (C : Addr) (cl : List (Str × Addr)) (fp : List Addr), DTs (X.blk s H scope (compEnvC scope cl C X.env) fp) ifs ft)
    (he : ∀ (s : Shared) (H : Hp) (C : Addr) (cl : List (Str × Addr)) (fp : List Addr) (B : Bs), DE (X.blk s H scope (compEnvC scope cl C X.env) fp) B elt fe)
    (hs : ∀ x, foldedSetIterable iter X.env x = pure x := by intro _; rfl) :
    DE X B (.ListComp elt [⟨tg, iter, ifs, 0⟩] scope pos) (compM fi gt ft fe (own.map (·.2))) :=
  PE.weak (pe_lc hc hN hi ok (fun s H C cl fp => pg_E (hg s H C cl fp)) ht (fun s H C cl fp => pe_E (he s H C cl fp)) hs) (lc_of hw)
/-- y = [..] with a plain local y -/
theorem ss_setLc {i : Nat} {y : Str} {py spos : Pos} {elt tg iter : Expr} {ifs : List Expr} {scope : Scope} {own : List (Str × Nat)} {ws : List Nat} {fi : Me (List D)} {gt : Tg} {ft : Me Bool} {fe : Me Val} (hc : X.calm = true) (hN : X.N.Nodup) (hy : X.N[i]? = some y) (hyl : X.env.scope.names.lookup y = some .local)
    (hsw : swapsWith (.ListComp elt [⟨tg, iter, ifs, 0⟩] scope pos) (some (.Name y py)) spos.line X.env = pure true) (hi : DI X B tg iter fi) (ok : BlkOk X.N X.env.scope scope own)
    (hw : ∀ i ∈ ws, i ∈ own.map (·.2))
    (hg : ∀ (s : Shared) (H : Hp) (C : Addr) (cl : List (Str × Addr)) (fp : List Addr) (B : Bs), DG (X.blk s H scope (compEnvC scope cl C X.env) fp) B ws tg gt)
    (ht : ∀ (s : Shared) (H : Hp) (C : Addr) (cl : List (Str × Addr)) (fp : List Addr), DTs (X.blk s H scope (compEnvC scope cl C X.env) fp) ifs ft)
    (he : ∀ (s : Shared) (H : Hp) (C : Addr) (cl : List (Str × Addr)) (fp : List Addr) (B : Bs), DE (X.blk s H scope (compEnvC scope cl C X.env) fp) B elt fe)
    (hs : ∀ x, foldedSetIterable iter X.env x = pure x := by intro _; rfl) :
    SS X B (.Assign [.Name y py] (.ListComp elt [⟨tg, iter, ifs, 0⟩] scope pos) spos) (setS i (compM fi gt ft fe (own.map (·.2)))) :=
  PS.weak (ps_setLc hc hN hy hyl hsw hi ok (fun s H C cl fp => pg_E (hg s H C cl fp)) ht (fun s H C cl fp => pe_E (he s H C cl fp)) hs) fun E σ H q => by
    refine lc_of (B := B) (gt := gt) (ft := ft) (fe := fe) hw σ H _ ?_
    obtain ⟨G, δ, fl, δ', R, e, k⟩ := q
    unfold setS at e
    cases hg : compM fi gt ft fe (own.map (·.2)) δ with
    | none => rw [hg] at e; cases e
    | some p =>
      obtain ⟨v, δ1⟩ := p
      rw [hg] at e
      obtain ⟨δ2, e2, e3⟩ := Option.bind_eq_some_iff.mp e
      cases e3
      exact ⟨G, δ, v, δ1, R, hg, fun u G1 H1 s1 R1 v1 => k _ G1 H1 s1 (R1.set v1 e2)⟩
end
end DL
end
section
set_option maxRecDepth 100000
set_option maxHeartbeats 4000000
namespace DL
open PySem PySem.Spec L2
open PyProof.Rows hiding St

/-! ### defs, called where no repr is under way -/
structure FnG (P : Program) (w : World) (K : Fg) (mg : Str → Option Value) (base : Heap) (k : Nat) (f : Addr) (fd : FuncData) (ps : List Str) (sp : Sp) : Prop where
  len : ∀ vs H Q E, sp vs H Q E → vs.length = ps.length
  run : ∀ (A : Around) (outer : List Env) (s : Shared) (H : Hp) (args : Args) (us : List Value) (vs : List V) (Q : VK) (E : XK), Room k A → A.guards = some [] → Env0 P w K mg base A outer s H → BindsTo s fd args (ps.zip us) → Vals vs us → sp vs H Q E →
    codeAny (model P w) A (.call (.ref f) args) (CR CX0 outer P w H s Q E) s
theorem FnG.mono {P : Program} {w : World} {K : Fg} {mg : Str → Option Value} {base : Heap} {j k : Nat} {f : Addr} {fd : FuncData} {ps : List Str} {sp : Sp} (F : FnG P w K mg base j f fd ps sp) (h : j ≤ k) : FnG P w K mg base k f fd ps sp :=
  ⟨F.len, fun A o s H args us vs Q E hr => F.run A o s H args us vs Q E (hr.mono h)⟩
/-- the context in a def's body -/
abbrev bodyX (P : Program) (w : World) (K : Fg) (mg : Str → Option Value) (base : Heap) (N : List Str) (qual : Str) (st : Stmt) (f : Addr) (cdv : Value) (A : Around) (outer : List Env) (s : Shared) (H : Hp) (E : XK) : Cx := (cxOf CX0 P w K mg base N qual (defScope st) f cdv A outer s H E).nox
theorem fn_ofG {P : Program} {w : World} {K : Fg} {mg : Str → Option Value} {base : Heap} {x qual : Str} {st : Stmt} {f : Addr} {fd : FuncData} {N ps : List Str} {k : Nat} {sp : Sp} (F : L2.Fun K x qual st f fd) (S : FnScope N ps (defScope st)) (len : ∀ vs H Q E, sp vs H Q E → vs.length = ps.length)
    (body : ∀ (cdv : Value) (A : Around) (outer : List Env) (s : Shared) (H : Hp) (vs : List V) (Q : VK) (E : XK), Room k (A.deeper (envOfC qual (defScope st) s.heap.objs.size f cdv)) → A.guards = some [] → sp vs H Q E →
      ∃ t, PSs (bodyX P w K mg base N qual st f cdv A outer s H E) (defBody st) t ∧ t { nx := fun _ H' => Q .non H', rt := Q } (start N vs) H) : FnG P w K mg base (k + 1) f fd ps sp := by
  obtain ⟨_, _, kV, doc, pm, an, cdv, ct, _, efd, hlook, hcode⟩ := F.ex
  subst efd
  refine ⟨len, fun A outer s H args us vs Q E room guards env0 bound rel prom => ?_⟩
  have long := len _ _ _ _ prom
  have kin : K.In s.heap := env0.mod.kin.keeps fun b o e => (env0.bs b o e).1
  have nolim : s.heap.NoLimit := env0.mod.nolimit.keeps fun b o e => (env0.bs b o e).1
  have kinds : ∀ y ∈ ps.zip us, (defScope st).names.lookup y.1 = some .local ∨ ((defScope st).names.lookup y.1 = some .cell ∧ ((cellsFrom (s.heap.objs.size + 1) (defScope st).names []).lookup y.1).isSome = true) := by
    rintro ⟨n, v⟩ hy
    have hn := S.par n (List.of_mem_zip hy).1
    exact hn.imp id fun q => ⟨q, PySem.W.cellsFrom_some _ _ _ (.inl q)⟩
  refine codeAny_call_function room.depth (kin _ _ hlook) rfl S.co S.gen rfl (PySem.W.codeRec_of kin hcode) (bound _ _ _ _ (wpAny_newFunctionEnv_cells S.kind kinds ?_))
  intro env henv s1 called
  subst henv
  obtain ⟨t, walk, reads⟩ := body cdv A outer s H vs Q E (room.deeper _) guards prom
  have J := inv_start (CX := CX0) (E := E) (mg := mg) (base := base) (P := P) (w := w) (K := K) (qual := qual) (f := f) (cd := cdv) (H := H) S room.hd env0 long rel called
  refine ⟨nolim.keeps called.toInCall.keep, codeAny_func (wpAny_mono (walk.nox.run [] s1 (start N vs) H _ J reads) (fun fl s' ends => ?_) fun e s' z => z)⟩
  have close : ∀ (σ' : L2.St) (H' : Hp) (v : V) (u : Value), Inv (cxOf CX0 P w K mg base N qual (defScope st) f cdv A outer s H E) [] σ' H' s' → RelV v u → Q v H' → CE outer P w H s Q u s' := by
    intro σ' H' v u I' rv q
    exact ⟨v, H', I'.os, I'.bare, I'.base, I'.hok, rv, q⟩
  match fl, ends with
  | .ret u, ⟨v, σ', H', I', rv, q⟩ => exact close σ' H' v u I' rv q
  | .next, ⟨σ', H', I', q⟩ => exact close σ' H' V.non Value.none I' rfl q
  | .brk, ⟨_, _, _, q⟩ => exact q.elim
  | .cont, ⟨_, _, _, q⟩ => exact q.elim

section
variable {X : Cx} {B : Bs} {pos : Pos} {k : Nat} {f : Addr} {fd : FuncData} {ps : List Str} {sp : Sp}
theorem callG {pins : List (Addr × Obj)} {σ : L2.St} {H : Hp} {s : Shared} {Q : VK} {args : Args} {us : List Value} {vs : List V} (F : FnG X.prog X.w X.K X.mg X.base k f fd ps sp) (room : Room k X.A) (guards : X.A.guards = some []) (I : Inv X pins σ H s) (hb : BindsTo s fd args (ps.zip us)) (r : Vals vs us) (h : sp vs H Q E0) :
    codeAny (model X.prog X.w) X.A (.call (.ref f) args) (fun r s' => ∃ u, r = .ok (.ret u) ∧ EP X pins σ Q u s') s := by
  refine codeAny_mono (F.run X.A X.stack s H args us vs Q E0 room guards I.env0 hb r h) fun res s' got => ?_
  match res, got with
  | .error e, z => exact False.elim z
  | .ok (.ret u), z => exact ⟨u, rfl, I.after z⟩
  | .ok .next, z => exact False.elim z
  | .ok .brk, z => exact False.elim z
  | .ok .cont, z => exact False.elim z
/-- the arguments in the parameters' sequence -/
def permL {α : Type} (is : List Nat) (xs : List α) : List α := is.filterMap fun i => xs[i]?
theorem permL_vals {vs : List V} {us : List Value} (r : Vals vs us) : ∀ is : List Nat, Vals (permL is vs) (permL is us)
  | [] => .nil
  | i :: is => by
    have ih := permL_vals r is
    unfold permL
    rw [List.filterMap_cons, List.filterMap_cons]
    cases hv : vs[i]? with
    | none =>
      rw [r.none_of hv]
      exact ih
    | some v =>
      obtain ⟨u, hu, ru⟩ := r.get hv
      rw [hu]
      exact .cons ru ih
/-- how a call's arguments come to the parameters: n by place, the others by the names ks -/
def BindK (K : Fg) (fd : FuncData) (ps : List Str) (n : Nat) (ks : List Str) (is : List Nat) : Prop := ∀ (s : Shared) (us ws : List Value), us.length = n → ws.length = ks.length → BindsTo s fd ⟨us, ks.zip ws⟩ (ps.zip (permL is (us ++ ws)))
theorem bindK_of {K : Fg} {x qual : Str} {st : Stmt} {f : Addr} {fd : FuncData} {ps ks : List Str} {n : Nat} {is : List Nat} (F : L2.Fun K x qual st f fd)
    (h : ∀ (kV doc pm : Value) (an : Option Addr) (cdv ct : Value) (us ws : List Value), us.length = n → ws.length = ks.length → bindArgs (PySem.W.fnOf x qual (defArgs st) (defBody st) (defScope st) .none kV doc pm an cdv ct) ⟨us, ks.zip ws⟩ = pure (ps.zip (permL is (us ++ ws)))) : BindK K fd ps n ks is := by
  obtain ⟨_, _, kV, doc, pm, an, cdv, ct, _, efd, _, _⟩ := F.ex
  subst efd
  exact fun s us ws h1 h2 => .of_eq (h kV doc pm an cdv ct us ws h1 h2)
/-- a call: by place, by names -/
def tCallK (n m : Nat) (sp : Sp) (is : List Nat) (t tk : TA) : TE := fun σ H Q => t σ H fun vs H1 => tk σ H1 fun zs H2 => vs.length = n ∧ zs.length = m ∧ sp (permL is (vs ++ zs)) H2 Q E0
theorem callK_of {pins : List (Addr × Obj)} {σ : L2.St} {H : Hp} {s : Shared} {Q : VK} {n : Nat} {ks : List Str} {is : List Nat} {us ws : List Value} {vs zs : List V} (F : FnG X.prog X.w X.K X.mg X.base k f fd ps sp) (room : Room k X.A) (guards : X.A.guards = some []) (hb : BindK X.K fd ps n ks is) (I : Inv X pins σ H s) (r : Vals vs us) (r2 : Vals zs ws) (l1 : vs.length = n) (l2 : zs.length = ks.length) (h : sp (permL is (vs ++ zs)) H Q E0) :
    wpAny (model X.prog X.w) X.A (call (.ref f) us (ks.zip ws)) (EP X pins σ Q) X.xe s := by
  refine wpAny_call (codeAny_mono (callG F room guards I (hb s us ws (r.length.symm.trans l1) (r2.length.symm.trans l2)) (permL_vals (r.append r2) is) h) ?_)
  rintro res s' ⟨u, rfl, z⟩
  exact z
theorem pe_callK {x : Str} {p : Pos} {n : Nat} {ks : List Str} {is : List Nat} {e : Expr} {es : List Expr} {kws : List Keyword} {t tk : TA} (F : FnG X.prog X.w X.K X.mg X.base k f fd ps sp) (room : Room k X.A) (guards : X.A.guards = some []) (hb : BindK X.K fd ps n ks is) (hg : Gl X x) (hm : X.mg x = some (.ref f)) (hk : PySem.W.keepIn X.K (.ref f) = true)
    (ha : PA X (e :: es) t) (hkw : PK X kws tk) (hall : (backToKw pos (keywordEach kws X.env)).all (·.1.isSome) = true := by rfl) (hks : (backToKw pos (keywordEach kws X.env)).filterMap (·.1) = ks := by rfl) (hdb : (x == ("__debug__" : Str)) = false := by decide) (he : starEach (e :: es) X.env = (false, eval e X.env) :: starEach es X.env := by rfl)
    (hpl : ((backTo pos (starEach (e :: es) X.env)).any (·.1) || (backToKw pos (keywordEach kws X.env)).any (·.1.isNone)) = false := by rfl) : PE X (.Call (.Name x p) (e :: es) kws pos) (tCallK n ks.length sp is t tk) := by
  refine ⟨fun pins s σ H Q I h => wpAny_Call_Name_kw (ld_glob I hg hm ?_ hdb)⟩
  refine PySem.W.callWith_KW (h₀ := X.base) I.ok.mod.kin hk hall (thn (ha.run pos pins s σ H _ I h) ?_) hpl he
  rintro us s1 ⟨vs, H1, I1, r1, q1⟩
  refine thn (hkw.run pos pins s1 σ H1 _ I1 q1) ?_
  rintro ws s2 ⟨zs, H2, I2, r2, l1, l2, q2⟩
  rw [hks]
  exact ⟨I2.kIn, callK_of F room guards hb I2 r1 r2 l1 l2 q2⟩
theorem pe_callK0 {x : Str} {p : Pos} {ks : List Str} {is : List Nat} {kws : List Keyword} {tk : TA} (F : FnG X.prog X.w X.K X.mg X.base k f fd ps sp) (room : Room k X.A) (guards : X.A.guards = some []) (hb : BindK X.K fd ps 0 ks is) (hg : Gl X x) (hm : X.mg x = some (.ref f)) (hk : PySem.W.keepIn X.K (.ref f) = true)
    (hkw : PK X kws tk) (hall : (backToKw pos (keywordEach kws X.env)).all (·.1.isSome) = true := by rfl) (hks : (backToKw pos (keywordEach kws X.env)).filterMap (·.1) = ks := by rfl) (hdb : (x == ("__debug__" : Str)) = false := by decide)
    (hpl : ((backTo pos (starEach [] X.env)).any (·.1) || (backToKw pos (keywordEach kws X.env)).any (·.1.isNone)) = false := by rfl) : PE X (.Call (.Name x p) [] kws pos) (tCallK 0 ks.length sp is tNil tk) := by
  refine ⟨fun pins s σ H Q I h => wpAny_Call_Name_kw (ld_glob I hg hm ?_ hdb)⟩
  refine PySem.W.callWith_KW0 (h₀ := X.base) I.ok.mod.kin hk hall (thn (hkw.run pos pins s σ H _ I h) ?_) hpl
  rintro ws s2 ⟨zs, H2, I2, r2, l1, l2, q2⟩
  rw [hks]
  exact ⟨I2.kIn, callK_of (us := []) F room guards hb I2 .nil r2 l1 l2 q2⟩
/-- keywords' values -/
abbrev DK (X : Cx) (B : Bs) (kws : List Keyword) (f : Me (List Val)) : Prop := PK X kws (taOf X.K B f)
theorem dk_nil : DK X B [] nilA := ⟨fun pos pins s σ H Q I h => pk_nil.run pos pins s σ H Q I (by
  obtain ⟨G, δ, r, δ', R, e, z⟩ := h
  cases e
  exact z [] G H (Same.refl _) R .nil)⟩
theorem dk_cons {nm : Option Str} {kpos : Pos} {e : Expr} {kws : List Keyword} {g : Me Val} {h : Me (List Val)} (ha : DE X B e g) (hr : DK X B kws h) : DK X B (⟨nm, e, kpos⟩ :: kws) (consA g h) := ⟨fun pos pins s σ H Q I q => (pk_cons ha hr).run pos pins s σ H Q I (by
  obtain ⟨G, δ, r, δ', R, e, z⟩ := q
  obtain ⟨x, δ1, e1, e⟩ := mb_some e
  obtain ⟨xs, δ2, e2, e⟩ := mb_some e
  cases e
  refine ⟨G, δ, x, δ1, R, e1, fun v G1 H1 s1 R1 v1 => ?_⟩
  obtain ⟨G1', s1', R1', v1'⟩ := v1.freeze R1
  refine ⟨G1', δ1, xs, _, R1', e2, fun vs G2 H2 s2 R2 v2 => ?_⟩
  exact z (v :: vs) G2 H2 ((s1.trans s1').trans s2) R2 (.cons (RV.stay s2 v1') v2))⟩

/-! ### promises by functions of trees -/
/-- hands back F of the arguments, changes nothing that stood -/
def spF (K : Fg) (n : Nat) (F : List D → Option Val) : Sp := fun vs H Q _ => ∃ (G : Hp) (ds : List D) (r : Val), vs.length = n ∧ Same G H ∧ TrAll K G vs ds ∧ F ds = some r ∧ ∀ v G' H', Ex G H G' H' → RO K G' H H' v r → Q v H'
/-- .. and changes its first argument, a list of the caller's own -/
def spI (K : Fg) (n : Nat) (F : D → List D → Option (Val × D)) : Sp := fun vs H Q _ => ∃ (G : Hp) (a : Addr) (vr : List V) (d : D) (ds : List D) (r : Val) (d' : D), vs.length = n ∧ vs = .ref a :: vr ∧ Same G H ∧ G a = none ∧ Root K G H a d ∧ TrAll K G vr ds ∧ F d ds = some (r, d') ∧
  ∀ v G' H', Same G G' → Same G' H' → (∀ b o, G' b = some o → G b = none → H b = none) → (∀ b o, H b = some o → b ≠ a → H' b = some o) → G' a = none → Root K G' H' a d' → RO K G' H H' v r → Q v H'
def callP (is : List Nat) (F : List D → Option Val) (fa fk : Me (List Val)) : Me Val := mb fa fun xs => mb fk fun ys => mo fun δ => match fzs (xs ++ ys) with
  | some ds => F (permL is ds)
  | none => none
theorem fzs_append : ∀ {xs ys : List Val} {ds : List D}, fzs (xs ++ ys) = some ds → ∃ as bs, fzs xs = some as ∧ fzs ys = some bs ∧ ds = as ++ bs
  | [], _, _, h => ⟨[], _, rfl, h, rfl⟩
  | .sl _ :: _, _, _, h => by cases h
  | .fz d :: r, _, _, h => by
    obtain ⟨es, e1, h⟩ := Option.bind_eq_some_iff.mp h
    cases h
    obtain ⟨as, bs, e2, e3, rfl⟩ := fzs_append e1
    exact ⟨d :: as, bs, by unfold fzs; rw [e2]; rfl, e3, rfl⟩
  | .ow d :: r, _, _, h => by
    obtain ⟨es, e1, h⟩ := Option.bind_eq_some_iff.mp h
    cases h
    obtain ⟨as, bs, e2, e3, rfl⟩ := fzs_append e1
    exact ⟨d :: as, bs, by unfold fzs; rw [e2]; rfl, e3, rfl⟩
theorem permL_tr {K : Fg} {G : Hp} {vs : List V} {ds : List D} (t : TrAll K G vs ds) : ∀ is : List Nat, TrAll K G (permL is vs) (permL is ds)
  | [] => .nil
  | i :: is => by
    have ih := permL_tr t is
    unfold permL
    rw [List.filterMap_cons, List.filterMap_cons]
    cases hv : vs[i]? with
    | none =>
      have : ds[i]? = none := by
        have := t.len
        rw [List.getElem?_eq_none_iff] at hv ⊢
        omega
      rw [this]
      exact ih
    | some v =>
      obtain ⟨u, hu, ru⟩ := t.getV hv
      rw [hu]
      exact .cons ru ih
/-- so many values -/
def LenA (fa : Me (List Val)) (n : Nat) : Prop := ∀ δ xs δ', fa δ = some (xs, δ') → xs.length = n
theorem lenA_nil : LenA nilA 0 := fun δ xs δ' h => by cases h; rfl
theorem lenA_cons {f : Me Val} {g : Me (List Val)} {n : Nat} (h : LenA g n) : LenA (consA f g) (n + 1) := fun δ xs δ' e => by
  obtain ⟨x, δ1, e1, e⟩ := mb_some e
  obtain ⟨ys, δ2, e2, e⟩ := mb_some e
  cases e
  rw [List.length_cons, h _ _ _ e2]
theorem callP_of {K : Fg} {n m q : Nat} {is : List Nat} {F : List D → Option Val} {fa fk : Me (List Val)} (hn : LenA fa n) (hm : LenA fk m) (hq : ∀ {α : Type} (xs : List α), xs.length = n + m → (permL is xs).length = q) : ∀ σ H Q, tOf K B (callP is F fa fk) σ H Q → tCallK n m (spF K q F) is (taOf K B fa) (taOf K B fk) σ H Q := by
  intro σ H Q hz
  obtain ⟨G, δ, res, δ', R, e, z⟩ := hz
  obtain ⟨xs, δ1, e1, e⟩ := mb_some e
  obtain ⟨ys, δ2, e2, e⟩ := mb_some e
  obtain ⟨e3, rfl⟩ := mo_some e
  refine ⟨G, δ, xs, δ1, R, e1, fun vs G1 H1 s1 R1 v1 => ⟨G1, δ1, ys, _, R1, e2, fun ws G2 H2 s2 R2 v2 => ?_⟩⟩
  split at e3
  · rename_i ds hd
    obtain ⟨as, bs, f1, f2, rfl⟩ := fzs_append hd
    have t1 := (v1.stay (B := B) (G' := G2) (H' := H2) (δ' := δ') s2).trees f1
    have t2 := v2.trees f2
    have l1 : vs.length = n := v1.length.trans (hn _ _ _ e1)
    have l2 : ws.length = m := v2.length.trans (hm _ _ _ e2)
    exact ⟨l1, l2, G2, _, res, hq _ (by rw [List.length_append, l1, l2]), R2.same, permL_tr (t1.append t2) is, e3, fun v G' H' x ro => z v G' H' ((s1.trans s2).trans x.g) (R2.ex x) (ro.rv R2)⟩
  · cases e3
theorem de_call {x : Str} {p : Pos} {q : Nat} {e : Expr} {es : List Expr} {F : List D → Option Val} {fa : Me (List Val)} {n : Nat} {ks : List Str} {is : List Nat} {kws : List Keyword} {fk : Me (List Val)} (Fn : FnG X.prog X.w X.K X.mg X.base k f fd ps (spF X.K q F)) (room : Room k X.A) (guards : X.A.guards = some []) (hb : BindK X.K fd ps n ks is) (hg : Gl X x) (hm : X.mg x = some (.ref f)) (hk : PySem.W.keepIn X.K (.ref f) = true)
    (ha : DA X B (e :: es) fa) (hkw : DK X B kws fk) (hn : LenA fa n) (hl : LenA fk ks.length) (hq : ∀ {α : Type} (xs : List α), xs.length = n + ks.length → (permL is xs).length = q) (hall : (backToKw pos (keywordEach kws X.env)).all (·.1.isSome) = true := by rfl) (hks : (backToKw pos (keywordEach kws X.env)).filterMap (·.1) = ks := by rfl) (hdb : (x == ("__debug__" : Str)) = false := by decide) (he : starEach (e :: es) X.env = (false, eval e X.env) :: starEach es X.env := by rfl)
    (hpl : ((backTo pos (starEach (e :: es) X.env)).any (·.1) || (backToKw pos (keywordEach kws X.env)).any (·.1.isNone)) = false := by rfl) : DE X B (.Call (.Name x p) (e :: es) kws pos) (callP is F fa fk) :=
  PE.weak (pe_callK Fn room guards hb hg hm hk ha hkw hall hks hdb he hpl) (callP_of hn hl hq)
theorem de_call0 {x : Str} {p : Pos} {q : Nat} {F : List D → Option Val} {ks : List Str} {is : List Nat} {kws : List Keyword} {fk : Me (List Val)} (Fn : FnG X.prog X.w X.K X.mg X.base k f fd ps (spF X.K q F)) (room : Room k X.A) (guards : X.A.guards = some []) (hb : BindK X.K fd ps 0 ks is) (hg : Gl X x) (hm : X.mg x = some (.ref f)) (hk : PySem.W.keepIn X.K (.ref f) = true)
    (hkw : DK X B kws fk) (hl : LenA fk ks.length) (hq : ∀ {α : Type} (xs : List α), xs.length = 0 + ks.length → (permL is xs).length = q) (hall : (backToKw pos (keywordEach kws X.env)).all (·.1.isSome) = true := by rfl) (hks : (backToKw pos (keywordEach kws X.env)).filterMap (·.1) = ks := by rfl) (hdb : (x == ("__debug__" : Str)) = false := by decide)
    (hpl : ((backTo pos (starEach [] X.env)).any (·.1) || (backToKw pos (keywordEach kws X.env)).any (·.1.isNone)) = false := by rfl) : DE X B (.Call (.Name x p) [] kws pos) (callP is F nilA fk) :=
  PE.weak (pe_callK0 Fn room guards hb hg hm hk hkw hall hks hdb hpl) fun σ H Q h => by
    refine callP_of (n := 0) lenA_nil hl hq σ H Q h |> fun z => ?_
    obtain ⟨G, δ, xs, δ1, R, e1, z⟩ := z
    cases e1
    exact z [] G H (Same.refl _) R .nil
end
end DL
end
section
set_option maxRecDepth 100000
set_option maxHeartbeats 4000000
namespace DL
open PySem PySem.Spec L2
open PyProof.Rows hiding St

section
variable {X : Cx} {B : Bs} {pos : Pos} {k : Nat} {f : Addr} {fd : FuncData} {ps : List Str} {sp : Sp}
/-! ### a call that reads lists of one's own and hands back what is flat -/
def bors (δ : DS) : List Val → Option (List D)
  | [] => some []
  | .fz d :: rs => (bors δ rs).bind fun ds => some (d :: ds)
  | .ow d :: rs => (bors δ rs).bind fun ds => some (d :: ds)
  | .sl i :: rs => match δ[i]? with
    | some (.own _ d) => (bors δ rs).bind fun ds => some (d :: ds)
    | _ => none
open Classical in
/-- the roots of one's own lists lent -/
noncomputable def lent (G H : Hp) (δ : DS) (σ : L2.St) : Hp := fun a => if (∃ (i : Nat) (b : Bool) (d : D), δ[i]? = some (.own b d) ∧ σ[i]? = some (some (V.ref a))) then H a else G a
theorem lent_g {K : Fg} {G H : Hp} {δ : DS} {σ : L2.St} (R : RelS K B G H δ σ) : Same G (lent G H δ σ) := fun a o e => by
  unfold lent
  split
  · exact R.same _ _ e
  · exact e
theorem lent_h {K : Fg} {G H : Hp} {δ : DS} {σ : L2.St} (R : RelS K B G H δ σ) : Same (lent G H δ σ) H := fun a o e => by
  unfold lent at e
  split at e
  · exact e
  · exact R.same _ _ e
theorem lent_tr {K : Fg} {G H : Hp} {δ : DS} {σ : L2.St} (R : RelS K B G H δ σ) {i : Nat} {b : Bool} {d : D} {v : V} (q : δ[i]? = some (.own b d)) (z : σ[i]? = some (some v)) : Tr K (lent G H δ σ) v d := by
  obtain ⟨a, e1, n, m, r⟩ := R.own i b d q
  rw [e1] at z
  cases z
  have hl : lent G H δ σ a = H a := by
    unfold lent
    rw [if_pos ⟨i, b, d, q, e1⟩]
  cases r with
  | lst x y => exact .lst (hl.trans x) (TrAll.mono (lent_g R) y)
  | dic x y => exact .dic (hl.trans x) (TrKV.mono (lent_g R) y)
theorem RVs.lent {K : Fg} {G H : Hp} {δ : DS} {σ : L2.St} (R : RelS K B G H δ σ) : ∀ {vs : List V} {rs : List Val} {ds : List D}, RVs K B G H δ σ vs rs → bors δ rs = some ds → TrAll K (DL.lent G H δ σ) vs ds
  | _, _, _, .nil, h => by cases h; exact .nil
  | _, _, _, .cons (b := r) a b, h => by
    cases r with
    | fz d =>
      obtain ⟨es, h2, h⟩ := Option.bind_eq_some_iff.mp h
      cases h
      exact .cons (Tr.mono (lent_g R) a) (RVs.lent R b h2)
    | ow d =>
      obtain ⟨es, h2, h⟩ := Option.bind_eq_some_iff.mp h
      cases h
      exact .cons (Tr.mono (lent_g R) a) (RVs.lent R b h2)
    | sl i =>
      unfold bors at h
      split at h
      · rename_i b' d q
        obtain ⟨es, h2, h⟩ := Option.bind_eq_some_iff.mp h
        cases h
        exact .cons (lent_tr R q a) (RVs.lent R b h2)
      · cases h
def flatV : Val → Bool
  | .fz d => flat d
  | _ => false
/-- flat, or a new list of what is flat -/
def flatW : Val → Bool
  | .fz d => flat d
  | .ow (.list ds) => ds.all flat
  | _ => false
theorem TrAll.flats {K : Fg} {H H' : Hp} : ∀ {vs : List V} {ds : List D}, TrAll K H vs ds → ds.all flat = true → TrAll K H' vs ds
  | _, _, .nil, _ => .nil
  | _, _, .cons a b, h => by
    have h : (flat _ && _) = true := h
    rw [Bool.and_eq_true] at h
    exact .cons (a.flat h.1) (TrAll.flats b h.2)
def callL (is : List Nat) (F : List D → Option Val) (fa : Me (List Val)) : Me Val := mb fa fun xs => mo fun δ => (bors δ xs).bind fun ds => (F (permL is ds)).bind fun r => if flatW r then some r else none
theorem flatW_rv {K : Fg} {G1 G' H1 H' : Hp} {δ : DS} {σ : L2.St} (R : RelS K B G1 H1 δ σ) {v : V} {r : Val} (ro : RO K G' H1 H' v r) (hf : flatW r = true) : RV K B G1 H' δ σ v r := by
  cases r with
  | fz d => exact Tr.flat ro hf
  | sl i => cases hf
  | ow d =>
    obtain ⟨a, e, n, -, rt⟩ := ro
    cases rt with
    | lst h t => exact RO.rv R ⟨a, e, n, R.same.free n, .lst h (t.flats hf)⟩
    | dic h t => cases hf
theorem callL_of {K : Fg} {n q : Nat} {is : List Nat} {F : List D → Option Val} {fa : Me (List Val)} (hn : LenA fa n) (hq : ∀ {α : Type} (xs : List α), xs.length = n → (permL is xs).length = q) : ∀ σ H Q, tOf K B (callL is F fa) σ H Q → tCallK n 0 (spF K q F) is (taOf K B fa) tNil σ H Q := by
  intro σ H Q hz
  obtain ⟨G, δ, res, δ', R, e, z⟩ := hz
  obtain ⟨xs, δ1, e1, e⟩ := mb_some e
  obtain ⟨e3, rfl⟩ := mo_some e
  obtain ⟨ds, e4, e3⟩ := Option.bind_eq_some_iff.mp e3
  obtain ⟨r, e5, e3⟩ := Option.bind_eq_some_iff.mp e3
  obtain ⟨hf, rfl⟩ := ite_some e3
  refine ⟨G, δ, xs, _, R, e1, fun vs G1 H1 s1 R1 v1 => ?_⟩
  have t1 := v1.lent R1 e4
  have l1 : vs.length = n := v1.length.trans (hn _ _ _ e1)
  refine ⟨l1, rfl, lent G1 H1 δ' σ, permL is ds, r, ?_, lent_h R1, ?_, e5, fun v G' H' x ro => ?_⟩
  · rw [List.append_nil]
    exact hq _ l1
  · rw [List.append_nil]
    exact permL_tr t1 is
  · have x2 : Ex G1 H1 G1 H' := ⟨Same.refl _, R1.same.trans x.h, x.h, fun a o h n => by rw [h] at n; cases n⟩
    exact z v G1 H' s1 (R1.ex x2) (flatW_rv R1 ro hf)
theorem de_callL {x : Str} {p : Pos} {q n : Nat} {e : Expr} {es : List Expr} {F : List D → Option Val} {fa : Me (List Val)} {is : List Nat} (Fn : FnG X.prog X.w X.K X.mg X.base k f fd ps (spF X.K q F)) (room : Room k X.A) (guards : X.A.guards = some []) (hb : BindK X.K fd ps n [] is) (hg : Gl X x) (hm : X.mg x = some (.ref f)) (hk : PySem.W.keepIn X.K (.ref f) = true)
    (ha : DA X B (e :: es) fa) (hn : LenA fa n) (hq : ∀ {α : Type} (xs : List α), xs.length = n → (permL is xs).length = q) (hall : (backToKw pos (keywordEach [] X.env)).all (·.1.isSome) = true := by rfl) (hks : (backToKw pos (keywordEach [] X.env)).filterMap (·.1) = [] := by rfl) (hdb : (x == ("__debug__" : Str)) = false := by decide) (he : starEach (e :: es) X.env = (false, eval e X.env) :: starEach es X.env := by rfl)
    (hpl : ((backTo pos (starEach (e :: es) X.env)).any (·.1) || (backToKw pos (keywordEach [] X.env)).any (·.1.isNone)) = false := by rfl) : DE X B (.Call (.Name x p) (e :: es) [] pos) (callL is F fa) :=
  PE.weak (pe_callK Fn room guards hb hg hm hk ha pk_nil hall hks hdb he hpl) (callL_of hn hq)

theorem callL0_of {K : Fg} {m q : Nat} {is : List Nat} {F : List D → Option Val} {fk : Me (List Val)} (hm : LenA fk m) (hq : ∀ {α : Type} (xs : List α), xs.length = 0 + m → (permL is xs).length = q) : ∀ σ H Q, tOf K B (callL is F fk) σ H Q → tCallK 0 m (spF K q F) is (taOf K B nilA) (taOf K B fk) σ H Q := by
  intro σ H Q hz
  obtain ⟨G, δ, res, δ', R, e, z⟩ := hz
  obtain ⟨xs, δ1, e1, e⟩ := mb_some e
  obtain ⟨e3, rfl⟩ := mo_some e
  obtain ⟨ds, e4, e3⟩ := Option.bind_eq_some_iff.mp e3
  obtain ⟨r, e5, e3⟩ := Option.bind_eq_some_iff.mp e3
  obtain ⟨hf, rfl⟩ := ite_some e3
  refine ⟨G, δ, [], δ, R, rfl, fun vs G0 H0 s0 R0 v0 => ⟨G0, δ, xs, _, R0, e1, fun ws G1 H1 s1 R1 v1 => ?_⟩⟩
  cases v0
  have t1 := v1.lent R1 e4
  have l1 : ws.length = m := v1.length.trans (hm _ _ _ e1)
  refine ⟨rfl, l1, lent G1 H1 δ' σ, permL is ds, r, hq _ (by rw [List.nil_append, l1, Nat.zero_add]), lent_h R1, permL_tr t1 is, e5, fun v G' H' x ro => ?_⟩
  have x2 : Ex G1 H1 G1 H' := ⟨Same.refl _, R1.same.trans x.h, x.h, fun a o h n => by rw [h] at n; cases n⟩
  exact z v G1 H' (s0.trans s1) (R1.ex x2) (flatW_rv R1 ro hf)
theorem de_callL0 {x : Str} {p : Pos} {q : Nat} {F : List D → Option Val} {ks : List Str} {is : List Nat} {kws : List Keyword} {fk : Me (List Val)} (Fn : FnG X.prog X.w X.K X.mg X.base k f fd ps (spF X.K q F)) (room : Room k X.A) (guards : X.A.guards = some []) (hb : BindK X.K fd ps 0 ks is) (hg : Gl X x) (hm : X.mg x = some (.ref f)) (hk : PySem.W.keepIn X.K (.ref f) = true)
    (hkw : DK X B kws fk) (hl : LenA fk ks.length) (hq : ∀ {α : Type} (xs : List α), xs.length = 0 + ks.length → (permL is xs).length = q) (hall : (backToKw pos (keywordEach kws X.env)).all (·.1.isSome) = true := by rfl) (hks : (backToKw pos (keywordEach kws X.env)).filterMap (·.1) = ks := by rfl) (hdb : (x == ("__debug__" : Str)) = false := by decide)
    (hpl : ((backTo pos (starEach [] X.env)).any (·.1) || (backToKw pos (keywordEach kws X.env)).any (·.1.isNone)) = false := by rfl) : DE X B (.Call (.Name x p) [] kws pos) (callL is F fk) :=
  PE.weak (pe_callK0 Fn room guards hb hg hm hk hkw hall hks hdb hpl) fun σ H Q h => by
    refine callL0_of hl hq σ H Q h |> fun z => ?_
    obtain ⟨G, δ, xs, δ1, R, e1, z⟩ := z
    cases e1
    exact z [] G H (Same.refl _) R .nil

/-! ### a call that changes the caller's own list, its first argument -/
def callI (F : D → List D → Option (Val × D)) (fa : Me (List Val)) : Me Val := mb fa fun xs => fun δ => match xs with
  | .sl j :: rs => (match δ[j]? with
    | some (.own b d) => (fzs rs).bind fun ds => (F d ds).bind fun p => some (p.1, δ.set j (.own b p.2))
    | _ => none)
  | _ => none
theorem callI_of {K : Fg} {n : Nat} {is : List Nat} {F : D → List D → Option (Val × D)} {fa : Me (List Val)} (hn : LenA fa n) (hq : ∀ {α : Type} (xs : List α), xs.length = n → permL is xs = xs) : ∀ σ H Q, tOf K B (callI F fa) σ H Q → tCallK n 0 (spI K n F) is (taOf K B fa) tNil σ H Q := by
  intro σ H Q hz
  obtain ⟨G, δ, res, δ', R, e, z⟩ := hz
  obtain ⟨xs, δ1, e1, e⟩ := mb_some e
  split at e
  · rename_i j rs
    split at e
    · rename_i b d q
      obtain ⟨ds, e2, e⟩ := Option.bind_eq_some_iff.mp e
      obtain ⟨⟨r, d'⟩, e3, e⟩ := Option.bind_eq_some_iff.mp e
      cases e
      refine ⟨G, δ, _, δ1, R, e1, fun vs G1 H1 s1 R1 v1 => ?_⟩
      have l1 : vs.length = n := v1.length.trans (hn _ _ _ e1)
      cases v1 with
      | @cons v _ vr _ a br =>
        obtain ⟨ad, f1, f2, f3, f4⟩ := R1.own j b d q
        have a : σ[j]? = some (some v) := a
        rw [f1] at a
        cases a
        refine ⟨l1, rfl, ?_⟩
        rw [List.append_nil, hq _ l1]
        refine ⟨G1, ad, vr, d, ds, r, d', l1, rfl, R1.same, f2, f4, RVs.trees br e2, e3, fun v G' H' sg sgh hnw hfr hga hrt ro => ?_⟩
        have hl : j < δ1.length := (List.getElem?_eq_some_iff.mp q).1
        have other : ∀ {s' : Sl} {i : Nat}, (δ1.set j (.own b d'))[i]? = some s' → (i = j ∧ s' = .own b d') ∨ (i ≠ j ∧ δ1[i]? = some s') := fun {s' i} y => by
          by_cases hj : i = j
          · subst hj
            rw [List.getElem?_set_self hl] at y
            exact .inl ⟨rfl, (Option.some.inj y).symm⟩
          · rw [List.getElem?_set_ne (Ne.symm hj)] at y
            exact .inr ⟨hj, y⟩
        have haS : ∃ o, H1 ad = some o := f4.ex
        have R' : RelS K B G' H' (δ1.set j (.own b d')) σ := by
          refine ⟨by rw [List.length_set]; exact R1.len, sgh, R1.g0.trans sg, fun c o y m => ?_, fun c o y hio hlo => ?_, fun c o y => ?_, R1.iod, fun i e y => ?_, fun i b' e y => ?_, fun i k b1 b2 c e e' y1 y2 w1 w2 => ?_⟩
          · cases hc : G1 c with
            | some u => exact R1.nw c u hc m
            | none => exact .inl (R1.none0 (hnw c o y hc))
          · have hc : c ≠ ad := fun w => by
              subst w
              cases b with
              | true => exact hio (j, c) f3 rfl
              | false =>
                rcases (show B.H0 c = none ∨ B.lo c from f3) with m' | m'
                · rw [m'] at y
                  cases y
                · exact hlo m'
            exact hfr c o (R1.frame c o y hio hlo) hc
          · obtain ⟨o', y'⟩ := R1.dom c o y
            by_cases hc : c = ad
            · subst hc
              exact hrt.ex
            · exact ⟨o', hfr c o' y' hc⟩
          · rcases other y with ⟨_, w⟩ | ⟨_, y'⟩
            · cases w
            · obtain ⟨u, g1, g2⟩ := R1.dat i e y'
              exact ⟨u, g1, Tr.mono sg g2⟩
          · rcases other y with ⟨hj, w⟩ | ⟨hj, y'⟩
            · cases w
              rw [hj]
              exact ⟨ad, f1, hga, f3, hrt⟩
            · obtain ⟨c, g1, g2, g3, g4⟩ := R1.own i b' e y'
              have hc : c ≠ ad := fun w => by
                subst w
                exact hj (R1.inj i j b' b c e d y' q g1 f1)
              refine ⟨c, g1, ?_, g3, Root.mono sg (fun o w => hfr c o w hc) g4⟩
              cases hg : G' c with
              | none => rfl
              | some o =>
                obtain ⟨o', w⟩ := g4.ex
                rw [hnw c o hg g2] at w
                cases w
          · rcases other y1 with ⟨hi, w⟩ | ⟨hi, y1'⟩
            · rcases other y2 with ⟨hk, w'⟩ | ⟨hk, y2'⟩
              · rw [hi, hk]
              · subst hi
                exact R1.inj i k b b2 c d _ q y2' w1 w2
            · rcases other y2 with ⟨hk, w'⟩ | ⟨hk, y2'⟩
              · subst hk
                exact R1.inj i k b1 b c _ d y1' q w1 w2
              · exact R1.inj i k b1 b2 c _ _ y1' y2' w1 w2
        refine z v G' H' (s1.trans sg) R' ?_
        cases r with
        | fz c => exact ro
        | sl i => exact ro.elim
        | ow c =>
          obtain ⟨p, rfl, n1, n2, rt⟩ := ro
          refine ⟨p, rfl, n2, .inl (R1.none0 n1), rt, fun i b' e y w => ?_⟩
          have some1 : ∃ o, H1 p = some o := by
            rcases other y with ⟨hj, _⟩ | ⟨hj, y'⟩
            · rw [hj] at w
              rw [f1] at w
              cases w
              exact haS
            · obtain ⟨c', g1, _, _, g4⟩ := R1.own i b' e y'
              rw [g1] at w
              cases w
              exact g4.ex
          obtain ⟨o, w⟩ := some1
          rw [n1] at w
          cases w
    · cases e
  · cases e
theorem de_callI {x : Str} {p : Pos} {n : Nat} {e : Expr} {es : List Expr} {F : D → List D → Option (Val × D)} {fa : Me (List Val)} {is : List Nat} (Fn : FnG X.prog X.w X.K X.mg X.base k f fd ps (spI X.K n F)) (room : Room k X.A) (guards : X.A.guards = some []) (hb : BindK X.K fd ps n [] is) (hg : Gl X x) (hm : X.mg x = some (.ref f)) (hk : PySem.W.keepIn X.K (.ref f) = true)
    (ha : DA X B (e :: es) fa) (hn : LenA fa n) (hq : ∀ {α : Type} (xs : List α), xs.length = n → permL is xs = xs) (hall : (backToKw pos (keywordEach [] X.env)).all (·.1.isSome) = true := by rfl) (hks : (backToKw pos (keywordEach [] X.env)).filterMap (·.1) = [] := by rfl) (hdb : (x == ("__debug__" : Str)) = false := by decide) (he : starEach (e :: es) X.env = (false, eval e X.env) :: starEach es X.env := by rfl)
    (hpl : ((backTo pos (starEach (e :: es) X.env)).any (·.1) || (backToKw pos (keywordEach [] X.env)).any (·.1.isNone)) = false := by rfl) : DE X B (.Call (.Name x p) (e :: es) [] pos) (callI F fa) :=
  PE.weak (pe_callK Fn room guards hb hg hm hk ha pk_nil hall hks hdb he hpl) (callI_of hn hq)
/-- .. a list that was just made, as the one argument -/
def callO (F : D → List D → Option (Val × D)) (g : Me Val) : Me Val := mb g fun x => fun δ => match x with
  | .ow d => (F d []).bind fun p => if flatV p.1 then some (p.1, δ) else none
  | _ => none
theorem de_callO {x : Str} {p : Pos} {e : Expr} {F : D → List D → Option (Val × D)} {g : Me Val} {is : List Nat} (Fn : FnG X.prog X.w X.K X.mg X.base k f fd ps (spI X.K 1 F)) (room : Room k X.A) (guards : X.A.guards = some []) (hb : BindK X.K fd ps 1 [] is) (hg : Gl X x) (hm : X.mg x = some (.ref f)) (hk : PySem.W.keepIn X.K (.ref f) = true)
    (ha : DE X B e g) (hq : ∀ {α : Type} (xs : List α), xs.length = 1 → permL is xs = xs) (hall : (backToKw pos (keywordEach [] X.env)).all (·.1.isSome) = true := by rfl) (hks : (backToKw pos (keywordEach [] X.env)).filterMap (·.1) = [] := by rfl) (hdb : (x == ("__debug__" : Str)) = false := by decide) (he : starEach [e] X.env = (false, eval e X.env) :: starEach [] X.env := by rfl)
    (hpl : ((backTo pos (starEach [e] X.env)).any (·.1) || (backToKw pos (keywordEach [] X.env)).any (·.1.isNone)) = false := by rfl) : DE X B (.Call (.Name x p) [e] [] pos) (callO F g) :=
  PE.weak (pe_callK Fn room guards hb hg hm hk (pa_cons ha pa_nil he) pk_nil hall hks hdb he hpl) fun σ H Q h => by
    obtain ⟨G, δ, res, δ', R, e, z⟩ := h
    obtain ⟨y, δ1, e1, e⟩ := mb_some e
    split at e
    · rename_i d
      obtain ⟨⟨r, d'⟩, e3, e⟩ := Option.bind_eq_some_iff.mp e
      obtain ⟨hf, e⟩ := ite_some e
      cases e
      cases r with
      | fz c =>
        refine ⟨G, δ, _, _, R, e1, fun v G1 H1 s1 R1 v1 => ?_⟩
        obtain ⟨a, rfl, n, n0, rt, u⟩ := v1
        refine ⟨rfl, rfl, ?_⟩
        rw [List.append_nil, hq _ rfl]
        refine ⟨G1, a, [], d, [], .fz c, d', rfl, rfl, R1.same, n, rt, .nil, e3, fun v G' H' sg sgh hnw hfr hga hrt ro => ?_⟩
        have R' : RelS X.K B G' H' δ' σ := by
          refine ⟨R1.len, sgh, R1.g0.trans sg, fun c o y m => ?_, fun c o y hio hlo => ?_, fun c o y => ?_, R1.iod, fun i e y => ?_, fun i b' e y => ?_, R1.inj⟩
          · cases hc : G1 c with
            | some u => exact R1.nw c u hc m
            | none => exact .inl (R1.none0 (hnw c o y hc))
          · have hc : c ≠ a := fun w => by
              subst w
              rcases n0 with m' | m'
              · rw [m'] at y
                cases y
              · exact hlo m'
            exact hfr c o (R1.frame c o y hio hlo) hc
          · obtain ⟨o', y'⟩ := R1.dom c o y
            by_cases hc : c = a
            · subst hc
              exact hrt.ex
            · exact ⟨o', hfr c o' y' hc⟩
          · obtain ⟨u, g1, g2⟩ := R1.dat i e y
            exact ⟨u, g1, Tr.mono sg g2⟩
          · obtain ⟨c, g1, g2, g3, g4⟩ := R1.own i b' e y
            have hc : c ≠ a := fun w => u i b' e y (w ▸ g1)
            refine ⟨c, g1, ?_, g3, Root.mono sg (fun o w => hfr c o w hc) g4⟩
            cases hg : G' c with
            | none => rfl
            | some o =>
              obtain ⟨o', w⟩ := g4.ex
              rw [hnw c o hg g2] at w
              cases w
        exact z v G' H' (s1.trans sg) R' ro
      | ow c => cases hf
      | sl c => cases hf
    · cases e
end

/-! ### a def's promise from its body -/
def startD (n : Nat) (ds : List D) : DS := ds.map .dat ++ List.replicate (n - ds.length) .un
def endV : Option (Fl × DS) → Option Val
  | some (.rt (.fz d), _) => some (.fz d)
  | some (.rt (.ow d), _) => some (.ow d)
  | some (.nx, _) => some (.fz .none)
  | _ => none
/-- what a def of n slots hands back -/
def bodyF (n : Nat) (g : Ss) : List D → Option Val := fun ds => endV (g (startD n ds))
theorem startD_get {K : Fg} {G : Hp} {vs : List V} {ds : List D} (t : TrAll K G vs ds) {N : List Str} {i : Nat} {s : Sl} (q : (startD N.length ds)[i]? = some s) : s = .un ∨ ∃ d v, s = .dat d ∧ (L2.start N vs)[i]? = some (some v) ∧ Tr K G v d := by
  unfold startD at q
  by_cases hi : i < ds.length
  · rw [List.getElem?_append_left (by simpa using hi), List.getElem?_map] at q
    obtain ⟨d, hd, rfl⟩ := Option.map_eq_some_iff.mp q
    obtain ⟨v, hv, tv⟩ := t.get hd
    refine .inr ⟨d, v, rfl, ?_, tv⟩
    unfold L2.start
    rw [List.getElem?_append_left (by rw [List.length_map, t.len]; exact hi), List.getElem?_map, hv]
    rfl
  · rw [List.getElem?_append_right (by simpa using hi), List.getElem?_replicate] at q
    split at q
    · exact .inl (Option.some.inj q).symm
    · cases q
theorem relS_start {K : Fg} {G H : Hp} {vs : List V} {ds : List D} (s : Same G H) (t : TrAll K G vs ds) (N : List Str) : RelS K ⟨G, H, [], fun _ => False⟩ G H (startD N.length ds) (L2.start N vs) where
  len := by
    unfold startD L2.start
    rw [List.length_append, List.length_append, List.length_map, List.length_map, List.length_replicate, List.length_replicate, t.len]
  same := s
  g0 := Same.refl _
  nw := fun a o e n => by
    have n : G a = none := n
    rw [n] at e
    cases e
  frame := fun _ _ e _ _ => e
  dom := fun _ o e => ⟨o, e⟩
  iod := fun p hp => by cases hp
  dat := fun i d q => by
    rcases startD_get t q with h | ⟨d', v, h, e, tv⟩
    · cases h
    · cases h
      exact ⟨v, e, tv⟩
  own := fun i b d q => by
    rcases startD_get t q with h | ⟨d', v, h, e, tv⟩ <;> cases h
  inj := fun i j b b' a d d' q => by
    rcases startD_get t q with h | ⟨d', v, h, e, tv⟩ <;> cases h
theorem RelS.exit {K : Fg} {G H G' H' : Hp} {δ : DS} {σ : L2.St} (R : RelS K ⟨G, H, [], fun _ => False⟩ G' H' δ σ) : Ex G H G' H' :=
  ⟨R.g0, R.same, fun b o e => R.frame b o e (fun p hp => by cases hp) id, fun a o e n => (R.nw a o e n).resolve_right id⟩
section
variable {P : Program} {w : World} {K : Fg} {mg : Str → Option Value} {base : Heap} {x qual : Str} {st : Stmt} {f : Addr} {fd : FuncData} {N ps : List Str} {k : Nat}
theorem ok_def {g : Ss} {n q : Nat} (hn : N.length = n) (hq : ps.length = q) (F : L2.Fun K x qual st f fd) (S : FnScope N ps (defScope st))
    (body : ∀ (B : Bs) (cdv : Value) (A : Around) (outer : List Env) (s : Shared) (H : Hp) (E : XK), Room k (A.deeper (envOfC qual (defScope st) s.heap.objs.size f cdv)) → (A.deeper (envOfC qual (defScope st) s.heap.objs.size f cdv)).guards = some [] →
      SB (bodyX P w K mg base N qual st f cdv A outer s H E) B (defBody st) g) : FnG P w K mg base (k + 1) f fd ps (spF K q (bodyF n g)) := by
  subst hn hq
  refine fn_ofG F S (fun vs H Q E h => ?_) fun cdv A outer s H vs Q E hr hgd h => ?_
  · obtain ⟨G, ds, r, hl, _⟩ := h
    exact hl
  · obtain ⟨G, ds, r, hl, sg, t, e, z⟩ := h
    have hb := body ⟨G, H, [], fun _ => False⟩ cdv A outer s H E hr hgd
    refine ⟨_, hb, ?_⟩
    have R0 := relS_start sg t N
    unfold bodyF at e
    cases hg : g (startD N.length ds) with
    | none => rw [hg] at e; cases e
    | some p =>
      obtain ⟨fl, δ'⟩ := p
      rw [hg] at e
      refine ⟨G, startD N.length ds, fl, δ', R0, hg, fun σ' G' H' s' R' => ?_⟩
      have x := R'.exit
      cases fl with
      | nx =>
        cases e
        exact z .non G' H' x .non
      | bk => cases e
      | ct => cases e
      | rt v =>
        intro u hv
        cases v with
        | fz d =>
          cases e
          exact z u G' H' x hv
        | ow d =>
          cases e
          obtain ⟨a, rfl, n, n0, rt, _⟩ := hv
          exact z _ G' H' x ⟨a, rfl, n0.resolve_right id, n, rt⟩
        | sl i => cases e
/-- the same for a def that changes its first argument -/
def ioAt (δ : DS) : Option D := match δ[0]? with
  | some (Sl.own true d) => some d
  | _ => none
theorem ioAt_some {δ : DS} {d : D} (h : ioAt δ = some d) : δ[0]? = some (Sl.own true d) := by
  unfold ioAt at h
  split at h
  · rename_i q
    cases h
    exact q
  · cases h
def startI (n : Nat) (d : D) (ds : List D) : DS := .own true d :: startD (n - 1) ds
def bodyI (n : Nat) (g : Ss) : D → List D → Option (Val × D) := fun d ds => match g (startI n d ds) with
  | some (fl, δ) => (endV (some (fl, δ))).bind fun r => (ioAt δ).bind fun d' => some (r, d')
  | none => none
theorem ok_defI {g : Ss} {n q : Nat} {y : Str} {ys : List Str} (hN : N = y :: ys) (hn : N.length = n) (hq : ps.length = q) (F : L2.Fun K x qual st f fd) (S : FnScope N ps (defScope st))
    (body : ∀ (B : Bs) (cdv : Value) (A : Around) (outer : List Env) (s : Shared) (H : Hp) (E : XK), Room k (A.deeper (envOfC qual (defScope st) s.heap.objs.size f cdv)) → (A.deeper (envOfC qual (defScope st) s.heap.objs.size f cdv)).guards = some [] →
      SB (bodyX P w K mg base N qual st f cdv A outer s H E) B (defBody st) g) : FnG P w K mg base (k + 1) f fd ps (spI K q (bodyI n g)) := by
  subst hn hq
  refine fn_ofG F S (fun vs H Q E h => ?_) fun cdv A outer s H vs Q E hr hgd h => ?_
  · obtain ⟨_, _, _, _, _, _, _, hl, _⟩ := h
    exact hl
  · obtain ⟨G, a, vr, d, ds, r, d', hl, rfl, sg, na, rt, t, e, z⟩ := h
    have hb := body ⟨G, H, [(0, a)], fun _ => False⟩ cdv A outer s H E hr hgd
    refine ⟨_, hb, ?_⟩
    have R1 := relS_start sg t ys
    have es : L2.start N (.ref a :: vr) = some (.ref a) :: L2.start ys vr := by
      subst hN
      unfold L2.start
      rw [List.map_cons, List.length_cons, List.length_cons, List.cons_append, Nat.add_sub_add_right]
    have ed : startI N.length d ds = .own true d :: startD ys.length ds := by
      subst hN
      rfl
    have nore : ∀ {i : Nat} {s' : Sl}, (startD ys.length ds)[i]? = some s' → ∀ b c, s' ≠ .own b c := fun {i s'} q b c z => by
      rcases startD_get t q with h | ⟨_, _, h, _⟩ <;> (rw [z] at h; cases h)
    have R0 : RelS K ⟨G, H, [(0, a)], fun _ => False⟩ G H (startI N.length d ds) (L2.start N (.ref a :: vr)) := by
      rw [es, ed]
      refine ⟨by rw [List.length_cons, List.length_cons, R1.len], sg, Same.refl _, R1.nw, fun _ _ e _ _ => e, fun _ o e => ⟨o, e⟩, fun p hp => ?_, fun i c q => ?_, fun i b c q => ?_, fun i j b b' p c c' q1 q2 z1 z2 => ?_⟩
      · have : p = (0, a) := by simpa using hp
        rw [this]
        exact rt.ex
      · cases i with
        | zero => cases q
        | succ i => exact R1.dat i c q
      · cases i with
        | zero =>
          cases q
          exact ⟨a, rfl, na, List.mem_cons_self, rt⟩
        | succ i => exact (nore (show (startD ys.length ds)[i]? = _ from q) b c rfl).elim
      · cases i with
        | zero =>
          cases j with
          | zero => rfl
          | succ j => exact (nore (show (startD ys.length ds)[j]? = _ from q2) b' c' rfl).elim
        | succ i => exact (nore (show (startD ys.length ds)[i]? = _ from q1) b c rfl).elim
    unfold bodyI at e
    cases hg : g (startI N.length d ds) with
    | none => rw [hg] at e; cases e
    | some p =>
      obtain ⟨fl, δ'⟩ := p
      rw [hg] at e
      obtain ⟨r', e1, e⟩ := Option.bind_eq_some_iff.mp e
      obtain ⟨d2, e2, e⟩ := Option.bind_eq_some_iff.mp e
      cases e
      have q2 := ioAt_some e2
      refine ⟨G, _, fl, δ', R0, hg, fun σ' G' H' s' R' => ?_⟩
      obtain ⟨a', f1, f2, f3, f4⟩ := R'.own 0 true d' q2
      have f3 : (0, a') ∈ [((0 : Nat), a)] := f3
      have ea : a' = a := by
        have := List.mem_singleton.mp f3
        exact congrArg Prod.snd this
      subst ea
      have fin : ∀ v, RO K G' H H' v r → Q v H' := fun v ro => z v G' H' R'.g0 R'.same (fun b o e n => (R'.nw b o e n).resolve_right id) (fun b o e n => R'.frame b o e (fun p hp => by
        have : p = (0, a') := by simpa using hp
        rw [this]
        exact fun q => n q.symm) id) f2 f4 ro
      cases fl with
      | nx =>
        cases e1
        exact fin .non .non
      | bk => cases e1
      | ct => cases e1
      | rt v =>
        intro u hv
        cases v with
        | fz c =>
          cases e1
          exact fin u hv
        | ow c =>
          cases e1
          obtain ⟨p, rfl, n, n0, rt', _⟩ := hv
          exact fin _ ⟨p, rfl, n0.resolve_right id, n, rt'⟩
        | sl i => cases e1
end
end DL
end
section
set_option maxRecDepth 100000
set_option maxHeartbeats 4000000
namespace DL
open PySem PySem.Spec L2
open PyProof.Rows hiding St

/-! ### the end of a law -/
theorem law_callG {P : Program} {w : World} {K : Fg} {mg mb : Str → Option Value} {k : Nat} {fa a : Addr} {fd : FuncData} {x : Str} {F : List D → Option Val} {t : Shared} {vs : List Value} {ns : List Int}
    (kin : K.In t.heap) (hns : t.heap.Ns mainGlobals mg) (hb : t.heap.Ns builtinsNs mb) (hbb : ∀ x : Str, x ≠ "__name__" → mb x = bootBuiltins x) (hlim : t.heap.NoLimit) (hgen : t.gens = #[])
    (ha : t.heap.get? a = some { cls := .type "list", data := .seq vs.toArray }) (hi : IntsAre vs ns) (hl : ns.length ≤ sizeLine) (room : Room k callerA)
    (Fn : ∀ base : Heap, K.In base → base.Ns mainGlobals mg → FnG P w K mg base k fa fd [x] (spF K 1 F)) (hbind : ∀ (s : Shared) (u : Value), BindsTo s fd ⟨[u], []⟩ [(x, u)]) (true_ : F [scrD ns] = some (.fz (.bool true))) :
    codeAny (model P w) callerA (.call (.ref fa) ⟨[.ref a], []⟩) (fun r s' => r = .ok (.ret (.bool true)) ∧ OldK t.heap s'.heap ∧ s'.os = t.os ∧ AllBare s'.gens) t := by
  have rel := vals_ints hi
  have long := hi.length
  -- the script, locked, unless it is an object of the module
  obtain ⟨H, hH, hHa⟩ : ∃ H : Hp, (∀ b u, H b = some u → b = a ∧ K.lookup a = none ∧ u = .frz { cls := .type "list", data := .seq vs.toArray } (.lst (ns.map V.int))) ∧ SqL K H a (ns.map V.int) := by
    cases hk : K.lookup a with
    | some o =>
      have e := kin a o hk
      rw [ha] at e
      cases e
      refine ⟨fun _ => none, ⟨fun b u z => ?_, .inr ⟨_, vs.toArray, _, hk, rfl, rfl, rfl, by rw [List.size_toArray, long]; exact hl, by simpa using rel⟩⟩⟩
      cases z
    | none =>
      refine ⟨upd (fun _ => none) a (.frz { cls := .type "list", data := .seq vs.toArray } (.lst (ns.map V.int))), fun b u z => ?_, .inl (.inr ⟨_, upd_same⟩)⟩
      by_cases hb : b = a
      · subst hb
        rw [upd_same] at z
        exact ⟨rfl, rfl, (Option.some.inj z).symm⟩
      · rw [upd_ne hb] at z
        cases z
  have hok : HOk P w H t.heap := fun b u z => by
    obtain ⟨rfl, _, rfl⟩ := hH b u z
    exact ⟨ha, by rw [List.length_map]; exact hl, vs, _, rel, ha⟩
  have shown : ∀ {b : Addr} {o : Obj}, t.heap.get? b = some o → H b = none → (hidT t.heap H).get? b = some o := fun e n => hidT_get e n
  have isDict : ∀ {b : Addr} {m : Str → Option Value}, t.heap.Ns b m → (hidT t.heap H).Ns b m := by
    rintro b m ⟨o, es, ep, e, d, rest⟩
    refine ⟨o, es, ep, shown e ?_, d, rest⟩
    cases q : H b with
    | none => rfl
    | some u =>
      obtain ⟨rfl, _, _⟩ := hH b u q
      rw [ha] at e
      cases e
      cases (show Data.seq vs.toArray _ = Data.dict es ep from d)
  have kinH : K.In (hidT t.heap H) := fun b o e => shown (kin b o e) (by
    cases q : H b with
    | none => rfl
    | some u =>
      obtain ⟨rfl, n, _⟩ := hH b u q
      rw [n] at e
      cases e)
  have env0 : Env0 P w K mg (hidT t.heap H) callerA [] t H := by
    refine ⟨rfl, ⟨kinH, isDict hns, ⟨mb, isDict hb, hbb⟩, ?_⟩, fun b o e => of_hidT e, Nat.le_of_eq (hidT_size _ _), trivial, fun b hb => ?_, hok, .of_eq hgen⟩
    · obtain ⟨mc, h1, h2⟩ := hlim
      exact ⟨mc, isDict h1, h2⟩
    · cases hb
  have prom : spF K 1 F [V.ref a] H (fun v _ => v = .bl true) E0 := ⟨H, [scrD ns], _, rfl, Same.refl _, .cons (.scr hHa) .nil, true_, fun v G' H' _ ro => by
    have ro : Tr K G' v (.bool true) := ro
    cases ro
    rfl⟩
  refine codeAny_mono ((Fn _ kinH (isDict hns)).run callerA [] t H ⟨[.ref a], []⟩ [.ref a] [.ref a] _ _ room rfl env0 (hbind t (.ref a)) (.cons rfl .nil) prom) ?_
  intro r s' got
  match r, got with
  | .error e, z => exact False.elim z
  | .ok .next, z => exact False.elim z
  | .ok .brk, z => exact False.elim z
  | .ok .cont, z => exact False.elim z
  | .ok (.ret u), ⟨v, H', os, bare, un, hok', rv, q⟩ =>
    have q : v = .bl true := q
    subst q
    obtain rfl : u = Value.bool true := rv
    refine ⟨rfl, OldK.of_keep fun b ob e => ?_, os, bare⟩
    cases hb : H b with
    | none => exact un.keep b ob e hb (by intro z; cases z) (by intro z; cases z)
    | some u =>
      obtain ⟨rfl, _, rfl⟩ := hH b u hb
      have kept := un.frzs b _ _ hb
      obtain ⟨e1, _⟩ := hok b _ hb
      obtain ⟨e2, _⟩ := hok' b _ kept
      rw [e] at e1
      cases e1
      exact e2
theorem walk_ofG {l : PySem.W.OpenLaw} {n k : Nat} {q : Program} {loose : List Str} {XP : (Str → Option Value) → Heap → Prop} {YP : World → Heap → Prop} {d : DefRec} {K : Params → Fg} {x : Str} {F : List D → Option Val}
    (hn : l.most = some n) (hn2 : n ≤ sizeLine) (hdf : d.params.defaults = []) (room : Room k callerA) (hY : ∀ (w : World) (h : Heap), YP w h → (K w.params).In h)
    (hF : ∀ (w : World) (mg : Str → Option Value) (fa : Addr) (h : Heap), (K w.params).In h → h.Ns mainGlobals mg → mg d.name = some (.ref fa) →
      ∃ fd : FuncData, (∀ (s : Shared) (u : Value), BindsTo s fd ⟨[u], []⟩ [(x, u)]) ∧ ∀ base : Heap, (K w.params).In base → base.Ns mainGlobals mg → FnG l.prog w (K w.params) mg base k fa fd [x] (spF (K w.params) 1 F))
    (true_ : ∀ ns : List Int, ns.length ≤ n → (∀ z ∈ ns, Builtin.Int.intBits z ≤ 1048576) → F [scrD ns] = some (.fz (.bool true))) :
    PySem.W.WalkO q loose XP YP l.row.toRowW d [] (fun f us => PySem.call f us) := by
  refine Att.attach_callB hn hdf fun w s0 s1 mg mb fa o pm cd doc a us ns G Y ho hd hcd names script whole short bits calm => ?_
  obtain ⟨fd, hb, hF⟩ := hF w mg fa _ (hY w _ Y) G.T.g names
  exact law_callG (hY w _ Y) G.T.g G.T.b G.T.builtins G.T.nolimit calm script whole (Nat.le_trans short hn2) room hF hb (true_ ns short bits)

/-! ### repr -/
def rRepr (K : Fg) : List V → Hp → VK → Prop := fun xs H Q => ∃ v d, xs = [v] ∧ Tr K H v d ∧ d.canLay0 = true ∧ d.showable = true ∧ d.depth ≤ 60 ∧ d.shown.length ≤ sizeLine ∧ Q (.str d.shown) H
theorem call_reprD {X : Cx} (hg : X.A.guards = some []) (hu : X.A.units + 64 < cLine) : CallR X (.builtin "repr") (rRepr X.K) := by
  intro pins s σ H xs us Q I r h
  obtain ⟨v, d, rfl, t, hc, hs, hd, hz, q⟩ := h
  obtain ⟨u, rfl, ru⟩ := vals1 r
  obtain ⟨as, rd⟩ := Dp.reads I d v u (Tr.dp t hc) ru
  have hdict := PyData.hasDict_of_canLay d hc
  cases rd with
  | none => exact PySem.P.repr_of_none ⟨.str _, H, I.tok _, ⟨_, rfl⟩, q⟩
  | bool b => exact PySem.P.repr_of_bool ⟨.str _, H, I.tok _, ⟨_, rfl⟩, by cases b <;> exact q⟩
  | int i t => exact PySem.P.repr_of_int (by simpa [PyData.showable] using hs) ⟨.str _, H, I.tok _, ⟨_, rfl⟩, q⟩
  | str x t => exact PySem.P.repr_of_str ⟨.str _, H, I.tok _, ⟨_, rfl⟩, q⟩ hz
  | list h1 h2 h3 h4 => exact repr_of_reads' (.list h1 h2 h3 h4) hs (PyData.noDict_hsm hdict) hg (by omega) (fun _ _ e => e) (fun h' u tk hk => ⟨.str _, H, I.kept (t' := tk) hk, ⟨_, rfl⟩, q⟩) hz
  | tuple h1 h2 h3 h4 => exact repr_of_reads' (.tuple h1 h2 h3 h4) hs (PyData.noDict_hsm hdict) hg (by omega) (fun _ _ e => e) (fun h' u tk hk => ⟨.str _, H, I.kept (t' := tk) hk, ⟨_, rfl⟩, q⟩) hz
  | dict _ _ _ _ _ => simp [PyData.canLay0] at hc
def reprOk (d : D) : Bool := d.canLay0 && d.showable && decide (d.depth ≤ 60) && szOk d.shown.length
def reprD : List D → Option Val
  | [d] => if reprOk d then some (.fz (.str d.shown)) else none
  | _ => none
theorem fd_repr {K : Fg} : FnD K (rRepr K) reprD := by
  intro G H vs ds res Q s vv hr k
  unfold reprD at hr
  split at hr
  · obtain ⟨c, rfl⟩ := ite_some hr
    unfold reprOk at c
    rw [Bool.and_eq_true, Bool.and_eq_true, Bool.and_eq_true] at c
    obtain ⟨v, rfl, v1⟩ := view1 vv
    exact ⟨v, _, rfl, v1.tr s, c.1.1.1, c.1.1.2, of_decide_eq_true c.1.2, szOk_le c.2, k _ G H (Ex.refl s) (.str _)⟩
  · cases hr
/-- {} -/
theorem room_units {X : Cx} {k : Nat} (h : Room k X.A) : X.A.units + 64 < cLine := h.units
end DL
end
section
set_option maxRecDepth 100000
set_option maxHeartbeats 4000000
namespace DL
open PySem PySem.Spec L2
open PyProof.Rows hiding St

/-! ### enumerate of a tuple -/
theorem meets_enum1 {v : Value} {o : Obj} {H : Heap → Prop} (B : Begins v o H) :
    Meets (Builtin.«enumerate.__new__» ⟨[.type "enumerate", v], []⟩) (fun _ R s => H s.heap ∧ R (.ok (.ret (.ref (s.heap.push o).objs.size))) { s with heap := (s.heap.push o).push { cls := .type "enumerate", data := .fields #[.none, .bool false, .ref s.heap.objs.size, rawInt 0, .none, .none] } }) :=
  .of_wp fun prog w A R t hh => by
    obtain ⟨hp, g, d, tk, os⟩ := t
    obtain ⟨h1, hR⟩ := hh
    have hsub := sub_enumerate
    have begins : ∀ {A' : Around} {E : Value → Shared → Prop} {Q : Value → Shared → Prop}, Q (.ref hp.objs.size) ⟨hp.push o, g, d, tk, os⟩ → wpAny (model prog w) A' (pyIter v) Q E ⟨hp, g, d, tk, os⟩ := fun q => B.iter prog w _ _ ⟨hp, g, d, tk, os⟩ _ h1 q
    wp_walk using begins
    refine wpAny_stack_any fun _ => wpAny_pure ?_
    split
    · rename_i c _ _ _ _ _
      cases (c == Value.type "enumerate") <;> (wp_walk using begins; exact ⟨_, rfl, hR⟩)
    · wp_walk using begins
      exact ⟨_, rfl, hR⟩
theorem call_enum_tuple {prog : Program} {w : World} {A : Around} {E : Value → Shared → Prop} {s : Shared} {t : Addr} {items : Array Value} {Q : Value → Shared → Prop} (ht : s.heap.IsTuple t items)
    (h : ∀ h', IsEnum h' (s.heap.objs.size + 1) s.heap.objs.size 0 .none → h'.IsTupleIter s.heap.objs.size t 0 → (∀ b o, s.heap.get? b = some o → h'.get? b = some o) → Q (.ref (s.heap.objs.size + 1)) { s with heap := h' }) :
    wpAny (model prog w) A (call (.type "enumerate") [.ref t]) Q E s := by
  have B := begins_tuple t items
  refine callType_new F.called_enumerate (by decide) (F.typeCall_enumerate_1 _) (F.newCall_enumerate_1 _) (fun obj => F.args_object_init_2 obj _) F.entry_enumerate_new (meets_enum1 B) ⟨ht, ?_⟩
  have hz : (s.heap.push { cls := .type "tuple_iterator", data := .fields #[.ref t, .int 0 0] }).objs.size = s.heap.objs.size + 1 := Heap.size_push ..
  rw [hz]
  generalize hh : (s.heap.push { cls := .type "tuple_iterator", data := .fields #[.ref t, .int 0 0] }).push { cls := .type "enumerate", data := .fields #[.none, .bool false, .ref s.heap.objs.size, rawInt 0, .none, .none] } = h2
  have at2 : IsEnum h2 (s.heap.objs.size + 1) s.heap.objs.size 0 .none := by
    have q := Heap.get?_push_size (s.heap.push { cls := .type "tuple_iterator", data := .fields #[.ref t, .int 0 0] }) (o := { cls := .type "enumerate", data := .fields #[.none, .bool false, .ref s.heap.objs.size, rawInt 0, .none, .none] }) rfl
    rw [hz, hh] at q
    exact q
  refine ⟨⟨_, at2, rfl⟩, h h2 at2 ?_ fun b o x => ?_⟩
  · rw [← hh]
    exact ⟨_, Heap.get?_push_of_some _ (Heap.get?_push_size _ rfl), rfl, rfl⟩
  · rw [← hh]
    exact Heap.get?_push_of_some _ (Heap.get?_push_of_some _ x)
/-- the tuple at a, each item in a new pair -/
def IteT (K : Fg) (a : Addr) : It where
  go := fun i H => ∃ (xs : List V) (x : V), SqT K H a xs ∧ xs[i]? = some x
  yld := fun i H v H' => ∃ T x, v = .ref T ∧ H T = none ∧ H' = upd H T (.tup [.int (i : Nat), x]) ∧ ∀ xs, SqT K H a xs → xs[i]? = some x
  stop := fun i H => ∃ xs : List V, SqT K H a xs ∧ xs.length ≤ i
theorem turn_enumT {P : Program} {w : World} {K : Fg} {elts : List Expr} {kk : Nat} {tpos : Pos} (a e it : Addr) :
    Turn P w K (.Tuple elts kk tpos) (IteT K a) [e, it] e (fun i h => (∃ old, IsEnum h e it ((i : Nat) : Int) old) ∧ h.IsTupleIter it a i ∧ e ≠ it) where
  mem := List.mem_cons_self
  obj := by
    rintro i h ⟨⟨old, he⟩, ⟨o, ho, _, hd⟩, _⟩ b hb
    rcases List.mem_cons.mp hb with z | hb
    · rw [z]
      exact ⟨_, he, fun v q => nomatch q⟩
    · rw [List.mem_singleton.mp hb]
      exact ⟨o, ho, fun v q => by rw [hd] at q; cases q⟩
  keep := by
    rintro i h h' ⟨⟨old, he⟩, hi, hne⟩ same
    exact ⟨⟨old, same e List.mem_cons_self _ he⟩, hi.at fun o q => same it (List.mem_cons_of_mem _ List.mem_cons_self) o q, hne⟩
  item := by
    intro X hP hw hK hc i pins s σ H E I hf st hgo
    subst hP hw hK
    obtain ⟨⟨old, he⟩, hit, hne⟩ := st
    obtain ⟨xs, x, hq, hx⟩ := hgo
    obtain ⟨its, rv, ⟨ot, eo, co, no, do_⟩, _⟩ := I.tuple hq
    have ht : s.heap.IsTuple a its.toArray := ⟨ot, eo, co, no, do_⟩
    have hea : e ≠ a := fun z => by
      rw [z] at he
      rw [show s.heap.get? a = some _ from he] at eo
      cases eo
      injection (show Value.type "enumerate" = Value.type "tuple" from co) with q
      exact absurd q (by decide)
    have hia : a ≠ it := fun z => by
      obtain ⟨o', h1, h2, _⟩ := id hit
      rw [z, h1] at eo
      cases eo
      rw [h2] at co
      injection co with q
      exact absurd q (by decide)
    have hlt : i < its.toArray.size := by
      have := (List.getElem?_eq_some_iff.mp hx).1
      have := rv.length
      simp only [List.size_toArray]
      omega
    have hel : e < s.heap.objs.size := Heap.lt_size he
    have hil : it < s.heap.objs.size := by
      obtain ⟨_, q, _⟩ := hit
      exact Heap.lt_size q
    have D := Draws.tuple (prog := X.prog) (w := X.w) (A := X.A.in1) (I.ok.hd hc) it a hia its.toArray
    refine wpAny_pyNext_enum_itemD D he ⟨hit, ht⟩ hlt hne (by simp [hne, hea]) fun u h' tk hu ho hst hT _ hk => ?_
    have ru : RelV x u := by
      obtain ⟨u', hu', ru'⟩ := rv.get hx
      have : u = u' := Option.some.inj ((by simpa using hu.symm : some u = its[i]?).trans hu')
      rw [this]
      exact ru'
    refine ⟨_, rfl, wpAny_letOwnedTupleGo_enum (s := { s with heap := h', toks := tk + 1 }) ho fun h2 he2 sb => ?_⟩
    have pair : h2.get? s.heap.objs.size = some { cls := .type "tuple", data := .seq #[.int i tk, u] } := (sb.2 _ (Nat.ne_of_gt hel)).trans hT
    have made : ObjOk X.prog X.w (upd H s.heap.objs.size (.tup [.int (i : Nat), x])) h2 s.heap.objs.size (.tup [.int (i : Nat), x]) := ⟨by show 2 ≤ sizeLine; decide, [.int i tk, u], .cons ⟨_, rfl⟩ (.cons ru .nil), ⟨_, pair, rfl, _, rfl⟩⟩
    have J := I.turnedNew (t' := tk + 1) (ch := [e, it]) (h' := h2) (fun b ob hb q => (sb.2 b fun z => hb (z ▸ List.mem_cons_self)).trans (hk b ob (fun z => hb (z ▸ List.mem_cons_self)) (fun z => hb (z ▸ List.mem_cons_of_mem _ List.mem_cons_self)) q)) hf (Nat.le_refl _) made
    refine ⟨.ref s.heap.objs.size, _, J, rfl, ⟨_, x, rfl, I.hok.fresh (Nat.le_refl _), rfl, fun ys hy => by rw [I.tuple_inj hy hq]; exact hx⟩, ⟨⟨u, ?_⟩, hst.1.at fun o q => (sb.2 it (Ne.symm hne)).trans q, hne⟩, fun b hb => ?_⟩
    · rw [show ((i + 1 : Nat) : Int) = (i : Int) + 1 by omega]
      exact he2
    · have small : b < s.heap.objs.size := by
        rcases List.mem_cons.mp hb with z | z
        · rw [z]; exact hel
        · rw [List.mem_singleton.mp z]; exact hil
      rw [upd_ne (Nat.ne_of_lt small)]
      exact (hf b hb).1
  done := by
    intro X hP hw hK hc i pins s σ H E I hf st hstop
    subst hP hw hK
    obtain ⟨⟨old, he⟩, hit, hne⟩ := st
    obtain ⟨xs, hq, hx⟩ := hstop
    obtain ⟨its, rv, ⟨ot, eo, co, no, do_⟩, _⟩ := I.tuple hq
    have ht : s.heap.IsTuple a its.toArray := ⟨ot, eo, co, no, do_⟩
    have hia : a ≠ it := fun z => by
      obtain ⟨o', h1, h2, _⟩ := id hit
      rw [z, h1] at eo
      cases eo
      rw [h2] at co
      injection co with q
      exact absurd q (by decide)
    obtain ⟨f0, f1, f2, f3, f4, f5⟩ := hf it (List.mem_cons_of_mem _ List.mem_cons_self)
    have hd := I.ok.hd hc
    have hle : its.toArray.size ≤ i := by
      have := rv.length
      simp only [List.size_toArray]
      omega
    have D : Draws X.prog X.w X.A.in1 it [it, a] i (fun i v => its.toArray[i]? = some v) (fun j h => (h.IsTupleIter it a j ∧ h.IsTuple a its.toArray) ∧ j = i) := by
      have D0 := Draws.tuple (prog := X.prog) (w := X.w) (A := X.A.in1) hd it a hia its.toArray
      exact ⟨fun j h st => D0.live j h st.1, fun j h h' st q => ⟨D0.frame j h h' st.1 q, st.2⟩, fun j s Q E hj st _ => absurd st.2 (Nat.ne_of_lt hj), fun s Q E st hE => wpAny_nextOf_tuple_end hd st.1.1 st.1.2 (by rw [Array.getElem?_eq_none_iff]; exact hle) hE⟩
    exact wpAny_pyNext_enum_endD D he ⟨⟨hit, ht⟩, rfl⟩ fun h' eb => ⟨rfl, I.turned (t' := s.toks) (fun b o hb q => eb b o hb q) f0 f1 f3 f4 f5⟩
  self := fun _ _ _ _ _ st h => wpAny_pyIter_enum st.1.choose_spec h
def iEnumT (K : Fg) (ta : TA) : TI := fun σ H R => ta σ H fun vs H1 => ∃ (a : Addr) (xs : List V), vs = [.ref a] ∧ SqT K H1 a xs ∧ R (IteT K a) H1
theorem pi_enumT {X : Cx} {e : Expr} {ta : TA} {p pos tpos : Pos} {elts : List Expr} {kk : Nat} (hg : Gl X "enumerate") (hm : X.mg "enumerate" = none) (ha : PA X [e] ta) (hs : starEach [e] X.env = [(false, eval e X.env)] := by rfl) : PI X (.Tuple elts kk tpos) (.Call (.Name "enumerate" p) [e] [] pos) (iEnumT X.K ta) := by
  refine ⟨fun pins s σ H R I h => Call_ (ld_blt I hg hm boot_enumerate (PyProof.Rows.callWith_type1 (thn (ha.run pos pins s σ H _ I h) ?_) hs rfl))⟩
  rintro us s1 ⟨vs, H1, I1, r1, a, xs, rfl, hq, q⟩
  obtain ⟨u, rfl, ru⟩ := vals1 r1
  cases ru
  obtain ⟨its, rv, ⟨ot, eo, co, no, do_⟩, _⟩ := I1.tuple hq
  refine call_enum_tuple (items := its.toArray) ⟨ot, eo, co, no, do_⟩ fun h' he hit hk => wpAny_pyIter_enum he ?_
  have J : Inv X pins σ H1 { s1 with heap := h' } := I1.kept (t' := s1.toks) hk
  refine ⟨s1.heap.objs.size + 1, [s1.heap.objs.size + 1, s1.heap.objs.size], _, _, H1, rfl, J, turn_enumT a (s1.heap.objs.size + 1) s1.heap.objs.size, ⟨⟨.none, he⟩, hit, Nat.succ_ne_self _⟩, fun b hb => ?_, q⟩
  have big : s1.heap.objs.size ≤ b := by
    rcases List.mem_cons.mp hb with z | z
    · rw [z]; exact Nat.le_succ _
    · rw [List.mem_singleton.mp z]; exact Nat.le_refl _
  exact I1.fpOk big (I1.hok.fresh big)
theorem it_enumT {K : Fg} {G1 : Hp} {a : Addr} {xs : List V} {ds : List D} (h : SqT K G1 a xs) (t : TrAll K G1 xs ds) : ItD K (IteT K a) (enumD ds) G1 := fun i G H s sh => by
  have q : SqT K H a xs := Same.tup (s.trans sh) h
  refine ⟨fun d hd => ?_, fun hi => ⟨xs, q, by unfold enumD at hi; rw [List.length_map, List.length_zipIdx] at hi; rw [t.len]; exact hi⟩⟩
  unfold enumD at hd
  rw [List.getElem?_map, List.getElem?_zipIdx] at hd
  obtain ⟨p, hp, rfl⟩ := Option.map_eq_some_iff.mp hd
  obtain ⟨e, he, rfl⟩ := Option.map_eq_some_iff.mp hp
  obtain ⟨v, hv, tv⟩ := t.get he
  refine ⟨⟨xs, v, q, hv⟩, fun x H' y => ?_⟩
  obtain ⟨T, z, rfl, n, rfl, y⟩ := y
  have := y xs q
  rw [hv] at this
  cases this
  refine ⟨_, Ex.pushF sh _ n, ?_⟩
  rw [Nat.zero_add]
  exact Tr.tup (.inl (.inl upd_same)) (TrAll.mono (same_upd (sh.free n)) (.cons (.int _) (.cons (Tr.mono s tv) .nil)))
def enumA (fa : Me (List Val)) : Me (List D) := mb fa fun xs => mo fun _ => match xs with
  | [.fz (.list ds)] => some (enumD ds)
  | [.ow (.list ds)] => some (enumD ds)
  | [.fz (.tuple ds)] => some (enumD ds)
  | _ => none
theorem di_enumA {X : Cx} {B : Bs} {e : Expr} {fa : Me (List Val)} {p pos tpos : Pos} {elts : List Expr} {kk : Nat} (hg : Gl X "enumerate") (hm : X.mg "enumerate" = none) (ha : DA X B [e] fa) (hs : starEach [e] X.env = [(false, eval e X.env)] := by rfl) : DI X B (.Tuple elts kk tpos) (.Call (.Name "enumerate" p) [e] [] pos) (enumA fa) := PI.weak (PI.or (di_enum hg hm ha hs) (pi_enumT hg hm ha hs)) fun σ H Q q => by
  obtain ⟨G, δ, ds, δ', R, e, k⟩ := q
  obtain ⟨xs, δ1, e1, e⟩ := mb_some e
  obtain ⟨e2, rfl⟩ := mo_some e
  have lists : ∀ z, xs = [z] → (z = .fz (.list ds) ∨ z = .ow (.list ds)) → False ∨ True := fun _ _ _ => .inr trivial
  split at e2
  · rename_i es
    cases e2
    refine .inl ⟨G, δ, enumD es, _, R, ?_, k⟩
    unfold enumM mb
    rw [e1]
    rfl
  · rename_i es
    cases e2
    refine .inl ⟨G, δ, enumD es, _, R, ?_, k⟩
    unfold enumM mb
    rw [e1]
    rfl
  · cases e2
    refine .inr ⟨G, δ, _, _, R, e1, fun vs G1 H1 s1 R1 v1 => ?_⟩
    cases v1 with
    | cons a b =>
      cases b
      obtain ⟨c, ys, rfl, h, t⟩ := Tr.tupI (show Tr X.K G1 _ (.tuple _) from a)
      exact ⟨c, ys, rfl, Same.tup R1.same h, k _ G1 H1 s1 R1 (it_enumT h t)⟩
  · cases e2
/-! ### str(n), {} -/
def strI : List D → Option Val
  | [.int i] => if decide (i.natAbs.log2 < 1920) then some (.fz (.str (toString i))) else none
  | _ => none
theorem fd_str {K : Fg} : FnD K (fun xs H Q => ∃ i : Int, xs = [.int i] ∧ i.natAbs.log2 < 1920 ∧ Q (.str (toString i)) H) strI := by
  intro G H vs ds res Q s vv hr k
  unfold strI at hr
  split at hr
  · obtain ⟨c, rfl⟩ := ite_some hr
    obtain ⟨v, rfl, v1⟩ := view1 vv
    cases v1.int
    exact ⟨_, rfl, of_decide_eq_true c, k _ G H (Ex.refl s) (.str _)⟩
  · cases hr
def dnewM : Me Val := mr (.ow (.dict []))
theorem de_dnew {X : Cx} {B : Bs} {pos : Pos} : DE X B (.Dict [] [] pos) dnewM := PE.weak pe_dnewK fun σ H Q h => by
  obtain ⟨G, δ, r, δ', R, e, k⟩ := h
  cases e
  intro p n
  have x := Ex.push R.same (.dK []) n
  exact k _ _ _ x.g (R.ex x) (RO.rv R ⟨p, rfl, n, R.same.free n, .dic upd_same .nil⟩)
/-! ### built-in names -/
theorem bt_len : bootBuiltins "len" = some (.builtin "len") := by decide +kernel
theorem bt_abs : bootBuiltins "abs" = some (.builtin "abs") := by decide +kernel
theorem bt_divmod : bootBuiltins "divmod" = some (.builtin "divmod") := by decide +kernel
theorem bt_sum : bootBuiltins "sum" = some (.builtin "sum") := by decide +kernel
theorem bt_any : bootBuiltins "any" = some (.builtin "any") := by decide +kernel
theorem bt_all : bootBuiltins "all" = some (.builtin "all") := by decide +kernel
theorem bt_repr : bootBuiltins "repr" = some (.builtin "repr") := by decide +kernel
theorem bt_max : bootBuiltins "max" = some (.builtin "max") := by decide +kernel
theorem bt_min : bootBuiltins "min" = some (.builtin "min") := by decide +kernel
theorem bt_sorted : bootBuiltins "sorted" = some (.builtin "sorted") := by decide +kernel
theorem bt_isinstance : bootBuiltins "isinstance" = some (.builtin "isinstance") := by decide +kernel
theorem bt_int : bootBuiltins "int" = some (.type "int") := by decide +kernel
theorem bt_bool : bootBuiltins "bool" = some (.type "bool") := by decide +kernel
theorem bt_str : bootBuiltins "str" = some (.type "str") := by decide +kernel
theorem bt_list : bootBuiltins "list" = some (.type "list") := by decide +kernel
theorem bt_tuple : bootBuiltins "tuple" = some (.type "tuple") := by decide +kernel
theorem bt_dict : bootBuiltins "dict" = some (.type "dict") := by decide +kernel
theorem bt_set : bootBuiltins "set" = some (.type "set") := by decide +kernel
end DL
end
section
set_option maxRecDepth 100000
set_option maxHeartbeats 4000000
namespace DL
open PySem PySem.Spec L2
open PyProof.Rows hiding St

section
variable {X : Cx} {B : Bs} {pos : Pos}
/-! ### x, y = a, b: what b hands back is kept as one's own -/
def parO (i j : Nat) (f g : Me Val) : Ss := fun δ => match f δ with
  | some (v, δ1) => (match g δ1 with
    | some (w, δ2) => (asg i (fzv v) δ2).bind fun δ3 => (asg j w δ3).bind fun δ4 => some (.nx, δ4)
    | none => none)
  | none => none
theorem RV.past {K : Fg} {G H : Hp} {δ δ' : DS} {σ : L2.St} {i : Nat} {v u : V} {r w : Val} (h : RV K B G H δ σ v w) (e : asg i (fzv r) δ = some δ') (hn : ∀ k, w ≠ .sl k) : RV K B G H δ' (σ.set i (some u)) v w := by
  cases w with
  | fz d => exact h
  | sl k => exact (hn k rfl).elim
  | ow d =>
    obtain ⟨a, rfl, h1, h2, h3, h4⟩ := h
    refine ⟨a, rfl, h1, h2, h3, fun k b d' q => ?_⟩
    have hd : ∃ d0, δ' = δ.set i (.dat d0) := by
      unfold asg at e
      split at e
      · cases r with
        | fz d => exact ⟨d, (Option.some.inj e).symm⟩
        | ow d => exact ⟨d, (Option.some.inj e).symm⟩
        | sl k => cases e
      · cases e
    obtain ⟨d0, rfl⟩ := hd
    by_cases hk : k = i
    · subst hk
      have hl : k < δ.length := by
        have := (List.getElem?_eq_some_iff.mp q).1
        rwa [List.length_set] at this
      rw [List.getElem?_set_self hl] at q
      cases q
    · rw [List.getElem?_set_ne (Ne.symm hk)] at q ⊢
      exact h4 k b d' q
theorem ss_parO {i j : Nat} {x y : Str} {a b : Expr} {f g : Me Val} {px py pt : Pos} {kt k2 pt2} (hc : X.calm = true) (hN : X.N.Nodup) (hi : X.N[i]? = some x) (hj : X.N[j]? = some y) (hij : i ≠ j)
    (hx : X.env.scope.names.lookup x = some .local) (hy : X.env.scope.names.lookup y = some .local) (ha : DE X B a f) (hb : DE X B b g)
    (hw : swappedStores [.Tuple [.Name x px, .Name y py] kt pt] (.Tuple [a, b] k2 pt2) X.env = pure (some [x, y])) (hs : swapsWithSole [.Tuple [.Name x px, .Name y py] kt pt] (.Tuple [a, b] k2 pt2) pos.line X.env = pure false := by rfl)
    (h1 : starEach [a, b] X.env = (false, eval a X.env) :: starEach [b] X.env := by rfl) (h2 : starEach [b] X.env = (false, eval b X.env) :: starEach [] X.env := by rfl) :
    SS X B (.Assign [.Tuple [.Name x px, .Name y py] kt pt] (.Tuple [a, b] k2 pt2) pos) (parO i j f g) := PS.weak (ps_par hc hN hi hj hij hx hy (pa_cons ha (pa_cons hb pa_nil h2) h1) hw hs) fun E σ H q => by
  obtain ⟨G, δ, fl, δ', R, e, k⟩ := q
  unfold parO at e
  split at e
  · rename_i v δ1 hg
    split at e
    · rename_i w δ2 hg2
      obtain ⟨δ3, e2, e⟩ := Option.bind_eq_some_iff.mp e
      obtain ⟨δ4, e3, e⟩ := Option.bind_eq_some_iff.mp e
      cases e
      refine ⟨G, δ, _, δ1, R, hg, fun u G1 H1 s1 R1 v1 => ?_⟩
      obtain ⟨G1', s1', R1', v1'⟩ := v1.freeze R1
      refine ⟨G1', δ1, w, δ2, R1', hg2, fun u2 G2 H2 s2 R2 v2 => ?_⟩
      have v1'' : RV X.K B G2 H2 δ2 σ u (fzv v) := RV.stay s2 v1'
      refine ⟨_, _, rfl, ?_⟩
      have R3 := R2.set v1'' e2
      have hn : ∀ k, w ≠ .sl k := fun k z => by
        subst z
        unfold asg at e3
        split at e3 <;> cases e3
      exact k _ G2 H2 ((s1.trans s1').trans s2) (R3.set (v2.past e2 hn) e3)
    · cases e
  · cases e
/-! ### a, b, c = l, of a tuple or a list -/
theorem PG.or' {e : Expr} {t t' : TG} (h : PG X e t) (h' : PG X e t') : PG X e (fun v σ H Q => t v σ H Q ∨ t' v σ H Q) := ⟨fun pins s σ H v u Q I r w => w.elim (h.run pins s σ H v u Q I r) (h'.run pins s σ H v u Q I r)⟩
def tupA (n : Nat) (g : Tgs) : Tg := fun v δ => match v with
  | .fz (.tuple ds) => if ds.length = n then g ds δ else none
  | .fz (.list ds) => if ds.length = n then g ds δ else none
  | _ => none
theorem dg_tupA {es : List Expr} {kk : Nat} {g : Tgs} {n : Nat} {ws : List Nat} (hc : X.calm = true) (h : DGs X B ws es g) (hn : (assignEach es X.env).length = n := by rfl) (hst : (assignEach es X.env).findIdx? (·.1) = none := by rfl) : DG X B ws (.Tuple es kk pos) (tupA n g) := PG.weak (PG.or' (pg_tup hc h hn hst) (pg_lst hc h hn hst)) fun v σ H Q q => by
  obtain ⟨G, δ, r, δ', R, rv, e, k⟩ := q
  unfold tupA at e
  split at e
  · rename_i ds
    split at e
    · rename_i hl
      have rv : Tr X.K G v (.tuple ds) := rv
      cases rv with
      | @tup a xs _ hx t => exact .inl ⟨a, xs, rfl, Same.tup R.same hx, by rw [t.len]; exact hl, G, δ, ds, δ', R, t, e, k⟩
    · cases e
  · rename_i ds
    split at e
    · rename_i hl
      have rv : Tr X.K G v (.list ds) := rv
      cases rv with
      | @lst a xs _ hx t => exact .inr ⟨a, xs, rfl, .inl (.inl (R.same _ _ hx)), by rw [t.len]; exact hl, G, δ, ds, δ', R, t, e, k⟩
    · cases e
  · cases e
end
end DL
end
section
set_option maxRecDepth 100000
set_option maxHeartbeats 4000000
namespace DL
open PySem PySem.Spec L2
open PyProof.Rows hiding St

section
variable {X : Cx} {B : Bs} {pos : Pos}
def par3S (i j k : Nat) (fa : Me (List Val)) : Ss := fun δ => match fa δ with
  | some ([u, v, w], δ1) => (asg i (fzv u) δ1).bind fun δ2 => (asg j (fzv v) δ2).bind fun δ3 => (asg k (fzv w) δ3).bind fun δ4 => some (.nx, δ4)
  | _ => none
theorem fzv_free {i : Nat} {w : Val} {δ δ' : DS} (e : asg i (fzv w) δ = some δ') : ∃ d, fzv w = .fz d := by
  cases w with
  | fz d => exact ⟨d, rfl⟩
  | ow d => exact ⟨d, rfl⟩
  | sl k =>
    unfold asg at e
    split at e <;> cases e
theorem ss_par3 {i j k : Nat} {x y z : Str} {a b c : Expr} {fa : Me (List Val)} {px py pz pt : Pos} {kt k2 pt2} (hc : X.calm = true) (hN : X.N.Nodup) (hi : X.N[i]? = some x) (hj : X.N[j]? = some y) (hk : X.N[k]? = some z) (hij : i ≠ j) (hik : i ≠ k) (hjk : j ≠ k)
    (hx : X.env.scope.names.lookup x = some .local) (hy : X.env.scope.names.lookup y = some .local) (hz : X.env.scope.names.lookup z = some .local) (ha : DA X B [a, b, c] fa)
    (hw : swappedStores [.Tuple [.Name x px, .Name y py, .Name z pz] kt pt] (.Tuple [a, b, c] k2 pt2) X.env = pure (some [x, y, z])) (hs : swapsWithSole [.Tuple [.Name x px, .Name y py, .Name z pz] kt pt] (.Tuple [a, b, c] k2 pt2) pos.line X.env = pure false := by rfl) :
    SS X B (.Assign [.Tuple [.Name x px, .Name y py, .Name z pz] kt pt] (.Tuple [a, b, c] k2 pt2) pos) (par3S i j k fa) := PS.weak (ps_par3 hc hN hi hj hk hij hik hjk hx hy hz ha hw hs) fun E σ H q => by
  obtain ⟨G, δ, fl, δ', R, e, kk⟩ := q
  unfold par3S at e
  split at e
  · rename_i u v w δ1 hg
    obtain ⟨δ2, e2, e⟩ := Option.bind_eq_some_iff.mp e
    obtain ⟨δ3, e3, e⟩ := Option.bind_eq_some_iff.mp e
    obtain ⟨δ4, e4, e⟩ := Option.bind_eq_some_iff.mp e
    cases e
    obtain ⟨d2, q2⟩ := fzv_free e3
    obtain ⟨d3, q3⟩ := fzv_free e4
    refine ⟨G, δ, _, δ1, R, hg, fun vs G1 H1 s1 R1 v1 => ?_⟩
    cases v1 with
    | cons a1 b1 =>
      cases b1 with
      | cons a2 b2 =>
        cases b2 with
        | cons a3 b3 =>
          cases b3
          refine ⟨_, _, _, rfl, ?_⟩
          have R2 := R1.set a1 e2
          rw [q2] at a2 e3
          rw [q3] at a3 e4
          have R3 := R2.set (r := .fz d2) a2 e3
          exact kk _ G1 H1 s1 (R3.set (r := .fz d3) a3 e4)
  · cases e
end
end DL
end
section
set_option maxRecDepth 100000
set_option maxHeartbeats 4000000
namespace DL
open PySem PySem.Spec L2
open PyProof.Rows hiding St

/-! ### repr of data that may hold dicts -/
mutual
/-- a value of the heap read as a tree, no dict of it being the table of modules -/
inductive Rz (h : Heap) : Value → D → Prop
  | non : Rz h .none .none
  | bl (b) : Rz h (.bool b) (.bool b)
  | int (i t) : Rz h (.int i t) (.int i)
  | str (x t) : Rz h (.str x t) (.str x)
  | lst {a o vs n xs} : h.get? a = some o → o.cls = .type "list" → o.data = .seq vs n → RzAll h vs.toList xs → Rz h (.ref a) (.list xs)
  | tup {a o vs n xs} : h.get? a = some o → o.cls = .type "tuple" → o.data = .seq vs n → RzAll h vs.toList xs → Rz h (.ref a) (.tuple xs)
  | dic {a o es n kvs} : (a == sysModules) = false → h.get? a = some o → o.cls = .type "dict" → o.data = .dict es n → RzAll h (es.toList.map (·.key)) (kvs.map (·.1)) →
      RzAll h (es.toList.map (·.val)) (kvs.map (·.2)) → Rz h (.ref a) (.dict kvs)
inductive RzAll (h : Heap) : List Value → List D → Prop
  | nil : RzAll h [] []
  | cons {v vs d ds} : Rz h v d → RzAll h vs ds → RzAll h (v :: vs) (d :: ds)
end
mutual
theorem Rz.reads {h : Heap} : ∀ {v : Value} {d : D}, Rz h v d → ∃ as, Reads h v d as
  | _, _, .non => ⟨_, .none⟩
  | _, _, .bl b => ⟨_, .bool b⟩
  | _, _, .int i t => ⟨_, .int i t⟩
  | _, _, .str i t => ⟨_, .str i t⟩
  | _, _, .lst a b c d => let ⟨_, e⟩ := RzAll.reads d; ⟨_, .list a b c e⟩
  | _, _, .tup a b c d => let ⟨_, e⟩ := RzAll.reads d; ⟨_, .tuple a b c e⟩
  | _, _, .dic _ a b c d e => let ⟨_, f⟩ := RzAll.reads d; let ⟨_, g⟩ := RzAll.reads e; ⟨_, .dict a b c f g⟩
theorem RzAll.reads {h : Heap} : ∀ {v : List Value} {d : List D}, RzAll h v d → ∃ as, ReadsAll h v d as
  | _, _, .nil => ⟨_, .nil⟩
  | _, _, .cons a b => let ⟨_, e⟩ := Rz.reads a; let ⟨_, f⟩ := RzAll.reads b; ⟨_, .cons e f⟩
end
section
variable {prog : Program} {w : World} {h : Heap}
/-- the texts of a value's parts: how repr walks a value at this depth -/
def Wk (prog : Program) (w : World) (h : Heap) (v : Value) (d : D) : Prop := ∃ bs, ReadAtMost h d.depth bs ∧ ReprK prog w bs h d.depth v d.shown
def WkAll (prog : Program) (w : World) (h : Heap) (vs : List Value) (ds : List D) : Prop := ∃ bs, ReadAtMost h (PyData.depthAll ds) bs ∧ ReprAllK prog w bs h (PyData.depthAll ds) vs (PyData.shownAll ds)
theorem WkAll.nil : WkAll prog w h [] [] := ⟨[], nofun, by rw [show PyData.shownAll [] = [] by simp only [PyData.shownAll]]; exact .nil⟩
theorem WkAll.cons {v : Value} {vs : List Value} {d : D} {ds : List D} (a : Wk prog w h v d) (b : WkAll prog w h vs ds) : WkAll prog w h (v :: vs) (d :: ds) := by
  obtain ⟨b1, r1, k1⟩ := a
  obtain ⟨b2, r2, k2⟩ := b
  have l1 : d.depth ≤ PyData.depthAll (d :: ds) := by simp only [PyData.depthAll]; exact Nat.le_max_left _ _
  have l2 : PyData.depthAll ds ≤ PyData.depthAll (d :: ds) := by simp only [PyData.depthAll]; exact Nat.le_max_right _ _
  refine ⟨b1 ++ b2, (r1.mono l1).append (r2.mono l2), ?_⟩
  rw [show PyData.shownAll (d :: ds) = d.shown :: PyData.shownAll ds by simp only [PyData.shownAll]]
  exact .cons ((k1.more fun _ m => List.mem_append_left _ m).level_le l1) (k2.more_le (fun _ m => List.mem_append_right _ m) l2)
theorem wk_lst {a : Addr} {o : Obj} {vs : Array Value} {n : Nat} {xs : List D} (h1 : h.get? a = some o) (h2 : o.cls = .type "list") (h3 : o.data = .seq vs n) (hr : RzAll h vs.toList xs) (hw : WkAll prog w h vs.toList xs) :
    ∃ bs, a ∉ bs ∧ ReadAtMost h (PyData.depthAll xs) bs ∧ ReprAllK prog w bs h (PyData.depthAll xs) vs.toList (PyData.shownAll xs) := by
  obtain ⟨bs, hb, hk⟩ := hw
  obtain ⟨as, e⟩ := RzAll.reads hr
  exact ⟨bs, not_mem_of_deeper (.list h1 h2 h3 e) (by simp only [PyData.depth]; omega) hb, hb, hk⟩
theorem wk_tup {a : Addr} {o : Obj} {vs : Array Value} {n : Nat} {xs : List D} (h1 : h.get? a = some o) (h2 : o.cls = .type "tuple") (h3 : o.data = .seq vs n) (hr : RzAll h vs.toList xs) (hw : WkAll prog w h vs.toList xs) :
    ∃ bs, a ∉ bs ∧ ReadAtMost h (PyData.depthAll xs) bs ∧ ReprAllK prog w bs h (PyData.depthAll xs) vs.toList (PyData.shownAll xs) := by
  obtain ⟨bs, hb, hk⟩ := hw
  obtain ⟨as, e⟩ := RzAll.reads hr
  exact ⟨bs, not_mem_of_deeper (.tuple h1 h2 h3 e) (by simp only [PyData.depth]; omega) hb, hb, hk⟩
theorem wk_dic {a : Addr} {o : Obj} {es : Array DictEntry} {n : Nat} {kvs : List (D × D)} (h1 : h.get? a = some o) (h2 : o.cls = .type "dict") (h3 : o.data = .dict es n)
    (rk : RzAll h (es.toList.map (·.key)) (kvs.map (·.1))) (rv : RzAll h (es.toList.map (·.val)) (kvs.map (·.2))) (hk : WkAll prog w h (es.toList.map (·.key)) (kvs.map (·.1))) (hv : WkAll prog w h (es.toList.map (·.val)) (kvs.map (·.2))) :
    ∃ bs, a ∉ bs ∧ ReadAtMost h (PyData.depthKv kvs) bs ∧ ReprEntriesK prog w bs h (PyData.depthKv kvs) es.toList (PyData.shownKv kvs) := by
  obtain ⟨b1, r1, k1⟩ := hk
  obtain ⟨b2, r2, k2⟩ := hv
  obtain ⟨as, e⟩ := RzAll.reads rk
  obtain ⟨cs, f⟩ := RzAll.reads rv
  have hb := (r1.mono (PyData.depthAll_keys_le kvs)).append (r2.mono (PyData.depthAll_vals_le kvs))
  refine ⟨b1 ++ b2, not_mem_of_deeper (.dict h1 h2 h3 e f) (by simp only [PyData.depth]; omega) hb, hb, ?_⟩
  rw [PyData.shownKv_eq]
  exact ReprEntriesK.of_two es.toList _ _ (k1.more_le (fun _ m => List.mem_append_left _ m) (PyData.depthAll_keys_le kvs)) (k2.more_le (fun _ m => List.mem_append_right _ m) (PyData.depthAll_vals_le kvs))
theorem kv_keys {kvs : List (D × D)} (z : (dictText (PyData.shownKv kvs)).length ≤ sizeLine) : ∀ t ∈ PyData.shownAll (kvs.map (·.1)), t.length ≤ sizeLine := fun t ht => by
  obtain ⟨p, hp, l⟩ := PyData.shownKv_key_le kvs t ht
  exact Nat.le_trans l (Nat.le_trans (dictText_mem_le hp) z)
theorem kv_vals {kvs : List (D × D)} (z : (dictText (PyData.shownKv kvs)).length ≤ sizeLine) : ∀ t ∈ PyData.shownAll (kvs.map (·.2)), t.length ≤ sizeLine := fun t ht => by
  obtain ⟨p, hp, l⟩ := PyData.shownKv_val_le kvs t ht
  exact Nat.le_trans l (Nat.le_trans (dictText_mem_le hp) z)
mutual
theorem Rz.wk : ∀ {v : Value} {d : D}, Rz h v d → d.showable = true → d.shown.length ≤ sizeLine → Wk prog w h v d
  | _, _, .non, _, _ => ⟨[], nofun, by simp only [PyData.shown]; exact .of_is ReprIs.none _ _ _⟩
  | _, _, .bl b, _, _ => ⟨[], nofun, by simp only [PyData.shown]; exact .of_is (ReprIs.bool b) _ _ _⟩
  | _, _, .int i t, hs, _ => ⟨[], nofun, by simp only [PyData.shown]; exact .of_is (ReprIs.int t (by simpa [PyData.showable] using hs)) _ _ _⟩
  | _, _, .str x t, _, hz => ⟨[], nofun, by simp only [PyData.shown]; exact .of_is (ReprIs.str x t (by simpa only [PyData.shown] using hz)) _ _ _⟩
  | _, _, .lst (a := a) (vs := vs) (xs := xs) h1 h2 h3 hr, hs, hz => by
    have z : (listText (PyData.shownAll xs)).length ≤ sizeLine := by simpa only [PyData.shown] using hz
    obtain ⟨bs, na, hb, hk⟩ := wk_lst h1 h2 h3 hr (RzAll.wk hr (by simpa [PyData.showable] using hs) fun t ht => Nat.le_trans (listText_mem_le ht) z)
    obtain ⟨as, e⟩ := RzAll.reads hr
    refine ⟨a :: bs, ReadAtMost.cons (.list h1 h2 h3 e) (by simp only [PyData.depth]; omega) hb, ?_⟩
    simp only [PyData.depth, PyData.shown]
    obtain ⟨l⟩ := vs
    cases l with
    | nil =>
      cases (show RzAll h [] xs from hr)
      rw [show listText (PyData.shownAll []) = "[]" by simp only [PyData.shownAll, listText_nil]]
      exact ReprK.listEmpty h1 h2 h3
    | cons x l => exact ReprK.list h1 h2 h3 na (by simpa using hk.length_eq) fun i y e => hk.item i y (by simpa using e)
  | _, _, .tup (a := a) (xs := xs) h1 h2 h3 hr, hs, hz => by
    have z : (tupleText (PyData.shownAll xs)).length ≤ sizeLine := by simpa only [PyData.shown] using hz
    obtain ⟨bs, na, hb, hk⟩ := wk_tup h1 h2 h3 hr (RzAll.wk hr (by simpa [PyData.showable] using hs) fun t ht => Nat.le_trans (tupleText_mem_le ht) z)
    obtain ⟨as, e⟩ := RzAll.reads hr
    refine ⟨a :: bs, ReadAtMost.cons (.tuple h1 h2 h3 e) (by simp only [PyData.depth]; omega) hb, ?_⟩
    simp only [PyData.depth, PyData.shown]
    exact ReprK.tuple h1 h2 h3 na hk
  | _, _, .dic (a := a) (kvs := kvs) h0 h1 h2 h3 rk rv, hs, hz => by
    have z : (dictText (PyData.shownKv kvs)).length ≤ sizeLine := by simpa only [PyData.shown] using hz
    obtain ⟨s1, s2⟩ := PyData.showableKv_split kvs (by simpa [PyData.showable] using hs)
    obtain ⟨bs, na, hb, hk⟩ := wk_dic h1 h2 h3 rk rv (RzAll.wk rk s1 (kv_keys z)) (RzAll.wk rv s2 (kv_vals z))
    obtain ⟨as, e⟩ := RzAll.reads rk
    obtain ⟨cs, f⟩ := RzAll.reads rv
    refine ⟨a :: bs, ReadAtMost.cons (.dict h1 h2 h3 e f) (by simp only [PyData.depth]; omega) hb, ?_⟩
    simp only [PyData.depth, PyData.shown]
    exact ReprK.dict h1 h2 h3 h0 na hk
theorem RzAll.wk : ∀ {vs : List Value} {ds : List D}, RzAll h vs ds → PyData.showableAll ds = true → (∀ t ∈ PyData.shownAll ds, t.length ≤ sizeLine) → WkAll prog w h vs ds
  | _, _, .nil, _, _ => .nil
  | _, _, .cons (d := d) (ds := ds) a b, hs, hz => by
    have s' : d.showable = true ∧ PyData.showableAll ds = true := by simpa [PyData.showableAll] using hs
    have e : PyData.shownAll (d :: ds) = d.shown :: PyData.shownAll ds := by simp only [PyData.shownAll]
    rw [e] at hz
    exact .cons (Rz.wk a s'.1 (hz _ List.mem_cons_self)) (RzAll.wk b s'.2 fun t ht => hz t (List.mem_cons_of_mem _ ht))
end
theorem Rz.call {a : Addr} {d : D} (r : Rz h (.ref a) d) (hs : d.showable = true) (hz : d.shown.length ≤ sizeLine) {A : Around} {E : Value → Shared → Prop} {s : Shared} {Q : Value → Shared → Prop} (hg : A.guards = some []) (hu : A.units + (d.depth + 1) < cLine)
    (hk0 : ∀ b o, h.get? b = some o → s.heap.get? b = some o) (hQ : ∀ h' u tk, (∀ b o, s.heap.get? b = some o → h'.get? b = some o) → Q (.str d.shown u) { s with heap := h', toks := tk }) :
    wpAny (model prog w) A (call (.builtin "repr") [.ref a]) Q E s := by
  have hu' : A.in1.units + d.depth < cLine := by show A.units + 1 + d.depth < cLine; omega
  have hg' : A.in1.guards = some [] := hg
  cases r with
  | lst h1 h2 h3 hr =>
    rename_i o vs n xs
    have z : (listText (PyData.shownAll xs)).length ≤ sizeLine := by simpa only [PyData.shown] using hz
    obtain ⟨bs, na, hb, hk⟩ := wk_lst (prog := prog) (w := w) h1 h2 h3 hr (RzAll.wk hr (by simpa [PyData.showable] using hs) fun t ht => Nat.le_trans (listText_mem_le ht) z)
    simp only [PyData.depth] at hu'
    simp only [PyData.shown] at hQ
    refine call_repr_slot (by simp only [PyData.depth] at hu; omega) ⟨o, hk0 _ _ h1, h2⟩ F.slot_list_repr.toG ?_
    obtain ⟨l⟩ := vs
    cases l with
    | nil =>
      cases (show RzAll h [] xs from hr)
      simp only [PyData.shownAll, listText_nil] at hQ
      exact call_list_repr_empty ⟨o, hk0 _ _ h1, h2⟩ (hk0 _ _ h1) h3 ⟨_, _, rfl, hQ s.heap _ _ fun _ _ e => e⟩
    | cons x l => exact call_list_reprK h1 h2 h3 na (by simpa using hk.length_eq) (fun i y e => hk.item i y (by simpa using e)) hg' (fun b _ => Clear.nil b) hu' hk0 (fun h' u tk hk => ⟨_, _, rfl, hQ h' u tk hk⟩) z
  | tup h1 h2 h3 hr =>
    rename_i o vs n xs
    have z : (tupleText (PyData.shownAll xs)).length ≤ sizeLine := by simpa only [PyData.shown] using hz
    obtain ⟨bs, na, hb, hk⟩ := wk_tup (prog := prog) (w := w) h1 h2 h3 hr (RzAll.wk hr (by simpa [PyData.showable] using hs) fun t ht => Nat.le_trans (tupleText_mem_le ht) z)
    simp only [PyData.depth] at hu'
    simp only [PyData.shown] at hQ
    refine call_repr_slot (by simp only [PyData.depth] at hu; omega) ⟨o, hk0 _ _ h1, h2⟩ F.slot_tuple_repr ?_
    exact call_tuple_reprK h1 h2 h3 na hk hg' (fun b _ => Clear.nil b) hu' hk0 (fun h' u tk hk => ⟨_, _, rfl, hQ h' u tk hk⟩) z
  | dic h0 h1 h2 h3 rk rv =>
    rename_i o es n kvs
    have z : (dictText (PyData.shownKv kvs)).length ≤ sizeLine := by simpa only [PyData.shown] using hz
    obtain ⟨s1, s2⟩ := PyData.showableKv_split kvs (by simpa [PyData.showable] using hs)
    obtain ⟨bs, na, hb, hk⟩ := wk_dic (prog := prog) (w := w) h1 h2 h3 rk rv (RzAll.wk rk s1 (kv_keys z)) (RzAll.wk rv s2 (kv_vals z))
    simp only [PyData.depth] at hu'
    simp only [PyData.shown] at hQ
    refine call_repr_slot (by simp only [PyData.depth] at hu; omega) ⟨o, hk0 _ _ h1, h2⟩ F.slot_dict_repr ?_
    exact call_dict_reprK h1 h2 h3 h0 na hk hg' (fun b _ => Clear.nil b) hu' hk0 (fun h' u tk hk => ⟨_, _, rfl, hQ h' u tk hk⟩) z
end

/-! ### trees of the frame are such values -/
mutual
/-- no part is the script -/
def plainD : D → Bool
  | .list xs => plainAll xs
  | .tuple xs => plainAll xs
  | .dict kvs => plainKv kvs
  | _ => true
def plainAll : List D → Bool
  | [] => true
  | x :: xs => plainD x && plainAll xs
def plainKv : List (D × D) → Bool
  | [] => true
  | (k, v) :: r => (match k with | .none => false | _ => true) && plainD v && plainKv r
end
section
variable {X : Cx} {pins : List (Addr × Obj)} {σ : L2.St} {H : Hp} {s : Shared}
theorem rz_key {k : Key} {u : Value} (e : keyIs k u = true) : Rz h u (keyD k) := by
  rcases keyIs_shape e with ⟨i, t, rfl, rfl⟩ | ⟨x, t, rfl, rfl⟩
  · exact .int i t
  · exact .str x t
mutual
theorem Tr.rz (I : Inv X pins σ H s) : ∀ {d : D} {v : V} {u : Value}, plainD d = true → Tr X.K H v d → RelV v u → Rz s.heap u d
  | _, _, _, _, .non, r => by cases r; exact .non
  | _, _, _, _, .bl b, r => by cases r; exact .bl b
  | _, _, _, _, .int i, r => by obtain ⟨t, rfl⟩ := r; exact .int i t
  | _, _, _, _, .str i, r => by obtain ⟨t, rfl⟩ := r; exact .str i t
  | .list ds, _, _, p, .lst h t, r => by
    cases r
    obtain ⟨its, rv, ⟨o, n, ho, hc, _, hd⟩, _⟩ := I.list (.inl (.inl h))
    exact .lst ho hc hd (TrAll.rz I (by simpa [plainD] using p) t (by simpa using rv))
  | .tuple ds, _, _, p, .tup h t, r => by
    cases r
    obtain ⟨its, rv, ⟨o, ho, hc, n, hd⟩, _⟩ := I.tuple h
    exact .tup ho hc hd (TrAll.rz I (by simpa [plainD] using p) t (by simpa using rv))
  | .dict es, _, _, p, .dic h t, r => by
    cases r
    obtain ⟨_, hm, vs, rel, o, en, ep, ho, hx, hd, _, hp, _⟩ := I.hok _ _ h
    obtain ⟨r1, r2⟩ := TrKV.rz I (by simpa [plainD] using p) t rel hp
    exact .dic hm ho hx.1 hd r1 r2
  | _, _, _, p, .scr h, r => by simp [plainD, plainKv] at p
theorem TrAll.rz (I : Inv X pins σ H s) : ∀ {d : List D} {v : List V} {u : List Value}, plainAll d = true → TrAll X.K H v d → Vals v u → RzAll s.heap u d
  | _, _, _, _, .nil, r => by cases r; exact .nil
  | _, _, _, p, .cons a b, r => by
    cases r with
    | cons r1 r2 =>
      simp only [plainAll, Bool.and_eq_true] at p
      exact .cons (Tr.rz I p.1 a r1) (TrAll.rz I p.2 b r2)
theorem TrKV.rz (I : Inv X pins σ H s) : ∀ {es : List (D × D)} {kvs : List (Key × V)} {vs : List (Key × Value)} {en : List DictEntry}, plainKv es = true → TrKV X.K H kvs es → KV kvs vs → Pairs (mixKind X.prog X.w) en vs →
    RzAll s.heap (en.map (·.key)) (es.map (·.1)) ∧ RzAll s.heap (en.map (·.val)) (es.map (·.2))
  | _, _, _, _, _, .nil, r, q => by
    cases r
    cases q
    exact ⟨.nil, .nil⟩
  | _, _, _, _, p, .cons a b, r, q => by
    cases r with
    | cons r1 r2 =>
      cases q with
      | cons q1 q2 q3 =>
        simp only [plainKv, Bool.and_eq_true] at p
        obtain ⟨z1, z2⟩ := TrKV.rz I p.2 b r2 q3
        obtain ⟨rk, rv⟩ := r1
        refine ⟨.cons ?_ z1, .cons ?_ z2⟩
        · have q1 := q1
          rw [← rk] at q1
          exact rz_key q1
        · have rv := rv
          rw [← q2] at rv
          exact Tr.rz I p.1.2 a rv
end
end
def rReprZ (K : Fg) : List V → Hp → VK → Prop := fun xs H Q => ∃ v d, xs = [v] ∧ Tr K H v d ∧ plainD d = true ∧ d.showable = true ∧ d.depth ≤ 60 ∧ d.shown.length ≤ sizeLine ∧ Q (.str d.shown) H
theorem call_reprZ {X : Cx} (hg : X.A.guards = some []) (hu : X.A.units + 64 < cLine) : CallR X (.builtin "repr") (rReprZ X.K) := by
  intro pins s σ H xs us Q I r h
  obtain ⟨v, d, rfl, t, hc, hs, hd, hz, q⟩ := h
  obtain ⟨u, rfl, ru⟩ := vals1 r
  have rz := Tr.rz I hc t ru
  have rz0 := rz
  have fin := fun {a : Addr} (e : u = .ref a) => (e ▸ rz0 : Rz s.heap (.ref a) d).call (prog := X.prog) (w := X.w) (E := X.xe) (Q := fun v s' => ∃ x H', Inv X pins σ H' s' ∧ RelV x v ∧ Q x H') hs hz hg (by omega) (fun _ _ e => e) fun h' u tk hk => ⟨.str _, H, I.kept (t' := tk) hk, ⟨_, rfl⟩, q⟩
  cases rz with
  | non => exact PySem.P.repr_of_none ⟨.str _, H, I.tok _, ⟨_, rfl⟩, q⟩
  | bl b => exact PySem.P.repr_of_bool ⟨.str _, H, I.tok _, ⟨_, rfl⟩, by cases b <;> exact q⟩
  | int i t => exact PySem.P.repr_of_int (by simpa [PyData.showable] using hs) ⟨.str _, H, I.tok _, ⟨_, rfl⟩, q⟩
  | str x t => exact PySem.P.repr_of_str ⟨.str _, H, I.tok _, ⟨_, rfl⟩, q⟩ hz
  | lst _ _ _ _ => exact fin rfl
  | tup _ _ _ _ => exact fin rfl
  | dic _ _ _ _ _ _ => exact fin rfl
def reprOkZ (d : D) : Bool := plainD d && d.showable && decide (d.depth ≤ 60) && szOk d.shown.length
def reprZ : List D → Option Val
  | [d] => if reprOkZ d then some (.fz (.str d.shown)) else none
  | _ => none
theorem fd_reprZ {K : Fg} : FnD K (rReprZ K) reprZ := by
  intro G H vs ds res Q s vv hr k
  unfold reprZ at hr
  split at hr
  · obtain ⟨c, rfl⟩ := ite_some hr
    unfold reprOkZ at c
    rw [Bool.and_eq_true, Bool.and_eq_true, Bool.and_eq_true] at c
    obtain ⟨v, rfl, v1⟩ := view1 vv
    exact ⟨v, _, rfl, v1.tr s, c.1.1.1, c.1.1.2, of_decide_eq_true c.1.2, szOk_le c.2, k _ G H (Ex.refl s) (.str _)⟩
  · cases hr
mutual
theorem plain_of_lay : ∀ (d : D), d.canLay0 = true → plainD d = true
  | .none, _ => by simp [plainD]
  | .bool _, _ => by simp [plainD]
  | .int _, _ => by simp [plainD]
  | .str _, _ => by simp [plainD]
  | .list xs, h => by simpa [plainD] using plainAll_of_lay xs (by simpa [PyData.canLay0] using h)
  | .tuple xs, h => by simpa [plainD] using plainAll_of_lay xs (by simpa [PyData.canLay0] using h)
  | .dict _, h => by simp [PyData.canLay0] at h
theorem plainAll_of_lay : ∀ (d : List D), PyData.canLayAll0 d = true → plainAll d = true
  | [], _ => by simp [plainAll]
  | x :: r, h => by
    have h' : x.canLay0 = true ∧ PyData.canLayAll0 r = true := by simpa [PyData.canLayAll0] using h
    simp [plainAll, plain_of_lay x h'.1, plainAll_of_lay r h'.2]
end

/-! ### {i: j} of numbers -/
def ddispM (i j : Int) : Me Val := mr (.ow (.dict [(.int i, .int j)]))
theorem de_disp1 {X : Cx} {B : Bs} {pos : Pos} {i j : Int} {p1 p2 p3 p4} : DE X B (.Dict [some (.Constant (.int i) p1 p2)] [.Constant (.int j) p3 p4] pos) (ddispM i j) :=
  PE.weak (pe_disp (pps_cons pe_int pe_int pps_nil) (by rfl) (by rfl) nofun (by simp)) fun σ H Q h => by
    obtain ⟨G, δ, r, δ', R, e, k⟩ := h
    cases e
    intro p n
    refine ⟨upd_same, [(.inl i, .int j)], rfl, by simp, ?_⟩
    have e : upd (upd H p (.dK [])) p (.dK (mergeK [] [(.inl i, .int j)])) = upd H p (.dK [(.inl i, .int j)]) := by
      funext b
      by_cases hb : b = p
      · rw [hb, upd_same, upd_same]; rfl
      · rw [upd_ne hb, upd_ne hb, upd_ne hb]
    rw [e]
    have x := Ex.push R.same (.dK [(.inl i, .int j)]) n
    exact k _ _ _ x.g (R.ex x) (RO.rv R ⟨p, rfl, n, R.same.free n, .dic upd_same (.cons (.int j) .nil)⟩)
/-! ### i in (a, b) of numbers -/
def allI : List D → Option (List Int)
  | [] => some []
  | .int i :: r => (allI r).map (i :: ·)
  | _ :: _ => none
theorem allI_eq : ∀ {ds : List D} {l : List Int}, allI ds = some l → ds = l.map .int
  | [], l, h => by cases h; rfl
  | .int i :: r, l, h => by
    obtain ⟨m, e, rfl⟩ := Option.map_eq_some_iff.mp (show (allI r).map (i :: ·) = some l from h)
    rw [allI_eq e]; rfl
  | .none :: _, _, h => by cases h
  | .bool _ :: _, _, h => by cases h
  | .str _ :: _, _, h => by cases h
  | .list _ :: _, _, h => by cases h
  | .tuple _ :: _, _, h => by cases h
  | .dict _ :: _, _, h => by cases h
theorem TrAll.intsI {K : Fg} {H : Hp} : ∀ {l : List Int} {vs : List V}, TrAll K H vs (l.map .int) → vs = l.map .int
  | [], _, h => by cases h; rfl
  | i :: r, _, h => by
    cases h with
    | cons a b => cases a; rw [List.map_cons, TrAll.intsI b]
def inI : D → D → Option Val
  | .int i, .tuple ds => (allI ds).map fun l => .fz (.bool (l.any fun y => y == i))
  | _, _ => none
theorem inV_ints (i : Int) (l : List Int) : inV (.int i) (l.map V.int) = l.any fun y => y == i := by
  unfold inV
  rw [List.any_map]
  rfl
theorem flat_ints (l : List Int) : (l.map V.int).all L2.flatV = true := by
  rw [List.all_map, List.all_eq_true]
  intro x _
  rfl
theorem od_inI {K : Fg} : OpD K (rIn K false) inI := by
  intro G H x y d e res Q s vx vy hr k
  unfold inI at hr
  split at hr
  · obtain ⟨l, el, rfl⟩ := Option.map_eq_some_iff.mp hr
    rw [allI_eq el] at vy
    obtain ⟨a, xs, rfl, h, t⟩ := vy.tuple s
    have := TrAll.intsI t
    subst this
    have := vx.int
    subst this
    refine ⟨a, _, rfl, .inr h, rfl, flat_ints l, ?_⟩
    rw [inV_ints]
    exact k _ G H (Ex.refl s) (.bl _)
  · cases hr
/-! ### zip of two lists or of two tuples -/
theorem it_zipT {K : Fg} {G1 : Hp} {a b : Addr} {xs ys : List V} {ds es : List D} (h : SqT K G1 a xs) (t : TrAll K G1 xs ds) (h2 : SqT K G1 b ys) (t2 : TrAll K G1 ys es) : ItD K (RZ.ItzT K a b) (zipD ds es) G1 := fun i G H s sh => by
  have q : SqT K H a xs := Same.tup (s.trans sh) h
  have q2 : SqT K H b ys := Same.tup (s.trans sh) h2
  refine ⟨fun d hd => ?_, fun hi => ⟨xs, ys, q, q2, by unfold zipD at hi; rw [List.length_map, List.length_zip] at hi; rw [t.len, t2.len]; omega⟩⟩
  unfold zipD at hd
  rw [List.getElem?_map] at hd
  obtain ⟨p, hp, rfl⟩ := Option.map_eq_some_iff.mp hd
  rw [List.getElem?_zip_eq_some] at hp
  obtain ⟨v, hv, tv⟩ := t.get hp.1
  obtain ⟨w, hw, tw⟩ := t2.get hp.2
  refine ⟨⟨xs, ys, v, w, q, q2, hv, hw⟩, fun x H' y => ?_⟩
  obtain ⟨T, z, z2, rfl, n, rfl, y, y2⟩ := y
  have h1 := y xs q
  have h2 := y2 ys q2
  rw [hv] at h1
  rw [hw] at h2
  cases h1
  cases h2
  exact ⟨_, Ex.pushF sh _ n, Tr.tup (.inl (.inl upd_same)) (TrAll.mono (same_upd (sh.free n)) (.cons (Tr.mono s tv) (.cons (Tr.mono s tw) .nil)))⟩
def zipA (fa : Me (List Val)) : Me (List D) := mb fa fun xs => mo fun _ => (fzs xs).bind fun as => match as with
  | [.list ds, .list es] => some (zipD ds es)
  | [.tuple ds, .tuple es] => some (zipD ds es)
  | _ => none
theorem di_zipA {X : Cx} {B : Bs} {e e2 : Expr} {fa : Me (List Val)} {p pos tpos : Pos} {elts : List Expr} {kk : Nat} (hg : Gl X "zip") (hm : X.mg "zip" = none) (ha : DA X B [e, e2] fa)
    (hs : starEach [e, e2] X.env = (false, eval e X.env) :: starEach [e2] X.env := by rfl) (hpl : (backTo pos (starEach [e2] X.env)).any (·.1) = false := by rfl) : DI X B (.Tuple elts kk tpos) (.Call (.Name "zip" p) [e, e2] [] pos) (zipA fa) := PI.weak (RZ.pi_zipA hg hm ha hs hpl) fun σ H Q q => by
  obtain ⟨G, δ, ds, δ', R, e, k⟩ := q
  obtain ⟨xs, δ1, e1, e⟩ := mb_some e
  obtain ⟨e2, rfl⟩ := mo_some e
  obtain ⟨as, e3, e2⟩ := Option.bind_eq_some_iff.mp e2
  refine ⟨G, δ, _, _, R, e1, fun vs G1 H1 s1 R1 v1 => ?_⟩
  have t := v1.trees e3
  split at e2
  · cases e2
    cases t with
    | cons a b =>
      cases b with
      | cons b c =>
        cases c
        obtain ⟨p, ys, rfl, h, t⟩ := Tr.listI a
        obtain ⟨q, zs, rfl, h2, t2⟩ := Tr.listI b
        exact ⟨p, q, ys, zs, rfl, .inl ⟨R1.same.seq h, R1.same.seq h2, k _ G1 H1 s1 R1 (it_zip h t h2 t2)⟩⟩
  · cases e2
    cases t with
    | cons a b =>
      cases b with
      | cons b c =>
        cases c
        obtain ⟨p, ys, rfl, h, t⟩ := Tr.tupI a
        obtain ⟨q, zs, rfl, h2, t2⟩ := Tr.tupI b
        exact ⟨p, q, ys, zs, rfl, .inr ⟨Same.tup R1.same h, Same.tup R1.same h2, k _ G1 H1 s1 R1 (it_zipT h t h2 t2)⟩⟩
  · cases e2
end DL
end
section
set_option maxRecDepth 100000
set_option maxHeartbeats 4000000
namespace DL
open PySem PySem.Spec L2
open PyProof.Rows hiding St

section
variable {X : Cx} {B : Bs} {pos : Pos}
/-! ### x, y = z, e: the list of one's own in z goes over to x -/
def movP (i k j : Nat) (g : Me Val) : Ss := fun δ => match δ[j]? with
  | some (.own _ _) => (match g δ with
    | some (.fz v, δ1) => (match δ1[j]? with
      | some (.own false d) => (asg i (.ow d) (δ1.set j .un)).bind fun δ2 => (asg k (.fz v) δ2).bind fun δ3 => some (.nx, δ3)
      | _ => none)
    | _ => none)
  | _ => none
theorem RelS.taken {K : Fg} {G H : Hp} {δ : DS} {σ : L2.St} {j : Nat} {d : D} (R : RelS K B G H δ σ) (q : δ[j]? = some (.own false d)) : ∃ a, σ[j]? = some (some (V.ref a)) ∧ RV K B G H (δ.set j .un) σ (.ref a) (.ow d) := by
  obtain ⟨a, e1, n, m, rt⟩ := R.own j false d q
  refine ⟨a, e1, a, rfl, n, m, rt, fun i b d' q' z => ?_⟩
  by_cases hj : i = j
  · subst hj
    have hl : i < δ.length := (List.getElem?_eq_some_iff.mp q).1
    rw [List.getElem?_set_self hl] at q'
    cases q'
  · rw [List.getElem?_set_ne (Ne.symm hj)] at q'
    exact hj (R.inj i j b false a d' d q' q z e1)
theorem ss_mov {i k j : Nat} {x y : Str} {a b : Expr} {g : Me Val} {px py pt : Pos} {kt k2 pt2} (hc : X.calm = true) (hN : X.N.Nodup) (hi : X.N[i]? = some x) (hk : X.N[k]? = some y) (hik : i ≠ k)
    (hx : X.env.scope.names.lookup x = some .local) (hy : X.env.scope.names.lookup y = some .local) (ha : DE X B a (nameM j)) (hb : DE X B b g)
    (hw : swappedStores [.Tuple [.Name x px, .Name y py] kt pt] (.Tuple [a, b] k2 pt2) X.env = pure (some [x, y])) (hs : swapsWithSole [.Tuple [.Name x px, .Name y py] kt pt] (.Tuple [a, b] k2 pt2) pos.line X.env = pure false := by rfl)
    (h1 : starEach [a, b] X.env = (false, eval a X.env) :: starEach [b] X.env := by rfl) (h2 : starEach [b] X.env = (false, eval b X.env) :: starEach [] X.env := by rfl) :
    SS X B (.Assign [.Tuple [.Name x px, .Name y py] kt pt] (.Tuple [a, b] k2 pt2) pos) (movP i k j g) := PS.weak (ps_par hc hN hi hk hik hx hy (pa_cons ha (pa_cons hb pa_nil h2) h1) hw hs) fun E σ H q => by
  obtain ⟨G, δ, fl, δ', R, e, kk⟩ := q
  unfold movP at e
  split at e
  · rename_i b0 d0 q0
    split at e
    · rename_i v δ1 hg
      split at e
      · rename_i d q1
        obtain ⟨δ2, e2, e⟩ := Option.bind_eq_some_iff.mp e
        obtain ⟨δ3, e3, e⟩ := Option.bind_eq_some_iff.mp e
        cases e
        refine ⟨G, δ, .sl j, δ, R, (by unfold nameM; rw [q0]), fun u G1 H1 s1 R1 v1 => ?_⟩
        refine ⟨G1, δ, .fz v, δ1, R1, hg, fun u2 G2 H2 s2 R2 v2 => ?_⟩
        refine ⟨_, _, rfl, ?_⟩
        obtain ⟨a, ea, rv⟩ := R2.taken q1
        have v1 : σ[j]? = some (some u) := v1
        rw [ea] at v1
        cases v1
        have R3 := (R2.drop j).set rv e2
        exact kk _ G2 H2 (s1.trans s2) (R3.set (r := .fz v) v2 e3)
      · cases e
    · cases e
  · cases e
/-! ### x, y, z = e, number, number: what e hands back is kept as one's own -/
def par3C (i j k : Nat) (f : Me Val) (m n : Int) : Ss := fun δ => match f δ with
  | some (v, δ1) => (asg i v δ1).bind fun δ2 => (asg j (.fz (.int m)) δ2).bind fun δ3 => (asg k (.fz (.int n)) δ3).bind fun δ4 => some (.nx, δ4)
  | none => none
theorem ss_par3C {i j k : Nat} {x y z : Str} {a : Expr} {m n : Int} {f : Me Val} {px py pz pt p1 p2 : Pos} {kt k2 pt2 t1 t2} (hc : X.calm = true) (hN : X.N.Nodup) (hi : X.N[i]? = some x) (hj : X.N[j]? = some y) (hk : X.N[k]? = some z) (hij : i ≠ j) (hik : i ≠ k) (hjk : j ≠ k)
    (hx : X.env.scope.names.lookup x = some .local) (hy : X.env.scope.names.lookup y = some .local) (hz : X.env.scope.names.lookup z = some .local) (ha : DE X B a f)
    (hw : swappedStores [.Tuple [.Name x px, .Name y py, .Name z pz] kt pt] (.Tuple [a, .Constant (.int m) t1 p1, .Constant (.int n) t2 p2] k2 pt2) X.env = pure (some [x, y, z])) (hs : swapsWithSole [.Tuple [.Name x px, .Name y py, .Name z pz] kt pt] (.Tuple [a, .Constant (.int m) t1 p1, .Constant (.int n) t2 p2] k2 pt2) pos.line X.env = pure false := by rfl)
    (h1 : starEach [a, .Constant (.int m) t1 p1, .Constant (.int n) t2 p2] X.env = (false, eval a X.env) :: starEach [.Constant (.int m) t1 p1, .Constant (.int n) t2 p2] X.env := by rfl)
    (h2 : starEach [.Constant (.int m) t1 p1, .Constant (.int n) t2 p2] X.env = (false, eval (.Constant (.int m) t1 p1) X.env) :: starEach [.Constant (.int n) t2 p2] X.env := by rfl)
    (h3 : starEach [.Constant (.int n) t2 p2] X.env = (false, eval (.Constant (.int n) t2 p2) X.env) :: starEach [] X.env := by rfl) :
    SS X B (.Assign [.Tuple [.Name x px, .Name y py, .Name z pz] kt pt] (.Tuple [a, .Constant (.int m) t1 p1, .Constant (.int n) t2 p2] k2 pt2) pos) (par3C i j k f m n) := PS.weak (ps_par3 hc hN hi hj hk hij hik hjk hx hy hz (pa_cons ha (pa_cons pe_int (pa_cons pe_int pa_nil h3) h2) h1) hw hs) fun E σ H q => by
  obtain ⟨G, δ, fl, δ', R, e, kk⟩ := q
  unfold par3C at e
  split at e
  · rename_i v δ1 hg
    obtain ⟨δ2, e2, e⟩ := Option.bind_eq_some_iff.mp e
    obtain ⟨δ3, e3, e⟩ := Option.bind_eq_some_iff.mp e
    obtain ⟨δ4, e4, e⟩ := Option.bind_eq_some_iff.mp e
    cases e
    refine ⟨G, δ, v, δ1, R, hg, fun u G1 H1 s1 R1 v1 => ?_⟩
    refine ⟨_, _, _, rfl, ?_⟩
    have R2 := R1.set v1 e2
    have R3 := R2.set (r := .fz (.int m)) (.int m) e3
    exact kk _ G1 H1 s1 (R3.set (r := .fz (.int n)) (.int n) e4)
  · cases e
/-! the same where the names may be cells: by a tuple -/
theorem ss_movT {i k j : Nat} {x y : Str} {a b : Expr} {g : Me Val} {px py pt : Pos} {kt k2 pt2} (hc : X.calm = true) (hN : X.N.Nodup) (hi : X.N[i]? = some x) (hk : X.N[k]? = some y)
    (hx : Loc X.env.scope x) (hy : Loc X.env.scope y) (ha : DE X B a (nameM j)) (hb : DE X B b g) (hs : swapsWithSole [.Tuple [.Name x px, .Name y py] kt pt] (.Tuple [a, b] k2 pt2) pos.line X.env = pure false := by rfl) (hw : swappedStores [.Tuple [.Name x px, .Name y py] kt pt] (.Tuple [a, b] k2 pt2) X.env = pure none := by rfl)
    (hf1 : X.fn x = true ∨ X.env.scope.names.lookup x = some .local := by first | exact .inl rfl | exact .inr rfl) (hf2 : X.fn y = true ∨ X.env.scope.names.lookup y = some .local := by first | exact .inl rfl | exact .inr rfl)
    (h0 : (assignEach [.Tuple [.Name x px, .Name y py] kt pt] X.env).map (·.2) = [assign (.Tuple [.Name x px, .Name y py] kt pt) X.env] := by rfl)
    (hn : (assignEach [.Name x px, .Name y py] X.env).length = 2 := by rfl) (hst : (assignEach [.Name x px, .Name y py] X.env).findIdx? (·.1) = none := by rfl)
    (hq1 : (assignEach [.Name x px, .Name y py] X.env).map (·.2) = assign (.Name x px) X.env :: (assignEach [.Name y py] X.env).map (·.2) := by rfl) (hq2 : (assignEach [.Name y py] X.env).map (·.2) = assign (.Name y py) X.env :: (assignEach [] X.env).map (·.2) := by rfl)
    (h1 : starEach [a, b] X.env = (false, eval a X.env) :: starEach [b] X.env := by rfl) (h2 : starEach [b] X.env = (false, eval b X.env) :: starEach [] X.env := by rfl) :
    SS X B (.Assign [.Tuple [.Name x px, .Name y py] kt pt] (.Tuple [a, b] k2 pt2) pos) (movP i k j g) := PS.weak (ps_asg (pe_tup (pa_cons ha (pa_cons hb pa_nil h2) h1)) (pg_tup hc (pgs_cons (pg_name hN hi hx hf1) (pgs_cons (pg_name hN hk hy hf2) pgs_nil hq2) hq1) hn hst) hs hw h0) fun E σ H q => by
  obtain ⟨G, δ, fl, δ', R, e, kk⟩ := q
  unfold movP at e
  split at e
  · rename_i b0 d0 q0
    split at e
    · rename_i v δ1 hg
      split at e
      · rename_i d q1
        obtain ⟨δ2, e2, e⟩ := Option.bind_eq_some_iff.mp e
        obtain ⟨δ3, e3, e⟩ := Option.bind_eq_some_iff.mp e
        cases e
        refine ⟨G, δ, .sl j, δ, R, (by unfold nameM; rw [q0]), fun u G1 H1 s1 R1 v1 => ?_⟩
        refine ⟨G1, δ, .fz v, δ1, R1, hg, fun u2 G2 H2 s2 R2 v2 => ?_⟩
        refine ⟨by rw [sizeLine_eq]; simp, fun p n => ⟨p, _, rfl, .inl (.inl upd_same), rfl, _, _, rfl, _, _, rfl, rfl, ?_⟩⟩
        obtain ⟨a, ea, rv⟩ := R2.taken q1
        have v1 : σ[j]? = some (some u) := v1
        rw [ea] at v1
        cases v1
        have R3 := ((R2.drop j).set rv e2).set (r := .fz v) v2 e3
        have x := Ex.push R3.same (.tup [.ref a, u2]) n
        exact kk _ G2 _ (s1.trans s2) (R3.ex x)
      · cases e
    · cases e
  · cases e
theorem ss_par3T {i j k : Nat} {x y z : Str} {a : Expr} {m n : Int} {f : Me Val} {px py pz pt p1 p2 : Pos} {kt k2 pt2 t1 t2} (hc : X.calm = true) (hN : X.N.Nodup) (hi : X.N[i]? = some x) (hj : X.N[j]? = some y) (hk : X.N[k]? = some z)
    (hx : Loc X.env.scope x) (hy : Loc X.env.scope y) (hz : Loc X.env.scope z) (ha : DE X B a f)
    (hs : swapsWithSole [.Tuple [.Name x px, .Name y py, .Name z pz] kt pt] (.Tuple [a, .Constant (.int m) t1 p1, .Constant (.int n) t2 p2] k2 pt2) pos.line X.env = pure false := by rfl) (hw : swappedStores [.Tuple [.Name x px, .Name y py, .Name z pz] kt pt] (.Tuple [a, .Constant (.int m) t1 p1, .Constant (.int n) t2 p2] k2 pt2) X.env = pure none := by rfl)
    (hf1 : X.fn x = true ∨ X.env.scope.names.lookup x = some .local := by first | exact .inl rfl | exact .inr rfl) (hf2 : X.fn y = true ∨ X.env.scope.names.lookup y = some .local := by first | exact .inl rfl | exact .inr rfl) (hf3 : X.fn z = true ∨ X.env.scope.names.lookup z = some .local := by first | exact .inl rfl | exact .inr rfl)
    (h0 : (assignEach [.Tuple [.Name x px, .Name y py, .Name z pz] kt pt] X.env).map (·.2) = [assign (.Tuple [.Name x px, .Name y py, .Name z pz] kt pt) X.env] := by rfl)
    (hn : (assignEach [.Name x px, .Name y py, .Name z pz] X.env).length = 3 := by rfl) (hst : (assignEach [.Name x px, .Name y py, .Name z pz] X.env).findIdx? (·.1) = none := by rfl)
    (hq1 : (assignEach [.Name x px, .Name y py, .Name z pz] X.env).map (·.2) = assign (.Name x px) X.env :: (assignEach [.Name y py, .Name z pz] X.env).map (·.2) := by rfl) (hq2 : (assignEach [.Name y py, .Name z pz] X.env).map (·.2) = assign (.Name y py) X.env :: (assignEach [.Name z pz] X.env).map (·.2) := by rfl) (hq3 : (assignEach [.Name z pz] X.env).map (·.2) = assign (.Name z pz) X.env :: (assignEach [] X.env).map (·.2) := by rfl)
    (h1 : starEach [a, .Constant (.int m) t1 p1, .Constant (.int n) t2 p2] X.env = (false, eval a X.env) :: starEach [.Constant (.int m) t1 p1, .Constant (.int n) t2 p2] X.env := by rfl)
    (h2 : starEach [.Constant (.int m) t1 p1, .Constant (.int n) t2 p2] X.env = (false, eval (.Constant (.int m) t1 p1) X.env) :: starEach [.Constant (.int n) t2 p2] X.env := by rfl)
    (h3 : starEach [.Constant (.int n) t2 p2] X.env = (false, eval (.Constant (.int n) t2 p2) X.env) :: starEach [] X.env := by rfl) :
    SS X B (.Assign [.Tuple [.Name x px, .Name y py, .Name z pz] kt pt] (.Tuple [a, .Constant (.int m) t1 p1, .Constant (.int n) t2 p2] k2 pt2) pos) (par3C i j k f m n) := PS.weak (ps_asg (pe_tup (pa_cons ha (pa_cons pe_int (pa_cons pe_int pa_nil h3) h2) h1)) (pg_tup hc (pgs_cons (pg_name hN hi hx hf1) (pgs_cons (pg_name hN hj hy hf2) (pgs_cons (pg_name hN hk hz hf3) pgs_nil hq3) hq2) hq1) hn hst) hs hw h0) fun E σ H q => by
  obtain ⟨G, δ, fl, δ', R, e, kk⟩ := q
  unfold par3C at e
  split at e
  · rename_i v δ1 hg
    obtain ⟨δ2, e2, e⟩ := Option.bind_eq_some_iff.mp e
    obtain ⟨δ3, e3, e⟩ := Option.bind_eq_some_iff.mp e
    obtain ⟨δ4, e4, e⟩ := Option.bind_eq_some_iff.mp e
    cases e
    refine ⟨G, δ, v, δ1, R, hg, fun u G1 H1 s1 R1 v1 => ?_⟩
    refine ⟨by rw [sizeLine_eq]; simp, fun p nn => ⟨p, _, rfl, .inl (.inl upd_same), rfl, _, _, rfl, _, _, rfl, _, _, rfl, rfl, ?_⟩⟩
    have R2 := R1.set v1 e2
    have R3 := R2.set (r := .fz (.int m)) (.int m) e3
    have R4 := R3.set (r := .fz (.int n)) (.int n) e4
    have x := Ex.push R4.same (.tup [u, .int m, .int n]) nn
    exact kk _ G1 _ s1 (R4.ex x)
  · cases e
/-! ### a list of one's own is lent while a flat value is reckoned -/
def othersFlat (j : Nat) (δ : DS) : Bool := (List.range δ.length).all fun i => decide (i = j) || (match δ[i]? with
  | some (.own _ (.list ds)) => ds.all flat
  | some (.own _ _) => false
  | _ => true)
open Classical in
noncomputable def lendM (j : Nat) (f : Me Val) : Me Val := fun δ => match δ[j]? with
  | some (.own false _) => (match f (frz j δ) with
    | some (v, δ1) => if δ1 = frz j δ ∧ flatW v = true ∧ othersFlat j δ = true then some (v, δ) else none
    | none => none)
  | _ => none
theorem RelS.unlend {K : Fg} {G G' G2 H H2 : Hp} {δ : DS} {σ : L2.St} {j : Nat} (R : RelS K B G H δ σ) (R1 : RelS K B G' H (DL.frz j δ) σ) (s1 : Same G G') (s2 : Same G' G2) (R2 : RelS K B G2 H2 (DL.frz j δ) σ) (ho : othersFlat j δ = true) (hj : ∃ d, δ[j]? = some (.own false d)) : RelS K B G H2 δ σ := by
  have fz_ne : ∀ i, i ≠ j → (DL.frz j δ)[i]? = δ[i]? := fun i hi => by
    unfold DL.frz
    split
    · exact List.getElem?_set_ne (Ne.symm hi)
    · rfl
  refine ⟨R.len, (s1.trans s2).trans R2.same, R.g0, R.nw, R2.frame, R2.dom, R.iod, R.dat, fun i b d q => ?_, R.inj⟩
  obtain ⟨a, e1, n, m, rt⟩ := R.own i b d q
  by_cases hi : i = j
  · subst hi
    cases b with
    | true =>
      obtain ⟨d0, q0⟩ := hj
      rw [q] at q0
      cases q0
    | false =>
      have hl : i < δ.length := (List.getElem?_eq_some_iff.mp q).1
      have q2 : (DL.frz i δ)[i]? = some (.dat d) := by
        unfold DL.frz
        rw [q]
        exact List.getElem?_set_self hl
      obtain ⟨v, ev, t⟩ := R1.dat i d q2
      rw [e1] at ev
      cases ev
      refine ⟨a, e1, n, m, ?_⟩
      cases rt with
      | lst hh tt =>
        cases t with
        | lst h1 t1 =>
          have h3 := R1.same _ _ h1
          rw [hh] at h3
          cases h3
          exact .lst (R2.same _ _ (s2 _ _ h1)) tt
      | dic hh tt =>
        cases t with
        | dic h1 t1 =>
          have h3 := R1.same _ _ h1
          rw [hh] at h3
          cases h3
          exact .dic (R2.same _ _ (s2 _ _ h1)) tt
        | scr h1 => exact (TrKV.key tt _ List.mem_cons_self rfl).elim
  · obtain ⟨a2, e2, n2, m2, rt2⟩ := R2.own i b d (by rw [fz_ne i hi]; exact q)
    rw [e1] at e2
    cases e2
    have hl : i < δ.length := (List.getElem?_eq_some_iff.mp q).1
    have hf := List.all_eq_true.mp ho i (List.mem_range.mpr hl)
    rw [decide_eq_false hi, Bool.false_or, q] at hf
    refine ⟨a, e1, n, m, ?_⟩
    cases rt2 with
    | lst h2 t2 => exact .lst h2 (t2.flats hf)
    | dic h2 t2 => cases hf
theorem RVs_flat {K : Fg} {G G2 H2 : Hp} {δ δ2 : DS} {σ : L2.St} {v : V} {r : Val} (s : Same G G2) (R : RelS K B G H2 δ σ) (h : RV K B G2 H2 δ2 σ v r) (hf : flatW r = true) (hu : ∀ a, v = .ref a → G2 a = none → ∀ (i : Nat) (b : Bool) (d' : D), δ[i]? = some (.own b d') → σ[i]? ≠ some (some (V.ref a))) : RV K B G H2 δ σ v r := by
  cases r with
  | fz d => exact Tr.flat (show Tr K G2 v d from h) hf
  | sl i => cases hf
  | ow d =>
    obtain ⟨a, rfl, n, n0, rt, _⟩ := h
    refine ⟨a, rfl, s.free n, n0, ?_, hu a rfl n⟩
    cases rt with
    | lst h t => exact .lst h (t.flats hf)
    | dic h t => cases hf
theorem lend_of {K : Fg} {B : Bs} (j : Nat) {f : Me Val} : ∀ σ H Q, tOf K B (lendM j f) σ H Q → tOf K B f σ H Q := fun σ H Q q => by
  obtain ⟨G, δ, r, δ', R, e, k⟩ := q
  unfold lendM at e
  split at e
  · rename_i d0 q0
    split at e
    · rename_i v δ1 hg
      split at e
      · rename_i hc
        obtain ⟨h1, h2, h3⟩ := hc
        cases e
        obtain ⟨G', s1, R1⟩ := R.frz j
        refine ⟨G', DL.frz j δ, _, _, R1, hg, fun u G2 H2 s2 R2 v2 => ?_⟩
        rw [h1] at R2 v2
        have R3 := R.unlend R1 s1 s2 R2 h3 ⟨d0, q0⟩
        refine k u G H2 (Same.refl _) R3 (RVs_flat (s1.trans s2) R3 v2 h2 fun a ea na i b d' qi z => ?_)
        by_cases hi : i = j
        · subst hi
          rw [q0] at qi
          have hl : i < δ.length := (List.getElem?_eq_some_iff.mp q0).1
          obtain ⟨w, ew, t⟩ := R1.dat i d0 (by
            unfold DL.frz
            rw [q0]
            exact List.getElem?_set_self hl)
          rw [z] at ew
          cases ew
          have : ∃ o, G' a = some o := by
            obtain ⟨a3, e3, n3, m3, rt⟩ := R.own i false d0 q0
            rw [z] at e3
            cases e3
            cases t with
            | lst h1 t1 => exact ⟨_, h1⟩
            | dic h1 t1 => exact ⟨_, h1⟩
            | tup h1 t1 => cases rt
            | scr h1 =>
              cases rt with
              | dic hh tt => exact (TrKV.key tt _ List.mem_cons_self rfl).elim
          obtain ⟨o, ho⟩ := this
          rw [s2 _ _ ho] at na
          cases na
        · obtain ⟨a3, e3, n3, m3, rt⟩ := R2.own i b d' (by
            unfold DL.frz
            rw [q0]
            rw [List.getElem?_set_ne (Ne.symm hi)]
            exact qi)
          obtain ⟨a4, ea4, -, -, -, hne⟩ : ∃ a4, u = .ref a4 ∧ True ∧ True ∧ True ∧ (∀ (i : Nat) (b : Bool) (d' : D), (DL.frz j δ)[i]? = some (.own b d') → σ[i]? ≠ some (some (V.ref a4))) := by
            cases r with
            | ow d =>
              obtain ⟨a4, h4, _, _, _, h5⟩ := v2
              exact ⟨a4, h4, trivial, trivial, trivial, h5⟩
            | fz d =>
              exfalso
              subst ea
              have v2 : Tr K G2 (.ref a) d := v2
              cases v2 <;> cases h2
            | sl i => cases h2
          rw [ea] at ea4
          cases ea4
          exact hne i b d' (by
            unfold DL.frz
            rw [q0]
            rw [List.getElem?_set_ne (Ne.symm hi)]
            exact qi) z
      · cases e
    · cases e
  · cases e
theorem de_lend (j : Nat) {e : Expr} {f : Me Val} (he : DE X B e f) : DE X B e (lendM j f) := PE.weak he (lend_of j)
theorem ss_setLcL (j : Nat) {i : Nat} {y : Str} {py spos : Pos} {elt tg iter : Expr} {ifs : List Expr} {scope : Scope} {own : List (Str × Nat)} {ws : List Nat} {fi : Me (List D)} {gt : Tg} {ft : Me Bool} {fe : Me Val} (hc : X.calm = true) (hN : X.N.Nodup) (hy : X.N[i]? = some y) (hyl : X.env.scope.names.lookup y = some .local)
    (hsw : swapsWith (.ListComp elt [⟨tg, iter, ifs, 0⟩] scope pos) (some (.Name y py)) spos.line X.env = pure true) (hi : DI X B tg iter fi) (ok : BlkOk X.N X.env.scope scope own)
    (hw : ∀ i ∈ ws, i ∈ own.map (·.2))
    (hg : ∀ (s : Shared) (H : Hp) (C : Addr) (cl : List (Str × Addr)) (fp : List Addr) (B : Bs), DG (X.blk s H scope (compEnvC scope cl C X.env) fp) B ws tg gt)
    (ht : ∀ (s : Shared) (H : Hp) (C : Addr) (cl : List (Str × Addr)) (fp : List Addr), DTs (X.blk s H scope (compEnvC scope cl C X.env) fp) ifs ft)
    (he : ∀ (s : Shared) (H : Hp) (C : Addr) (cl : List (Str × Addr)) (fp : List Addr) (B : Bs), DE (X.blk s H scope (compEnvC scope cl C X.env) fp) B elt fe)
    (hs : ∀ x, foldedSetIterable iter X.env x = pure x := by intro _; rfl) :
    SS X B (.Assign [.Name y py] (.ListComp elt [⟨tg, iter, ifs, 0⟩] scope pos) spos) (setS i (lendM j (compM fi gt ft fe (own.map (·.2))))) :=
  PS.weak (ps_setLc hc hN hy hyl hsw hi ok (fun s H C cl fp => pg_E (hg s H C cl fp)) ht (fun s H C cl fp => pe_E (he s H C cl fp)) hs) fun E σ H q => by
    refine lc_of (B := B) (gt := gt) (ft := ft) (fe := fe) hw σ H _ (lend_of j σ H _ ?_)
    obtain ⟨G, δ, fl, δ', R, e, k⟩ := q
    unfold setS at e
    cases hg : lendM j (compM fi gt ft fe (own.map (·.2))) δ with
    | none => rw [hg] at e; cases e
    | some p =>
      obtain ⟨v, δ1⟩ := p
      rw [hg] at e
      obtain ⟨δ2, e2, e3⟩ := Option.bind_eq_some_iff.mp e
      cases e3
      exact ⟨G, δ, v, δ1, R, hg, fun u G1 H1 s1 R1 v1 => k _ G1 H1 s1 (R1.set v1 e2)⟩
end
end DL
end
section
set_option maxRecDepth 100000
set_option maxHeartbeats 1000000
namespace DL
open PySem PySem.Spec L2

/-! ### loops as mathematics -/
theorem compL_gen {gt : Tg} {ft : Me Bool} {fe : Me Val} {vs : List Nat} {δ0 : DS} (g : D → Option D) : ∀ {ds : List D}, (∀ d ∈ ds, ∃ δd, gt (.fz d) δ0 = some δd ∧ ((g d = none ∧ ft δd = some (false, δd)) ∨ ∃ e v, g d = some e ∧ ft δd = some (true, δd) ∧ fe δd = some (v, δd) ∧ treeV v = some e) ∧ wipeD δd vs = δ0) →
    compL gt ft fe vs ds δ0 = some (ds.filterMap g, δ0)
  | [], _ => rfl
  | d :: r, h => by
    obtain ⟨δd, h1, h2, h3⟩ := h d List.mem_cons_self
    have ih := compL_gen g (ds := r) fun x hx => h x (List.mem_cons_of_mem _ hx)
    rcases h2 with ⟨hg, hf⟩ | ⟨e, v, hg, hf, he, hv⟩
    · simp only [compL, h1, Option.bind_some, hf, h3, ih, List.filterMap_cons, hg]
    · simp only [compL, h1, Option.bind_some, hf, he, hv, h3, ih, List.filterMap_cons, hg]
/-- a comprehension that changes nothing: its target's slots are vs -/
theorem compM_gen {fi : Me (List D)} {gt : Tg} {ft : Me Bool} {fe : Me Val} {vs : List Nat} {δ : DS} {ds : List D} (g : D → Option D) (hi : fi δ = some (ds, δ)) (hp : vs.all (plainAt δ) = true) (hb : backD δ (wipeD δ vs) vs = δ) (hz : szOk (ds.filterMap g).length = true)
    (h : ∀ d ∈ ds, ∃ δd, gt (.fz d) (wipeD δ vs) = some δd ∧ ((g d = none ∧ ft δd = some (false, δd)) ∨ ∃ e v, g d = some e ∧ ft δd = some (true, δd) ∧ fe δd = some (v, δd) ∧ treeV v = some e) ∧ wipeD δd vs = wipeD δ vs) :
    compM fi gt ft fe vs δ = some (.ow (.list (ds.filterMap g)), δ) := by
  unfold compM
  rw [hi]
  show (if _ then _ else _) = _
  rw [if_pos hp, compL_gen g h]
  show (if _ then _ else _) = _
  rw [if_pos hz, hb]
/-- one that changes the frame, told by what holds between its turns -/
theorem compL_inv {gt : Tg} {ft : Me Bool} {fe : Me Val} {vs : List Nat} (I : DS → Prop) (P : D → Prop) (h : ∀ d δ, I δ → ∃ δ1 δ2 v e δ3, gt (.fz d) δ = some δ1 ∧ ft δ1 = some (true, δ2) ∧ fe δ2 = some (v, δ3) ∧ treeV v = some e ∧ P e ∧ I (wipeD δ3 vs)) :
    ∀ (ds : List D) (δ : DS), I δ → ∃ es δ', compL gt ft fe vs ds δ = some (es, δ') ∧ es.length = ds.length ∧ (∀ e ∈ es, P e) ∧ I δ'
  | [], δ, i => ⟨[], δ, rfl, rfl, (by intro e he; cases he), i⟩
  | d :: r, δ, i => by
    obtain ⟨δ1, δ2, v, e, δ3, h1, h2, h3, h4, h5, h6⟩ := h d δ i
    obtain ⟨es, δ', e1, e2, e3, e4⟩ := compL_inv I P h r _ h6
    refine ⟨e :: es, δ', ?_, by simp [e2], fun x hx => ?_, e4⟩
    · simp only [compL, h1, Option.bind_some, h2, h3, h4, e1]
    · rcases List.mem_cons.mp hx with q | q
      · rw [q]; exact h5
      · exact e3 x q
theorem forL_inv {gt : Tg} {body : Ss} (I : List D → DS → Prop) : ∀ (ds done : List D) (δ : DS), (∀ done d rest δ, done ++ d :: rest = done ++ ds ∨ True → d ∈ ds → I done δ → ∃ δ1 δ2, gt (.fz d) δ = some δ1 ∧ (body δ1 = some (.nx, δ2) ∨ body δ1 = some (.ct, δ2)) ∧ I (done ++ [d]) δ2) → I done δ → ∃ δ', forL gt body ds δ = some (.nx, δ') ∧ I (done ++ ds) δ'
  | [], done, δ, _, i => ⟨δ, rfl, by simpa using i⟩
  | d :: r, done, δ, h, i => by
    obtain ⟨δ1, δ2, h1, h2, h3⟩ := h done d r δ (.inr trivial) List.mem_cons_self i
    obtain ⟨δ', e1, e2⟩ := forL_inv I r (done ++ [d]) δ2 (fun dn x rest δ _ hx j => h dn x rest δ (.inr trivial) (List.mem_cons_of_mem _ hx) j) h3
    refine ⟨δ', ?_, by simpa using e2⟩
    rcases h2 with h2 | h2 <;> simp only [forL, h1, Option.bind_some, h2, e1]
/-- a search that hands back v at the first item that is not p -/
theorem forL_all {gt : Tg} {body : Ss} {v : Val} (I : DS → Prop) (p : D → Bool) : ∀ (ds : List D) (δ : DS), (∀ d ∈ ds, ∀ δ, I δ → ∃ δ1, gt (.fz d) δ = some δ1 ∧ ((p d = true ∧ ∃ δ2, (body δ1 = some (.nx, δ2) ∨ body δ1 = some (.ct, δ2)) ∧ I δ2) ∨ (p d = false ∧ ∃ δ2, body δ1 = some (.rt v, δ2)))) → I δ →
    (ds.all p = true ∧ ∃ δ', forL gt body ds δ = some (.nx, δ') ∧ I δ') ∨ (ds.all p = false ∧ ∃ δ', forL gt body ds δ = some (.rt v, δ'))
  | [], δ, _, i => .inl ⟨rfl, δ, rfl, i⟩
  | d :: r, δ, h, i => by
    obtain ⟨δ1, h1, h2⟩ := h d List.mem_cons_self δ i
    rcases h2 with ⟨hp, δ2, hb, i2⟩ | ⟨hp, δ2, hb⟩
    · rcases forL_all I p r δ2 (fun x hx => h x (List.mem_cons_of_mem _ hx)) i2 with ⟨a, δ', b, c⟩ | ⟨a, δ', b⟩
      · refine .inl ⟨by simp [hp, a], δ', ?_, c⟩
        rcases hb with hb | hb <;> simp only [forL, h1, Option.bind_some, hb, b]
      · refine .inr ⟨by simp [hp, a], δ', ?_⟩
        rcases hb with hb | hb <;> simp only [forL, h1, Option.bind_some, hb, b]
    · exact .inr ⟨by simp [hp], δ2, by simp only [forL, h1, Option.bind_some, hb]⟩
theorem whileN_inv {c : Me Bool} {body : Ss} (I J : DS → Prop) (μ : DS → Nat) (h : ∀ δ, I δ → (∃ δ1, c δ = some (false, δ1) ∧ J δ1) ∨ ∃ δ1 δ2, c δ = some (true, δ1) ∧ (body δ1 = some (.nx, δ2) ∨ body δ1 = some (.ct, δ2)) ∧ I δ2 ∧ μ δ2 < μ δ) :
    ∀ (n : Nat) (δ : DS), I δ → μ δ < n → ∃ δ', whileN c body n δ = some (.nx, δ') ∧ J δ'
  | 0, _, _, hn => absurd hn (Nat.not_lt_zero _)
  | n + 1, δ, i, hn => by
    rcases h δ i with ⟨δ1, h1, h2⟩ | ⟨δ1, δ2, h1, h2, h3, h4⟩
    · exact ⟨δ1, by simp only [whileN, h1], h2⟩
    · obtain ⟨δ', e1, e2⟩ := whileN_inv I J μ h n δ2 h3 (by omega)
      refine ⟨δ', ?_, e2⟩
      rcases h2 with h2 | h2 <;> simp only [whileN, h1, h2, e1]
/-! ### items -/
theorem atI_last1 {α : Type} (xs : List α) (x : α) : atI (xs ++ [x]) (-1) = some x := by
  unfold atI ixN
  rw [if_neg (by omega), if_pos (by simp only [List.length_append, List.length_cons, List.length_nil]; omega)]
  show (xs ++ [x])[((-1 : Int) + ((xs ++ [x]).length : Nat)).toNat]? = _
  have e : ((-1 : Int) + ((xs ++ [x]).length : Nat)).toNat = xs.length := by
    simp only [List.length_append, List.length_cons, List.length_nil]
    omega
  rw [e]
  simp
theorem atI_natI {α : Type} (xs : List α) (i : Nat) (h : i < xs.length) : atI xs (i : Int) = xs[i]? := by
  unfold atI ixN
  rw [if_pos (by omega), if_pos (by omega)]
  simp
theorem last_split {α : Type} : ∀ {xs : List α}, xs ≠ [] → ∃ ys y, xs = ys ++ [y]
  | [], h => absurd rfl h
  | x :: r, _ => ⟨(x :: r).dropLast, (x :: r).getLast (List.cons_ne_nil _ _), (List.dropLast_concat_getLast _).symm⟩
abbrev IL (a : List Int) : D := .list (a.map .int)
/-! ### == of what is known -/
theorem shaped_int (i : Int) : SeqAt.shaped (.int i) = true := by unfold SeqAt.shaped; simp [PyData.canLay0, PyData.depth]
theorem eqD_int (i j : Int) : eqD (.int i) (.int j) = some (.fz (.bool (decide (i = j)))) := by
  unfold eqD
  rw [shaped_int, shaped_int, if_pos (by rfl)]
  congr 3
theorem neD_int (i j : Int) : neD (.int i) (.int j) = some (.fz (.bool (!decide (i = j)))) := by
  unfold neD
  rw [shaped_int, shaped_int, if_pos (by rfl)]
  congr 4
theorem lay_ints : ∀ a : List Int, PyData.canLayAll0 (a.map PyData.int) = true
  | [] => by simp [PyData.canLayAll0]
  | _ :: r => by simp [PyData.canLayAll0, PyData.canLay0, lay_ints r]
theorem depth_ints : ∀ a : List Int, PyData.depthAll (a.map PyData.int) = 0
  | [] => by simp [PyData.depthAll]
  | _ :: r => by simp [PyData.depthAll, PyData.depth, depth_ints r]
theorem lay_rows : ∀ a : List (List Int), PyData.canLayAll0 (a.map IL) = true
  | [] => by simp [PyData.canLayAll0]
  | x :: r => by simp [PyData.canLayAll0, PyData.canLay0, lay_ints x, lay_rows r]
theorem depth_rows : ∀ a : List (List Int), PyData.depthAll (a.map IL) ≤ 1
  | [] => by simp [PyData.depthAll]
  | x :: r => by
    have := depth_rows r
    simp [PyData.depthAll, PyData.depth, depth_ints x]
    omega
theorem shaped_IL (a : List Int) : SeqAt.shaped (IL a) = true := by
  unfold SeqAt.shaped
  simp [PyData.canLay0, PyData.depth, lay_ints a, depth_ints a]
theorem shaped_rows (a : List (List Int)) : SeqAt.shaped (.list (a.map IL)) = true := by
  have := depth_rows a
  unfold SeqAt.shaped
  simp [PyData.canLay0, PyData.depth, lay_rows a]
  omega
theorem shaped_nil : SeqAt.shaped (.list []) = true := shaped_IL []
theorem eqv_nil (ds : List D) : PyData.eqv (.list ds) (.list []) = ds.isEmpty := by
  cases ds <;> simp [PyData.eqv, PyData.eqvAll]
theorem eqD_nil {ds : List D} (h : SeqAt.shaped (.list ds) = true) : eqD (.list ds) (.list []) = some (.fz (.bool ds.isEmpty)) := by
  unfold eqD
  rw [h, shaped_nil, if_pos (by rfl), eqv_nil]
theorem neD_nil {ds : List D} (h : SeqAt.shaped (.list ds) = true) : neD (.list ds) (.list []) = some (.fz (.bool (!ds.isEmpty))) := by
  unfold neD
  rw [h, shaped_nil, if_pos (by rfl), eqv_nil]
mutual
theorem eqv_refl : (d : PyData) → d.canLay0 = true → PyData.eqv d d = true
  | .none, _ => by simp [PyData.eqv]
  | .bool b, _ => by simp [PyData.eqv]
  | .int i, _ => by simp [PyData.eqv]
  | .str x, _ => by simp [PyData.eqv]
  | .list xs, h => by simp only [PyData.eqv]; exact eqvAll_refl xs (by simpa [PyData.canLay0] using h)
  | .tuple xs, h => by simp only [PyData.eqv]; exact eqvAll_refl xs (by simpa [PyData.canLay0] using h)
  | .dict _, h => by simp [PyData.canLay0] at h
theorem eqvAll_refl : ∀ ds : List PyData, PyData.canLayAll0 ds = true → PyData.eqvAll ds ds = true
  | [], _ => by simp [PyData.eqvAll]
  | d :: r, h => by
    have h' : d.canLay0 = true ∧ PyData.canLayAll0 r = true := by simpa [PyData.canLayAll0] using h
    simp [PyData.eqvAll, eqv_refl d h'.1, eqvAll_refl r h'.2]
end
theorem neD_refl {d : D} (h : SeqAt.shaped d = true) : neD d d = some (.fz (.bool false)) := by
  unfold neD
  rw [h, if_pos (by rfl), eqv_refl d (SeqAt.canLay_of_shaped h)]
  rfl
theorem eqD_refl {d : D} (h : SeqAt.shaped d = true) : eqD d d = some (.fz (.bool true)) := by
  unfold eqD
  rw [h, if_pos (by rfl), eqv_refl d (SeqAt.canLay_of_shaped h)]
end DL
end
section
set_option maxRecDepth 100000
set_option maxHeartbeats 1000000
/-! more about the data layer's functions: what all laws want -/
namespace DL
open PySem PySem.Spec L2
def seq? : D → Option (List D)
  | .list l => some l
  | .tuple l => some l
  | _ => none
def itemsE (d : D) : List D := (seq? d).getD []
def ty0 (d : D) : Prop := ∃ T, tyName d = some T
def isI : D → Bool
  | .int _ => true
  | _ => false
theorem isT_int {d : D} {T : String} (h : tyName d = some T) : (isT T "int" && !isT T "bool") = isI d := by
  unfold tyName at h
  split at h <;> first | (cases h; decide) | (cases h; rfl) | cases h
theorem isT_seq {d : D} {T : String} (h : tyName d = some T) : (isT T "list" || isT T "tuple") = (seq? d).isSome := by
  unfold tyName at h
  split at h <;> first | (cases h; decide) | (cases h; rfl) | cases h
theorem seq_cases {d : D} {l : List D} (h : seq? d = some l) : d = .list l ∨ d = .tuple l := by
  unfold seq? at h
  split at h <;> cases h
  · exact .inl rfl
  · exact .inr rfl
theorem itemsE_seq {x : D} {l : List D} (h : seq? x = some l) : itemsE x = l := by unfold itemsE; rw [h]; rfl
theorem listD_seq {x : D} {l : List D} (h : seq? x = some l) : listD [x] = some (.ow (.list l)) := by rcases seq_cases h with rfl | rfl <;> rfl
theorem tupleD_seq {x : D} {l : List D} (h : seq? x = some l) : tupleD [x] = some (.fz (.tuple l)) := by rcases seq_cases h with rfl | rfl <;> rfl
theorem len_seq {d : D} {l : List D} (h : seq? d = some l) : lenD [d] = some (.fz (.int l.length)) := by rcases seq_cases h with rfl | rfl <;> rfl
theorem ix_last {d : D} {ys : List D} {y : D} (h : seq? d = some (ys ++ [y])) : ixD d (.int (-1)) = some (.fz y) := by
  rcases seq_cases h with rfl | rfl <;> (unfold ixD; simp only [atI_last1]; rfl)
theorem ix_nat {d : D} {l : List D} (h : seq? d = some l) {i : Nat} {y : D} (hy : l[i]? = some y) : ixD d (.int (i : Nat)) = some (.fz y) := by
  have := atI_natI l i (List.getElem?_eq_some_iff.mp hy).1
  rcases seq_cases h with rfl | rfl <;> (unfold ixD; simp only [this, hy]; rfl)
theorem items_seq {d : D} {l : List D} (h : seq? d = some l) : itemsOf (.fz d) = some l := by rcases seq_cases h with rfl | rfl <;> rfl
theorem boolsOf_isI (l : List D) : boolsOf (l.map fun x => .bool (isI x)) = some (l.map isI) := by
  have := boolsOf_map (l.map isI)
  rwa [List.map_map] at this
theorem intsOf_im (l : List Int) : intsOf (l.map .int) = some l := intsOf_map l
theorem szOkL {n : Nat} (h : n ≤ 16777216) : szOk n = true := decide_eq_true h
theorem szOk0 : szOk 0 = true := rfl
theorem szOk1 : szOk 1 = true := rfl
theorem szOk2 : szOk 2 = true := rfl
theorem mulOk_lt {i j : Int} (hi : i.natAbs < 2 ^ 200) (hj : j.natAbs < 2 ^ 200) : mulOk i j = true := by
  have key : ∀ n : Nat, n < 2 ^ 200 → n.log2 ≤ 200 := fun n h => by
    by_cases h0 : n = 0
    · subst h0; decide
    · have := (Nat.log2_lt h0).mpr h
      omega
  unfold mulOk
  have := key _ hi
  have := key _ hj
  exact decide_eq_true (by omega)
theorem mulD_lt {i j : Int} (hi : i.natAbs < 2 ^ 200) (hj : j.natAbs < 2 ^ 200) : mulD (.int i) (.int j) = some (.fz (.int (i * j))) := by
  show (if _ then _ else _) = _
  rw [if_pos (mulOk_lt hi hj)]
theorem modD_pos (i : Int) {j : Int} (h : 0 < j) : modD (.int i) (.int j) = some (.fz (.int (i % j))) := by
  unfold modD intB
  simp only [show decide (j ≠ 0) = true from decide_eq_true (by omega), if_true, Option.map_some, Int.fmod_eq_emod_of_nonneg _ (Int.le_of_lt h)]
theorem fdivD_lt {i j : Int} (h : j ≠ 0) (hj : j.natAbs < 2 ^ 200) : fdivD (.int i) (.int j) = some (.fz (.int (i.fdiv j))) := by
  have h1 : j.natAbs.log2 < 200 := (Nat.log2_lt (by omega)).mpr hj
  unfold fdivD intB
  simp only [show (decide (j ≠ 0) && decide (j.natAbs.log2 < 9000)) = true from by rw [decide_eq_true h, decide_eq_true (by omega)]; rfl, if_true, Option.map_some]
theorem ixL0 (a b : D) : ixD (.list [a, b]) (.int 0) = some (.fz a) := rfl
theorem ixL1 (a b : D) : ixD (.list [a, b]) (.int 1) = some (.fz b) := rfl
theorem ixN20 : ixN 2 0 = some 0 := rfl
theorem ixN21 : ixN 2 1 = some 1 := rfl
theorem powE : powD (.int 10) (.int 18) = some (.fz (.int 1000000000000000000)) := rfl
theorem rOk_small {j : Int} (h : 0 ≤ j ∧ j < 1000) : rOk j = true := by
  unfold rOk
  simp only [Bool.and_eq_true, decide_eq_true_eq]
  omega
def plainS (s : Sl) : Prop := s = .un ∨ ∃ x, s = .dat x
theorem forL_cnt {gt : Tg} {body : Ss} (N : Nat) (I : Nat → DS → Prop) : ∀ (ds : List D) (k : Nat) (δ : DS), (∀ k d δ, k < N → I k δ → ∃ δ1 δ2, gt (.fz d) δ = some δ1 ∧ body δ1 = some (.nx, δ2) ∧ I (k + 1) δ2) → k + ds.length ≤ N → I k δ → ∃ δ', forL gt body ds δ = some (.nx, δ') ∧ I (k + ds.length) δ'
  | [], k, δ, _, _, i => ⟨δ, rfl, i⟩
  | d :: r, k, δ, h, hn, i => by
    rw [List.length_cons] at hn
    obtain ⟨δ1, δ2, h1, h2, h3⟩ := h k d δ (by omega) i
    obtain ⟨δ', e1, e2⟩ := forL_cnt N I r (k + 1) δ2 h (by omega) h3
    refine ⟨δ', ?_, ?_⟩
    · simp only [forL, h1, Option.bind_some, h2, e1]
    · rw [List.length_cons, show k + (r.length + 1) = k + 1 + r.length by omega]
      exact e2
/-- a walk over the items l, told by how many are done -/
theorem forL_at {gt : Tg} {body : Ss} (l : List D) (I : Nat → DS → Prop) (h : ∀ k d δ, l[k]? = some d → I k δ → ∃ δ1 δ2, gt (.fz d) δ = some δ1 ∧ (body δ1 = some (.nx, δ2) ∨ body δ1 = some (.ct, δ2)) ∧ I (k + 1) δ2) :
    ∀ (n k : Nat) (δ : DS), n + k = l.length → I k δ → ∃ δ', forL gt body (l.drop k) δ = some (.nx, δ') ∧ I l.length δ'
  | 0, k, δ, e, i => by
    refine ⟨δ, ?_, ?_⟩
    · rw [List.drop_eq_nil_of_le (by omega)]; rfl
    · rw [show l.length = k by omega]; exact i
  | n + 1, k, δ, e, i => by
    have hk : k < l.length := by omega
    obtain ⟨δ1, δ2, h1, h2, h3⟩ := h k _ δ (List.getElem?_eq_getElem hk) i
    obtain ⟨δ', e1, e2⟩ := forL_at l I h n (k + 1) δ2 (by omega) h3
    refine ⟨δ', ?_, e2⟩
    rw [List.drop_eq_getElem_cons hk]
    rcases h2 with h2 | h2 <;> simp only [forL, h1, Option.bind_some, h2, e1]
theorem for_at {fi : Me (List D)} {gt : Tg} {body : Ss} {δ : DS} (l : List D) (I : Nat → DS → Prop) (hi : fi δ = some (l, δ)) (i : I 0 δ) (h : ∀ k d δ, l[k]? = some d → I k δ → ∃ δ1 δ2, gt (.fz d) δ = some δ1 ∧ (body δ1 = some (.nx, δ2) ∨ body δ1 = some (.ct, δ2)) ∧ I (k + 1) δ2) :
    ∃ δ', forS fi gt body δ = some (.nx, δ') ∧ I l.length δ' := by
  obtain ⟨δ', e1, e2⟩ := forL_at l I h l.length 0 δ (by omega) i
  refine ⟨δ', ?_, e2⟩
  unfold forS
  rw [hi]
  simpa using e1
theorem seq_ok {a b : Ss} {δ δ1 : DS} (h : a δ = some (.nx, δ1)) : seqS a b δ = b δ1 := by simp only [seqS, h]
theorem maxOf_some : ∀ {ns : List Int}, ns ≠ [] → ∃ m, maxOf ns = some m
  | [], h => absurd rfl h
  | n :: r, _ => by
    unfold maxOf
    cases maxOf r <;> exact ⟨_, rfl⟩
end DL
end
section
set_option maxRecDepth 100000
set_option maxHeartbeats 1000000
/-! loops and comprehensions told by functions of a state: shorter words -/
namespace DL
open PySem PySem.Spec L2
/-- a slot that may be unset -/
def rw' : Option D → Sl
  | none => .un
  | some d => .dat d
theorem fr_z_un (r : DS) : freeAt (.un :: r) 0 = true := rfl
theorem fr_z_dat (d : D) (r : DS) : freeAt (.dat d :: r) 0 = true := rfl
theorem fr_z_rw (o : Option D) (r : DS) : freeAt (rw' o :: r) 0 = true := by cases o <;> rfl
theorem fr_z_own (d : D) (r : DS) : freeAt (.own false d :: r) 0 = true := rfl
theorem fr_s (s : Sl) (r : DS) (i : Nat) : freeAt (s :: r) (i + 1) = freeAt r i := rfl
/-- one turn of a for -/
def turnF (gt : Tg) (body : Ss) (d : D) (δ : DS) : Option DS := match gt (.fz d) δ with
  | some δ1 => match body δ1 with
    | some (.nx, δ2) => some δ2
    | some (.ct, δ2) => some δ2
    | _ => none
  | none => none
theorem forL_turn {gt : Tg} {body : Ss} {d : D} {δ δ2 : DS} (h : turnF gt body d δ = some δ2) (r : List D) : forL gt body (d :: r) δ = forL gt body r δ2 := by
  unfold turnF at h
  split at h
  · rename_i δ1 e1
    split at h
    · rename_i q e2
      cases h
      simp only [forL, e1, Option.bind_some, e2]
    · rename_i q e2
      cases h
      simp only [forL, e1, Option.bind_some, e2]
    · cases h
  · cases h
/-- a for that folds a state -/
theorem forL_fold {α S ρ : Type} {gt : Tg} {body : Ss} (e : α → D) (fr : S → ρ → DS) (step : S → α → S) (P : Nat → S → Prop) (l : List α)
    (h : ∀ k a s r, l[k]? = some a → P k s → (∃ r', turnF gt body (e a) (fr s r) = some (fr (step s a) r')) ∧ P (k + 1) (step s a)) :
    ∀ (n k : Nat) (s : S) (r : ρ), n + k = l.length → P k s → ∃ r', forL gt body ((l.drop k).map e) (fr s r) = some (.nx, fr ((l.drop k).foldl step s) r') ∧ P l.length ((l.drop k).foldl step s)
  | 0, k, s, r, hn, p => by
    rw [List.drop_eq_nil_of_le (by omega)]
    refine ⟨r, rfl, ?_⟩
    rw [show l.length = k by omega]
    exact p
  | n + 1, k, s, r, hn, p => by
    have hk : k < l.length := by omega
    obtain ⟨⟨r1, h1⟩, h2⟩ := h k _ s r (List.getElem?_eq_getElem hk) p
    obtain ⟨r', e1, e2⟩ := forL_fold e fr step P l h n (k + 1) _ r1 (by omega) h2
    rw [List.drop_eq_getElem_cons hk]
    refine ⟨r', ?_, e2⟩
    rw [List.map_cons, forL_turn h1, e1]
    rfl
theorem for_fold {α S ρ : Type} {fi : Me (List D)} {gt : Tg} {body : Ss} (e : α → D) (fr : S → ρ → DS) (step : S → α → S) (P : Nat → S → Prop) (l : List α) {s0 : S} {r0 : ρ} {δ0 : DS} (h0 : δ0 = fr s0 r0) (hi : fi δ0 = some (l.map e, δ0)) (p0 : P 0 s0)
    (h : ∀ k a s r, l[k]? = some a → P k s → (∃ r', turnF gt body (e a) (fr s r) = some (fr (step s a) r')) ∧ P (k + 1) (step s a)) :
    ∃ r', forS fi gt body δ0 = some (.nx, fr (l.foldl step s0) r') ∧ P l.length (l.foldl step s0) := by
  obtain ⟨r', e1, e2⟩ := forL_fold e fr step P l h l.length 0 s0 r0 (by omega) p0
  refine ⟨r', ?_, e2⟩
  unfold forS
  rw [hi, h0]
  exact e1
/-- a for that looks: p tells whether it goes on; else it hands back v -/
theorem for_look {α ρ : Type} {fi : Me (List D)} {gt : Tg} {body : Ss} {v : Val} (e : α → D) (fr : ρ → DS) (p : α → Bool) (l : List α) {r0 : ρ} {δ0 : DS} (h0 : δ0 = fr r0) (hi : fi δ0 = some (l.map e, δ0))
    (h : ∀ a ∈ l, ∀ r, (p a = true → ∃ r', turnF gt body (e a) (fr r) = some (fr r')) ∧ (p a = false → ∃ δ1 δ2, gt (.fz (e a)) (fr r) = some δ1 ∧ body δ1 = some (.rt v, δ2))) :
    (l.all p = true → ∃ r', forS fi gt body δ0 = some (.nx, fr r')) ∧ (l.all p = false → ∃ δ', forS fi gt body δ0 = some (.rt v, δ')) := by
  have key : ∀ (m : List α), (∀ a ∈ m, a ∈ l) → ∀ r, (m.all p = true → ∃ r', forL gt body (m.map e) (fr r) = some (.nx, fr r')) ∧ (m.all p = false → ∃ δ', forL gt body (m.map e) (fr r) = some (.rt v, δ')) := by
    intro m
    induction m with
    | nil => exact fun _ r => ⟨fun _ => ⟨r, rfl⟩, fun h => by simp at h⟩
    | cons a m ih =>
      intro hm r
      obtain ⟨h1, h2⟩ := h a (hm a List.mem_cons_self) r
      have hm' := fun x hx => hm x (List.mem_cons_of_mem _ hx)
      cases q : p a with
      | true =>
        obtain ⟨r1, e1⟩ := h1 q
        rw [List.map_cons, forL_turn e1, List.all_cons, q, Bool.true_and]
        exact ih hm' r1
      | false =>
        obtain ⟨δ1, δ2, e1, e2⟩ := h2 q
        rw [List.all_cons, q, Bool.false_and]
        refine ⟨fun z => by simp at z, fun _ => ⟨δ2, ?_⟩⟩
        simp only [List.map_cons, forL, e1, Option.bind_some, e2]
  obtain ⟨a1, a2⟩ := key l (fun _ h => h) r0
  unfold forS
  rw [hi, h0]
  exact ⟨a1, a2⟩
/-- one turn of a while -/
theorem while_fold {S ρ : Type} {c : Me Bool} {body : Ss} (fr : S → ρ → DS) (P : S → Prop) (cond : S → Bool) (step : S → S) (μ : S → Nat)
    (hc : ∀ s r, P s → c (fr s r) = some (cond s, fr s r)) (hb : ∀ s r, P s → cond s = true → (∃ r', body (fr s r) = some (.nx, fr (step s) r')) ∧ P (step s) ∧ μ (step s) < μ s) :
    ∀ (n : Nat) (s : S) (r : ρ), P s → μ s < n → ∃ s' r', whileN c body n (fr s r) = some (.nx, fr s' r') ∧ P s' ∧ cond s' = false
  | 0, _, _, _, hn => absurd hn (Nat.not_lt_zero _)
  | n + 1, s, r, p, hn => by
    cases q : cond s with
    | false => exact ⟨s, r, by simp only [whileN, hc s r p, q], p, q⟩
    | true =>
      obtain ⟨⟨r', e⟩, p', hm⟩ := hb s r p q
      obtain ⟨s', r'', e1, e2, e3⟩ := while_fold fr P cond step μ hc hb n (step s) r' p' (by omega)
      exact ⟨s', r'', by simp only [whileN, hc s r p, q, e, e1], e2, e3⟩
/-- a comprehension over l: from an item's frame the element -/
theorem compL_map {α : Type} {gt : Tg} {fe : Me Val} {vs : List Nat} {δ0 : DS} (e F : α → D) (fr : α → DS) : ∀ {l : List α}, (∀ a ∈ l, gt (.fz (e a)) δ0 = some (fr a) ∧ (∃ v, fe (fr a) = some (v, fr a) ∧ treeV v = some (F a)) ∧ wipeD (fr a) vs = δ0) →
    compL gt (mr true) fe vs (l.map e) δ0 = some (l.map F, δ0)
  | [], _ => rfl
  | a :: r, h => by
    obtain ⟨h1, ⟨v, h2, h3⟩, h4⟩ := h a List.mem_cons_self
    have ih := compL_map e F fr (l := r) fun x hx => h x (List.mem_cons_of_mem _ hx)
    simp only [compL, List.map_cons, h1, Option.bind_some, mr, h2, h3, h4, ih]
theorem comp_map {α : Type} {fi : Me (List D)} {gt : Tg} {fe : Me Val} {vs : List Nat} {δ : DS} (l : List α) (e F : α → D) (fr : α → DS) (hi : fi δ = some (l.map e, δ)) (hp : vs.all (plainAt δ) = true) (hb : backD δ (wipeD δ vs) vs = δ) (hz : l.length ≤ 16777216)
    (h : ∀ a ∈ l, gt (.fz (e a)) (wipeD δ vs) = some (fr a) ∧ (∃ v, fe (fr a) = some (v, fr a) ∧ treeV v = some (F a)) ∧ wipeD (fr a) vs = wipeD δ vs) :
    compM fi gt (mr true) fe vs δ = some (.ow (.list (l.map F)), δ) := by
  unfold compM
  rw [hi]
  show (if _ then _ else _) = _
  rw [if_pos hp, compL_map e F fr h]
  show (if _ then _ else _) = _
  rw [if_pos (szOkL (by rw [List.length_map]; exact hz)), hb]
/-- with an if -/
theorem compL_filt {α : Type} {gt : Tg} {ft : Me Bool} {fe : Me Val} {vs : List Nat} {δ0 : DS} (e F : α → D) (p : α → Bool) (fr : α → DS) : ∀ {l : List α}, (∀ a ∈ l, gt (.fz (e a)) δ0 = some (fr a) ∧ ft (fr a) = some (p a, fr a) ∧ (p a = true → ∃ v, fe (fr a) = some (v, fr a) ∧ treeV v = some (F a)) ∧ wipeD (fr a) vs = δ0) →
    compL gt ft fe vs (l.map e) δ0 = some ((l.filter p).map F, δ0)
  | [], _ => rfl
  | a :: r, h => by
    obtain ⟨h1, h2, h3, h4⟩ := h a List.mem_cons_self
    have ih := compL_filt e F p fr (l := r) fun x hx => h x (List.mem_cons_of_mem _ hx)
    cases q : p a with
    | false => simp only [compL, List.map_cons, h1, Option.bind_some, h2, q, h4, ih, List.filter_cons, Bool.false_eq_true, if_false]
    | true =>
      obtain ⟨v, h5, h6⟩ := h3 q
      simp only [compL, List.map_cons, h1, Option.bind_some, h2, q, h5, h6, h4, ih, List.filter_cons, if_true]
theorem comp_filt {α : Type} {fi : Me (List D)} {gt : Tg} {ft : Me Bool} {fe : Me Val} {vs : List Nat} {δ : DS} (l : List α) (e F : α → D) (p : α → Bool) (fr : α → DS) (hi : fi δ = some (l.map e, δ)) (hp : vs.all (plainAt δ) = true) (hb : backD δ (wipeD δ vs) vs = δ) (hz : l.length ≤ 16777216)
    (h : ∀ a ∈ l, gt (.fz (e a)) (wipeD δ vs) = some (fr a) ∧ ft (fr a) = some (p a, fr a) ∧ (p a = true → ∃ v, fe (fr a) = some (v, fr a) ∧ treeV v = some (F a)) ∧ wipeD (fr a) vs = wipeD δ vs) :
    compM fi gt ft fe vs δ = some (.ow (.list ((l.filter p).map F)), δ) := by
  unfold compM
  rw [hi]
  show (if _ then _ else _) = _
  rw [if_pos hp, compL_filt e F p fr h]
  show (if _ then _ else _) = _
  rw [if_pos (szOkL (by rw [List.length_map]; exact Nat.le_trans (List.length_filter_le _ _) hz)), hb]
end DL
namespace DL
open PySem PySem.Spec L2
/-- a for whose turns are told by what holds between them -/
theorem forL_ex {α S ρ : Type} {gt : Tg} {body : Ss} (e : α → D) (fr : S → ρ → DS) (P : Nat → S → Prop) (l : List α)
    (h : ∀ k a s r, l[k]? = some a → P k s → ∃ s' r', turnF gt body (e a) (fr s r) = some (fr s' r') ∧ P (k + 1) s') :
    ∀ (n k : Nat) (s : S) (r : ρ), n + k = l.length → P k s → ∃ s' r', forL gt body ((l.drop k).map e) (fr s r) = some (.nx, fr s' r') ∧ P l.length s'
  | 0, k, s, r, hn, p => by
    rw [List.drop_eq_nil_of_le (by omega)]
    refine ⟨s, r, rfl, ?_⟩
    rw [show l.length = k by omega]
    exact p
  | n + 1, k, s, r, hn, p => by
    have hk : k < l.length := by omega
    obtain ⟨s1, r1, h1, h2⟩ := h k _ s r (List.getElem?_eq_getElem hk) p
    obtain ⟨s', r', e1, e2⟩ := forL_ex e fr P l h n (k + 1) s1 r1 (by omega) h2
    rw [List.drop_eq_getElem_cons hk]
    refine ⟨s', r', ?_, e2⟩
    rw [List.map_cons, forL_turn h1, e1]
theorem for_ex {α S ρ : Type} {fi : Me (List D)} {gt : Tg} {body : Ss} (e : α → D) (fr : S → ρ → DS) (P : Nat → S → Prop) (l : List α) {s0 : S} {r0 : ρ} {δ0 : DS} (h0 : δ0 = fr s0 r0) (hi : fi δ0 = some (l.map e, δ0)) (p0 : P 0 s0)
    (h : ∀ k a s r, l[k]? = some a → P k s → ∃ s' r', turnF gt body (e a) (fr s r) = some (fr s' r') ∧ P (k + 1) s') :
    ∃ s' r', forS fi gt body δ0 = some (.nx, fr s' r') ∧ P l.length s' := by
  obtain ⟨s', r', e1, e2⟩ := forL_ex e fr P l h l.length 0 s0 r0 (by omega) p0
  refine ⟨s', r', ?_, e2⟩
  unfold forS
  rw [hi, h0]
  exact e1
theorem rng_1 {fa : Me (List Val)} {δ δ' : DS} {j : Int} (h : fa δ = some ([.fz (.int j)], δ')) (hr : 0 ≤ j ∧ j < 1000) : rngM1 fa δ = some ((List.range j.toNat).map fun i => .int ((0 : Int) + (i : Nat)), δ') := by
  unfold rngM1 mb mo
  rw [h]
  simp only [rOk_small hr, if_true]
  rfl
theorem rng_2 {fa : Me (List Val)} {δ δ' : DS} {i j : Int} (h : fa δ = some ([.fz (.int i), .fz (.int j)], δ')) (hi : 0 ≤ i ∧ i < 1000) (hr : 0 ≤ j ∧ j < 1000) : rngM2 fa δ = some ((List.range (j - i).toNat).map fun k => .int (i + (k : Nat)), δ') := by
  unfold rngM2 mb mo
  rw [h]
  simp only [rOk_small hi, rOk_small hr, Bool.and_self, if_true]
  rfl
end DL
end
section
set_option autoImplicit false
/-! lines as lists of whole numbers, told by their numbers -/
namespace PL
def cf : List Int → Nat → Int
  | [], _ => 0
  | x :: _, 0 => x
  | _ :: a, n + 1 => cf a n
def Nz (a : List Int) : Prop := ∀ b x, a = b ++ [x] → x ≠ 0
theorem cf_nil (n : Nat) : cf [] n = 0 := by cases n <;> rfl
theorem cf_get : ∀ (a : List Int) (n : Nat), cf a n = a.getD n 0
  | [], n => by rw [cf_nil]; simp
  | x :: a, 0 => by simp [cf]
  | x :: a, n + 1 => by simp [cf, cf_get a n]
theorem cf_beyond : ∀ {a : List Int} {n : Nat}, a.length ≤ n → cf a n = 0
  | [], n, _ => cf_nil n
  | _ :: a, 0, h => by simp at h
  | _ :: a, n + 1, h => cf_beyond (a := a) (by simpa using h)
theorem cf_append_left {a b : List Int} {n : Nat} (h : n < a.length) : cf (a ++ b) n = cf a n := by
  rw [cf_get, cf_get, List.getD_eq_getElem?_getD, List.getD_eq_getElem?_getD, List.getElem?_append_left h]
theorem cf_append_right {a b : List Int} {n : Nat} (h : a.length ≤ n) : cf (a ++ b) n = cf b (n - a.length) := by
  rw [cf_get, cf_get, List.getD_eq_getElem?_getD, List.getD_eq_getElem?_getD, List.getElem?_append_right h]
theorem cf_map {f : Int → Int} (h0 : f 0 = 0) : ∀ (a : List Int) (n : Nat), cf (a.map f) n = f (cf a n)
  | [], n => by rw [List.map_nil, cf_nil, h0]
  | _ :: _, 0 => rfl
  | _ :: a, n + 1 => cf_map h0 a n
theorem nz_nil : Nz [] := fun b x h => by simp at h
theorem nz_last {a : List Int} {x : Int} (h : x ≠ 0) : Nz (a ++ [x]) := fun b y e => by
  have := List.append_inj_right' e rfl
  cases this
  exact h
theorem nz_len {a b : List Int} (hb : Nz b) (h : ∀ n, cf a n = cf b n) : b.length ≤ a.length := by
  rcases List.eq_nil_or_concat b with rfl | ⟨c, x, rfl⟩
  · simp
  · rw [List.concat_eq_append] at *
    have hx := hb c x rfl
    refine Nat.le_of_not_lt fun hl => hx ?_
    have h1 := h c.length
    rw [cf_append_right (Nat.le_refl _), Nat.sub_self] at h1
    rw [cf_beyond (by simp at hl; omega)] at h1
    exact h1.symm
theorem ext_cf : ∀ {a b : List Int}, a.length = b.length → (∀ n, cf a n = cf b n) → a = b
  | [], [], _, _ => rfl
  | [], _ :: _, h, _ => by simp at h
  | _ :: _, [], h, _ => by simp at h
  | x :: a, y :: b, h, k => by
    have h0 : x = y := k 0
    rw [h0, ext_cf (by simpa using h) fun n => k (n + 1)]
theorem nz_ext {a b : List Int} (ha : Nz a) (hb : Nz b) (h : ∀ n, cf a n = cf b n) : a = b :=
  ext_cf (Nat.le_antisymm (nz_len ha fun n => (h n).symm) (nz_len hb h)) h
/-! ### sums -/
def sm (f : Nat → Int) : Nat → Int
  | 0 => 0
  | n + 1 => sm f n + f n
theorem sm_congr {f g : Nat → Int} : ∀ {n : Nat}, (∀ i, i < n → f i = g i) → sm f n = sm g n
  | 0, _ => rfl
  | n + 1, h => by rw [sm, sm, sm_congr fun i hi => h i (by omega), h n (by omega)]
theorem sm_add (f g : Nat → Int) : ∀ n, sm (fun i => f i + g i) n = sm f n + sm g n
  | 0 => rfl
  | n + 1 => by rw [sm, sm, sm, sm_add f g n]; omega
theorem sm_mul (x : Int) (f : Nat → Int) : ∀ n, sm (fun i => x * f i) n = x * sm f n
  | 0 => by simp [sm]
  | n + 1 => by rw [sm, sm, sm_mul x f n, Int.mul_add]
theorem sm_first (f : Nat → Int) : ∀ n, sm f (n + 1) = f 0 + sm (fun i => f (i + 1)) n
  | 0 => by simp [sm]
  | n + 1 => by rw [sm, sm_first f n, sm]; omega
theorem sm_rev (f : Nat → Int) : ∀ n, sm f n = sm (fun i => f (n - 1 - i)) n
  | 0 => rfl
  | n + 1 => by
    rw [sm_first (fun i => f (n + 1 - 1 - i)) n, sm, sm_rev f n]
    have : sm (fun i => f (n + 1 - 1 - (i + 1))) n = sm (fun i => f (n - 1 - i)) n := sm_congr fun i hi => by
      congr 1
      omega
    rw [this]
    simp
    omega
theorem sm_zero {f : Nat → Int} {n : Nat} (h : ∀ i, i < n → f i = 0) : sm f n = 0 := by
  rw [sm_congr (g := fun _ => 0) h]
  induction n with
  | zero => rfl
  | succ n ih => rw [sm, ih fun i hi => h i (by omega)]; rfl
/-- the number of x^n in a product -/
def cv (f g : Nat → Int) (n : Nat) : Int := sm (fun i => f i * g (n - i)) (n + 1)
theorem cv_comm (f g : Nat → Int) (n : Nat) : cv f g n = cv g f n := by
  unfold cv
  rw [sm_rev]
  refine sm_congr fun i hi => ?_
  rw [Int.mul_comm]
  congr 2
  omega
theorem cv_add_right (f g h : Nat → Int) (n : Nat) : cv f (fun i => g i + h i) n = cv f g n + cv f h n := by
  unfold cv
  rw [← sm_add]
  exact sm_congr fun i _ => Int.mul_add _ _ _
theorem cv_add_left (f g h : Nat → Int) (n : Nat) : cv (fun i => f i + g i) h n = cv f h n + cv g h n := by
  unfold cv
  rw [← sm_add]
  exact sm_congr fun i _ => Int.add_mul _ _ _
theorem cv_mul_left (x : Int) (f g : Nat → Int) (n : Nat) : cv (fun i => x * f i) g n = x * cv f g n := by
  unfold cv
  rw [← sm_mul]
  exact sm_congr fun i _ => Int.mul_assoc _ _ _
theorem cv_congr {f f' g g' : Nat → Int} (hf : ∀ i, f i = f' i) (hg : ∀ i, g i = g' i) (n : Nat) : cv f g n = cv f' g' n := by
  rw [show f = f' from funext hf, show g = g' from funext hg]
def sh (f : Nat → Int) : Nat → Int
  | 0 => 0
  | n + 1 => f n
theorem cv_sh_left (f g : Nat → Int) : ∀ n, cv (sh f) g n = sh (cv f g) n
  | 0 => by simp [cv, sm, sh]
  | n + 1 => by
    unfold cv
    rw [sm_first]
    show 0 * _ + _ = sm (fun i => f i * g (n - i)) (n + 1)
    rw [Int.zero_mul, Int.zero_add]
    exact sm_congr fun i _ => by
      show f i * _ = _
      congr 2
      omega
/-- one number alone times a line -/
theorem cv_one (x : Int) (g : Nat → Int) (n : Nat) : cv (cf [x]) g n = x * g n := by
  unfold cv
  rw [sm_first]
  show x * g (n - 0) + _ = _
  rw [sm_zero fun i _ => by rw [show cf [x] (i + 1) = 0 from cf_nil i, Int.zero_mul]]
  simp
theorem cf_cons (x : Int) (a : List Int) (n : Nat) : cf (x :: a) n = cf [x] n + sh (cf a) n := by
  cases n with
  | zero => simp [cf, sh]
  | succ n => simp [cf, sh]
theorem cv_cons (x : Int) (a : List Int) (g : Nat → Int) (n : Nat) : cv (cf (x :: a)) g n = x * g n + sh (cv (cf a) g) n := by
  rw [cv_congr (cf_cons x a) (fun _ => rfl), cv_add_left, cv_one, cv_sh_left]
theorem cv_nil (g : Nat → Int) (n : Nat) : cv (cf []) g n = 0 := sm_zero fun i _ => by rw [cf_nil, Int.zero_mul]
theorem sh_congr {f g : Nat → Int} (h : ∀ i, f i = g i) (n : Nat) : sh f n = sh g n := by rw [show f = g from funext h]
theorem sh_add (f g : Nat → Int) (n : Nat) : sh (fun i => f i + g i) n = sh f n + sh g n := by cases n <;> rfl
theorem cv_assoc : ∀ (a : List Int) (g h : Nat → Int) (n : Nat), cv (cv (cf a) g) h n = cv (cf a) (cv g h) n
  | [], g, h, n => by rw [cv_nil, cv_congr (cv_nil g) (fun _ => rfl)]; exact cv_nil h n ▸ (cv_congr (fun i => (cf_nil i).symm) (fun _ => rfl) n)
  | x :: a, g, h, n => by
    rw [cv_cons, cv_congr (cv_cons x a g) (fun _ => rfl), cv_add_left, cv_mul_left, cv_sh_left, sh_congr (cv_assoc a g h)]
/-! ### slopes -/
def dv (f : Nat → Int) (n : Nat) : Int := (n + 1 : Int) * f (n + 1)
theorem dv_add (f g : Nat → Int) (n : Nat) : dv (fun i => f i + g i) n = dv f n + dv g n := Int.mul_add _ _ _
theorem dv_mul (x : Int) (f : Nat → Int) (n : Nat) : dv (fun i => x * f i) n = x * dv f n := by unfold dv; rw [← Int.mul_assoc, ← Int.mul_assoc, Int.mul_comm x]
theorem dv_sh (f : Nat → Int) : ∀ n, dv (sh f) n = f n + sh (dv f) n
  | 0 => by simp [dv, sh]
  | n + 1 => by
    show ((n + 1 : Nat) + 1 : Int) * f (n + 1) = f (n + 1) + (n + 1 : Int) * f (n + 1)
    rw [Int.add_mul]
    push_cast
    omega
theorem dv_congr {f g : Nat → Int} (h : ∀ i, f i = g i) (n : Nat) : dv f n = dv g n := by rw [show f = g from funext h]
theorem dv_cv : ∀ (a : List Int) (g : Nat → Int) (n : Nat), dv (cv (cf a) g) n = cv (dv (cf a)) g n + cv (cf a) (dv g) n
  | [], g, n => by
    rw [dv_congr (cv_nil g), cv_nil, cv_congr (f' := cf []) (g' := g) (fun i => by rw [cf_nil, dv, cf_nil, Int.mul_zero]) (fun _ => rfl), cv_nil]
    simp [dv]
  | x :: a, g, n => by
    have hd : ∀ i, dv (cf (x :: a)) i = cf a i + sh (dv (cf a)) i := fun i => by
      rw [dv_congr (cf_cons x a), dv_add, dv_sh]
      have : dv (cf [x]) i = 0 := by unfold dv; rw [show cf [x] (i + 1) = 0 from cf_nil i, Int.mul_zero]
      rw [this, Int.zero_add]
    rw [dv_congr (cv_cons x a g), dv_add, dv_mul, dv_sh, sh_congr (dv_cv a g), sh_add, cv_congr hd (fun _ => rfl), cv_add_left, cv_sh_left, cv_cons]
    omega
/-! ### values -/
def vl (a : List Int) (x : Int) : Int := a.foldr (fun c r => r * x + c) 0
theorem vl_zero : ∀ {a : List Int} (x : Int), (∀ n, cf a n = 0) → vl a x = 0
  | [], _, _ => rfl
  | c :: a, x, h => by
    show vl a x * x + c = 0
    rw [vl_zero x fun n => h (n + 1), show c = 0 from h 0]
    simp
theorem vl_ext : ∀ {a b : List Int} (x : Int), (∀ n, cf a n = cf b n) → vl a x = vl b x
  | [], b, x, h => (vl_zero x fun n => by rw [← h n, cf_nil]).symm
  | c :: a, [], x, h => vl_zero x fun n => by rw [h n, cf_nil]
  | c :: a, d :: b, x, h => by
    show vl a x * x + c = vl b x * x + d
    rw [vl_ext x fun n => h (n + 1), show c = d from h 0]
def adS : List Int → List Int → List Int
  | [], b => b
  | a, [] => a
  | x :: a, y :: b => (x + y) :: adS a b
theorem cf_adS : ∀ (a b : List Int) (n : Nat), cf (adS a b) n = cf a n + cf b n
  | [], b, n => by cases b <;> simp [adS, cf_nil]
  | x :: a, [], n => by simp [adS, cf_nil]
  | x :: a, y :: b, 0 => rfl
  | x :: a, y :: b, n + 1 => cf_adS a b n
theorem vl_adS : ∀ (a b : List Int) (x : Int), vl (adS a b) x = vl a x + vl b x
  | [], b, x => by cases b <;> simp [adS, vl]
  | c :: a, [], x => by simp [adS, vl]
  | c :: a, d :: b, x => by
    show vl (adS a b) x * x + (c + d) = (vl a x * x + c) + (vl b x * x + d)
    rw [vl_adS a b x, Int.add_mul]
    omega
theorem vl_map (y : Int) : ∀ (a : List Int) (x : Int), vl (a.map (y * ·)) x = y * vl a x
  | [], x => by simp [vl]
  | c :: a, x => by
    show vl (a.map (y * ·)) x * x + y * c = y * (vl a x * x + c)
    rw [vl_map y a x, Int.mul_add, Int.mul_assoc]
def mlS : List Int → List Int → List Int
  | [], _ => []
  | x :: a, b => adS (b.map (x * ·)) (0 :: mlS a b)
theorem cf_mlS : ∀ (a b : List Int) (n : Nat), cf (mlS a b) n = cv (cf a) (cf b) n
  | [], b, n => by rw [cv_nil]; exact cf_nil n
  | x :: a, b, n => by
    show cf (adS _ _) n = _
    rw [cf_adS, cv_cons, cf_map (Int.mul_zero x)]
    congr 1
    cases n with
    | zero => rfl
    | succ n => exact cf_mlS a b n
theorem vl_mlS : ∀ (a b : List Int) (x : Int), vl (mlS a b) x = vl a x * vl b x
  | [], b, x => by simp [mlS, vl]
  | c :: a, b, x => by
    show vl (adS _ _) x = (vl a x * x + c) * vl b x
    rw [vl_adS, vl_map]
    show _ + (vl (mlS a b) x * x + 0) = _
    rw [vl_mlS a b x, Int.add_mul, Int.add_zero, Int.mul_right_comm]
    omega
end PL
end
section
set_option autoImplicit false
/-! products of lines by two walks; bounds of sums -/
namespace PL
def bump (F : List Int) (n : Nat) (v : Int) : List Int := F.set n (cf F n + v)
theorem bump_len (F : List Int) (n : Nat) (v : Int) : (bump F n v).length = F.length := List.length_set
theorem cf_bump {F : List Int} {n : Nat} (h : n < F.length) (v : Int) (m : Nat) : cf (bump F n v) m = cf F m + if m = n then v else 0 := by
  unfold bump
  rw [cf_get (F.set n _) m, List.getD_eq_getElem?_getD, List.getElem?_set]
  by_cases e : n = m
  · subst e
    rw [if_pos rfl, if_pos h, if_pos rfl]
    rfl
  · rw [if_neg e, if_neg (fun z => e z.symm), Int.add_zero, cf_get, List.getD_eq_getElem?_getD]
theorem bump_zero (F : List Int) (n : Nat) : bump F n 0 = F := by
  unfold bump
  rw [Int.add_zero]
  by_cases h : n < F.length
  · refine List.ext_getElem? fun i => ?_
    rw [List.getElem?_set]
    split
    · rename_i e
      subst e
      rw [cf_get, List.getD_eq_getElem?_getD, List.getElem?_eq_getElem h]
      simp [h]
    · rfl
  · exact List.set_eq_of_length_le (by omega)
/-- x times a line, added from place i on -/
def inL (i : Nat) (x : Int) (F : List Int) (q : Int × Nat) : List Int := bump F (i + q.2) (x * q.1)
theorem inL_len (i : Nat) (x : Int) : ∀ (l : List (Int × Nat)) (F : List Int), (l.foldl (inL i x) F).length = F.length
  | [], F => rfl
  | q :: l, F => by rw [List.foldl_cons, inL_len i x l, inL, bump_len]
theorem cf_inL (i : Nat) (x : Int) : ∀ (b : List Int) (j : Nat) (F : List Int), i + j + b.length ≤ F.length → ∀ n, cf ((b.zipIdx j).foldl (inL i x) F) n = cf F n + if i + j ≤ n then x * cf b (n - (i + j)) else 0
  | [], j, F, _, n => by
    rw [cf_nil, Int.mul_zero]
    simp
  | y :: b, j, F, h, n => by
    rw [List.length_cons] at h
    rw [List.zipIdx_cons, List.foldl_cons, cf_inL i x b (j + 1) _ (by rw [inL, bump_len]; omega), inL, cf_bump (by simp; omega)]
    by_cases h1 : n = i + j
    · subst h1
      rw [if_pos rfl, if_neg (by omega), if_pos (Nat.le_refl _), Nat.sub_self]
      simp [cf]
    · rw [if_neg h1]
      by_cases h2 : i + j ≤ n
      · rw [if_pos (by omega), if_pos h2, show n - (i + j) = n - (i + (j + 1)) + 1 by omega]
        simp [cf]
      · rw [if_neg (by omega), if_neg h2]
        simp
/-- the product of two lines, added up from place j on -/
def outL (b : List Int) (F : List Int) (p : Int × Nat) : List Int := b.zipIdx.foldl (inL p.2 p.1) F
theorem outL_len (b : List Int) : ∀ (l : List (Int × Nat)) (F : List Int), (l.foldl (outL b) F).length = F.length
  | [], F => rfl
  | q :: l, F => by rw [List.foldl_cons, outL_len b l, outL, inL_len]
theorem cf_outL (b : List Int) : ∀ (a : List Int) (j : Nat) (F : List Int), (a ≠ [] → j + a.length + b.length ≤ F.length + 1) → ∀ n, cf ((a.zipIdx j).foldl (outL b) F) n = cf F n + if j ≤ n then cv (cf a) (cf b) (n - j) else 0
  | [], j, F, _, n => by
    rw [cv_nil]
    simp
  | x :: a, j, F, h, n => by
    have h := h (by simp)
    rw [List.length_cons] at h
    rw [List.zipIdx_cons, List.foldl_cons, cf_outL b a (j + 1) _ (fun _ => by rw [outL, inL_len]; omega), outL]
    show cf (b.zipIdx.foldl (inL j x) F) n + _ = _
    rw [cf_inL j x b 0 F (by omega), cv_cons, Nat.add_zero, Int.add_assoc]
    congr 1
    by_cases h1 : j ≤ n
    · rw [if_pos h1, if_pos h1]
      congr 1
      by_cases h2 : n = j
      · subst h2
        rw [if_neg (by omega), Nat.sub_self]
        rfl
      · rw [if_pos (by omega), show n - j = n - (j + 1) + 1 by omega]
        rfl
    · rw [if_neg h1, if_neg h1, if_neg (by omega)]
      simp
def outL' (b : List Int) (F : List Int) (p : Int × Nat) : List Int := if p.1 ≠ 0 then outL b F p else F
theorem inL_zero (i : Nat) : ∀ (l : List (Int × Nat)) (F : List Int), l.foldl (inL i 0) F = F
  | [], F => rfl
  | q :: l, F => by rw [List.foldl_cons, inL, Int.zero_mul, bump_zero, inL_zero i l]
theorem outL'_eq (b F : List Int) (p : Int × Nat) : outL' b F p = outL b F p := by
  unfold outL'
  split
  · rfl
  · rename_i h
    have h : p.1 = 0 := Decidable.not_not.mp h
    rw [outL, h, inL_zero]
theorem cf_zeros (k n : Nat) : cf (List.replicate k 0) n = 0 := by
  rw [cf_get, List.getD_eq_getElem?_getD, List.getElem?_replicate]
  split <;> rfl
/-- the product -/
def tms (a b : List Int) : List Int := a.zipIdx.foldl (outL b) (List.replicate (a.length + b.length - 1) 0)
theorem cf_tms (a b : List Int) (n : Nat) : cf (tms a b) n = cv (cf a) (cf b) n := by
  unfold tms
  rw [cf_outL b a 0 _ (fun _ => by rw [List.length_replicate]; omega), cf_zeros]
  simp
theorem tms_len (a b : List Int) : (tms a b).length = a.length + b.length - 1 := by
  unfold tms
  rw [outL_len, List.length_replicate]
theorem nz_iff {a : List Int} : Nz a ↔ a = [] ∨ cf a (a.length - 1) ≠ 0 := by
  rcases List.eq_nil_or_concat a with rfl | ⟨c, x, rfl⟩
  · exact ⟨fun _ => .inl rfl, fun _ => nz_nil⟩
  · rw [List.concat_eq_append]
    have : cf (c ++ [x]) ((c ++ [x]).length - 1) = x := by
      rw [List.length_append, List.length_singleton, Nat.add_sub_cancel, cf_append_right (Nat.le_refl _), Nat.sub_self]
      rfl
    rw [this]
    exact ⟨fun h => .inr (h c x rfl), fun h => h.elim (fun z => by simp at z) nz_last⟩
theorem cv_top {f g : Nat → Int} {m n : Nat} (hf : ∀ i, m < i → f i = 0) (hg : ∀ i, n < i → g i = 0) : cv f g (m + n) = f m * g n := by
  unfold cv
  have key : ∀ k, k ≤ m + n + 1 → sm (fun i => f i * g (m + n - i)) k = if m < k then f m * g n else 0 := by
    intro k
    induction k with
    | zero => intro _; rfl
    | succ k ih =>
      intro hk
      rw [sm, ih (by omega)]
      by_cases h1 : m < k
      · rw [if_pos h1, if_pos (by omega), hf k h1, Int.zero_mul, Int.add_zero]
      · rw [if_neg h1, Int.zero_add]
        by_cases h2 : m = k
        · subst h2
          rw [if_pos (by omega), show m + n - m = n by omega]
        · rw [if_neg (by omega), hg _ (by omega), Int.mul_zero]
  rw [key _ (Nat.le_refl _), if_pos (by omega)]
theorem nz_tms {a b : List Int} (ha : Nz a) (hb : Nz b) (ha0 : a ≠ []) (hb0 : b ≠ []) : Nz (tms a b) := by
  have h1 := List.length_pos_iff.mpr ha0
  have h2 := List.length_pos_iff.mpr hb0
  refine nz_iff.mpr (.inr ?_)
  rw [tms_len, cf_tms, show a.length + b.length - 1 - 1 = (a.length - 1) + (b.length - 1) by omega, cv_top (fun i hi => cf_beyond (by omega)) (fun i hi => cf_beyond (by omega))]
  exact Int.mul_ne_zero ((nz_iff.mp ha).resolve_left ha0) ((nz_iff.mp hb).resolve_left hb0)
/-! ### bounds -/
def Bd (A : Nat) (a : List Int) : Prop := ∀ n, (cf a n).natAbs ≤ A
theorem bd_mem {A : Nat} {a : List Int} (h : ∀ x ∈ a, x.natAbs ≤ A) : Bd A a := fun n => by
  rw [cf_get, List.getD_eq_getElem?_getD]
  by_cases hn : n < a.length
  · rw [List.getElem?_eq_getElem hn]
    exact h _ (List.getElem_mem hn)
  · rw [List.getElem?_eq_none (by omega)]
    exact Nat.zero_le _
theorem mem_bd {A : Nat} {a : List Int} (h : Bd A a) : ∀ x ∈ a, x.natAbs ≤ A := fun x hx => by
  obtain ⟨i, hi, rfl⟩ := List.getElem_of_mem hx
  have := h i
  rw [cf_get, List.getD_eq_getElem?_getD, List.getElem?_eq_getElem hi] at this
  exact this
theorem sm_bd {f : Nat → Int} {A : Nat} (h : ∀ i, (f i).natAbs ≤ A) : ∀ n, (sm f n).natAbs ≤ n * A
  | 0 => by simp [sm]
  | n + 1 => by
    have h1 := sm_bd h n
    have h2 := h n
    have h3 := Int.natAbs_add_le (sm f n) (f n)
    rw [sm, Nat.succ_mul]
    omega
theorem cv_bd {f g : Nat → Int} {A B : Nat} (hf : ∀ i, (f i).natAbs ≤ A) (hg : ∀ i, (g i).natAbs ≤ B) (n : Nat) : (cv f g n).natAbs ≤ (n + 1) * (A * B) := sm_bd (fun i => by
  rw [Int.natAbs_mul]
  exact Nat.mul_le_mul (hf i) (hg _)) _
theorem bd_cv {a b c : List Int} {A B N : Nat} (ha : Bd A a) (hb : Bd B b) (h : ∀ n, cf c n = cv (cf a) (cf b) n) (hN : a.length + b.length ≤ N) : Bd (N * (A * B)) c := fun n => by
  rw [h]
  by_cases hn : n + 1 ≤ N
  · exact Nat.le_trans (cv_bd ha hb n) (Nat.mul_le_mul_right _ hn)
  · have : cv (cf a) (cf b) n = 0 := sm_zero fun i hi => by
      by_cases h1 : i < a.length
      · rw [cf_beyond (a := b) (by omega), Int.mul_zero]
      · rw [cf_beyond (a := a) (by omega), Int.zero_mul]
    rw [this]
    exact Nat.zero_le _
end PL
namespace PL
/-! ### how long Euclid's rests go on -/
def lg (n : Nat) : Nat := if n = 0 then 0 else n.log2 + 1
theorem lg_le {n k : Nat} : lg n ≤ k ↔ n < 2 ^ k := by
  unfold lg
  split
  · rename_i h
    subst h
    exact ⟨fun _ => Nat.pow_pos (by decide), fun _ => Nat.zero_le _⟩
  · rename_i h
    rw [Nat.succ_le_iff]
    exact Nat.log2_lt h
theorem lg_mono {m n : Nat} (h : m ≤ n) : lg m ≤ lg n := lg_le.mpr (Nat.lt_of_le_of_lt h (lg_le.mp (Nat.le_refl _)))
def mu (x y : Nat) : Nat := 2 * lg y + if lg (x % y) = lg y then 1 else 0
theorem mu_lt {x y : Nat} (h : y ≠ 0) : mu y (x % y) < mu x y := by
  unfold mu
  have hlt := Nat.mod_lt x (Nat.pos_of_ne_zero h)
  by_cases e : lg (x % y) = lg y
  · rw [if_pos e, e]
    have e2 : ¬ lg (y % (x % y)) = lg y := fun z => by
      have h1 : x % y ≠ 0 := fun q => by
        rw [q] at e
        unfold lg at e
        rw [if_neg h] at e
        simp at e
      -- y and x % y have the same length k + 1
      obtain ⟨k, hk⟩ : ∃ k, lg y = k + 1 := ⟨y.log2, by unfold lg; rw [if_neg h]⟩
      have a1 : y < 2 ^ (k + 1) := lg_le.mp (by omega)
      have a2 : ¬ x % y < 2 ^ k := fun q => by
        have := lg_le.mpr q
        omega
      have a3 : ¬ y % (x % y) < 2 ^ k := fun q => by
        have := lg_le.mpr q
        omega
      rw [Nat.pow_succ] at a1
      have a4 : y % (x % y) = (y - x % y) % (x % y) := Nat.mod_eq_sub_mod (by omega)
      have a5 := Nat.mod_le (y - x % y) (x % y)
      omega
    rw [if_neg e2]
    omega
  · rw [if_neg e]
    have : lg (x % y) ≤ lg y := lg_mono (by omega)
    split <;> omega
theorem mu_le {x y k : Nat} (h : y < 2 ^ k) : mu x y ≤ 2 * k + 1 := by
  have := lg_le.mpr h
  unfold mu
  split <;> omega
end PL
namespace PL
/-! ### without noughts at the end -/
def nrm : List Int → List Int
  | [] => []
  | x :: a => match nrm a with
    | [] => if x = 0 then [] else [x]
    | y :: r => x :: y :: r
theorem cf_nrm : ∀ (a : List Int) (n : Nat), cf (nrm a) n = cf a n
  | [], n => rfl
  | x :: a, n => by
    have ih := cf_nrm a
    unfold nrm
    split
    · rename_i h
      rw [h] at ih
      split
      · rename_i h0
        cases n with
        | zero => exact h0.symm
        | succ n => rw [cf_nil]; exact (cf_nil n).symm.trans (ih n)
      · cases n with
        | zero => rfl
        | succ n => exact ih n
    · rename_i y r h
      cases n with
      | zero => rfl
      | succ n =>
        rw [← h]
        exact ih n
theorem nz_cons {x : Int} {a : List Int} (h : Nz a) (h2 : a = [] → x ≠ 0) : Nz (x :: a) := fun b y e => by
  cases b with
  | nil =>
    rw [List.nil_append] at e
    injection e with e1 e2
    rw [← e1]
    exact h2 e2
  | cons z b =>
    rw [List.cons_append] at e
    injection e with e1 e2
    exact h b y e2
theorem nz_nrm : ∀ a : List Int, Nz (nrm a)
  | [] => nz_nil
  | x :: a => by
    have ih := nz_nrm a
    unfold nrm
    split
    · split
      · exact nz_nil
      · rename_i h
        exact nz_cons nz_nil fun _ => h
    · rename_i y r h
      rw [h] at ih
      exact nz_cons ih fun z => by cases z
theorem nrm_len (a : List Int) : (nrm a).length ≤ a.length := nz_len (nz_nrm a) fun n => (cf_nrm a n).symm
theorem adS_len : ∀ a b : List Int, (adS a b).length = max a.length b.length
  | [], b => by cases b <;> simp [adS]
  | x :: a, [] => by simp [adS]
  | x :: a, y :: b => by
    simp only [adS, List.length_cons, adS_len a b]
    omega
def ad (a b : List Int) : List Int := nrm (adS a b)
def su (a b : List Int) : List Int := nrm (adS a (b.map (-1 * ·)))
theorem cf_ad (a b : List Int) (n : Nat) : cf (ad a b) n = cf a n + cf b n := by rw [ad, cf_nrm, cf_adS]
theorem cf_su (a b : List Int) (n : Nat) : cf (su a b) n = cf a n - cf b n := by
  rw [su, cf_nrm, cf_adS, cf_map (by decide)]
  omega
theorem nz_ad (a b : List Int) : Nz (ad a b) := nz_nrm _
theorem nz_su (a b : List Int) : Nz (su a b) := nz_nrm _
theorem ad_len (a b : List Int) : (ad a b).length ≤ max a.length b.length := by rw [← adS_len]; exact nrm_len _
theorem su_len (a b : List Int) : (su a b).length ≤ max a.length b.length := by
  have := nrm_len (adS a (b.map (-1 * ·)))
  rw [adS_len, List.length_map] at this
  exact this
theorem bd_ad {A B : Nat} {a b : List Int} (ha : Bd A a) (hb : Bd B b) : Bd (A + B) (ad a b) := fun n => by
  have h1 := ha n
  have h2 := hb n
  rw [cf_ad]
  have := Int.natAbs_add_le (cf a n) (cf b n)
  omega
theorem bd_le {A B : Nat} {a : List Int} (h : A ≤ B) (ha : Bd A a) : Bd B a := fun n => Nat.le_trans (ha n) h
end PL
end
section
set_option maxRecDepth 100000
set_option maxHeartbeats 1000000
/-! lists of ints of one's own, changed at a place; zeros; zip and enumerate of ints -/
namespace DL
open PySem PySem.Spec L2
open PL (cf)
theorem get_ints {a : List Int} {k : Nat} (h : k < a.length) : (a.map PyData.int)[k]? = some (.int (cf a k)) := by
  rw [List.getElem?_map, List.getElem?_eq_getElem h, PL.cf_get, List.getD_eq_getElem?_getD, List.getElem?_eq_getElem h]
  rfl
theorem ix_ints {d : D} {a : List Int} (hd : seq? d = some (a.map .int)) {k : Nat} (h : k < a.length) : ixD d (.int (k : Nat)) = some (.fz (.int (cf a k))) := ix_nat hd (get_ints h)
theorem len_ints {d : D} {a : List Int} (hd : seq? d = some (a.map .int)) : lenD [d] = some (.fz (.int (a.length : Nat))) := by rw [len_seq hd, List.length_map]
theorem listAt_own {δ : DS} {j : Nat} {io : Bool} {l : List D} (h : δ[j]? = some (.own io (.list l))) : listAt δ j = some (io, l) := by
  unfold listAt
  rw [h]
theorem set_ints (F : List Int) (k : Nat) (v : Int) : (F.map PyData.int).set k (.int (cf F k + v)) = (PL.bump F k v).map .int := by
  unfold PL.bump
  rw [List.map_set]
theorem ixN_nat {n k : Nat} (h : k < n) : ixN n (k : Int) = some k := by
  unfold ixN
  rw [if_pos (by omega), if_pos (by omega)]
  simp
theorem augSub_bump {j : Nat} {fi fe : Me Val} {δ : DS} {io : Bool} {F : List Int} {k : Nat} {v : Int} (h : δ[j]? = some (.own io (IL F))) (hi : fi δ = some (.fz (.int (k : Nat)), δ)) (he : fe δ = some (.fz (.int v), δ)) (hk : k < F.length) :
    augSubS j fi addI fe δ = some (.nx, δ.set j (.own io (IL (PL.bump F k v)))) := by
  have hl := listAt_own h
  unfold augSubS
  rw [hl]
  simp only [Option.bind_some, hi, hl]
  rw [if_pos (decide_eq_true (by omega)), Int.toNat_natCast, get_ints hk]
  simp only [Option.bind_some, he, dv, addI, intB, Option.map_some, List.length_map, ixN_nat hk, set_ints, hl]
theorem asgSub_bump {j : Nat} {fi fe : Me Val} {δ : DS} {io : Bool} {F : List Int} {k : Nat} {v : Int} (h : δ[j]? = some (.own io (IL F))) (hi : fi δ = some (.fz (.int (k : Nat)), δ)) (he : fe δ = some (.fz (.int v), δ)) (hk : k < F.length) :
    asgS (binM addD (binM ixD (nameM j) fi) fe) (subG j fi) δ = some (.nx, δ.set j (.own io (IL (PL.bump F k v)))) := by
  have hl := listAt_own h
  have e1 : nameM j δ = some (.sl j, δ) := by
    unfold nameM
    rw [h]
  have e2 : dv δ (.sl j) = some (IL F) := by
    show ownAt δ j = _
    unfold ownAt
    rw [h]
  have e3 : binM ixD (nameM j) fi δ = some (.fz (.int (cf F k)), δ) := by
    unfold binM
    have e2' : ownAt δ j = some (IL F) := e2
    simp only [mb, mo, e1, hi, e2', dv, Option.bind_some, ix_ints (d := IL F) rfl hk]
  have e4 : binM addD (binM ixD (nameM j) fi) fe δ = some (.fz (.int (cf F k + v)), δ) := by
    rw [binM]
    simp only [mb, mo, e3, he, dv, Option.bind_some, addD]
  unfold asgS
  rw [e4]
  simp only [subG, hl, Option.bind_some, hi, List.length_map, ixN_nat hk, set_ints]
theorem enum_ints (a : List Int) : enumD (a.map .int) = a.zipIdx.map fun p => .tuple [.int (p.2 : Nat), .int p.1] := by
  unfold enumD
  rw [List.zipIdx_map, List.map_map]
  rfl
theorem zip_ints (a b : List Int) : zipD (a.map .int) (b.map .int) = (a.zip b).map fun p => .tuple [.int p.1, .int p.2] := by
  unfold zipD
  rw [List.zip_map, List.map_map]
  rfl
theorem rep_zeros (k : Nat) (h : k ≤ 16777216) : mulD (.list [.int 0]) (.int (k : Nat)) = some (.ow (IL (List.replicate k 0))) := by
  have e : (List.replicate k [PyData.int 0]).flatten = (List.replicate k (0 : Int)).map .int := by
    rw [List.map_replicate]
    exact List.flatten_replicate_singleton
  unfold mulD
  simp only [Int.toNat_natCast, List.length_singleton, Nat.one_mul, szOkL h, Bool.and_true, e]
  rw [if_pos]
  unfold ixOk
  simp only [Bool.and_eq_true, decide_eq_true_eq]
  omega
theorem rep_zeros_neg {k : Int} (h : k ≤ 0) (h2 : -1000 ≤ k) : mulD (.list [.int 0]) (.int k) = some (.ow (IL [])) := by
  unfold mulD
  simp only [show k.toNat = 0 by omega, List.length_singleton, Nat.mul_zero]
  rw [if_pos]
  · rfl
  · unfold ixOk
    simp only [Bool.and_eq_true, decide_eq_true_eq]
    exact ⟨⟨by omega, by omega⟩, rfl⟩
theorem zipIdx_mem {a : List Int} {k : Nat} {p : Int × Nat} (h : a.zipIdx[k]? = some p) : p.2 = k ∧ k < a.length ∧ p.1 = cf a k ∧ p.1 ∈ a := by
  rw [List.getElem?_zipIdx] at h
  obtain ⟨x, hx, rfl⟩ := Option.map_eq_some_iff.mp h
  obtain ⟨hk, e⟩ := List.getElem?_eq_some_iff.mp hx
  refine ⟨by simp, hk, ?_, List.mem_of_getElem? hx⟩
  rw [PL.cf_get, List.getD_eq_getElem?_getD, hx]
  rfl
end DL
namespace DL
open PySem PySem.Spec L2
open PL (cf)
theorem fdiv_nat (x y : Nat) : ((x : Int).fdiv (y : Int)) = ((x / y : Nat) : Int) := by
  rw [Int.fdiv_eq_ediv_of_nonneg _ (by omega)]
  rfl
theorem rest_nat (x y : Nat) : (x : Int) - ((x / y : Nat) : Int) * (y : Int) = ((x % y : Nat) : Int) := by
  have := Nat.div_add_mod x y
  rw [Nat.mul_comm] at this
  rw [← Int.natCast_mul]
  omega
theorem gcd_gen {c : Me Bool} {body : Ss} (fr : Int → Int → DS) (hc : ∀ x y : Int, c (fr x y) = some (!decide (y = 0), fr x y)) (hb : ∀ x y q p : Int, fdivD (.int x) (.int y) = some (.fz (.int q)) → mulD (.int q) (.int y) = some (.fz (.int p)) → body (fr x y) = some (.nx, fr y (x - p)))
    {a b : Nat} (ha : a < 2 ^ 200) (hb' : b < 2 ^ 200) {n : Nat} (hn : 1000 ≤ n) : whileN c body n (fr a b) = some (.nx, fr (Nat.gcd a b) 0) := by
  obtain ⟨s, r, h1, ⟨h2, -, -⟩, h3⟩ := while_fold (c := c) (body := body) (fun (s : Nat × Nat) (_ : Unit) => fr s.1 s.2) (fun s => Nat.gcd s.1 s.2 = Nat.gcd a b ∧ s.1 < 2 ^ 200 ∧ s.2 < 2 ^ 200) (fun s => !decide (s.2 = 0)) (fun s => (s.2, s.1 % s.2)) (fun s => PL.mu s.1 s.2) (fun s r p => by
    have : decide (((s.2 : Nat) : Int) = 0) = decide (s.2 = 0) := by
      rw [Bool.eq_iff_iff]
      simp
    rw [hc, this]) (fun s r p hq => by
    have h0 : s.2 ≠ 0 := by simpa using hq
    have e := hb s.1 s.2 _ _ (fdivD_lt (by omega) (by rw [Int.natAbs_natCast]; exact p.2.2)) (by rw [fdiv_nat s.1 s.2]; exact mulD_lt (by rw [Int.natAbs_natCast]; exact Nat.lt_of_le_of_lt (Nat.div_le_self _ _) p.2.1) (by rw [Int.natAbs_natCast]; exact p.2.2))
    rw [rest_nat] at e
    refine ⟨⟨r, e⟩, ⟨?_, p.2.2, Nat.lt_trans (Nat.mod_lt _ (Nat.pos_of_ne_zero h0)) p.2.2⟩, PL.mu_lt h0⟩
    show Nat.gcd s.2 (s.1 % s.2) = _
    rw [← p.1, Nat.gcd_comm s.1 s.2]
    exact (Nat.gcd_comm _ _).trans (Nat.gcd_rec s.2 s.1).symm) n (a, b) () ⟨rfl, ha, hb'⟩ (Nat.lt_of_lt_of_le (Nat.lt_of_le_of_lt (PL.mu_le hb') (show _ < 1000 by decide)) hn)
  have h4 : s.2 = 0 := by simpa using h3
  rw [h4, Nat.gcd_zero_right] at h2
  have h1 : whileN c body n (fr a b) = some (.nx, fr (s.1 : Nat) (s.2 : Nat)) := h1
  rw [h1, h2, h4]
  rfl
/-- the greatest divisor of a list -/
def gl (a : List Int) : Nat := a.foldl (fun g x => Nat.gcd g x.natAbs) 0
theorem absD_int (i : Int) : absD [.int i] = some (.fz (.int (i.natAbs : Nat))) := by
  show some (Val.fz (.int _)) = _
  congr 3
  split <;> omega
end DL
end
section
set_option maxRecDepth 100000
set_option maxHeartbeats 1000000
/-! comprehensions over one name, whatever the frame -/
namespace DL
open PySem PySem.Spec L2
theorem seq_as (a b c : Ss) : seqS a (seqS b c) = seqS (seqS a b) c := by
  funext δ
  unfold seqS
  cases a δ with
  | none => rfl
  | some p =>
    obtain ⟨f, δ1⟩ := p
    cases f <;> rfl
theorem set_self {δ : DS} {i : Nat} {s : Sl} (h : δ[i]? = some s) : δ.set i s = δ := by
  refine List.ext_getElem? fun j => ?_
  rw [List.getElem?_set]
  split
  · rename_i e
    subst e
    rw [h]
    rw [if_pos (List.getElem?_eq_some_iff.mp h).1]
  · rfl
theorem comp_one {α : Type} {δ : DS} {t : Nat} {fi : Me (List D)} {fe : Me Val} (l : List α) (e F : α → D) (hi : fi δ = some (l.map e, δ)) (ht : δ[t]? = some .un) (hz : l.length ≤ 16777216)
    (h : ∀ a ∈ l, ∃ v, fe (δ.set t (.dat (e a))) = some (v, δ.set t (.dat (e a))) ∧ treeV v = some (F a)) :
    compM fi (asg t) (mr true) fe [t] δ = some (.ow (.list (l.map F)), δ) := by
  have hw : wipeD δ [t] = δ := set_self ht
  have hl : t < δ.length := (List.getElem?_eq_some_iff.mp ht).1
  refine comp_map l e F (fun a => δ.set t (.dat (e a))) hi ?_ ?_ hz fun a ha => ⟨?_, h a ha, ?_⟩
  · show (plainAt δ t && true) = true
    unfold plainAt
    rw [ht]
    rfl
  · rw [hw]
    show δ.set t (δ.getD t .un) = δ
    rw [List.getD_eq_getElem?_getD, ht]
    exact set_self ht
  · rw [hw]
    unfold asg freeAt
    rw [ht]
    rfl
  · rw [hw]
    show (δ.set t (.dat (e a))).set t .un = δ
    rw [List.set_set]
    exact set_self ht
theorem comp_ints {δ : DS} {t : Nat} {fi : Me (List D)} {fe : Me Val} {a : List Int} (F : Int → Int) (hi : fi δ = some (a.map .int, δ)) (ht : δ[t]? = some .un) (hz : a.length ≤ 16777216)
    (h : ∀ x ∈ a, fe (δ.set t (.dat (.int x))) = some (.fz (.int (F x)), δ.set t (.dat (.int x)))) :
    compM fi (asg t) (mr true) fe [t] δ = some (.ow (IL (a.map F)), δ) := by
  rw [comp_one a .int (fun x => .int (F x)) hi ht hz fun x hx => ⟨_, h x hx, rfl⟩]
  unfold IL
  rw [List.map_map]
  rfl
end DL
end
section
set_option maxRecDepth 100000
set_option maxHeartbeats 1000000
/-! plain lines -/
namespace DL
open PL (cf Nz)
theorem foldl_gcd (a : List Int) : ∀ g : Nat, a.foldl (fun g x => Nat.gcd g x.natAbs) g = Nat.gcd g (gl a) := by
  unfold gl
  induction a with
  | nil => intro g; simp
  | cons x a ih =>
    intro g
    rw [List.foldl_cons, List.foldl_cons, ih, ih (Nat.gcd 0 x.natAbs), Nat.gcd_zero_left, Nat.gcd_assoc]
theorem gl_cons (x : Int) (a : List Int) : gl (x :: a) = Nat.gcd x.natAbs (gl a) := by
  show a.foldl _ (Nat.gcd 0 x.natAbs) = _
  rw [foldl_gcd, Nat.gcd_zero_left]
theorem gl_dvd : ∀ {a : List Int} {x : Int}, x ∈ a → gl a ∣ x.natAbs
  | y :: a, x, h => by
    rw [gl_cons]
    rcases List.mem_cons.mp h with rfl | h
    · exact Nat.gcd_dvd_left _ _
    · exact Nat.dvd_trans (Nat.gcd_dvd_right _ _) (gl_dvd h)
theorem gl_map (c : Int) : ∀ a : List Int, gl (a.map (c * ·)) = c.natAbs * gl a
  | [] => rfl
  | x :: a => by rw [List.map_cons, gl_cons, gl_cons, gl_map c a, Int.natAbs_mul, Nat.gcd_mul_left]
/-- the last number -/
def la (a : List Int) : Int := cf a (a.length - 1)
theorem la_last (a : List Int) (x : Int) : la (a ++ [x]) = x := by
  unfold la
  rw [List.length_append, List.length_singleton, Nat.add_sub_cancel, PL.cf_append_right (Nat.le_refl _), Nat.sub_self]
  rfl
theorem la_mem {a : List Int} (h : a ≠ []) : la a ∈ a := by
  rcases List.eq_nil_or_concat a with rfl | ⟨c, x, rfl⟩
  · exact absurd rfl h
  · rw [List.concat_eq_append, la_last]
    simp
theorem la_ne {a : List Int} (hn : Nz a) (h : a ≠ []) : la a ≠ 0 := (PL.nz_iff.mp hn).resolve_left h
theorem la_map {f : Int → Int} (h0 : f 0 = 0) (a : List Int) : la (a.map f) = f (la a) := by
  unfold la
  rw [List.length_map, PL.cf_map h0]
theorem gl_pos {a : List Int} (hn : Nz a) (h : a ≠ []) : 0 < gl a := Nat.pos_of_ne_zero fun z => by
  have := gl_dvd (la_mem h)
  rw [z] at this
  exact la_ne hn h (Int.natAbs_eq_zero.mp (Nat.eq_zero_of_zero_dvd this))
theorem gl_lt {a : List Int} (hn : Nz a) (h : a ≠ []) {k : Nat} (hb : ∀ x ∈ a, x.natAbs < k) : gl a < k :=
  Nat.lt_of_le_of_lt (Nat.le_of_dvd (Nat.pos_of_ne_zero fun z => la_ne hn h (Int.natAbs_eq_zero.mp z)) (gl_dvd (la_mem h))) (hb _ (la_mem h))
/-- by what a line is divided -/
def dg (a : List Int) : Int := if la a < 0 then 0 - (gl a : Int) else gl a
def pln (a : List Int) : List Int := if a = [] then [] else a.map fun x => x.fdiv (dg a)
theorem dg_abs (a : List Int) : (dg a).natAbs = gl a := by
  unfold dg
  split <;> omega
theorem dg_ne {a : List Int} (hn : Nz a) (h : a ≠ []) : dg a ≠ 0 := fun z => by
  have h1 := dg_abs a
  rw [z] at h1
  have := gl_pos hn h
  simp at h1
  omega
theorem dg_dvd {a : List Int} {x : Int} (h : x ∈ a) : dg a ∣ x := by
  rw [← Int.natAbs_dvd_natAbs, dg_abs]
  exact gl_dvd h
theorem dg_map {a : List Int} (hn : Nz a) (h : a ≠ []) {c : Int} (hc : c ≠ 0) : dg (a.map (c * ·)) = c * dg a := by
  have hl := la_ne hn h
  unfold dg
  rw [la_map (Int.mul_zero c), gl_map, Int.natCast_mul]
  rcases Int.lt_or_gt_of_ne hc with h1 | h1 <;> rcases Int.lt_or_gt_of_ne hl with h2 | h2
  · rw [if_neg (by have := Int.mul_pos_of_neg_of_neg h1 h2; omega), if_pos h2, Int.ofNat_natAbs_of_nonpos (by omega), Int.zero_sub, Int.neg_mul, Int.mul_neg]
  · rw [if_pos (Int.mul_neg_of_neg_of_pos h1 h2), if_neg (by omega), Int.ofNat_natAbs_of_nonpos (by omega), Int.zero_sub, Int.neg_mul, Int.neg_neg]
  · rw [if_pos (Int.mul_neg_of_pos_of_neg h1 h2), if_pos h2, Int.natAbs_of_nonneg (by omega), Int.zero_sub, Int.zero_sub, Int.mul_neg]
  · rw [if_neg (by have := Int.mul_pos h1 h2; omega), if_neg (by omega), Int.natAbs_of_nonneg (by omega)]
theorem pln_len (a : List Int) : (pln a).length = a.length := by
  unfold pln
  split
  · rename_i h
    rw [h]
  · rw [List.length_map]
theorem pln_map {a : List Int} (hn : Nz a) {c : Int} (hc : c ≠ 0) : pln (a.map (c * ·)) = pln a := by
  by_cases h : a = []
  · subst h; rfl
  · unfold pln
    rw [if_neg h, if_neg (by simpa using h), dg_map hn h hc, List.map_map]
    refine List.map_congr_left fun x hx => ?_
    obtain ⟨k, rfl⟩ := dg_dvd hx
    show (c * (dg a * k)).fdiv (c * dg a) = (dg a * k).fdiv (dg a)
    rw [← Int.mul_assoc, Int.mul_fdiv_cancel_left _ (Int.mul_ne_zero hc (dg_ne hn h)), Int.mul_fdiv_cancel_left _ (dg_ne hn h)]
/-- the line is its plain line, times a number -/
theorem pln_mul {a : List Int} (hn : Nz a) (h : a ≠ []) : (pln a).map (dg a * ·) = a := by
  unfold pln
  rw [if_neg h, List.map_map]
  conv => rhs; rw [← List.map_id a]
  refine List.map_congr_left fun x hx => ?_
  obtain ⟨k, rfl⟩ := dg_dvd hx
  show dg a * (dg a * k).fdiv (dg a) = dg a * k
  rw [Int.mul_fdiv_cancel_left _ (dg_ne hn h)]
theorem pln_ne {a : List Int} (h : a ≠ []) : pln a ≠ [] := fun z => h (List.eq_nil_of_length_eq_zero (by rw [← pln_len, z]; rfl))
theorem pln_la {a : List Int} (hn : Nz a) (h : a ≠ []) : 0 < la (pln a) := by
  have e : dg a * la (pln a) = la a := by rw [← la_map (f := (dg a * ·)) (Int.mul_zero _), pln_mul hn h]
  have hl := la_ne hn h
  have hg := gl_pos hn h
  unfold dg at e
  split at e
  · rename_i h1
    refine Int.not_le.mp fun q => ?_
    have := Int.mul_nonneg_of_nonpos_of_nonpos (show (0 : Int) - gl a ≤ 0 by omega) q
    omega
  · rename_i h1
    refine Int.not_le.mp fun q => ?_
    have := Int.mul_nonpos_of_nonneg_of_nonpos (show (0 : Int) ≤ gl a by omega) q
    omega
theorem pln_gl {a : List Int} (hn : Nz a) (h : a ≠ []) : gl (pln a) = 1 := by
  have e : gl a = gl a * gl (pln a) := by
    have := gl_map (dg a) (pln a)
    rw [pln_mul hn h, dg_abs] at this
    exact this
  have hg := gl_pos hn h
  exact Nat.eq_of_mul_eq_mul_left hg (by omega)
theorem pln_nz {a : List Int} (hn : Nz a) : Nz (pln a) := by
  by_cases h : a = []
  · subst h; exact PL.nz_nil
  · have h1 := pln_la hn h
    exact PL.nz_iff.mpr (.inr (show la (pln a) ≠ 0 by omega))
theorem pln_plain {a : List Int} (hn : Nz a) (hl : 0 < la a) (hg : gl a = 1) : pln a = a := by
  unfold pln
  split
  · rename_i h; exact h.symm
  · have : dg a = 1 := by
      unfold dg
      rw [if_neg (by omega), hg]
      rfl
    rw [this]
    conv => rhs; rw [← List.map_id a]
    exact List.map_congr_left fun x _ => by simp
theorem pln_pln {a : List Int} (hn : Nz a) : pln (pln a) = pln a := by
  by_cases h : a = []
  · subst h; rfl
  · exact pln_plain (pln_nz hn) (pln_la hn h) (pln_gl hn h)
end DL
namespace DL
open PySem PySem.Spec L2
open PL (cf Nz)
theorem ix_neg1 {d : D} {a : List Int} (hd : seq? d = some (a.map .int)) (h : a ≠ []) : ixD d (.int (-1)) = some (.fz (.int (la a))) := by
  rcases List.eq_nil_or_concat a with rfl | ⟨c, x, rfl⟩
  · exact absurd rfl h
  · rw [List.concat_eq_append] at hd ⊢
    rw [la_last]
    exact ix_last (by rw [hd, List.map_append]; rfl)
end DL
end
section
set_option maxRecDepth 100000
set_option maxHeartbeats 1000000
/-! repr: how long, and of what signs -/
namespace DL
open PySem PySem.Spec L2
def sOk (x : Str) : Bool := PyData.strOk x
theorem sOk_app {x y : Str} (h : sOk x = true) (k : sOk y = true) : sOk (x ++ y) = true := by
  unfold sOk PyData.strOk at *
  show (x.cps ++ y.cps).all _ = true
  rw [Array.all_append, h, k]
  rfl
theorem sOk_of (s : String) : sOk (Str.ofString s) = true := by
  unfold sOk PyData.strOk
  rw [Str.ofString_eq_toList]
  simp only [List.all_toArray, List.all_map, List.all_eq_true, Function.comp, decide_eq_true_eq]
  intro c _
  have := c.valid
  rcases this with h | h
  · exact Nat.lt_trans h (by decide)
  · exact h.2
theorem sOk_join {sep : Str} (hs : sOk sep = true) : ∀ {ts : List Str}, (∀ t ∈ ts, sOk t = true) → sOk (Str.join sep ts) = true
  | [], _ => by
    have e : Str.join sep [] = Str.empty := rfl
    rw [e]
    decide +kernel
  | [x], h => h x List.mem_cons_self
  | x :: y :: r, h => by
    show sOk (x ++ sep ++ Str.join sep (y :: r)) = true
    exact sOk_app (sOk_app (h x List.mem_cons_self) hs) (sOk_join hs fun t ht => h t (List.mem_cons_of_mem _ ht))
/-- what repr shows within bounds: depth at most n, at most w signs -/
structure Sh (n w : Nat) (d : D) : Prop where
  lay : d.canLay0 = true
  can : d.showable = true
  dep : d.depth ≤ n
  len : d.shown.length ≤ w
  ok : sOk d.shown = true
theorem Sh.mono {n w n' w' : Nat} {d : D} (h : Sh n w d) (hn : n ≤ n') (hw : w ≤ w') : Sh n' w' d := ⟨h.lay, h.can, Nat.le_trans h.dep hn, Nat.le_trans h.len hw, h.ok⟩
theorem sh_int {i : Int} {k : Nat} (hk : 0 < k) (h : i.natAbs < 2 ^ k) (hk2 : k ≤ 1900) : Sh 0 (k + 1) (.int i) := by
  have hl : i.natAbs.log2 < k := by
    by_cases h0 : i.natAbs = 0
    · rw [h0]
      simpa using hk
    · exact (Nat.log2_lt h0).mpr h
  refine ⟨by simp [PyData.canLay0], by simp [PyData.showable]; omega, by simp [PyData.depth], ?_, ?_⟩
  · rw [PyData.shown_int]
    have := int_text_length_le hk hl
    rw [ofString_length]
    exact this
  · rw [PyData.shown_int]
    exact sOk_of _
theorem sh_bool (b : Bool) : Sh 0 5 (.bool b) := ⟨by simp [PyData.canLay0], by simp [PyData.showable], by simp [PyData.depth], by cases b <;> decide +kernel, by cases b <;> decide +kernel⟩
theorem sh_none : Sh 0 4 .none := ⟨by simp [PyData.canLay0], by simp [PyData.showable], by simp [PyData.depth], by decide +kernel, by decide +kernel⟩
theorem layAll_of : ∀ {ds : List D}, (∀ d ∈ ds, d.canLay0 = true) → PyData.canLayAll0 ds = true
  | [], _ => by simp [PyData.canLayAll0]
  | x :: r, h => by simp [PyData.canLayAll0, h x List.mem_cons_self, layAll_of fun d hd => h d (List.mem_cons_of_mem _ hd)]
theorem canAll_of : ∀ {ds : List D}, (∀ d ∈ ds, d.showable = true) → PyData.showableAll ds = true
  | [], _ => by simp [PyData.showableAll]
  | x :: r, h => by simp [PyData.showableAll, h x List.mem_cons_self, canAll_of fun d hd => h d (List.mem_cons_of_mem _ hd)]
theorem depAll_of {n : Nat} : ∀ {ds : List D}, (∀ d ∈ ds, d.depth ≤ n) → PyData.depthAll ds ≤ n
  | [], _ => by simp [PyData.depthAll]
  | x :: r, h => by
    have h1 := h x List.mem_cons_self
    have h2 := depAll_of (n := n) (ds := r) fun d hd => h d (List.mem_cons_of_mem _ hd)
    simp only [PyData.depthAll]
    omega
theorem shownAll_mem : ∀ {ds : List D} {t : Str}, t ∈ PyData.shownAll ds → ∃ d ∈ ds, t = d.shown
  | [], t, h => by simp [PyData.shownAll] at h
  | x :: r, t, h => by
    rw [PyData.shownAll_cons] at h
    rcases List.mem_cons.mp h with e | e
    · exact ⟨x, List.mem_cons_self, e⟩
    · obtain ⟨d, hd, e⟩ := shownAll_mem e
      exact ⟨d, List.mem_cons_of_mem _ hd, e⟩
theorem sum_le {w : Nat} : ∀ {l : List Nat}, (∀ x ∈ l, x ≤ w) → l.sum ≤ l.length * w
  | [], _ => by simp
  | x :: r, h => by
    have h1 := h x List.mem_cons_self
    have h2 := sum_le fun y hy => h y (List.mem_cons_of_mem _ hy)
    rw [List.sum_cons, List.length_cons, Nat.succ_mul]
    omega
theorem join_le {w : Nat} {ds : List D} (h : ∀ d ∈ ds, d.shown.length ≤ w) : (Str.join ", " (PyData.shownAll ds)).length ≤ ds.length * (w + 2) := by
  have h1 := StrLaws.join_length_le ", " (PyData.shownAll ds)
  have h2 : ((PyData.shownAll ds).map (·.length)).sum ≤ ((PyData.shownAll ds).map (·.length)).length * w := sum_le fun x hx => by
    obtain ⟨t, ht, rfl⟩ := List.mem_map.mp hx
    obtain ⟨d, hd, rfl⟩ := shownAll_mem ht
    exact h d hd
  rw [List.length_map, PyData.shownAll_length] at h2
  rw [PyData.shownAll_length] at h1
  have e : ((", " : String) : Str).length = 2 := by decide +kernel
  rw [e] at h1
  rw [Nat.mul_add]
  omega
theorem sh_list {n w : Nat} {ds : List D} (h : ∀ d ∈ ds, Sh n w d) : Sh (n + 1) (ds.length * (w + 2) + 3) (.list ds) := by
  refine ⟨by simp [PyData.canLay0, layAll_of fun d hd => (h d hd).lay], by simp [PyData.showable, canAll_of fun d hd => (h d hd).can], ?_, ?_, ?_⟩
  · have := depAll_of fun d hd => (h d hd).dep
    simp only [PyData.depth]
    omega
  · rw [PyData.shown_list, Str.length_append, Str.length_append]
    have := join_le fun d hd => (h d hd).len
    have e1 : (("[" : String) : Str).length = 1 := by decide +kernel
    have e2 : (("]" : String) : Str).length = 1 := by decide +kernel
    omega
  · rw [PyData.shown_list]
    exact sOk_app (sOk_app (sOk_of _) (sOk_join (sOk_of _) fun t ht => by
      obtain ⟨d, hd, rfl⟩ := shownAll_mem ht
      exact (h d hd).ok)) (sOk_of _)
theorem sh_tuple {n w : Nat} {ds : List D} (h : ∀ d ∈ ds, Sh n w d) : Sh (n + 1) (ds.length * (w + 2) + 3) (.tuple ds) := by
  refine ⟨by simp [PyData.canLay0, layAll_of fun d hd => (h d hd).lay], by simp [PyData.showable, canAll_of fun d hd => (h d hd).can], ?_, ?_, ?_⟩
  · have := depAll_of fun d hd => (h d hd).dep
    simp only [PyData.depth]
    omega
  · rw [PyData.shown_tuple, Str.length_append, Str.length_append]
    have := join_le fun d hd => (h d hd).len
    have e1 : (("(" : String) : Str).length = 1 := by decide +kernel
    have e2 : ((if ds.length == 1 then ",)" else ")" : String) : Str).length ≤ 2 := by split <;> decide +kernel
    omega
  · rw [PyData.shown_tuple]
    exact sOk_app (sOk_app (sOk_of _) (sOk_join (sOk_of _) fun t ht => by
      obtain ⟨d, hd, rfl⟩ := shownAll_mem ht
      exact (h d hd).ok)) (sOk_of _)
theorem sh_two {n w : Nat} {a b : D} (ha : Sh n w a) (hb : Sh n w b) : ∀ d ∈ [a, b], Sh n w d := fun d hd => by
  simp only [List.mem_cons, List.not_mem_nil, or_false] at hd
  rcases hd with rfl | rfl
  · exact ha
  · exact hb
theorem Sh.repr {n w : Nat} {d : D} (h : Sh n w d) (hn : n ≤ 60) (hw : w ≤ 16777216) : reprD [d] = some (.fz (.str d.shown)) := by
  have : reprOk d = true := by
    unfold reprOk
    rw [h.lay, h.can, decide_eq_true (Nat.le_trans h.dep hn), szOkL (Nat.le_trans h.len hw)]
    rfl
  unfold reprD
  exact if_pos this
theorem Sh.shaped {n w : Nat} {d : D} (h : Sh n w d) (hn : n ≤ 60) : SeqAt.shaped d = true := by
  unfold SeqAt.shaped
  rw [h.lay, decide_eq_true (by have := h.dep; omega)]
  rfl
theorem Sh.str {n w : Nat} {d : D} (h : Sh n w d) : SeqAt.shaped (.str d.shown) = true := by
  have := h.ok
  unfold sOk at this
  unfold SeqAt.shaped
  simp [PyData.canLay0, PyData.depth, this]
theorem sh_ints {k : Nat} {a : List Int} (hk : 0 < k) (hk2 : k ≤ 1900) (h : ∀ y ∈ a, y.natAbs < 2 ^ k) : ∀ d ∈ a.map PyData.int, Sh 0 (k + 1) d := fun d hd => by
  obtain ⟨y, hy, rfl⟩ := List.mem_map.mp hd
  exact sh_int hk (h y hy) hk2
end DL
end
section
set_option autoImplicit false
/-! sequences of numbers of a commutative ring, added place by place and multiplied as polynomials are -/
namespace SR
open Lean.Grind
variable {R : Type} [CommRing R]
local instance natR : NatCast R := Semiring.natCast
local instance intR : IntCast R := Ring.intCast
def sm (f : Nat → R) : Nat → R
  | 0 => 0
  | n + 1 => sm f n + f n
theorem sm_congr {f g : Nat → R} : ∀ {n : Nat}, (∀ i, i < n → f i = g i) → sm f n = sm g n
  | 0, _ => rfl
  | n + 1, h => by rw [sm, sm, sm_congr fun i hi => h i (by omega), h n (by omega)]
theorem sm_add (f g : Nat → R) : ∀ n, sm (fun i => f i + g i) n = sm f n + sm g n
  | 0 => by simp only [sm]; grind
  | n + 1 => by rw [sm, sm, sm, sm_add f g n]; grind
theorem sm_mul (x : R) (f : Nat → R) : ∀ n, sm (fun i => x * f i) n = x * sm f n
  | 0 => by simp only [sm]; grind
  | n + 1 => by rw [sm, sm, sm_mul x f n]; grind
theorem sm_first (f : Nat → R) : ∀ n, sm f (n + 1) = f 0 + sm (fun i => f (i + 1)) n
  | 0 => by simp only [sm]; grind
  | n + 1 => by rw [sm, sm_first f n, sm]; grind
theorem sm_rev (f : Nat → R) : ∀ n, sm f n = sm (fun i => f (n - 1 - i)) n
  | 0 => rfl
  | n + 1 => by
    rw [sm_first (fun i => f (n + 1 - 1 - i)) n, sm, sm_rev f n]
    have : sm (fun i => f (n + 1 - 1 - (i + 1))) n = sm (fun i => f (n - 1 - i)) n := sm_congr fun i hi => by
      congr 1
      omega
    rw [this]
    show _ + f n = f n + _
    grind
theorem sm_zero {f : Nat → R} : ∀ {n : Nat}, (∀ i, i < n → f i = 0) → sm f n = 0
  | 0, _ => rfl
  | n + 1, h => by rw [sm, sm_zero fun i hi => h i (by omega), h n (by omega)]; grind
def cv (f g : Nat → R) (n : Nat) : R := sm (fun i => f i * g (n - i)) (n + 1)
theorem cv_zero (f g : Nat → R) : cv f g 0 = f 0 * g 0 := by simp only [cv, sm]; grind
theorem cv_succ (f g : Nat → R) (n : Nat) : cv f g (n + 1) = f 0 * g (n + 1) + cv (fun i => f (i + 1)) g n := by
  unfold cv
  rw [sm_first]
  congr 1
  exact sm_congr fun i hi => by
    congr 2
    omega
theorem cv_congr {f f' g g' : Nat → R} (hf : ∀ i, f i = f' i) (hg : ∀ i, g i = g' i) (n : Nat) : cv f g n = cv f' g' n := by
  rw [show f = f' from funext hf, show g = g' from funext hg]
theorem cv_comm (f g : Nat → R) (n : Nat) : cv f g n = cv g f n := by
  unfold cv
  rw [sm_rev]
  refine sm_congr fun i hi => ?_
  rw [CommSemiring.mul_comm]
  congr 2
  omega
theorem cv_add_left (f g h : Nat → R) (n : Nat) : cv (fun i => f i + g i) h n = cv f h n + cv g h n := by
  unfold cv
  rw [← sm_add]
  exact sm_congr fun i _ => by grind
theorem cv_add_right (f g h : Nat → R) (n : Nat) : cv f (fun i => g i + h i) n = cv f g n + cv f h n := by
  unfold cv
  rw [← sm_add]
  exact sm_congr fun i _ => by grind
theorem cv_mul_left (x : R) (f g : Nat → R) (n : Nat) : cv (fun i => x * f i) g n = x * cv f g n := by
  unfold cv
  rw [← sm_mul]
  exact sm_congr fun i _ => by grind
theorem cv_assoc : ∀ (n : Nat) (f g h : Nat → R), cv (cv f g) h n = cv f (cv g h) n
  | 0, f, g, h => by
    rw [cv_zero, cv_zero, cv_zero, cv_zero]
    grind
  | n + 1, f, g, h => by
    rw [cv_succ, cv_succ f, cv_succ g h n, cv_congr (cv_succ f g) (fun _ => rfl), cv_add_left, cv_mul_left, cv_assoc n (fun i => f (i + 1)) g h, cv_zero]
    grind
structure Ser (R : Type) where
  c : Nat → R
theorem Ser.ext {a b : Ser R} (h : ∀ n, a.c n = b.c n) : a = b := by
  cases a
  cases b
  congr
  exact funext h
def con (r : R) : Ser R := ⟨fun n => match n with
  | 0 => r
  | _ + 1 => 0⟩
instance : Add (Ser R) := ⟨fun a b => ⟨fun n => a.c n + b.c n⟩⟩
instance : Mul (Ser R) := ⟨fun a b => ⟨cv a.c b.c⟩⟩
instance : Neg (Ser R) := ⟨fun a => ⟨fun n => -a.c n⟩⟩
instance : Sub (Ser R) := ⟨fun a b => ⟨fun n => a.c n - b.c n⟩⟩
instance : NatCast (Ser R) := ⟨fun n => con (n : R)⟩
instance (n : Nat) : OfNat (Ser R) n := ⟨((n : Nat) : Ser R)⟩
instance : IntCast (Ser R) := ⟨fun n => con (n : R)⟩
instance : SMul Nat (Ser R) := ⟨fun n a => (n : Ser R) * a⟩
instance : SMul Int (Ser R) := ⟨fun n a => (n : Ser R) * a⟩
def pw (a : Ser R) : Nat → Ser R
  | 0 => 1
  | n + 1 => pw a n * a
instance : HPow (Ser R) Nat (Ser R) := ⟨pw⟩
theorem add_c (a b : Ser R) (n : Nat) : (a + b).c n = a.c n + b.c n := rfl
theorem sub_c (a b : Ser R) (n : Nat) : (a - b).c n = a.c n - b.c n := rfl
theorem neg_c (a : Ser R) (n : Nat) : (-a).c n = -a.c n := rfl
theorem mul_c (a b : Ser R) (n : Nat) : (a * b).c n = cv a.c b.c n := rfl
theorem con_0 (r : R) : (con r).c 0 = r := rfl
theorem con_s (r : R) (n : Nat) : (con r).c (n + 1) = 0 := rfl
theorem con_mul (r : R) (a : Ser R) (n : Nat) : (con r * a).c n = r * a.c n := by
  rw [mul_c]
  cases n with
  | zero => rw [cv_zero, con_0]
  | succ n =>
    rw [cv_succ, con_0]
    have : cv (fun i => (con r).c (i + 1)) a.c n = 0 := sm_zero fun i _ => by
      show (0 : R) * _ = 0
      grind
    rw [this]
    grind
theorem con_add (r s : R) : con (r + s) = con r + con s := Ser.ext fun n => by
  rw [add_c]
  cases n with
  | zero => rfl
  | succ n =>
    rw [con_s, con_s, con_s]
    grind
theorem con_neg (r : R) : con (-r) = -con r := Ser.ext fun n => by
  rw [neg_c]
  cases n with
  | zero => rfl
  | succ n =>
    rw [con_s, con_s]
    grind
theorem con_times (r s : R) : con (r * s) = con r * con s := Ser.ext fun n => by
  rw [con_mul]
  cases n with
  | zero => rfl
  | succ n =>
    rw [con_s, con_s]
    grind
theorem nat_c (n : Nat) : ((n : Nat) : Ser R) = con (n : R) := rfl
theorem int_c (n : Int) : ((n : Int) : Ser R) = con (n : R) := rfl
theorem of_c (n : Nat) : (OfNat.ofNat n : Ser R) = con (n : R) := rfl
theorem zero_c (n : Nat) : (0 : Ser R).c n = 0 := by
  cases n with
  | zero =>
    show ((0 : Nat) : R) = 0
    grind
  | succ n => rfl
theorem one_eq : (1 : Ser R) = con 1 := by
  show con ((1 : Nat) : R) = con 1
  congr 1
  grind
instance : CommRing (Ser R) where
  add_zero a := Ser.ext fun n => by rw [add_c, zero_c]; grind
  add_comm a b := Ser.ext fun n => by rw [add_c, add_c]; grind
  add_assoc a b c := Ser.ext fun n => by simp only [add_c]; grind
  mul_assoc a b c := Ser.ext fun n => cv_assoc n _ _ _
  mul_comm a b := Ser.ext fun n => cv_comm _ _ _
  mul_one a := Ser.ext fun n => by rw [mul_c, cv_comm, ← mul_c, one_eq, con_mul]; grind
  one_mul a := Ser.ext fun n => by rw [one_eq, con_mul]; grind
  left_distrib a b c := Ser.ext fun n => cv_add_right _ _ _ _
  right_distrib a b c := Ser.ext fun n => cv_add_left _ _ _ _
  zero_mul a := Ser.ext fun n => by
    rw [mul_c, zero_c]
    exact sm_zero fun i _ => by rw [zero_c]; grind
  mul_zero a := Ser.ext fun n => by
    rw [mul_c, zero_c]
    exact sm_zero fun i _ => by rw [zero_c]; grind
  pow_zero a := rfl
  pow_succ a n := rfl
  ofNat_succ n := by
    show con ((n + 1 : Nat) : R) = con ((n : Nat) : R) + 1
    rw [one_eq, ← con_add]
    congr 1
    grind
  neg_add_cancel a := Ser.ext fun n => by rw [add_c, neg_c, zero_c]; grind
  sub_eq_add_neg a b := Ser.ext fun n => by rw [add_c, neg_c, sub_c]; grind
  neg_zsmul i a := by
    show con ((-i : Int) : R) * a = -(con ((i : Int) : R) * a)
    refine Ser.ext fun n => ?_
    rw [con_mul, neg_c, con_mul]
    grind
  zsmul_natCast_eq_nsmul n a := by
    show con (((n : Nat) : Int) : R) * a = con ((n : Nat) : R) * a
    congr 2
    exact Ring.intCast_natCast n
  intCast_ofNat n := by
    show con (((OfNat.ofNat n : Int)) : R) = con ((n : Nat) : R)
    congr 1
    exact Ring.intCast_ofNat n |>.trans (Semiring.ofNat_eq_natCast n)
  intCast_neg i := by
    show con ((-i : Int) : R) = -con ((i : Int) : R)
    rw [← con_neg]
    congr 1
    grind
end SR
example (a b c : SR.Ser (SR.Ser Int)) (h : a * b = c) : a * (a * b + c) = a * c + c * a := by grind
end
section
set_option maxRecDepth 100000
set_option maxHeartbeats 1000000
set_option exponentiation.threshold 100000
/-! greater numbers: up to 8000 bits -/
namespace DL
open PySem PySem.Spec L2
theorem log2_big {n : Nat} (h : n < 2 ^ 8000) : n.log2 ≤ 8000 := by
  by_cases h0 : n = 0
  · subst h0; decide
  · have := (Nat.log2_lt h0).mpr h
    omega
theorem mulD_big {i j : Int} (hi : i.natAbs < 2 ^ 8000) (hj : j.natAbs < 2 ^ 8000) : mulD (.int i) (.int j) = some (.fz (.int (i * j))) := by
  show (if _ then _ else _) = _
  rw [if_pos]
  unfold mulOk
  have := log2_big hi
  have := log2_big hj
  exact decide_eq_true (by omega)
theorem fdivD_big {i j : Int} (h : j ≠ 0) (hj : j.natAbs < 2 ^ 8000) : fdivD (.int i) (.int j) = some (.fz (.int (i.fdiv j))) := by
  have h1 := log2_big hj
  unfold fdivD intB
  simp only [show (decide (j ≠ 0) && decide (j.natAbs.log2 < 9000)) = true from by rw [decide_eq_true h, decide_eq_true (by omega)]; rfl, if_true, Option.map_some]
theorem gcd_big {c : Me Bool} {body : Ss} (fr : Int → Int → DS) (hc : ∀ x y : Int, c (fr x y) = some (!decide (y = 0), fr x y)) (hb : ∀ x y q p : Int, fdivD (.int x) (.int y) = some (.fz (.int q)) → mulD (.int q) (.int y) = some (.fz (.int p)) → body (fr x y) = some (.nx, fr y (x - p)))
    {a b : Nat} (ha : a < 2 ^ 8000) (hb' : b < 2 ^ 8000) {n : Nat} (hn : 20000 ≤ n) : whileN c body n (fr a b) = some (.nx, fr (Nat.gcd a b) 0) := by
  obtain ⟨s, r, h1, ⟨h2, -, -⟩, h3⟩ := while_fold (c := c) (body := body) (fun (s : Nat × Nat) (_ : Unit) => fr s.1 s.2) (fun s => Nat.gcd s.1 s.2 = Nat.gcd a b ∧ s.1 < 2 ^ 8000 ∧ s.2 < 2 ^ 8000) (fun s => !decide (s.2 = 0)) (fun s => (s.2, s.1 % s.2)) (fun s => PL.mu s.1 s.2) (fun s r p => by
    have : decide (((s.2 : Nat) : Int) = 0) = decide (s.2 = 0) := by
      rw [Bool.eq_iff_iff]
      simp
    rw [hc, this]) (fun s r p hq => by
    have h0 : s.2 ≠ 0 := by simpa using hq
    have e := hb s.1 s.2 _ _ (fdivD_big (by omega) (by rw [Int.natAbs_natCast]; exact p.2.2)) (by rw [fdiv_nat s.1 s.2]; exact mulD_big (by rw [Int.natAbs_natCast]; exact Nat.lt_of_le_of_lt (Nat.div_le_self _ _) p.2.1) (by rw [Int.natAbs_natCast]; exact p.2.2))
    rw [rest_nat] at e
    refine ⟨⟨r, e⟩, ⟨?_, p.2.2, Nat.lt_trans (Nat.mod_lt _ (Nat.pos_of_ne_zero h0)) p.2.2⟩, PL.mu_lt h0⟩
    show Nat.gcd s.2 (s.1 % s.2) = _
    rw [← p.1, Nat.gcd_comm s.1 s.2]
    exact (Nat.gcd_comm _ _).trans (Nat.gcd_rec s.2 s.1).symm) n (a, b) () ⟨rfl, ha, hb'⟩ (Nat.lt_of_lt_of_le (Nat.lt_of_le_of_lt (PL.mu_le hb') (show _ < 20000 by decide)) hn)
  have h4 : s.2 = 0 := by simpa using h3
  rw [h4, Nat.gcd_zero_right] at h2
  have h1 : whileN c body n (fr a b) = some (.nx, fr (s.1 : Nat) (s.2 : Nat)) := h1
  rw [h1, h2, h4]
  rfl
end DL
end
section
set_option maxRecDepth 100000
set_option maxHeartbeats 1000000
set_option exponentiation.threshold 100000
/-! lines as members of a ring; rests, greatest common divisors -/
namespace PL
open SR (Ser con)
open DL (pln la dg)
/-! ### products without noughts -/
def ml (a b : List Int) : List Int := if a = [] ∨ b = [] then [] else tms a b
theorem cf_ml (a b : List Int) (n : Nat) : cf (ml a b) n = cv (cf a) (cf b) n := by
  unfold ml
  split
  · rename_i h
    rw [cf_nil]
    rcases h with rfl | rfl
    · exact (cv_nil _ _).symm
    · rw [cv_comm]
      exact (cv_nil _ _).symm
  · exact cf_tms a b n
theorem nz_ml {a b : List Int} (ha : Nz a) (hb : Nz b) : Nz (ml a b) := by
  unfold ml
  split
  · exact nz_nil
  · rename_i h
    exact nz_tms ha hb (fun z => h (.inl z)) fun z => h (.inr z)
theorem ml_le (a b : List Int) : (ml a b).length ≤ a.length + b.length - 1 := by
  unfold ml
  split
  · exact Nat.zero_le _
  · rw [tms_len]
    exact Nat.le_refl _
theorem ml_len {a b : List Int} (ha : a ≠ []) (hb : b ≠ []) : (ml a b).length = a.length + b.length - 1 := by
  unfold ml
  rw [if_neg (fun z => z.elim ha hb), tms_len]
theorem ml_ne {a b : List Int} (ha : a ≠ []) (hb : b ≠ []) : ml a b ≠ [] := fun z => by
  have h := ml_len ha hb
  rw [z] at h
  have h1 := List.length_pos_iff.mpr ha
  have h2 := List.length_pos_iff.mpr hb
  simp at h
  omega
theorem ml_nil (a : List Int) : ml a [] = [] := by unfold ml; rw [if_pos (.inr rfl)]
theorem nil_ml (a : List Int) : ml [] a = [] := rfl
/-! ### into the ring -/
def S (a : List Int) : Ser Int := ⟨cf a⟩
theorem sm_eq (f : Nat → Int) : ∀ n, sm f n = SR.sm f n
  | 0 => rfl
  | n + 1 => by rw [sm, SR.sm, sm_eq f n]
theorem cv_eq (f g : Nat → Int) (n : Nat) : cv f g n = SR.cv f g n := sm_eq _ _
theorem S_ml (a b : List Int) : S (ml a b) = S a * S b := Ser.ext fun n => (cf_ml a b n).trans (cv_eq _ _ n)
where Ser.ext {a b : Ser Int} (h : ∀ n, a.c n = b.c n) : a = b := SR.Ser.ext h
theorem S_ad (a b : List Int) : S (ad a b) = S a + S b := SR.Ser.ext fun n => cf_ad a b n
theorem S_su (a b : List Int) : S (su a b) = S a - S b := SR.Ser.ext fun n => cf_su a b n
theorem S_sc (c : Int) (a : List Int) : S (a.map (c * ·)) = con c * S a := SR.Ser.ext fun n => by
  rw [SR.con_mul]
  exact cf_map (Int.mul_zero c) a n
theorem S_inj {a b : List Int} (ha : Nz a) (hb : Nz b) (h : S a = S b) : a = b := nz_ext ha hb fun n => congrFun (congrArg Ser.c h) n
theorem S_nil : S [] = 0 := SR.Ser.ext fun n => by rw [SR.zero_c]; exact cf_nil n
theorem S_zero {a : List Int} (ha : Nz a) (h : S a = 0) : a = [] := S_inj ha nz_nil (h.trans S_nil.symm)
theorem con_nat (n : Nat) : ((n : Nat) : Ser Int) = con (n : Int) := rfl
theorem con_one : con (1 : Int) = 1 := SR.one_eq.symm
theorem S_one : S [1] = 1 := SR.Ser.ext fun n => by
  rw [← con_one]
  cases n with
  | zero => rfl
  | succ n => exact cf_nil n
theorem con_zero : con (0 : Int) = 0 := SR.Ser.ext fun n => by
  rw [SR.zero_c]
  cases n <;> rfl
theorem con_neg1 : con (-1 : Int) = -1 := by
  rw [show (-1 : Int) = -(1 : Int) from rfl, SR.con_neg, con_one]
theorem nz_sc {c : Int} (hc : c ≠ 0) {a : List Int} (h : Nz a) : Nz (a.map (c * ·)) := nz_iff.mpr (by
  rcases nz_iff.mp h with h | h
  · left
    rw [h]
    rfl
  · right
    rw [cf_map (Int.mul_zero c), List.length_map]
    exact Int.mul_ne_zero hc h)
def X : Ser Int := ⟨cf [0, 1]⟩
theorem S_cons0 (a : List Int) : S (0 :: a) = X * S a := SR.Ser.ext fun n => by
  show cf (0 :: a) n = SR.cv _ _ n
  cases n with
  | zero =>
    rw [SR.cv_zero]
    show 0 = 0 * _
    rw [Int.zero_mul]
  | succ n =>
    rw [SR.cv_succ]
    show cf a n = (0 : Int) * _ + SR.cv (cf [1]) (cf a) n
    rw [Int.zero_mul, Int.zero_add, ← cv_eq, cv_one, Int.one_mul]
def shf (k : Nat) (a : List Int) : List Int := List.replicate k 0 ++ a
theorem S_shf : ∀ (k : Nat) (a : List Int), S (shf k a) = X ^ k * S a
  | 0, a => by
    show S a = _
    grind
  | k + 1, a => by
    show S (0 :: shf k a) = _
    rw [S_cons0, S_shf k a]
    grind
theorem shf_len (k : Nat) (a : List Int) : (shf k a).length = k + a.length := by unfold shf; rw [List.length_append, List.length_replicate]
theorem cf_shf (k : Nat) (a : List Int) (n : Nat) : cf (shf k a) n = if n < k then 0 else cf a (n - k) := by
  unfold shf
  split
  · rename_i h
    rw [cf_append_left (by rw [List.length_replicate]; exact h), cf_zeros]
  · rename_i h
    rw [cf_append_right (by rw [List.length_replicate]; omega), List.length_replicate]
theorem nz_shf (k : Nat) {a : List Int} (h : Nz a) (h0 : a ≠ []) : Nz (shf k a) := nz_iff.mpr (.inr (by
  have := List.length_pos_iff.mpr h0
  rw [cf_shf, shf_len, if_neg (by omega), show k + a.length - 1 - k = a.length - 1 by omega]
  exact (nz_iff.mp h).resolve_left h0))
theorem bd_shf {A : Nat} (k : Nat) {a : List Int} (h : Bd A a) : Bd A (shf k a) := fun n => by
  rw [cf_shf]
  split
  · exact Nat.zero_le _
  · exact h _
theorem bd_sc {A C : Nat} {c : Int} (hc : c.natAbs ≤ C) {a : List Int} (h : Bd A a) : Bd (C * A) (a.map (c * ·)) := fun n => by
  rw [cf_map (Int.mul_zero c), Int.natAbs_mul]
  exact Nat.mul_le_mul hc (h n)
theorem bd_su {A B : Nat} {a b : List Int} (ha : Bd A a) (hb : Bd B b) : Bd (A + B) (su a b) := fun n => by
  have h1 := ha n
  have h2 := hb n
  rw [cf_su]
  omega
theorem bd_la {A : Nat} {a : List Int} (h : Bd A a) : (la a).natAbs ≤ A := h _
/-! ### no small multiple -/
theorem no_small {h o r : List Int} (nh : Nz h) (no : Nz o) (nr : Nz r) (e : S h * S o = S r) (hl : r.length < o.length) : h = [] ∧ r = [] := by
  have er : ml h o = r := S_inj (nz_ml nh no) nr (by rw [S_ml, e])
  by_cases h0 : h = []
  · subst h0
    exact ⟨rfl, er.symm⟩
  · have o0 : o ≠ [] := fun z => by rw [z] at hl; simp at hl
    have := ml_len h0 o0
    have := List.length_pos_iff.mpr h0
    rw [er] at *
    omega
theorem con_cancel {n : Int} (hn : n ≠ 0) {a b : List Int} (ha : Nz a) (hb : Nz b) (h : con n * S a = con n * S b) : a = b := by
  have e : a.map (n * ·) = b.map (n * ·) := S_inj (nz_sc hn ha) (nz_sc hn hb) (by rw [S_sc, S_sc, h])
  refine nz_ext ha hb fun k => ?_
  have := congrArg (fun l => cf l k) e
  simp only [cf_map (Int.mul_zero n)] at this
  exact Int.eq_of_mul_eq_mul_left hn this
/-! ### rests -/
structure Rem (p q r : List Int) : Prop where
  nz : Nz r
  lt : r.length < q.length
  eq : ∃ n : Int, n ≠ 0 ∧ ∃ k : List Int, Nz k ∧ con n * S p = S k * S q + S r
theorem rem_unique {p q r r' : List Int} (hq : Nz q) (h : Rem p q r) (h' : Rem p q r') : ∃ n m : Int, n ≠ 0 ∧ m ≠ 0 ∧ r.map (n * ·) = r'.map (m * ·) := by
  obtain ⟨n, n0, k, nk, e⟩ := h.eq
  obtain ⟨m, m0, j, nj, e'⟩ := h'.eq
  refine ⟨m, n, m0, n0, ?_⟩
  have key := no_small (h := su (k.map (m * ·)) (j.map (n * ·))) (o := q) (r := su (r'.map (n * ·)) (r.map (m * ·))) (nz_su _ _) hq (nz_su _ _) (by
    rw [S_su, S_su, S_sc, S_sc, S_sc, S_sc]
    have e1 : con m * (con n * S p) = con m * (S k * S q + S r) := by rw [e]
    have e2 : con n * (con m * S p) = con n * (S j * S q + S r') := by rw [e']
    grind) (by
    have h1 := su_len (r'.map (n * ·)) (r.map (m * ·))
    rw [List.length_map, List.length_map] at h1
    have := h.lt
    have := h'.lt
    omega)
  have e3 : S (r.map (m * ·)) = S (r'.map (n * ·)) := by
    have := congrArg S key.2
    rw [S_su, S_nil] at this
    grind
  exact S_inj (nz_sc m0 h.nz) (nz_sc n0 h'.nz) e3
theorem rem_pln {p q r r' : List Int} (hq : Nz q) (h : Rem p q r) (h' : Rem p q r') : pln r = pln r' := by
  obtain ⟨n, m, n0, m0, e⟩ := rem_unique hq h h'
  rw [← DL.pln_map h.nz n0, e, DL.pln_map h'.nz m0]
/-- one step of a division -/
def pst (o r : List Int) : List Int := su (r.map (la o * ·)) (shf (r.length - o.length) (o.map (la r * ·)))
theorem S_pst (o r : List Int) : S (pst o r) = con (la o) * S r - X ^ (r.length - o.length) * (con (la r) * S o) := by
  unfold pst
  rw [S_su, S_sc, S_shf, S_sc]
theorem pst_len {o r : List Int} (ho : o ≠ []) (hl : o.length ≤ r.length) : (pst o r).length < r.length := by
  have h1 := List.length_pos_iff.mpr ho
  have key : ∀ n, cf (pst o r) n = cf ((r.map (la o * ·)).take (r.length - 1)) n + (if n < r.length - 1 then cf (pst o r) n - cf (r.map (la o * ·)) n else 0) := fun n => by
    rw [cf_get (List.take _ _), List.getD_eq_getElem?_getD, List.getElem?_take]
    by_cases hn : n < r.length - 1
    · rw [if_pos hn, if_pos hn, cf_get (r.map _), List.getD_eq_getElem?_getD]
      omega
    · rw [if_neg hn, if_neg hn]
      show _ = 0 + 0
      unfold pst
      rw [cf_su, cf_map (Int.mul_zero _), cf_shf, if_neg (by omega), cf_map (Int.mul_zero _)]
      by_cases hn2 : n = r.length - 1
      · rw [hn2, show r.length - 1 - (r.length - o.length) = o.length - 1 by omega]
        show la o * la r - la r * la o = _
        rw [Int.mul_comm]
        omega
      · rw [cf_beyond (a := r) (by omega), cf_beyond (a := o) (by omega)]
        omega
  have h2 := nz_len (a := adS ((r.map (la o * ·)).take (r.length - 1)) ((List.range (r.length - 1)).map fun n => cf (pst o r) n - cf (r.map (la o * ·)) n)) (b := pst o r) (nz_su _ _) fun n => by
    rw [cf_adS, key n]
    congr 1
    rw [cf_get (List.map _ _), List.getD_eq_getElem?_getD, List.getElem?_map]
    by_cases hn : n < r.length - 1
    · rw [List.getElem?_range hn, if_pos hn]
      rfl
    · rw [List.getElem?_eq_none (by rw [List.length_range]; omega), if_neg hn]
      rfl
  rw [adS_len, List.length_take, List.length_map, List.length_map, List.length_range] at h2
  omega
theorem bd_pst {A B : Nat} {o r : List Int} (ha : Bd A r) (hb : Bd B o) : Bd (2 * (A * B)) (pst o r) := by
  have h1 := bd_su (bd_sc (bd_la hb) ha) (bd_shf (r.length - o.length) (bd_sc (bd_la ha) hb))
  refine bd_le ?_ h1
  rw [Nat.mul_comm B A]
  omega
/-- what holds between the steps of a division of p by o -/
structure Dvs (A B : Nat) (p o r : List Int) : Prop where
  nz : Nz r
  le : r.length ≤ p.length
  eq : ∃ n : Int, n ≠ 0 ∧ ∃ k : List Int, Nz k ∧ con n * S p = S k * S o + S r
  bd : Bd (A * (2 * B) ^ (min (p.length - r.length) (p.length + 1 - o.length))) r
theorem Dvs.start {A B : Nat} {p o : List Int} (hp : Nz p) (ha : Bd A p) : Dvs A B p o p := ⟨hp, Nat.le_refl _, ⟨1, by decide, [], nz_nil, by rw [S_nil, con_one]; grind⟩, by rw [Nat.sub_self, Nat.zero_min, Nat.pow_zero, Nat.mul_one]; exact ha⟩
theorem Dvs.step {A B : Nat} {p o r : List Int} (no : Nz o) (ho : o ≠ []) (hb : Bd B o) (h : Dvs A B p o r) (hl : o.length ≤ r.length) : Dvs A B p o (pst o r) := by
  have h1 := pst_len ho hl
  have h2 := h.le
  obtain ⟨n, n0, k, nk, e⟩ := h.eq
  have l0 : la o ≠ 0 := DL.la_ne no ho
  refine ⟨nz_su _ _, by omega, ⟨la o * n, Int.mul_ne_zero l0 n0, ad (k.map (la o * ·)) (shf (r.length - o.length) [1] |>.map (la r * ·)), nz_ad _ _, ?_⟩, ?_⟩
  · rw [S_ad, S_sc, S_sc, S_shf, S_one, S_pst, SR.con_times]
    grind
  · have h3 := bd_pst h.bd hb
    refine bd_le ?_ h3
    have hB : 1 ≤ B := by
      have := bd_la hb
      omega
    have e1 : 2 * (A * (2 * B) ^ (min (p.length - r.length) (p.length + 1 - o.length)) * B) = A * (2 * B) ^ (min (p.length - r.length) (p.length + 1 - o.length) + 1) := by
      rw [Nat.pow_succ]
      grind
    rw [e1]
    exact Nat.mul_le_mul_left _ (Nat.pow_le_pow_right (by omega) (by omega))
theorem Dvs.rem {A B : Nat} {p o r : List Int} (h : Dvs A B p o r) (hl : r.length < o.length) : Rem p o r := ⟨h.nz, hl, h.eq⟩
theorem rem_exists {A B : Nat} {p o : List Int} (hp : Nz p) (no : Nz o) (ho : o ≠ []) (ha : Bd A p) (hb : Bd B o) : ∃ r, Rem p o r ∧ Dvs A B p o r := by
  have key : ∀ n r, r.length ≤ n → Dvs A B p o r → ∃ r, Rem p o r ∧ Dvs A B p o r := by
    intro n
    induction n with
    | zero =>
      intro r hr h
      have := List.length_pos_iff.mpr ho
      exact ⟨r, h.rem (by omega), h⟩
    | succ n ih =>
      intro r hr h
      by_cases hl : o.length ≤ r.length
      · have := pst_len ho hl
        exact ih _ (by omega) (h.step no ho hb hl)
      · exact ⟨r, h.rem (by omega), h⟩
  exact key p.length p (Nat.le_refl _) (Dvs.start hp ha)
/-! ### greatest common divisors by rests -/
inductive Eu : List Int → List Int → List Int → Prop
  | done (p : List Int) : Eu p [] p
  | step {p q r g : List Int} : Nz q → q ≠ [] → Rem p q r → Eu q (pln r) g → Eu p q g
theorem Eu.one {p q g g' : List Int} (h : Eu p q g) (h' : Eu p q g') : g = g' := by
  induction h with
  | done p =>
    cases h' with
    | done => rfl
    | step _ h _ _ => exact absurd rfl h
  | step n0 h0 hr _ ih =>
    cases h' with
    | done => exact absurd rfl h0
    | step _ _ hr' h2 => exact ih (by rw [rem_pln n0 hr hr']; exact h2)
/-- g goes into p, over the fractions -/
def Dv (g p : List Int) : Prop := ∃ n : Int, n ≠ 0 ∧ ∃ k : List Int, Nz k ∧ con n * S p = S k * S g
theorem dv_nil (g : List Int) : Dv g [] := ⟨1, by decide, [], nz_nil, by rw [S_nil]; grind⟩
theorem dv_refl (g : List Int) : Dv g g := ⟨1, by decide, [1], nz_last (a := []) (by decide), by rw [S_one, con_one]⟩
theorem S_pln {a : List Int} (h : Nz a) : ∃ c : Int, c ≠ 0 ∧ S a = con c * S (pln a) := by
  by_cases h0 : a = []
  · subst h0
    exact ⟨1, by decide, by show S [] = _ * S []; rw [con_one]; grind⟩
  · exact ⟨dg a, DL.dg_ne h h0, by rw [← S_sc, DL.pln_mul h h0]⟩
theorem dv_of_pln {g p : List Int} (hp : Nz p) (h : Dv g (pln p)) : Dv g p := by
  obtain ⟨c, c0, e⟩ := S_pln hp
  obtain ⟨n, n0, k, nk, e2⟩ := h
  exact ⟨n, n0, k.map (c * ·), nz_sc c0 nk, by rw [e, S_sc]; grind⟩
theorem Eu.dv {p q g : List Int} (h : Eu p q g) : Dv g p ∧ Dv g q := by
  induction h with
  | done p => exact ⟨dv_refl p, dv_nil p⟩
  | step nq h0 hr _ ih =>
    obtain ⟨a, b⟩ := ih
    refine ⟨?_, a⟩
    obtain ⟨n, n0, k, nk, e⟩ := hr.eq
    obtain ⟨n1, n10, k1, nk1, e1⟩ := a
    obtain ⟨n2, n20, k2, nk2, e2⟩ := dv_of_pln hr.nz b
    refine ⟨n1 * n2 * n, Int.mul_ne_zero (Int.mul_ne_zero n10 n20) n0, ad (ml k (k1.map (n2 * ·))) (k2.map (n1 * ·)), nz_ad _ _, ?_⟩
    rw [S_ad, S_ml, S_sc, S_sc, SR.con_times, SR.con_times]
    grind
theorem Eu.nz {p q g : List Int} (h : Eu p q g) (hp : Nz p) : Nz g := by
  induction h with
  | done p => exact hp
  | step nq _ hr _ ih => exact ih nq
/-- what is divided without a rest -/
theorem rem_of_dv {g p r : List Int} (ng : Nz g) (h : Dv g p) (hr : Rem p g r) : r = [] := by
  obtain ⟨n, n0, k, nk, e⟩ := h
  have hg : g ≠ [] := fun z => by
    have := hr.lt
    rw [z] at this
    simp at this
  have h2 : Rem p g [] := ⟨nz_nil, List.length_pos_iff.mpr hg, n, n0, k, nk, by rw [e, S_nil]; grind⟩
  have := rem_pln ng hr h2
  by_cases h0 : r = []
  · exact h0
  · exact absurd this (DL.pln_ne h0)
/-- rests of products with s -/
theorem rem_ml {p q r s P Q R : List Int} (hp : Nz p) (hq : Nz q) (ns : Nz s) (s0 : s ≠ []) (q0 : q ≠ []) (hP : P = pln (ml p s)) (hQ : Q = pln (ml q s)) (h : Rem p q r) (h' : Rem P Q R) : pln R = pln (ml (pln r) s) := by
  subst hP hQ
  obtain ⟨c, c0, ec⟩ := S_pln (nz_ml hp ns)
  obtain ⟨d, d0, ed⟩ := S_pln (nz_ml hq ns)
  obtain ⟨t, t0, et⟩ := S_pln h.nz
  obtain ⟨n, n0, k, nk, e⟩ := h.eq
  have qs0 : ml q s ≠ [] := ml_ne q0 s0
  have h2 : Rem (pln (ml p s)) (pln (ml q s)) (ml r s) := ⟨nz_ml h.nz ns, by
    rw [DL.pln_len, ml_len q0 s0]
    have := ml_le r s
    have := h.lt
    have := List.length_pos_iff.mpr s0
    omega, n * c, Int.mul_ne_zero n0 c0, k.map (d * ·), nz_sc d0 nk, by
    rw [S_ml] at ec ed
    rw [SR.con_times, S_sc, S_ml]
    have : con n * S p * S s = (S k * S q + S r) * S s := by rw [e]
    grind⟩
  rw [rem_pln (DL.pln_nz (nz_ml hq ns)) h' h2]
  have : ml r s = (ml (pln r) s).map (t * ·) := S_inj (nz_ml h.nz ns) (nz_sc t0 (nz_ml (DL.pln_nz h.nz) ns)) (by
    rw [S_sc, S_ml, S_ml, et]
    grind)
  rw [this, DL.pln_map (nz_ml (DL.pln_nz h.nz) ns) t0]
end PL
end
section
set_option maxRecDepth 100000
set_option maxHeartbeats 1000000
set_option exponentiation.threshold 100000
/-! a division's whole state: number, quotient, rest -/
namespace PL
open SR (Ser con)
open DL (pln la dg gl)
theorem ser_cancel {f : Int} (h : f ≠ 0) {x y : Ser Int} (e : con f * x = con f * y) : x = y := SR.Ser.ext fun n => by
  have := congrArg (fun s => s.c n) e
  simp only [SR.con_mul] at this
  exact Int.eq_of_mul_eq_mul_left h this
/-- number, quotient and rest of a division of p by o, under way -/
structure Prt (A B : Nat) (p o : List Int) (n : Int) (k r : List Int) : Prop where
  nz : Nz r
  le : r.length ≤ p.length
  n0 : n ≠ 0
  eq : con n * S p = S k * S o + S r
  bd : Bd (A * (2 * B) ^ (min (p.length - r.length) (p.length + 1 - o.length))) r
  bk : Bd (A * (2 * B) ^ (min (p.length - r.length) (p.length + 1 - o.length))) k
  bn : n.natAbs ≤ (2 * B) ^ (min (p.length - r.length) (p.length + 1 - o.length))
  kl : k.length = p.length - o.length + 1
  top : (r = p ∧ ∀ i, cf k i = 0) ∨ (r.length < p.length ∧ cf k (p.length - o.length) ≠ 0)
theorem S_zeros (k : Nat) : S (List.replicate k 0) = 0 := SR.Ser.ext fun n => by rw [SR.zero_c]; exact cf_zeros k n
theorem Prt.start {A B : Nat} {p o : List Int} (hp : Nz p) (ha : Bd A p) : Prt A B p o 1 (List.replicate (p.length - o.length + 1) 0) p :=
  ⟨hp, Nat.le_refl _, by decide, by rw [S_zeros, con_one]; grind, by rw [Nat.sub_self, Nat.zero_min, Nat.pow_zero, Nat.mul_one]; exact ha, fun n => by rw [cf_zeros]; exact Nat.zero_le _, by rw [Nat.sub_self, Nat.zero_min, Nat.pow_zero]; decide, List.length_replicate, .inl ⟨rfl, cf_zeros _⟩⟩
theorem S_bump {F : List Int} {k : Nat} (h : k < F.length) (v : Int) : S (bump F k v) = S F + X ^ k * con v := by
  have e : con v = S [v] := SR.Ser.ext fun n => by
    cases n with
    | zero => rfl
    | succ n => exact (cf_nil n).symm
  rw [e, ← S_shf]
  refine SR.Ser.ext fun n => ?_
  show cf (bump F k v) n = cf F n + cf (shf k [v]) n
  rw [cf_bump h, cf_shf]
  congr 1
  by_cases h1 : n = k
  · subst h1
    rw [if_pos rfl, if_neg (Nat.lt_irrefl _), Nat.sub_self]
    rfl
  · rw [if_neg h1]
    by_cases h2 : n < k
    · rw [if_pos h2]
    · rw [if_neg h2, show n - k = n - k - 1 + 1 by omega]
      show 0 = cf [] (n - k - 1)
      exact (cf_nil _).symm
theorem bd_bump {A V : Nat} {F : List Int} {k : Nat} (h : k < F.length) {v : Int} (hv : v.natAbs ≤ V) (hF : Bd A F) : Bd (A + V) (bump F k v) := fun n => by
  have := hF n
  rw [cf_bump h]
  split <;> omega
theorem Prt.step {A B : Nat} {p o r k : List Int} {n : Int} (no : Nz o) (ho : o ≠ []) (hb : Bd B o) (h : Prt A B p o n k r) (hl : o.length ≤ r.length) :
    Prt A B p o (n * la o) (bump (k.map (la o * ·)) (r.length - o.length) (la r)) (pst o r) := by
  have h1 := pst_len ho hl
  have h2 := h.le
  have l0 : la o ≠ 0 := DL.la_ne no ho
  have r0 : r ≠ [] := fun z => by
    have := List.length_pos_iff.mpr ho
    rw [z, List.length_nil] at hl
    omega
  have lr0 : la r ≠ 0 := DL.la_ne h.nz r0
  have hB : 1 ≤ B := by
    have := bd_la hb
    omega
  have hk : r.length - o.length < (k.map (la o * ·)).length := by
    rw [List.length_map, h.kl]
    omega
  have mono : ∀ C : Nat, C * (2 * B) ^ (min (p.length - r.length) (p.length + 1 - o.length) + 1) ≤ C * (2 * B) ^ (min (p.length - (pst o r).length) (p.length + 1 - o.length)) := fun C => Nat.mul_le_mul_left _ (Nat.pow_le_pow_right (by omega) (by omega))
  refine ⟨nz_su _ _, by omega, Int.mul_ne_zero h.n0 l0, ?_, ?_, ?_, ?_, by rw [bump_len, List.length_map]; exact h.kl, .inr ⟨by omega, ?_⟩⟩
  · have := h.eq
    rw [S_bump hk, S_sc, S_pst, SR.con_times]
    grind
  · refine bd_le ?_ (bd_pst h.bd hb)
    refine Nat.le_trans (Nat.le_of_eq ?_) (mono A)
    rw [Nat.pow_succ]
    grind
  · refine bd_le ?_ (bd_bump hk (bd_la h.bd) (bd_sc (bd_la hb) h.bk))
    refine Nat.le_trans ?_ (mono A)
    obtain ⟨Y, hY⟩ : ∃ Y, A * (2 * B) ^ (min (p.length - r.length) (p.length + 1 - o.length)) = Y := ⟨_, rfl⟩
    rw [Nat.pow_succ, show A * ((2 * B) ^ (min (p.length - r.length) (p.length + 1 - o.length)) * (2 * B)) = A * (2 * B) ^ (min (p.length - r.length) (p.length + 1 - o.length)) * (2 * B) from (Nat.mul_assoc _ _ _).symm, hY]
    have : Y ≤ B * Y := Nat.le_mul_of_pos_left _ hB
    have e2 : Y * (2 * B) = B * Y + B * Y := by grind
    omega
  · rw [Int.natAbs_mul]
    have := Nat.mul_le_mul h.bn (bd_la hb)
    have m := mono 1
    rw [Nat.one_mul, Nat.one_mul, Nat.pow_succ] at m
    refine Nat.le_trans this (Nat.le_trans (Nat.mul_le_mul_left _ (by omega)) m)
  · rw [cf_bump hk, cf_map (Int.mul_zero _)]
    rcases h.top with ⟨rfl, hz⟩ | ⟨hlt, hz⟩
    · rw [if_pos rfl, hz, Int.mul_zero, Int.zero_add]
      exact lr0
    · rw [if_neg (by omega), Int.add_zero]
      exact Int.mul_ne_zero l0 hz
theorem div_all {f : Int} (h0 : f ≠ 0) {a : List Int} (h : ∀ x ∈ a, f ∣ x) : (a.map fun x => x.fdiv f).map (f * ·) = a := by
  rw [List.map_map]
  conv => rhs; rw [← List.map_id a]
  refine List.map_congr_left fun x hx => ?_
  obtain ⟨k, rfl⟩ := h x hx
  show f * (f * k).fdiv f = f * k
  rw [Int.mul_fdiv_cancel_left _ h0]
theorem nz_of_sc {f : Int} {a : List Int} (h : Nz (a.map (f * ·))) : Nz a := nz_iff.mpr (by
  rcases nz_iff.mp h with e | e
  · left
    simpa using e
  · right
    rw [List.length_map, cf_map (Int.mul_zero f)] at e
    intro z
    rw [z, Int.mul_zero] at e
    exact e rfl)
/-- what a division hands back -/
structure Qt (p o : List Int) (n : Int) (k r : List Int) : Prop where
  pos : 1 ≤ n
  nk : Nz k
  nr : Nz r
  lt : r.length < o.length
  eq : con n * S p = S k * S o + S r
  gcd : gl (n :: (k ++ r)) = 1
/-- by what all of it is divided -/
def df (n : Int) (k r : List Int) : Int := if n < 0 then 0 - (gl (n :: (k ++ r)) : Int) else gl (n :: (k ++ r))
theorem df_abs (n : Int) (k r : List Int) : (df n k r).natAbs = gl (n :: (k ++ r)) := by unfold df; split <;> omega
theorem gl_pos {n : Int} (h : n ≠ 0) (l : List Int) : 0 < gl (n :: l) := Nat.pos_of_ne_zero fun z => by
  have := DL.gl_dvd (a := n :: l) List.mem_cons_self
  rw [z] at this
  exact h (Int.natAbs_eq_zero.mp (Nat.eq_zero_of_zero_dvd this))
theorem df_ne {n : Int} (h : n ≠ 0) (k r : List Int) : df n k r ≠ 0 := fun z => by
  have := df_abs n k r
  rw [z] at this
  have := gl_pos h (k ++ r)
  simp at *
  omega
theorem df_dvd {n x : Int} {k r : List Int} (h : x ∈ n :: (k ++ r)) : df n k r ∣ x := by
  rw [← Int.natAbs_dvd_natAbs, df_abs]
  exact DL.gl_dvd h
theorem qt_of {p o k r : List Int} {n : Int} (n0 : n ≠ 0) (nk : Nz k) (nr : Nz r) (lt : r.length < o.length) (eq : con n * S p = S k * S o + S r) :
    Qt p o (n.fdiv (df n k r)) (k.map fun x => x.fdiv (df n k r)) (r.map fun x => x.fdiv (df n k r)) := by
  have f0 := df_ne n0 k r
  have fd : ∀ x ∈ n :: (k ++ r), df n k r ∣ x := fun x hx => df_dvd hx
  have ek := div_all f0 (a := k) fun x hx => fd x (List.mem_cons_of_mem _ (List.mem_append_left _ hx))
  have er := div_all f0 (a := r) fun x hx => fd x (List.mem_cons_of_mem _ (List.mem_append_right _ hx))
  have en : df n k r * n.fdiv (df n k r) = n := by
    obtain ⟨m, hm⟩ := fd n List.mem_cons_self
    conv => lhs; rw [show n.fdiv (df n k r) = m by conv => lhs; lhs; rw [hm]
                                                   exact Int.mul_fdiv_cancel_left _ f0]
    exact hm.symm
  have hg := df_abs n k r
  refine ⟨?_, nz_of_sc (by rw [ek]; exact nk), nz_of_sc (by rw [er]; exact nr), by rw [List.length_map]; exact lt, ser_cancel f0 ?_, ?_⟩
  · generalize n.fdiv (df n k r) = m at en
    have hf : (n < 0 → df n k r < 0) ∧ (0 < n → 0 < df n k r) := by
      have := gl_pos n0 (k ++ r)
      unfold df
      split <;> constructor <;> intro h <;> omega
    rcases Int.lt_or_gt_of_ne n0 with h | h
    · have := hf.1 h
      refine Int.not_lt.mp fun z => ?_
      have := Int.mul_nonneg_of_nonpos_of_nonpos (show df n k r ≤ 0 by omega) (show m ≤ 0 by omega)
      omega
    · have := hf.2 h
      refine Int.not_lt.mp fun z => ?_
      have := Int.mul_nonpos_of_nonneg_of_nonpos (show 0 ≤ df n k r by omega) (show m ≤ 0 by omega)
      omega
  · have e1 : S k = con (df n k r) * S (k.map fun x => x.fdiv (df n k r)) := by rw [← S_sc, ek]
    have e2 : S r = con (df n k r) * S (r.map fun x => x.fdiv (df n k r)) := by rw [← S_sc, er]
    have e3 : con n = con (df n k r) * con (n.fdiv (df n k r)) := by rw [← SR.con_times, en]
    rw [e1, e2, e3] at eq
    grind
  · have := DL.gl_map (df n k r) (n.fdiv (df n k r) :: ((k.map fun x => x.fdiv (df n k r)) ++ r.map fun x => x.fdiv (df n k r)))
    rw [List.map_cons, List.map_append, en, ek, er, hg] at this
    exact Nat.eq_of_mul_eq_mul_left (gl_pos n0 (k ++ r)) (by omega)
theorem Qt.rem {p o k r : List Int} {n : Int} (h : Qt p o n k r) : Rem p o r := ⟨h.nr, h.lt, n, by have := h.pos; omega, k, h.nk, h.eq⟩
/-- with the number 1 it is the only one -/
theorem qt_one {p o k r k' r' : List Int} {n : Int} (no : Nz o) (h : Qt p o n k r) (nk : Nz k') (nr : Nz r') (lt : r'.length < o.length) (eq : S p = S k' * S o + S r') : n = 1 ∧ k = k' ∧ r = r' := by
  have key := no_small (h := su k (k'.map (n * ·))) (o := o) (r := su (r'.map (n * ·)) r) (nz_su _ _) no (nz_su _ _) (by
    have := h.eq
    rw [S_su, S_su, S_sc, S_sc]
    grind) (by
    have h1 := su_len (r'.map (n * ·)) r
    rw [List.length_map] at h1
    have := h.lt
    omega)
  have n0 : n ≠ 0 := by have := h.pos; omega
  have ek : k = k'.map (n * ·) := S_inj h.nk (nz_sc n0 nk) (by
    have := congrArg S key.1
    rw [S_su, S_nil] at this
    grind)
  have er : r = r'.map (n * ·) := S_inj h.nr (nz_sc n0 nr) (by
    have := congrArg S key.2
    rw [S_su, S_nil] at this
    grind)
  have hg := h.gcd
  have e : n :: (k ++ r) = (1 :: (k' ++ r')).map (n * ·) := by
    rw [List.map_cons, List.map_append, ← ek, ← er, Int.mul_one]
  rw [e, DL.gl_map] at hg
  have h1 : n.natAbs = 1 := Nat.eq_one_of_mul_eq_one_right hg
  have h2 : n = 1 := by have := h.pos; omega
  subst h2
  refine ⟨rfl, ?_, ?_⟩
  · rw [ek]
    conv => rhs; rw [← List.map_id k']
    exact List.map_congr_left fun x _ => Int.one_mul x
  · rw [er]
    conv => rhs; rw [← List.map_id r']
    exact List.map_congr_left fun x _ => Int.one_mul x
end PL
end
section
set_option maxRecDepth 100000
set_option maxHeartbeats 1000000
set_option exponentiation.threshold 100000
/-! the walk to a greatest common divisor, its numbers bounded -/
namespace PL
open DL (pln)
theorem bd_pln {A : Nat} {a : List Int} (hn : Nz a) (h : Bd A a) : Bd A (pln a) := bd_mem fun y hy => by
  unfold DL.pln at hy
  split at hy
  · cases hy
  · rename_i h0
    obtain ⟨z, hz, rfl⟩ := List.mem_map.mp hy
    obtain ⟨q, rfl⟩ := DL.dg_dvd hz
    rw [Int.mul_fdiv_cancel_left _ (DL.dg_ne hn h0)]
    have h1 := mem_bd h _ hz
    rw [Int.natAbs_mul, DL.dg_abs] at h1
    exact Nat.le_trans (Nat.le_mul_of_pos_left q.natAbs (DL.gl_pos hn h0)) h1
def Kf (a b : Nat) : Nat := if b < a then 1 else 3
structure Cb (p0 q0 p q : List Int) (x : Nat) : Prop where
  np : Nz p
  nq : Nz q
  bp : Bd (2 ^ x) p
  bq : Bd (2 ^ x) q
  x1 : 1 ≤ x
  pot : Kf p.length q.length * 5 ^ (max p.length q.length) * x ≤ 28125
  lp : p.length ≤ 5
  lq : q.length ≤ 5
  pp : pln p = p
  pq : pln q = q
  eu : ∀ g, Eu p q g → Eu p0 q0 g
structure Ch (s p0 q0 near far : List Int) : Prop where
  ex : ∃ p q x, Cb p0 q0 p q x ∧ near = pln (ml p s) ∧ far = pln (ml q s)
/-- by what products are made -/
structure Sf (s : List Int) : Prop where
  nz : Nz s
  s0 : s ≠ []
  bd : Bd (2 ^ 3) s
  len : s.length ≤ 4
theorem pow_eq (y e : Nat) : 2 ^ y * (2 * 2 ^ y) ^ e = 2 ^ (y + (y + 1) * e) := by
  rw [show 2 * 2 ^ y = 2 ^ (y + 1) by rw [Nat.pow_succ, Nat.mul_comm], ← Nat.pow_mul, ← Nat.pow_add]
theorem bits_le {a b x e : Nat} (hb : 1 ≤ b) (ha : a ≤ 5) (hb5 : b ≤ 5) (he : e ≤ a + 1 - b) (pot : Kf a b * 5 ^ (max a b) * x ≤ 28125) : x + 7 + (x + 7 + 1) * e < 8000 := by
  rw [show x + 7 + 1 = x + 8 by omega]
  have h1 : (x + 8) * e ≤ (x + 8) * (a + 1 - b) := Nat.mul_le_mul_left _ he
  unfold Kf at pot
  have ca : a = 0 ∨ a = 1 ∨ a = 2 ∨ a = 3 ∨ a = 4 ∨ a = 5 := by omega
  have cb : b = 1 ∨ b = 2 ∨ b = 3 ∨ b = 4 ∨ b = 5 := by omega
  rcases ca with rfl | rfl | rfl | rfl | rfl | rfl <;> rcases cb with rfl | rfl | rfl | rfl | rfl <;> simp only [Nat.reduceAdd, Nat.reduceSub] at h1 <;> simp at pot <;> omega
theorem pot_next {a b r x : Nat} (hb : 1 ≤ b) (ha : a ≤ 5) (hb5 : b ≤ 5) (hr : r < b) (x1 : 1 ≤ x) (pot : Kf a b * 5 ^ (max a b) * x ≤ 28125) : Kf b r * 5 ^ (max b r) * (x + (x + 1) * (a + 1 - b)) ≤ 28125 := by
  unfold Kf at *
  rw [if_pos hr, show max b r = b by omega]
  have ca : a = 0 ∨ a = 1 ∨ a = 2 ∨ a = 3 ∨ a = 4 ∨ a = 5 := by omega
  have cb : b = 1 ∨ b = 2 ∨ b = 3 ∨ b = 4 ∨ b = 5 := by omega
  rcases ca with rfl | rfl | rfl | rfl | rfl | rfl <;> rcases cb with rfl | rfl | rfl | rfl | rfl <;> simp at pot ⊢ <;> omega
theorem ml_nil_iff {q s : List Int} (s0 : s ≠ []) : pln (ml q s) = [] ↔ q = [] := by
  constructor
  · intro h
    by_cases h0 : q = []
    · exact h0
    · exact absurd h (DL.pln_ne (ml_ne h0 s0))
  · rintro rfl
    rfl
/-- at a far line that isn't []: what is wanted to divide, and what the rest leads to -/
theorem Ch.go {s p0 q0 near far : List Int} (hs : Sf s) (h : Ch s p0 q0 near far) (f0 : far ≠ []) : Nz near ∧ Nz far ∧ near.length ≤ 400 ∧ far.length ≤ 400 ∧ (∃ A : Nat, 1 ≤ A ∧ A < 2 ^ 8000 ∧ Bd A near ∧ Bd A far ∧ A * (2 * A) ^ (near.length + 1 - far.length) < 2 ^ 8000) ∧ ∀ R, Rem near far R → Ch s p0 q0 far (pln R) := by
  obtain ⟨p, q, x, c, e1, e2⟩ := h.ex
  have q0' : q ≠ [] := fun z => f0 (by rw [e2, z]; rfl)
  have lq := List.length_pos_iff.mpr q0'
  have ls := List.length_pos_iff.mpr hs.s0
  have lsm := hs.len
  have lp := c.lp
  have lq5 := c.lq
  have l1 := ml_le p s
  have l2 := ml_len q0' hs.s0
  have n1 : Nz near := by rw [e1]; exact DL.pln_nz (nz_ml c.np hs.nz)
  have n2 : Nz far := by rw [e2]; exact DL.pln_nz (nz_ml c.nq hs.nz)
  have m1 : near.length = (ml p s).length := by rw [e1, DL.pln_len]
  have m2 : far.length = (ml q s).length := by rw [e2, DL.pln_len]
  have bits : ∀ {u : List Int}, Nz u → Bd (2 ^ x) u → u.length ≤ 5 → Bd (2 ^ (x + 7)) (pln (ml u s)) := fun nu bu lu => bd_pln (nz_ml nu hs.nz) (bd_le (by
    rw [show x + 7 = 4 + (x + 3) by omega, Nat.pow_add, Nat.pow_add]
    exact Nat.le_refl _) (bd_cv bu hs.bd (cf_ml _ s) (N := 2 ^ 4) (by omega)))
  have hbits := bits_le (e := near.length + 1 - far.length) (by omega) c.lp c.lq (by
    by_cases hp : p = []
    · subst hp
      rw [m1, m2, l2]
      show 0 + 1 - _ ≤ _
      omega
    · have := ml_len hp hs.s0
      omega) c.pot
  refine ⟨n1, n2, by omega, by omega, ⟨2 ^ (x + 7), Nat.pow_pos (by decide), Nat.pow_lt_pow_right (by decide) (by omega), by rw [e1]; exact bits c.np c.bp c.lp, by rw [e2]; exact bits c.nq c.bq c.lq, by rw [pow_eq]; exact Nat.pow_lt_pow_right (by decide) hbits⟩, fun R hR => ?_⟩
  obtain ⟨r0, hr0, hd⟩ := rem_exists c.np c.nq q0' c.bp c.bq
  have hlt := hr0.lt
  refine ⟨q, pln r0, x + (x + 1) * (p.length + 1 - q.length), ⟨c.nq, DL.pln_nz hr0.nz, bd_le (Nat.pow_le_pow_right (by decide) (by omega)) c.bq, bd_pln hr0.nz (bd_le ?_ hd.bd), by have := c.x1; omega, ?_, c.lq, by rw [DL.pln_len]; omega, c.pq, DL.pln_pln hr0.nz, fun g hg => c.eu g (.step c.nq q0' hr0 hg)⟩, e2, ?_⟩
  · rw [pow_eq]
    exact Nat.pow_le_pow_right (by decide) (Nat.add_le_add_left (Nat.mul_le_mul_left _ (Nat.min_le_right _ _)) _)
  · rw [DL.pln_len]
    exact pot_next (by omega) c.lp c.lq hlt c.x1 c.pot
  · exact rem_ml c.np c.nq hs.nz hs.s0 q0' e1 e2 hr0 hR
theorem Ch.fin {s p0 q0 near far : List Int} (hs : Sf s) (h : Ch s p0 q0 near far) (f0 : far = []) : ∃ g, Eu p0 q0 g ∧ near = pln (ml g s) := by
  obtain ⟨p, q, x, c, e1, e2⟩ := h.ex
  have : q = [] := (ml_nil_iff hs.s0).mp (by rw [← e2]; exact f0)
  subst this
  exact ⟨p, c.eu p (.done p), e1⟩
/-- what the walk ends at, its numbers bounded -/
structure Gf (p0 q0 g : List Int) : Prop where
  eu : Eu p0 q0 g
  nz : Nz g
  pl : pln g = g
  len : g.length ≤ 5
  bd : ∃ y, Bd (2 ^ y) g ∧ 5 ^ g.length * y ≤ 28125
theorem Cb.fin : ∀ (n : Nat) {p0 q0 p q : List Int} {x : Nat}, q.length < n → p ≠ [] → Cb p0 q0 p q x → ∃ g, Gf p0 q0 g
  | 0, _, _, _, _, _, h, _, _ => by omega
  | n + 1, p0, q0, p, q, x, h, hp, c => by
    by_cases q0' : q = []
    · subst q0'
      have h1 := List.length_pos_iff.mpr hp
      have hpot := c.pot
      unfold Kf at hpot
      rw [List.length_nil, if_pos h1, Nat.max_zero, Nat.one_mul] at hpot
      exact ⟨p, c.eu p (.done p), c.np, c.pp, c.lp, x, c.bp, hpot⟩
    · obtain ⟨r0, hr0, hd⟩ := rem_exists c.np c.nq q0' c.bp c.bq
      have hlt := hr0.lt
      have lq := List.length_pos_iff.mpr q0'
      have lq5 := c.lq
      refine Cb.fin n (x := x + (x + 1) * (p.length + 1 - q.length)) (q := pln r0) (by rw [DL.pln_len]; omega) q0' ⟨c.nq, DL.pln_nz hr0.nz, bd_le (Nat.pow_le_pow_right (by decide) (by omega)) c.bq, bd_pln hr0.nz (bd_le ?_ hd.bd), by have := c.x1; omega, ?_, c.lq, by rw [DL.pln_len]; omega, c.pq, DL.pln_pln hr0.nz, fun g hg => c.eu g (.step c.nq q0' hr0 hg)⟩
      · rw [pow_eq]
        exact Nat.pow_le_pow_right (by decide) (Nat.add_le_add_left (Nat.mul_le_mul_left _ (Nat.min_le_right _ _)) _)
      · rw [DL.pln_len]
        exact pot_next (by omega) c.lp c.lq hlt c.x1 c.pot
theorem Ch.nz {s p0 q0 near far : List Int} (hs : Sf s) (h : Ch s p0 q0 near far) : Nz near ∧ Nz far := by
  obtain ⟨p, q, x, c, e1, e2⟩ := h.ex
  exact ⟨by rw [e1]; exact DL.pln_nz (nz_ml c.np hs.nz), by rw [e2]; exact DL.pln_nz (nz_ml c.nq hs.nz)⟩
theorem Cb.start {p q : List Int} (np : Nz p) (nq : Nz q) (bp : Bd (2 ^ 3) p) (bq : Bd (2 ^ 3) q) (lp : p.length ≤ 5) (lq : q.length ≤ 5) (pp : pln p = p) (pq : pln q = q) : Cb p q p q 3 := ⟨np, nq, bp, bq, by decide, by
  have : 5 ^ (max p.length q.length) ≤ 5 ^ 5 := Nat.pow_le_pow_right (by decide) (by omega)
  have h2 : Kf p.length q.length ≤ 3 := by unfold Kf; split <;> decide
  have := Nat.mul_le_mul h2 this
  omega, lp, lq, pp, pq, fun g h => h⟩
theorem pln_ml {p s : List Int} (np : Nz p) (ns : Nz s) : pln (ml (pln p) s) = pln (ml p s) := by
  obtain ⟨t, t0, et⟩ := S_pln np
  have : ml p s = (ml (pln p) s).map (t * ·) := S_inj (nz_ml np ns) (nz_sc t0 (nz_ml (DL.pln_nz np) ns)) (by
    rw [S_sc, S_ml, S_ml, et]
    grind)
  rw [this, DL.pln_map (nz_ml (DL.pln_nz np) ns) t0]
/-- from two lines times s -/
theorem Ch.start {s p q : List Int} (hs : Sf s) (np : Nz p) (nq : Nz q) (bp : Bd (2 ^ 3) p) (bq : Bd (2 ^ 3) q) (lp : p.length ≤ 5) (lq : q.length ≤ 5) : Ch s (pln p) (pln q) (pln (ml p s)) (pln (ml q s)) :=
  ⟨pln p, pln q, 3, Cb.start (DL.pln_nz np) (DL.pln_nz nq) (bd_pln np bp) (bd_pln nq bq) (by rw [DL.pln_len]; exact lp) (by rw [DL.pln_len]; exact lq) (DL.pln_pln np) (DL.pln_pln nq), (pln_ml np hs.nz).symm, (pln_ml nq hs.nz).symm⟩
/-! ### the greatest common divisor is one -/
theorem Eu.bez {p q g : List Int} (h : Eu p q g) : ∃ n : Int, n ≠ 0 ∧ ∃ u v, Nz u ∧ Nz v ∧ SR.con n * S g = S u * S p + S v * S q := by
  induction h with
  | done p => exact ⟨1, by decide, [1], [], nz_last (a := []) (by decide), nz_nil, by rw [S_one, S_nil, con_one]; grind⟩
  | step nq h0 hr _ ih =>
    obtain ⟨n, n0, u, v, nu, nv, e⟩ := ih
    obtain ⟨c, c0, ec⟩ := S_pln hr.nz
    obtain ⟨m, m0, k, nk, em⟩ := hr.eq
    refine ⟨n * c, Int.mul_ne_zero n0 c0, v.map (m * ·), su (u.map (c * ·)) (ml v k), nz_sc m0 nv, nz_su _ _, ?_⟩
    rw [SR.con_times, S_su, S_sc, S_sc, S_ml]
    grind
theorem dv_anti {g h : List Int} (ng : Nz g) (nh : Nz h) (a : Dv g h) (b : Dv h g) : pln g = pln h := by
  obtain ⟨n, n0, k, nk, e⟩ := a
  obtain ⟨m, m0, j, nj, e2⟩ := b
  have e1 : h.map (n * ·) = ml k g := S_inj (nz_sc n0 nh) (nz_ml nk ng) (by rw [S_sc, S_ml, e])
  have e3 : g.map (m * ·) = ml j h := S_inj (nz_sc m0 ng) (nz_ml nj nh) (by rw [S_sc, S_ml, e2])
  by_cases g0 : g = []
  · subst g0
    have := congrArg List.length e1
    rw [ml_nil, List.length_map] at this
    rw [List.eq_nil_of_length_eq_zero this]
  · have h0 : h ≠ [] := fun z => by
      subst z
      have := congrArg List.length e3
      rw [ml_nil, List.length_map] at this
      exact g0 (List.eq_nil_of_length_eq_zero this)
    have k0 : k ≠ [] := fun z => by
      subst z
      have := congrArg List.length e1
      rw [nil_ml, List.length_map] at this
      exact h0 (List.eq_nil_of_length_eq_zero this)
    have j0 : j ≠ [] := fun z => by
      subst z
      have := congrArg List.length e3
      rw [nil_ml, List.length_map] at this
      exact g0 (List.eq_nil_of_length_eq_zero this)
    have l1 := congrArg List.length e1
    have l2 := congrArg List.length e3
    rw [ml_len k0 g0, List.length_map] at l1
    rw [ml_len j0 h0, List.length_map] at l2
    have p1 := List.length_pos_iff.mpr k0
    have p2 := List.length_pos_iff.mpr j0
    have p3 := List.length_pos_iff.mpr g0
    match k, k0 with
    | [c], _ =>
      have c0 : c ≠ 0 := nk [] c rfl
      have : h.map (n * ·) = g.map (c * ·) := S_inj (nz_sc n0 nh) (nz_sc c0 ng) (by
        rw [e1, S_ml, S_sc]
        congr 1
        refine SR.Ser.ext fun i => ?_
        cases i with
        | zero => rfl
        | succ i => exact cf_nil i)
      rw [← DL.pln_map ng c0, ← this, DL.pln_map nh n0]
    | _ :: _ :: _, _ =>
      simp only [List.length_cons] at l1
      omega
theorem dv_bez {d p q g : List Int} (h1 : Dv d p) (h2 : Dv d q) (h : ∃ n : Int, n ≠ 0 ∧ ∃ u v, Nz u ∧ Nz v ∧ SR.con n * S g = S u * S p + S v * S q) : Dv d g := by
  obtain ⟨n, n0, u, v, nu, nv, e⟩ := h
  obtain ⟨a, a0, k, nk, e1⟩ := h1
  obtain ⟨b, b0, j, nj, e2⟩ := h2
  refine ⟨a * b * n, Int.mul_ne_zero (Int.mul_ne_zero a0 b0) n0, ad (ml (u.map (b * ·)) k) (ml (v.map (a * ·)) j), nz_ad _ _, ?_⟩
  rw [SR.con_times, SR.con_times, S_ad, S_ml, S_ml, S_sc, S_sc]
  grind
theorem Eu.swap {p q g g' : List Int} (np : Nz p) (nq : Nz q) (h : Eu p q g) (h' : Eu q p g') : pln g = pln g' := by
  obtain ⟨a, b⟩ := h.dv
  obtain ⟨a', b'⟩ := h'.dv
  refine dv_anti (h.nz np) (h'.nz nq) (dv_bez b a h'.bez) (dv_bez b' a' h.bez)
/-- a division is one -/
theorem Qt.one {p o k r k' r' : List Int} {n n' : Int} (no : Nz o) (h : Qt p o n k r) (h' : Qt p o n' k' r') : n = n' ∧ k = k' ∧ r = r' := by
  have n0 : n ≠ 0 := by have := h.pos; omega
  have n0' : n' ≠ 0 := by have := h'.pos; omega
  have key := no_small (h := su (k.map (n' * ·)) (k'.map (n * ·))) (o := o) (r := su (r'.map (n * ·)) (r.map (n' * ·))) (nz_su _ _) no (nz_su _ _) (by
    have e1 : SR.con n' * (SR.con n * S p) = SR.con n' * (S k * S o + S r) := by rw [h.eq]
    have e2 : SR.con n * (SR.con n' * S p) = SR.con n * (S k' * S o + S r') := by rw [h'.eq]
    rw [S_su, S_su, S_sc, S_sc, S_sc, S_sc]
    grind) (by
    have h1 := su_len (r'.map (n * ·)) (r.map (n' * ·))
    rw [List.length_map, List.length_map] at h1
    have := h.lt
    have := h'.lt
    omega)
  have ek : k.map (n' * ·) = k'.map (n * ·) := S_inj (nz_sc n0' h.nk) (nz_sc n0 h'.nk) (by
    have := congrArg S key.1
    rw [S_su, S_nil] at this
    grind)
  have er : r.map (n' * ·) = r'.map (n * ·) := S_inj (nz_sc n0' h.nr) (nz_sc n0 h'.nr) (by
    have := congrArg S key.2
    rw [S_su, S_nil] at this
    grind)
  have e : (n :: (k ++ r)).map (n' * ·) = (n' :: (k' ++ r')).map (n * ·) := by
    rw [List.map_cons, List.map_append, List.map_cons, List.map_append, ek, er, Int.mul_comm]
  have hg := congrArg DL.gl e
  rw [DL.gl_map, DL.gl_map, h.gcd, h'.gcd] at hg
  have en : n = n' := by
    have := h.pos
    have := h'.pos
    omega
  subst en
  exact ⟨rfl, con_cancel n0 h.nk h'.nk (by rw [← S_sc, ek, S_sc]), con_cancel n0 h.nr h'.nr (by rw [← S_sc, er, S_sc])⟩
end PL
end
section
set_option maxRecDepth 100000
set_option maxHeartbeats 1000000
/-! determinants of rows of whole numbers; a row is told from its first column on -/
namespace PL
abbrev Rw := Nat → Int
def tl (u : Rw) : Rw := fun j => u (j + 1)
/-- c times u and v -/
def cmb (c : Int) (u v : Rw) : Rw := fun j => c * u j + v j
def zr : Rw := fun _ => 0
def un (i : Nat) : Rw := fun j => if j = i then 1 else 0
theorem tl_cmb (c : Int) (u v : Rw) : tl (cmb c u v) = cmb c (tl u) (tl v) := rfl
/-- the rows' first numbers with changing signs, each times g of the other rows' rests -/
def alt (g : List Rw → Int) : List Rw → List Rw → Int
  | _, [] => 0
  | p, u :: s => u 0 * g ((p ++ s).map tl) - alt g (p ++ [u]) s
def det : Nat → List Rw → Int
  | 0, _ => 1
  | n + 1, r => alt (det n) [] r
/-- linear in each row, turned by an exchange of two neighbours -/
structure Alt (n : Nat) (g : List Rw → Int) : Prop where
  lin : ∀ (p s : List Rw) (c : Int) (u v : Rw), p.length + 1 + s.length = n → g (p ++ cmb c u v :: s) = c * g (p ++ u :: s) + g (p ++ v :: s)
  swp : ∀ (p s : List Rw) (u v : Rw), p.length + 2 + s.length = n → g (p ++ u :: v :: s) = - g (p ++ v :: u :: s)
section
variable {n : Nat} {g : List Rw → Int}
theorem alt_lin_p (h : Alt n g) (c : Int) (u v : Rw) (p q : List Rw) : ∀ l : List Rw, p.length + 1 + q.length + l.length = n + 1 → alt g (p ++ cmb c u v :: q) l = c * alt g (p ++ u :: q) l + alt g (p ++ v :: q) l
  | [], _ => by simp [alt]
  | w :: s, e => by
    have e : p.length + 1 + q.length + (s.length + 1) = n + 1 := e
    have ih := alt_lin_p h c u v p (q ++ [w]) s (by rw [List.length_append, List.length_singleton]; omega)
    have h1 := h.lin (p.map tl) ((q ++ s).map tl) c (tl u) (tl v) (by rw [List.length_map, List.length_map, List.length_append]; omega)
    simp only [alt, List.append_assoc, List.cons_append, List.map_append, List.map_cons, tl_cmb] at ih h1 ⊢
    rw [h1, ih, Int.mul_add, Int.mul_sub]
    rw [Int.mul_left_comm]
    omega
theorem alt_lin (h : Alt n g) (c : Int) (u v : Rw) (q : List Rw) : ∀ (l p : List Rw), p.length + l.length + 1 + q.length = n + 1 → alt g p (l ++ cmb c u v :: q) = c * alt g p (l ++ u :: q) + alt g p (l ++ v :: q)
  | [], p, e => by
    have h1 := alt_lin_p h c u v p [] q (by rw [List.length_nil] at e ⊢; omega)
    simp only [alt, List.nil_append]
    rw [h1, show (cmb c u v) 0 = c * u 0 + v 0 from rfl]
    rw [Int.mul_sub, Int.add_mul, ← Int.mul_assoc]
    omega
  | w :: l, p, e => by
    have e : p.length + (l.length + 1) + 1 + q.length = n + 1 := e
    have ih := alt_lin h c u v q l (p ++ [w]) (by rw [List.length_append, List.length_singleton]; omega)
    have h1 := h.lin ((p ++ l).map tl) (q.map tl) c (tl u) (tl v) (by rw [List.length_map, List.length_map, List.length_append]; omega)
    simp only [alt, List.append_assoc, List.cons_append, List.map_append, List.map_cons, tl_cmb] at ih h1 ⊢
    rw [h1, ih, Int.mul_add, Int.mul_sub, Int.mul_left_comm]
    omega
theorem alt_swp_p (h : Alt n g) (u v : Rw) (p q : List Rw) : ∀ l : List Rw, p.length + 2 + q.length + l.length = n + 1 → alt g (p ++ u :: v :: q) l = - alt g (p ++ v :: u :: q) l
  | [], _ => by simp [alt]
  | w :: s, e => by
    have e : p.length + 2 + q.length + (s.length + 1) = n + 1 := e
    have ih := alt_swp_p h u v p (q ++ [w]) s (by rw [List.length_append, List.length_singleton]; omega)
    have h1 := h.swp (p.map tl) ((q ++ s).map tl) (tl u) (tl v) (by rw [List.length_map, List.length_map, List.length_append]; omega)
    simp only [alt, List.append_assoc, List.cons_append, List.map_append, List.map_cons] at ih h1 ⊢
    rw [h1, ih, Int.mul_neg]
    omega
theorem alt_swp (h : Alt n g) (u v : Rw) (q : List Rw) : ∀ (l p : List Rw), p.length + l.length + 2 + q.length = n + 1 → alt g p (l ++ u :: v :: q) = - alt g p (l ++ v :: u :: q)
  | [], p, e => by
    have h1 := alt_swp_p h u v p [] q (by rw [List.length_nil] at e ⊢; omega)
    simp only [alt, List.nil_append, List.append_assoc, List.cons_append, List.map_append, List.map_cons] at h1 ⊢
    rw [h1]
    omega
  | w :: l, p, e => by
    have e : p.length + (l.length + 1) + 2 + q.length = n + 1 := e
    have ih := alt_swp h u v q l (p ++ [w]) (by rw [List.length_append, List.length_singleton]; omega)
    have h1 := h.swp ((p ++ l).map tl) (q.map tl) (tl u) (tl v) (by rw [List.length_map, List.length_map, List.length_append]; omega)
    simp only [alt, List.append_assoc, List.cons_append, List.map_append, List.map_cons] at ih h1 ⊢
    rw [h1, ih, Int.mul_neg]
    omega
end
theorem det_alt : ∀ n : Nat, Alt n (det n)
  | 0 => ⟨fun p s c u v h => by omega, fun p s u v h => by omega⟩
  | n + 1 => ⟨fun p s c u v h => alt_lin (det_alt n) c u v s p [] (by rw [List.length_nil]; omega), fun p s u v h => alt_swp (det_alt n) u v s p [] (by rw [List.length_nil]; omega)⟩
/-! what follows from that alone -/
namespace Alt
variable {n : Nat} {g : List Rw → Int}
theorem zero (h : Alt n g) (p s : List Rw) (e : p.length + 1 + s.length = n) : g (p ++ zr :: s) = 0 := by
  have := h.lin p s 1 zr zr e
  rw [show cmb 1 zr zr = zr from by funext j; simp [cmb, zr]] at this
  omega
theorem smul (h : Alt n g) (p s : List Rw) (c : Int) (u : Rw) (e : p.length + 1 + s.length = n) : g (p ++ (fun j => c * u j) :: s) = c * g (p ++ u :: s) := by
  have := h.lin p s c u zr e
  rw [show cmb c u zr = fun j => c * u j from by funext j; simp [cmb, zr], h.zero p s e] at this
  omega
theorem two (h : Alt n g) (p s : List Rw) (u : Rw) (e : p.length + 2 + s.length = n) : g (p ++ u :: u :: s) = 0 := by
  have := h.swp p s u u e
  omega
/-- a row goes through q to the front: the sign turns with each step -/
theorem move (h : Alt n g) (u : Rw) (s : List Rw) : ∀ (q p : List Rw), p.length + q.length + 1 + s.length = n → g (p ++ (q ++ u :: s)) = (-1) ^ q.length * g (p ++ u :: (q ++ s))
  | [], p, e => by simp
  | w :: q, p, e => by
    have e : p.length + (q.length + 1) + 1 + s.length = n := e
    have ih := h.move u s q (p ++ [w]) (by rw [List.length_append, List.length_singleton]; omega)
    have h1 := h.swp p (q ++ s) w u (by rw [List.length_append]; omega)
    simp only [List.append_assoc, List.cons_append, List.nil_append] at ih ⊢
    rw [ih, h1, List.length_cons, Int.pow_succ]
    simp only [Int.mul_neg, Int.mul_one, Int.neg_mul]
theorem same (h : Alt n g) (u : Rw) (p q s : List Rw) (e : p.length + q.length + 2 + s.length = n) : g (p ++ u :: (q ++ u :: s)) = 0 := by
  have := h.move u s q (p ++ [u]) (by rw [List.length_append, List.length_singleton]; omega)
  simp only [List.append_assoc, List.cons_append, List.nil_append] at this
  rw [this, h.two p (q ++ s) u (by rw [List.length_append]; omega), Int.mul_zero]
/-- a multiple of another row is put to a row -/
theorem add_after (h : Alt n g) (c : Int) (u v : Rw) (p q s : List Rw) (e : p.length + q.length + 2 + s.length = n) : g (p ++ cmb c v u :: (q ++ v :: s)) = g (p ++ u :: (q ++ v :: s)) := by
  rw [h.lin p (q ++ v :: s) c v u (by rw [List.length_append, List.length_cons]; omega), h.same v p q s e]
  omega
theorem add_before (h : Alt n g) (c : Int) (u v : Rw) (p q s : List Rw) (e : p.length + q.length + 2 + s.length = n) : g (p ++ v :: (q ++ cmb c v u :: s)) = g (p ++ v :: (q ++ u :: s)) := by
  have h1 := h.lin (p ++ v :: q) s c v u (by rw [List.length_append, List.length_cons]; omega)
  simp only [List.append_assoc, List.cons_append] at h1
  rw [h1, h.same v p q s e]
  omega
/-- two blocks exchanged -/
theorem blocks (h : Alt n g) (s : List Rw) : ∀ (b a p : List Rw), p.length + a.length + b.length + s.length = n → g (p ++ (a ++ (b ++ s))) = (-1) ^ (a.length * b.length) * g (p ++ (b ++ (a ++ s)))
  | [], a, p, e => by simp
  | v :: b, a, p, e => by
    have e : p.length + a.length + (b.length + 1) + s.length = n := e
    have h1 := h.move v (b ++ s) a p (by rw [List.length_append]; omega)
    have ih := h.blocks s b a (p ++ [v]) (by rw [List.length_append, List.length_singleton]; omega)
    simp only [List.append_assoc, List.cons_append, List.nil_append] at ih h1 ⊢
    rw [h1, ih, List.length_cons, Nat.mul_succ, Int.pow_add, ← Int.mul_assoc, Int.mul_comm ((-1) ^ a.length)]
/-- a sequence exchanged -/
theorem perm (h : Alt n g) {a b : List Rw} (r : a.Perm b) : ∀ p : List Rw, p.length + a.length = n → g (p ++ a) = g (p ++ b) ∨ g (p ++ a) = - g (p ++ b) := by
  induction r with
  | nil => exact fun p _ => .inl rfl
  | @cons x l1 l2 _ ih =>
    intro p e
    have := ih (p ++ [x]) (by rw [List.length_append, List.length_singleton]; rw [List.length_cons] at e; omega)
    simpa only [List.append_assoc, List.cons_append, List.nil_append] using this
  | swap x y l => exact fun p e => .inr (h.swp p l y x (by simp only [List.length_cons] at e; omega))
  | @trans l1 l2 l3 r1 _ i1 i2 =>
    intro p e
    have h1 := i1 p e
    have h2 := i2 p (by rw [← r1.length_eq]; exact e)
    omega
end Alt
end PL
end
section
set_option maxRecDepth 100000
set_option maxHeartbeats 1000000
namespace PL
/-! one row alone with a first number -/
theorem alt_z (g : List Rw → Int) : ∀ (l p : List Rw), (∀ u ∈ l, u 0 = 0) → alt g p l = 0
  | [], _, _ => rfl
  | u :: s, p, h => by
    rw [alt, h u List.mem_cons_self, alt_z g s (p ++ [u]) fun v hv => h v (List.mem_cons_of_mem _ hv)]
    simp
theorem alt_one (g : List Rw → Int) (u : Rw) (s : List Rw) (hs : ∀ v ∈ s, v 0 = 0) : ∀ (q p : List Rw), (∀ v ∈ q, v 0 = 0) → alt g p (q ++ u :: s) = (-1) ^ q.length * (u 0 * g ((p ++ (q ++ s)).map tl))
  | [], p, _ => by
    rw [List.nil_append, alt, alt_z g s _ hs]
    simp
  | w :: q, p, h => by
    have ih := alt_one g u s hs q (p ++ [w]) fun v hv => h v (List.mem_cons_of_mem _ hv)
    rw [List.cons_append, alt, h w List.mem_cons_self, ih]
    simp only [List.append_assoc, List.cons_append, List.nil_append, List.length_cons, Int.pow_succ]
    simp only [Int.mul_neg, Int.mul_one, Int.neg_mul]
    omega
theorem det_one (n : Nat) (q : List Rw) (u : Rw) (s : List Rw) (hq : ∀ v ∈ q, v 0 = 0) (hs : ∀ v ∈ s, v 0 = 0) : det (n + 1) (q ++ u :: s) = (-1) ^ q.length * (u 0 * det n ((q ++ s).map tl)) := by
  have := alt_one (det n) u s hs q [] hq
  rw [List.nil_append] at this
  exact this
theorem det_zero (n : Nat) (l : List Rw) (h : ∀ v ∈ l, v 0 = 0) : det (n + 1) l = 0 := alt_z (det n) l [] h
/-! only the first n columns count -/
def cut (n : Nat) (u : Rw) : Rw := fun j => if j < n then u j else 0
theorem tl_cut (n : Nat) (u : Rw) : tl (cut (n + 1) u) = cut n (tl u) := by
  funext j
  unfold tl cut
  by_cases h : j < n
  · rw [if_pos h, if_pos (by omega)]
  · rw [if_neg h, if_neg (by omega)]
theorem alt_cut {n : Nat} {g : List Rw → Int} (hg : ∀ r, g (r.map (cut n)) = g r) : ∀ l p : List Rw, alt g (p.map (cut (n + 1))) (l.map (cut (n + 1))) = alt g p l
  | [], _ => rfl
  | u :: s, p => by
    have ih := alt_cut hg s (p ++ [u])
    rw [List.map_append, List.map_singleton] at ih
    rw [List.map_cons, alt, alt, ih]
    have e : ((p.map (cut (n + 1)) ++ s.map (cut (n + 1))).map tl) = ((p ++ s).map tl).map (cut n) := by
      rw [← List.map_append, List.map_map, List.map_map]
      apply List.map_congr_left
      intro a _
      exact tl_cut n a
    rw [e, hg]
    rfl
theorem det_cut : ∀ (n : Nat) (r : List Rw), det n (r.map (cut n)) = det n r
  | 0, _ => rfl
  | n + 1, r => alt_cut (det_cut n) r []
theorem map_eq {α β : Type} {f g : α → β} : ∀ {l : List α}, (∀ x ∈ l, f x = g x) → l.map f = l.map g
  | [], _ => rfl
  | x :: l, h => by rw [List.map_cons, List.map_cons, h x List.mem_cons_self, map_eq fun y hy => h y (List.mem_cons_of_mem _ hy)]
theorem det_cong {n : Nat} {α : Type} (l : List α) (f g : α → Rw) (h : ∀ x ∈ l, ∀ j, j < n → f x j = g x j) : det n (l.map f) = det n (l.map g) := by
  rw [← det_cut n (l.map f), ← det_cut n (l.map g), List.map_map, List.map_map]
  congr 1
  apply map_eq
  intro x hx
  funext j
  show cut n (f x) j = cut n (g x) j
  unfold cut
  by_cases hj : j < n
  · rw [if_pos hj, if_pos hj, h x hx j hj]
  · rw [if_neg hj, if_neg hj]
/-! the table of ones -/
def us (n : Nat) : List Rw := (List.range n).map un
theorem us_len (n : Nat) : (us n).length = n := by simp [us]
theorem us_succ (n : Nat) : us (n + 1) = un 0 :: (List.range n).map fun i => un (i + 1) := by
  unfold us
  rw [List.range_succ_eq_map, List.map_cons, List.map_map]
  rfl
theorem det_us : ∀ n : Nat, det n (us n) = 1
  | 0 => rfl
  | n + 1 => by
    rw [us_succ, show un 0 :: ((List.range n).map fun i => un (i + 1)) = [] ++ un 0 :: ((List.range n).map fun i => un (i + 1)) from rfl, det_one n [] _ _ (by simp) (by
      intro v hv
      obtain ⟨i, _, rfl⟩ := List.mem_map.mp hv
      simp [un])]
    rw [List.nil_append, List.map_map, show (tl ∘ fun i => un (i + 1)) = un from by
      funext i j
      simp [tl, un]]
    have := det_us n
    unfold us at this
    rw [this]
    simp [un]
/-! there is but one such number -/
theorem not_nodup {α : Type} [DecidableEq α] : ∀ {l : List α}, ¬ l.Nodup → ∃ x a b c, l = a ++ x :: (b ++ x :: c)
  | [], h => absurd List.nodup_nil h
  | y :: t, h => by
    by_cases m : y ∈ t
    · obtain ⟨b, c, rfl⟩ := List.append_of_mem m
      exact ⟨y, [], b, c, rfl⟩
    · have : ¬ t.Nodup := fun n => h (List.nodup_cons.mpr ⟨m, n⟩)
      obtain ⟨x, a, b, c, rfl⟩ := not_nodup this
      exact ⟨x, y :: a, b, c, rfl⟩
theorem nodup_perm {α : Type} [BEq α] [LawfulBEq α] : ∀ {a b : List α}, a.Nodup → (∀ x ∈ a, x ∈ b) → b.length ≤ a.length → a.Perm b
  | [], b, _, _, l => by
    cases b with
    | nil => exact .nil
    | cons x b => simp at l
  | x :: t, b, n, s, l => by
    have hx := s x List.mem_cons_self
    obtain ⟨n1, n2⟩ := List.nodup_cons.mp n
    have le := List.length_erase_of_mem hx
    have ih := nodup_perm n2 (b := b.erase x) (fun y hy => by
      have ne : y ≠ x := fun z => n1 (z ▸ hy)
      exact (List.mem_erase_of_ne ne).mpr (s y (List.mem_cons_of_mem _ hy))) (by rw [le]; rw [List.length_cons] at l; omega)
    exact (ih.cons x).trans (List.perm_cons_erase hx).symm
namespace Alt
variable {n : Nat} {f : List Rw → Int}
theorem cutk (h : Alt n f) (p s : List Rw) (e : p.length + 1 + s.length = n) (u : Rw) (z : ∀ j, j < n → f (p ++ un j :: s) = 0) : ∀ k, k ≤ n → f (p ++ cut k u :: s) = 0
  | 0, _ => by
    rw [show cut 0 u = zr from by funext j; simp [cut, zr]]
    exact h.zero p s e
  | k + 1, hk => by
    rw [show cut (k + 1) u = cmb (u k) (un k) (cut k u) from by
      funext j
      unfold cut cmb un
      by_cases h1 : j = k
      · subst h1; simp
      · by_cases h2 : j < k
        · rw [if_pos (by omega), if_neg h1]
          show u j = u k * 0 + if j < k then u j else 0
          rw [if_pos h2]; omega
        · rw [if_neg (by omega), if_neg h1]
          show 0 = u k * 0 + if j < k then u j else 0
          rw [if_neg h2]; omega]
    rw [h.lin p s _ _ _ e, z k (by omega), h.cutk p s e u z k (by omega)]
    simp
theorem all (h : Alt n f) (hc : ∀ p u s, p.length + 1 + s.length = n → f (p ++ u :: s) = f (p ++ cut n u :: s)) (hb : ∀ js : List Nat, js.length = n → (∀ j ∈ js, j < n) → f (js.map un) = 0) :
    ∀ (s : List Rw) (js : List Nat), js.length + s.length = n → (∀ j ∈ js, j < n) → f (js.map un ++ s) = 0
  | [], js, e, hj => by
    rw [List.append_nil]
    exact hb js (by simpa using e) hj
  | u :: s, js, e, hj => by
    have e : js.length + (s.length + 1) = n := e
    have e' : (js.map un).length + 1 + s.length = n := by rw [List.length_map]; omega
    rw [hc _ u s e']
    refine h.cutk _ s e' u (fun j hjn => ?_) n (Nat.le_refl _)
    have := h.all hc hb s (js ++ [j]) (by rw [List.length_append, List.length_singleton]; omega) (fun i hi => by
      rcases List.mem_append.mp hi with hi | hi
      · exact hj i hi
      · rw [List.mem_singleton.mp hi]; exact hjn)
    simpa only [List.map_append, List.map_singleton, List.append_assoc, List.cons_append, List.nil_append] using this
theorem sub_det (h : Alt n f) (k : Int) : Alt n fun r => f r - det n r * k := by
  have d := det_alt n
  refine ⟨fun p s c u v e => ?_, fun p s u v e => ?_⟩
  · show f _ - det n _ * k = c * (f _ - det n _ * k) + (f _ - det n _ * k)
    rw [h.lin p s c u v e, d.lin p s c u v e, Int.add_mul, Int.mul_sub, Int.mul_assoc]
    omega
  · show f _ - det n _ * k = - (f _ - det n _ * k)
    rw [h.swp p s u v e, d.swp p s u v e, Int.neg_mul]
    omega
/-- what is linear in each row and turned by exchanges is the determinant times its value at the ones -/
theorem uniq (h : Alt n f) (hc : ∀ p u s, p.length + 1 + s.length = n → f (p ++ u :: s) = f (p ++ cut n u :: s)) (r : List Rw) (hr : r.length = n) : f r = det n r * f (us n) := by
  have hG := h.sub_det (f (us n))
  have key := hG.all (fun p u s e => by
    show f _ - det n _ * _ = f _ - det n _ * _
    rw [hc p u s e]
    congr 2
    have := det_cut n (p ++ u :: s)
    have h2 := det_cut n (p ++ cut n u :: s)
    rw [List.map_append, List.map_cons] at this h2
    rw [← this, ← h2, show cut n (cut n u) = cut n u from by
      funext j
      unfold cut
      by_cases q : j < n
      · rw [if_pos q, if_pos q]
      · rw [if_neg q, if_neg q]]) (fun js l b => ?_) r [] (by simpa using hr) (by simp)
  · have key : f r - det n r * f (us n) = 0 := key
    omega
  · by_cases nd : js.Nodup
    · have pm : js.Perm (List.range n) := nodup_perm nd (fun x hx => List.mem_range.mpr (b x hx)) (by rw [List.length_range, l]; exact Nat.le_refl _)
      have := hG.perm (pm.map un) [] (by rw [List.length_map, List.length_nil, l, Nat.zero_add])
      rw [List.nil_append, List.nil_append] at this
      have z : f ((List.range n).map un) - det n ((List.range n).map un) * f (us n) = 0 := by
        have d := det_us n
        unfold us at d ⊢
        rw [d]
        omega
      rcases this with e | e <;> rw [e]
      · exact z
      · rw [z]; rfl
    · obtain ⟨x, a, c, d, rfl⟩ := not_nodup nd
      have := hG.same (un x) (a.map un) (c.map un) (d.map un) (by
        simp only [List.length_append, List.length_cons, List.length_map] at l ⊢
        omega)
      simpa only [List.map_append, List.map_cons] using this
end Alt
end PL
end
section
set_option maxRecDepth 100000
set_option maxHeartbeats 1000000
/-! a determinant step by step, each number divided by the step ahead -/
namespace PL
/-- what is left of u under the head row f -/
def low (f u : Rw) : Rw := fun j => f 0 * u (j + 1) - u 0 * f (j + 1)
def low1 (f u : Rw) : Rw := cmb (- u 0) f (fun j => f 0 * u j)
theorem tl_low1 (f u : Rw) : tl (low1 f u) = low f u := by
  funext j
  show - u 0 * f (j + 1) + f 0 * u (j + 1) = f 0 * u (j + 1) - u 0 * f (j + 1)
  rw [Int.neg_mul]
  omega
theorem low1_0 (f u : Rw) : low1 f u 0 = 0 := by
  show - u 0 * f 0 + f 0 * u 0 = 0
  rw [Int.neg_mul, Int.mul_comm (f 0)]
  omega
theorem rows_low1 {n : Nat} (f : Rw) : ∀ (T A : List Rw), A.length + T.length = n → f 0 ^ T.length * det (n + 1) (f :: (A ++ T)) = det (n + 1) (f :: (A ++ T.map (low1 f)))
  | [], A, _ => by simp
  | u :: T, A, e => by
    have e : A.length + (T.length + 1) = n := e
    have h := det_alt (n + 1)
    have ih := rows_low1 (n := n) f T (A ++ [low1 f u]) (by rw [List.length_append, List.length_singleton]; omega)
    simp only [List.append_assoc, List.cons_append, List.nil_append] at ih
    have h1 := h.add_before (- u 0) (fun j => f 0 * u j) f [] A T (by rw [List.length_nil]; omega)
    have h2 := h.smul (f :: A) T (f 0) u (by rw [List.length_cons]; omega)
    simp only [List.nil_append, List.cons_append] at h1 h2
    rw [List.map_cons, ← ih, show low1 f u = cmb (- u 0) f (fun j => f 0 * u j) from rfl, h1, h2, List.length_cons, Int.pow_succ, Int.mul_assoc]
/-- the step without division -/
theorem chio {n : Nat} (f : Rw) (T : List Rw) (e : T.length = n) : f 0 ^ n * det (n + 1) (f :: T) = f 0 * det n (T.map (low f)) := by
  have h := rows_low1 (n := n) f T [] (by simpa using e)
  rw [List.nil_append, List.nil_append, e] at h
  rw [h]
  have := det_one n [] f (T.map (low1 f)) (by simp) (by
    intro v hv
    obtain ⟨u, _, rfl⟩ := List.mem_map.mp hv
    exact low1_0 f u)
  rw [List.nil_append, List.nil_append, List.map_map] at this
  rw [this, show tl ∘ low1 f = low f from funext (tl_low1 f)]
  simp
theorem rows_smul {n : Nat} {g : List Rw → Int} (h : Alt n g) (c : Int) : ∀ (T A : List Rw), A.length + T.length = n → c ^ T.length * g (A ++ T) = g (A ++ T.map fun u j => c * u j)
  | [], A, _ => by simp
  | u :: T, A, e => by
    have e : A.length + (T.length + 1) = n := e
    have ih := rows_smul h c T (A ++ [fun j => c * u j]) (by rw [List.length_append, List.length_singleton]; omega)
    simp only [List.append_assoc, List.cons_append, List.nil_append] at ih
    rw [List.map_cons, ← ih, h.smul A T c u (by omega), List.length_cons, Int.pow_succ, Int.mul_assoc]
/-- all minors of k + 1 rows are multiples of the k-th power of the step ahead -/
def Dvd (R : List Rw) (past : Int) : Prop := ∀ (k : Nat) (T : List Rw), T.length = k + 1 → (∀ u ∈ T, u ∈ R) → ∀ c : Nat → Nat, past ^ k ∣ det (k + 1) (T.map fun u j => u (c j))
theorem det2 (a b : Rw) : det 2 [a, b] = a 0 * b 1 - b 0 * a 1 := by
  simp [det, alt, tl]
theorem Dvd.low {R : List Rw} {past : Int} (h : Dvd R past) {f u : Rw} (hf : f ∈ R) (hu : u ∈ R) (j : Nat) : past ∣ low f u j := by
  have := h 1 [f, u] rfl (by intro v hv; simp only [List.mem_cons, List.not_mem_nil, or_false] at hv; rcases hv with rfl | rfl; exact hf; exact hu) (fun i => if i = 0 then 0 else j + 1)
  rw [List.map_cons, List.map_cons, List.map_nil, det2, Int.pow_one] at this
  simpa [PL.low] using this
/-- the rows behind a step -/
def low2 (past : Int) (f u : Rw) : Rw := fun j => (low f u j).fdiv past
theorem low2_mul {R : List Rw} {past : Int} (h0 : past ≠ 0) (h : Dvd R past) {f u : Rw} (hf : f ∈ R) (hu : u ∈ R) : (fun j => past * low2 past f u j) = low f u := by
  funext j
  show past * (low f u j).fdiv past = _
  exact Int.mul_fdiv_cancel' (h.low hf hu j)
theorem pre_map {α β : Type} {g : α → β} {l : List α} : ∀ {t : List β}, (∀ y ∈ t, ∃ x ∈ l, g x = y) → ∃ s : List α, s.map g = t ∧ ∀ x ∈ s, x ∈ l
  | [], _ => ⟨[], rfl, by simp⟩
  | y :: t, h => by
    obtain ⟨x, hx, e⟩ := h y List.mem_cons_self
    obtain ⟨s, hs, hm⟩ := pre_map (t := t) fun z hz => h z (List.mem_cons_of_mem _ hz)
    refine ⟨x :: s, by rw [List.map_cons, e, hs], fun z hz => ?_⟩
    rcases List.mem_cons.mp hz with rfl | hz
    · exact hx
    · exact hm z hz
theorem pow_ne (x : Int) (h : x ≠ 0) : ∀ n : Nat, x ^ n ≠ 0
  | 0 => by simp
  | n + 1 => by rw [Int.pow_succ]; exact Int.mul_ne_zero (pow_ne x h n) h
theorem Dvd.step {R M : List Rw} {past : Int} (h0 : past ≠ 0) (h : Dvd R past) {f : Rw} (hf : f ∈ R) (hp : f 0 ≠ 0) (hM : ∀ u ∈ M, u ∈ R) : Dvd (M.map (low2 past f)) (f 0) := by
  intro k T' hT hm c
  obtain ⟨T, rfl, mT⟩ := pre_map (g := low2 past f) (l := M) (t := T') fun y hy => by
    obtain ⟨x, hx, e⟩ := List.mem_map.mp (hm y hy)
    exact ⟨x, hx, e⟩
  rw [List.length_map] at hT
  -- the columns with the head one
  let c' : Nat → Nat := fun i => match i with
    | 0 => 0
    | i + 1 => c i + 1
  have hsm := rows_smul (det_alt (k + 1)) past ((T.map (low2 past f)).map fun u j => u (c j)) [] (by rw [List.length_nil, List.length_map, List.length_map, hT, Nat.zero_add])
  rw [List.nil_append, List.nil_append, List.length_map, List.length_map, hT, List.map_map, List.map_map] at hsm
  have e1 : T.map ((fun u j => past * u j) ∘ (fun u j => u (c j)) ∘ low2 past f) = (T.map fun u j => u (c' j)).map (PL.low fun j => f (c' j)) := by
    rw [List.map_map]
    apply map_eq
    intro u hu
    have := low2_mul h0 h hf (hM u (mT u hu))
    funext j
    exact congrFun this (c j)
  rw [e1] at hsm
  have hc := chio (n := k + 1) (fun j => f (c' j)) (T.map fun u j => u (c' j)) (by rw [List.length_map, hT])
  rw [← hsm] at hc
  obtain ⟨z, hz⟩ := h (k + 1) (f :: T) (by rw [List.length_cons, hT]) (fun u hu => by
    rcases List.mem_cons.mp hu with rfl | hu
    · exact hf
    · exact hM u (mT u hu)) c'
  rw [List.map_cons] at hz
  rw [hz] at hc
  refine ⟨z, ?_⟩
  rw [List.map_map]
  generalize det (k + 1) (T.map ((fun u j => u (c j)) ∘ low2 past f)) = d at *
  have hc : f 0 ^ (k + 1) * (past ^ (k + 1) * z) = f 0 * (past ^ (k + 1) * d) := hc
  have hne := Int.mul_ne_zero hp (pow_ne past h0 (k + 1))
  apply Int.eq_of_mul_eq_mul_left hne
  rw [Int.mul_assoc, ← hc, Int.pow_succ (f 0) k]
  simp only [Int.mul_assoc, Int.mul_comm, Int.mul_left_comm]
theorem Dvd.one (R : List Rw) : Dvd R 1 := fun k T _ _ c => by rw [Int.one_pow]; exact Int.one_dvd _
/-- the walk's claim: d0 is what the whole is to give -/
structure Bar (d0 : Int) (R : List Rw) (past sg : Int) : Prop where
  ne : past ≠ 0
  dv : Dvd R past
  now : R = [] → sg * past = d0
  val : ∀ n, R.length = n + 1 → sg * det (n + 1) R = d0 * past ^ n
theorem Bar.start (R : List Rw) : Bar (det R.length R) R 1 1 := ⟨by decide, Dvd.one R, fun h => by rw [h]; rfl, fun n h => by rw [h, Int.one_pow]; omega⟩
theorem Bar.none {d0 past sg : Int} {R : List Rw} (h : Bar d0 R past sg) (hR : R ≠ []) (z : ∀ u ∈ R, u 0 = 0) : d0 = 0 := by
  obtain ⟨n, hn⟩ : ∃ n, R.length = n + 1 := ⟨R.length - 1, by have := List.length_pos_iff.mpr hR; omega⟩
  have := h.val n hn
  rw [det_zero n R z, Int.mul_zero] at this
  rcases Int.mul_eq_zero.mp this.symm with e | e
  · exact e
  · exact absurd e (pow_ne _ h.ne n)
theorem Bar.step {d0 past sg : Int} {q s : List Rw} {f : Rw} (h : Bar d0 (q ++ f :: s) past sg) (hp : f 0 ≠ 0) : Bar d0 ((q ++ s).map (low2 past f)) (f 0) (sg * (-1) ^ q.length) := by
  have hf : f ∈ q ++ f :: s := by simp
  have hM : ∀ u ∈ q ++ s, u ∈ q ++ f :: s := fun u hu => by
    rcases List.mem_append.mp hu with hu | hu <;> simp [hu]
  have hl : (q ++ f :: s).length = (q ++ s).length + 1 := by simp; omega
  have hv := h.val _ hl
  have hmv := (det_alt ((q ++ s).length + 1)).move f s q [] (by rw [List.length_nil, List.length_append]; omega)
  rw [List.nil_append, List.nil_append] at hmv
  rw [hmv] at hv
  refine ⟨hp, h.dv.step h.ne hf hp hM, fun e => ?_, fun n hn => ?_⟩
  · have e : q ++ s = [] := by simpa using e
    rw [e] at hv
    have hd : det 1 [f] = f 0 := by simp [det, alt]
    have hv : sg * ((-1) ^ q.length * det 1 [f]) = d0 * past ^ 0 := hv
    rw [hd, Int.pow_zero, Int.mul_one, ← Int.mul_assoc] at hv
    exact hv
  · rw [List.length_map] at hn
    rw [hn] at hv
    have hc := chio f (q ++ s) hn
    have hsm := rows_smul (det_alt (n + 1)) past ((q ++ s).map (low2 past f)) [] (by rw [List.length_nil, List.length_map, hn, Nat.zero_add])
    rw [List.nil_append, List.nil_append, List.length_map, hn, List.map_map] at hsm
    rw [show (q ++ s).map ((fun u j => past * u j) ∘ low2 past f) = (q ++ s).map (low f) from map_eq fun u hu => low2_mul h.ne h.dv hf (hM u hu)] at hsm
    rw [← hsm] at hc
    generalize det (n + 1) ((q ++ s).map (low2 past f)) = d at *
    generalize det (n + 1 + 1) (f :: (q ++ s)) = D at *
    have hne := Int.mul_ne_zero hp (pow_ne past h.ne (n + 1))
    apply Int.eq_of_mul_eq_mul_left hne
    have k1 : f 0 * past ^ (n + 1) * (sg * (-1) ^ q.length * d) = sg * (-1) ^ q.length * (f 0 * (past ^ (n + 1) * d)) := by
      simp only [Int.mul_assoc, Int.mul_comm, Int.mul_left_comm]
    rw [k1, ← hc, show sg * (-1) ^ q.length * (f 0 ^ (n + 1) * D) = f 0 ^ (n + 1) * (sg * ((-1) ^ q.length * D)) from by simp only [Int.mul_assoc, Int.mul_comm, Int.mul_left_comm], hv, Int.pow_succ (f 0) n]
    simp only [Int.mul_assoc, Int.mul_comm, Int.mul_left_comm]
end PL
end
section
set_option maxRecDepth 100000
set_option maxHeartbeats 1000000
/-! the numbers on the way are minors: how great they are -/
namespace PL
def fact : Nat → Nat
  | 0 => 1
  | n + 1 => (n + 1) * fact n
theorem alt_bd {g : List Rw → Int} {M C n : Nat} (hg : ∀ r : List Rw, r.length = n → (∀ u ∈ r, ∀ j, (u j).natAbs ≤ M) → (g r).natAbs ≤ C) : ∀ (l p : List Rw), p.length + l.length = n + 1 → (∀ u ∈ p ++ l, ∀ j, (u j).natAbs ≤ M) → (alt g p l).natAbs ≤ l.length * (M * C)
  | [], p, _, _ => by simp [alt]
  | u :: s, p, e, h => by
    have e : p.length + (s.length + 1) = n + 1 := e
    have ih := alt_bd hg s (p ++ [u]) (by rw [List.length_append, List.length_singleton]; omega) (by simpa using h)
    have h1 := hg ((p ++ s).map tl) (by rw [List.length_map, List.length_append]; omega) (fun v hv j => by
      obtain ⟨w, hw, rfl⟩ := List.mem_map.mp hv
      refine h w ?_ (j + 1)
      rcases List.mem_append.mp hw with hw | hw <;> simp [hw])
    have h2 := h u (by simp) 0
    have h3 : (u 0 * g ((p ++ s).map tl)).natAbs ≤ M * C := by
      rw [Int.natAbs_mul]
      exact Nat.mul_le_mul h2 h1
    rw [alt, List.length_cons, Nat.succ_mul]
    omega
theorem det_bd (M : Nat) : ∀ (n : Nat) (r : List Rw), r.length = n → (∀ u ∈ r, ∀ j, (u j).natAbs ≤ M) → (det n r).natAbs ≤ fact n * M ^ n
  | 0, r, _, _ => by simp [det, fact]
  | n + 1, r, e, h => by
    have := alt_bd (g := det n) (M := M) (C := fact n * M ^ n) (n := n) (fun r e h => det_bd M n r e h) r [] (by rw [List.length_nil]; omega) (by simpa using h)
    rw [e] at this
    refine Nat.le_trans this (Nat.le_of_eq ?_)
    rw [fact, Nat.pow_succ]
    simp only [Nat.mul_assoc, Nat.mul_comm, Nat.mul_left_comm]
/-- all minors of k + 1 rows, fewer than K, are within the k-th power of the step ahead times W -/
def Bnd (K W : Nat) (R : List Rw) (past : Int) : Prop := ∀ (k : Nat), k < K → ∀ (T : List Rw), T.length = k + 1 → (∀ u ∈ T, u ∈ R) → ∀ c : Nat → Nat, (det (k + 1) (T.map fun u j => u (c j))).natAbs ≤ past.natAbs ^ k * W
theorem fact_pos : ∀ n, 0 < fact n
  | 0 => by decide
  | n + 1 => Nat.mul_pos (by omega) (fact_pos n)
theorem fact_le : ∀ {n m : Nat}, n ≤ m → fact n ≤ fact m
  | n, 0, h => by rw [Nat.le_zero.mp h]; exact Nat.le_refl _
  | n, m + 1, h => by
    by_cases e : n = m + 1
    · rw [e]; exact Nat.le_refl _
    · refine Nat.le_trans (fact_le (n := n) (m := m) (by omega)) ?_
      rw [fact]
      exact Nat.le_mul_of_pos_left _ (by omega)
theorem Bnd.one {K M : Nat} (hM : 1 ≤ M) {R : List Rw} (h : ∀ u ∈ R, ∀ j, (u j).natAbs ≤ M) : Bnd K (fact K * M ^ K) R 1 := fun k hk T hT hm c => by
  have := det_bd M (k + 1) (T.map fun u j => u (c j)) (by rw [List.length_map]; exact hT) (fun v hv j => by
    obtain ⟨u, hu, rfl⟩ := List.mem_map.mp hv
    exact h u (hm u hu) (c j))
  rw [show (1 : Int).natAbs = 1 from rfl, Nat.one_pow, Nat.one_mul]
  exact Nat.le_trans this (Nat.mul_le_mul (fact_le hk) (Nat.pow_le_pow_right hM hk))
theorem Bnd.item {K W : Nat} {R : List Rw} {past : Int} (h : Bnd (K + 1) W R past) {u : Rw} (hu : u ∈ R) (j : Nat) : (u j).natAbs ≤ W := by
  have := h 0 (by omega) [u] rfl (by simpa using hu) (fun _ => j)
  simpa [det, alt] using this
theorem Bnd.step {K W : Nat} {R M : List Rw} {past : Int} (h0 : past ≠ 0) (hd : Dvd R past) (h : Bnd (K + 1) W R past) {f : Rw} (hf : f ∈ R) (hp : f 0 ≠ 0) (hM : ∀ u ∈ M, u ∈ R) : Bnd K W (M.map (low2 past f)) (f 0) := by
  intro k hk T' hT hm c
  obtain ⟨T, rfl, mT⟩ := pre_map (g := low2 past f) (l := M) (t := T') fun y hy => by
    obtain ⟨x, hx, e⟩ := List.mem_map.mp (hm y hy)
    exact ⟨x, hx, e⟩
  rw [List.length_map] at hT
  let c' : Nat → Nat := fun i => match i with
    | 0 => 0
    | i + 1 => c i + 1
  have hsm := rows_smul (det_alt (k + 1)) past ((T.map (low2 past f)).map fun u j => u (c j)) [] (by rw [List.length_nil, List.length_map, List.length_map, hT, Nat.zero_add])
  rw [List.nil_append, List.nil_append, List.length_map, List.length_map, hT, List.map_map, List.map_map] at hsm
  have e1 : T.map ((fun u j => past * u j) ∘ (fun u j => u (c j)) ∘ low2 past f) = (T.map fun u j => u (c' j)).map (PL.low fun j => f (c' j)) := by
    rw [List.map_map]
    apply map_eq
    intro u hu
    have := low2_mul h0 hd hf (hM u (mT u hu))
    funext j
    exact congrFun this (c j)
  rw [e1] at hsm
  have hc := chio (n := k + 1) (fun j => f (c' j)) (T.map fun u j => u (c' j)) (by rw [List.length_map, hT])
  rw [← hsm] at hc
  have hz := h (k + 1) (by omega) (f :: T) (by rw [List.length_cons, hT]) (fun u hu => by
    rcases List.mem_cons.mp hu with rfl | hu
    · exact hf
    · exact hM u (mT u hu)) c'
  rw [List.map_cons] at hz
  rw [List.map_map]
  generalize det (k + 1) (T.map ((fun u j => u (c j)) ∘ low2 past f)) = d at *
  generalize det (k + 1 + 1) ((fun j => f (c' j)) :: T.map fun u j => u (c' j)) = D at *
  have hc : f 0 ^ (k + 1) * D = f 0 * (past ^ (k + 1) * d) := hc
  have h1 := congrArg Int.natAbs hc
  have pw : ∀ (x : Int) (n : Nat), (x ^ n).natAbs = x.natAbs ^ n := fun x n => by
    induction n with
    | zero => simp
    | succ n ih => rw [Int.pow_succ, Int.natAbs_mul, ih, Nat.pow_succ]
  rw [Int.natAbs_mul, Int.natAbs_mul, Int.natAbs_mul, pw, pw, Nat.pow_succ] at h1
  have fp : 0 < (f 0).natAbs := Int.natAbs_pos.mpr hp
  have pp : 0 < past.natAbs ^ (k + 1) := Nat.pow_pos (Int.natAbs_pos.mpr h0)
  generalize (f 0).natAbs = F at *
  generalize past.natAbs ^ (k + 1) = P at *
  generalize D.natAbs = D' at *
  generalize d.natAbs = d' at *
  have h2 : P * d' = F ^ k * D' := by
    apply Nat.eq_of_mul_eq_mul_left fp
    rw [← h1]
    simp only [Nat.mul_assoc, Nat.mul_comm, Nat.mul_left_comm]
  have h3 : P * d' ≤ P * (F ^ k * W) := by
    rw [h2]
    refine Nat.le_trans (Nat.mul_le_mul_left _ hz) (Nat.le_of_eq ?_)
    simp only [Nat.mul_assoc, Nat.mul_comm, Nat.mul_left_comm]
  exact Nat.le_of_mul_le_mul_left h3 pp
end PL
end
section
set_option maxRecDepth 100000
set_option maxHeartbeats 1000000
/-! resultants as determinants of the lines' shifted rows -/
namespace PL
open SR (Ser con)
/-- the letter -/
def XX : Ser Int := ⟨un 1⟩
theorem XX_0 (A : Ser Int) : (XX * A).c 0 = 0 := by
  rw [SR.mul_c, SR.cv_zero]
  show un 1 0 * _ = 0
  simp [un]
theorem XX_s (A : Ser Int) (k : Nat) : (XX * A).c (k + 1) = A.c k := by
  rw [SR.mul_c, SR.cv_succ]
  have e : (fun i => XX.c (i + 1)) = (con (1 : Int)).c := by
    funext i
    show un 1 (i + 1) = _
    cases i with
    | zero => rfl
    | succ i => rfl
  rw [e]
  have h := SR.mul_c (con (1 : Int)) A k
  rw [SR.con_mul, Int.one_mul] at h
  rw [← h]
  show un 1 0 * _ + _ = _
  simp [un]
def px : Nat → Ser Int
  | 0 => 1
  | n + 1 => XX * px n
theorem px_add (i : Nat) : ∀ j, px (i + j) = px i * px j
  | 0 => by rw [Nat.add_zero, px]; grind
  | j + 1 => by rw [← Nat.add_assoc, px, px, px_add i j]; grind
theorem px_c (A : Ser Int) : ∀ (i k : Nat), (px i * A).c k = if i ≤ k then A.c (k - i) else 0
  | 0, k => by
    rw [px, show (1 : Ser Int) * A = A by grind, if_pos (Nat.zero_le _)]
    rfl
  | i + 1, 0 => by
    rw [px, show XX * px i * A = XX * (px i * A) by grind, XX_0, if_neg (by omega)]
  | i + 1, k + 1 => by
    rw [px, show XX * px i * A = XX * (px i * A) by grind, XX_s, px_c A i k]
    by_cases h : i ≤ k
    · rw [if_pos h, if_pos (by omega), show k + 1 - (i + 1) = k - i by omega]
    · rw [if_neg h, if_neg (by omega)]
/-- the numbers of A from the highest power below N on -/
def row (N : Nat) (A : Ser Int) : Rw := fun j => if j < N then A.c (N - 1 - j) else 0
theorem row_cmb (N : Nat) (c : Int) (A B : Ser Int) : row N (con c * A + B) = cmb c (row N A) (row N B) := by
  funext j
  unfold row cmb
  by_cases h : j < N
  · simp only [if_pos h]
    rw [SR.add_c, SR.con_mul]
  · simp only [if_neg h]
    omega
theorem row_smul (N : Nat) (c : Int) (A : Ser Int) : row N (con c * A) = fun j => c * row N A j := by
  funext j
  unfold row
  by_cases h : j < N
  · simp only [if_pos h]
    rw [SR.con_mul]
  · simp only [if_neg h]
    omega
theorem tl_row (N : Nat) (A : Ser Int) : tl (row (N + 1) A) = row N A := by
  funext j
  unfold tl row
  by_cases h : j < N
  · rw [if_pos (by omega), if_pos h]
    congr 1
    omega
  · rw [if_neg (by omega), if_neg h]
theorem row_0 (N : Nat) (A : Ser Int) : row (N + 1) A 0 = A.c N := by
  unfold row
  rw [if_pos (by omega)]
  rfl
theorem row_zero (N : Nat) : row N 0 = zr := by
  funext j
  unfold row
  split
  · exact SR.zero_c _
  · rfl
/-- the rows of x ^ (n - 1) A .. A -/
def shs (N : Nat) (A : Ser Int) : Nat → List Rw
  | 0 => []
  | n + 1 => row N (px n * A) :: shs N A n
theorem shs_len (N : Nat) (A : Ser Int) : ∀ n, (shs N A n).length = n
  | 0 => rfl
  | n + 1 => by rw [shs, List.length_cons, shs_len N A n]
theorem mem_shs {N : Nat} {A : Ser Int} : ∀ {n t : Nat}, t < n → row N (px t * A) ∈ shs N A n
  | 0, t, h => absurd h (Nat.not_lt_zero _)
  | n + 1, t, h => by
    rw [shs]
    by_cases e : t = n
    · rw [e]; exact List.mem_cons_self
    · exact List.mem_cons_of_mem _ (mem_shs (by omega))
theorem shs_mem {N : Nat} {A : Ser Int} : ∀ {n : Nat} {u : Rw}, u ∈ shs N A n → ∃ t, t < n ∧ u = row N (px t * A)
  | 0, u, h => by cases h
  | n + 1, u, h => by
    rw [shs] at h
    rcases List.mem_cons.mp h with rfl | h
    · exact ⟨n, Nat.lt_succ_self n, rfl⟩
    · obtain ⟨t, ht, e⟩ := shs_mem h
      exact ⟨t, by omega, e⟩
theorem shs_tl (N : Nat) (A : Ser Int) : ∀ n, (shs (N + 1) A n).map tl = shs N A n
  | 0 => rfl
  | n + 1 => by rw [shs, shs, List.map_cons, tl_row, shs_tl N A n]
theorem S_cons (c : Int) (k : List Int) : S (c :: k) = con c + XX * S k := SR.Ser.ext fun n => by
  rw [SR.add_c]
  cases n with
  | zero => rw [XX_0]; show c = c + 0; omega
  | succ n => rw [XX_s]; show cf k n = 0 + cf k n; omega
section
variable {M : Nat} {g : List Rw → Int}
theorem Alt.add_mem (h : Alt M g) (c : Int) {u v : Rw} {p s : List Rw} (hv : v ∈ s) (e : p.length + 1 + s.length = M) : g (p ++ cmb c v u :: s) = g (p ++ u :: s) := by
  obtain ⟨q, t, rfl⟩ := List.append_of_mem hv
  exact h.add_after c u v p q t (by rw [List.length_append, List.length_cons] at e; omega)
/-- a multiple of B, k times, is put to a row -/
theorem Alt.add_list (h : Alt M g) (N : Nat) (B U : Ser Int) (p q : List Rw) (e : p.length + 1 + q.length = M) : ∀ (k : List Int) (i : Nat), (∀ t, t < k.length → row N (px (i + t) * B) ∈ q) → g (p ++ row N (px i * (S k * B) + U) :: q) = g (p ++ row N U :: q)
  | [], i, _ => by rw [S_nil, show px i * (0 * B) + U = U by grind]
  | c :: k, i, hm => by
    have e1 : px i * (S (c :: k) * B) + U = con c * (px i * B) + (px (i + 1) * (S k * B) + U) := by
      rw [S_cons, px]
      grind
    rw [e1, row_cmb, h.add_mem c (by simpa using hm 0 (by simp)) e]
    refine h.add_list N B U p q e k (i + 1) fun t ht => ?_
    have := hm (t + 1) (by rw [List.length_cons]; omega)
    rwa [show i + (t + 1) = i + 1 + t by omega] at this
end
/-- the resultant of A of degree m and B of degree n -/
def Rs (m n : Nat) (A B : Ser Int) : Int := det (m + n) (shs (m + n) A n ++ shs (m + n) B m)
theorem len_two (N m n : Nat) (A B : Ser Int) : (shs N A n ++ shs N B m).length = n + m := by rw [List.length_append, shs_len, shs_len]
theorem Rs_comm (m n : Nat) (A B : Ser Int) : Rs m n A B = (-1) ^ (n * m) * Rs n m B A := by
  have h := (det_alt (m + n)).blocks [] (shs (m + n) B m) (shs (m + n) A n) [] (by rw [shs_len, shs_len, List.length_nil]; omega)
  rw [List.append_nil, List.append_nil, List.nil_append, List.nil_append, shs_len, shs_len] at h
  unfold Rs
  rw [h, Nat.add_comm n m]
/-- a number times A -/
theorem shs_smul (c : Int) (A : Ser Int) {M N : Nat} (q : List Rw) : ∀ (n : Nat) (p : List Rw), p.length + n + q.length = M → det M (p ++ (shs N (con c * A) n ++ q)) = c ^ n * det M (p ++ (shs N A n ++ q))
  | 0, p, _ => by simp [shs]
  | n + 1, p, e => by
    have ih := shs_smul c A q (M := M) (N := N) n (p ++ [row N (px n * (con c * A))]) (by rw [List.length_append, List.length_singleton]; omega)
    simp only [shs, List.append_assoc, List.cons_append, List.nil_append] at ih ⊢
    rw [ih, show px n * (con c * A) = con c * (px n * A) by grind, row_smul, (det_alt M).smul _ _ c _ (by rw [List.length_append, shs_len]; omega), Int.pow_succ, Int.mul_assoc]
/-- multiples of B taken away -/
theorem shs_rest {B R : Ser Int} {k : List Int} {M N m : Nat} : ∀ (n : Nat) (p : List Rw), (k = [] ∨ k.length + n ≤ m + 1) → p.length + n + m = M → det M (p ++ (shs N (S k * B + R) n ++ shs N B m)) = det M (p ++ (shs N R n ++ shs N B m))
  | 0, p, _, _ => by simp [shs]
  | n + 1, p, hk, e => by
    have ih := shs_rest (B := B) (R := R) (k := k) (M := M) (N := N) (m := m) n (p ++ [row N (px n * R)]) (hk.imp id fun h => by omega) (by rw [List.length_append, List.length_singleton]; omega)
    simp only [shs, List.append_assoc, List.cons_append, List.nil_append] at ih ⊢
    rw [show px n * (S k * B + R) = px n * (S k * B) + px n * R by grind, (det_alt M).add_list N B (px n * R) p _ (by rw [List.length_append, shs_len, shs_len]; omega) k n (fun t ht => List.mem_append_right _ (mem_shs (by rcases hk with rfl | hk; simp at ht; omega)))]
    exact ih
/-- the highest power stands in one row alone -/
theorem rs_top {R B : Ser Int} {l n m : Nat} (hR : ∀ k, l < k → R.c k = 0) (hB : ∀ k, n < k → B.c k = 0) (hm : l ≤ m) : det (m + 1 + n) (shs (m + 1 + n) R n ++ shs (m + 1 + n) B (m + 1)) = (-1) ^ n * B.c n * det (m + n) (shs (m + n) R n ++ shs (m + n) B m) := by
  rw [show m + 1 + n = m + n + 1 by omega, shs]
  have h1 := det_one (m + n) (shs (m + n + 1) R n) (row (m + n + 1) (px m * B)) (shs (m + n + 1) B m) (fun v hv => by
    obtain ⟨t, ht, rfl⟩ := shs_mem hv
    rw [row_0, px_c, if_pos (by omega), hR _ (by omega)]) (fun v hv => by
    obtain ⟨t, ht, rfl⟩ := shs_mem hv
    rw [row_0, px_c, if_pos (by omega), hB _ (by omega)])
  rw [h1, List.map_append, shs_tl, shs_tl, shs_len, row_0, px_c, if_pos (by omega), show m + n - m = n by omega, Int.mul_assoc]
theorem rs_down {R B : Ser Int} {l n : Nat} (hR : ∀ k, l < k → R.c k = 0) (hB : ∀ k, n < k → B.c k = 0) : ∀ d : Nat, det (l + d + n) (shs (l + d + n) R n ++ shs (l + d + n) B (l + d)) = ((-1) ^ n * B.c n) ^ d * det (l + n) (shs (l + n) R n ++ shs (l + n) B l)
  | 0 => by simp
  | d + 1 => by
    rw [show l + (d + 1) = l + d + 1 by omega, rs_top hR hB (by omega), rs_down hR hB d, Int.pow_succ]
    generalize det (l + n) _ = z
    generalize (-1) ^ n * B.c n = y
    rw [← Int.mul_assoc, Int.mul_comm (y ^ d)]
/-- Euclid's step -/
theorem Rs_step {A B R : Ser Int} {k : List Int} {c : Int} {m n l : Nat} (he : con c * A = S k * B + R) (hk : k = [] ∨ k.length + n ≤ m + 1) (hR : ∀ i, l < i → R.c i = 0) (hB : ∀ i, n < i → B.c i = 0) (hl : l ≤ m) :
    c ^ n * Rs m n A B = (-1) ^ (m * n) * B.c n ^ (m - l) * Rs n l B R := by
  have h1 := shs_smul c A (M := m + n) (N := m + n) (shs (m + n) B m) n [] (by rw [shs_len, List.length_nil]; omega)
  rw [List.nil_append, List.nil_append, he] at h1
  have h2 := shs_rest (B := B) (R := R) (k := k) (M := m + n) (N := m + n) (m := m) n [] hk (by rw [List.length_nil]; omega)
  rw [List.nil_append, List.nil_append] at h2
  have h3 := rs_down hR hB (m - l)
  rw [show l + (m - l) = m by omega] at h3
  have h4 := Rs_comm l n R B
  unfold Rs at h4 ⊢
  rw [← h1, h2, h3, h4, Nat.add_comm n l, Int.mul_pow, ← Int.pow_mul]
  have : ((-1 : Int)) ^ (n * (m - l)) * (-1) ^ (n * l) = (-1) ^ (m * n) := by
    rw [← Int.pow_add, ← Nat.mul_add, show m - l + l = m by omega, Nat.mul_comm]
  rw [← this]
  simp only [Int.mul_assoc, Int.mul_comm, Int.mul_left_comm]
theorem Rs_zero {A B : Ser Int} {k : List Int} {c : Int} {m n : Nat} (hc : c ≠ 0) (he : con c * A = S k * B) (hk : k = [] ∨ k.length + n ≤ m + 1) (hn : 0 < n) : Rs m n A B = 0 := by
  have h1 := shs_smul c A (M := m + n) (N := m + n) (shs (m + n) B m) n [] (by rw [shs_len, List.length_nil]; omega)
  rw [List.nil_append, List.nil_append, he, show S k * B = S k * B + 0 by grind] at h1
  have h2 := shs_rest (B := B) (R := 0) (k := k) (M := m + n) (N := m + n) (m := m) n [] hk (by rw [List.length_nil]; omega)
  rw [List.nil_append, List.nil_append] at h2
  rw [h2] at h1
  obtain ⟨n', rfl⟩ : ∃ n', n = n' + 1 := ⟨n - 1, by omega⟩
  rw [shs, show px n' * (0 : Ser Int) = 0 by grind, row_zero] at h1
  have h3 := (det_alt (m + (n' + 1))).zero [] (shs (m + (n' + 1)) 0 n' ++ shs (m + (n' + 1)) B m) (by rw [List.length_nil, List.length_append, shs_len, shs_len]; omega)
  rw [List.nil_append] at h3
  rw [List.cons_append, h3] at h1
  rcases Int.mul_eq_zero.mp h1.symm with e | e
  · exact absurd e (pow_ne c hc _)
  · exact e
theorem Rs_con {A B : Ser Int} (hB : ∀ i, 0 < i → B.c i = 0) (m : Nat) : Rs m 0 A B = B.c 0 ^ m := by
  have h := rs_down (l := 0) (n := 0) (R := 0) (B := B) (fun _ _ => SR.zero_c _) hB m
  unfold Rs
  rw [Nat.zero_add, Nat.add_zero] at h
  rw [shs] at h ⊢
  rw [Nat.add_zero, h]
  simp [det, shs]
end PL
end
section
set_option maxRecDepth 100000
set_option maxHeartbeats 1000000
/-! resultants of products -/
namespace PL
open SR (Ser con)
/-- the sum that a row of K numbers tells, the highest power first -/
def pol : Nat → Rw → Ser Int
  | 0, _ => 0
  | K + 1, w => con (w 0) * px K + pol K (tl w)
theorem pol_cmb (c : Int) : ∀ (K : Nat) (u v : Rw), pol K (cmb c u v) = con c * pol K u + pol K v
  | 0, u, v => by simp only [pol]; grind
  | K + 1, u, v => by
    simp only [pol, tl_cmb, pol_cmb c K]
    rw [show cmb c u v 0 = c * u 0 + v 0 from rfl, SR.con_add, SR.con_times]
    grind
theorem pol_cut : ∀ (K : Nat) (w : Rw), pol K (cut K w) = pol K w
  | 0, w => rfl
  | K + 1, w => by
    simp only [pol, tl_cut, pol_cut K]
    rw [show cut (K + 1) w 0 = w 0 from if_pos (by omega)]
theorem px_1 (K k : Nat) : (px K).c k = if k = K then 1 else 0 := by
  have := px_c 1 K k
  rw [show px K * (1 : Ser Int) = px K by grind, SR.one_eq] at this
  rw [this]
  by_cases h : k = K
  · rw [if_pos (by omega), if_pos h, show k - K = 0 by omega]
    rfl
  · rw [if_neg h]
    by_cases h2 : K ≤ k
    · rw [if_pos h2]
      obtain ⟨j, hj⟩ : ∃ j, k - K = j + 1 := ⟨k - K - 1, by omega⟩
      rw [hj]
      rfl
    · rw [if_neg h2]
theorem pol_row (U : Ser Int) : ∀ (K k : Nat), (pol K (row K U)).c k = if k < K then U.c k else 0
  | 0, k => by rw [if_neg (by omega)]; exact SR.zero_c _
  | K + 1, k => by
    rw [pol, row_0, tl_row, SR.add_c, SR.con_mul, px_1, pol_row U K k]
    by_cases h : k = K
    · subst h
      rw [if_pos rfl, if_neg (by omega), if_pos (by omega)]
      omega
    · rw [if_neg h]
      by_cases h2 : k < K
      · rw [if_pos h2, if_pos (by omega)]; omega
      · rw [if_neg h2, if_neg (by omega)]; omega
theorem pol_id {U : Ser Int} {K : Nat} (h : ∀ k, K ≤ k → U.c k = 0) : pol K (row K U) = U := SR.Ser.ext fun k => by
  rw [pol_row]
  by_cases h2 : k < K
  · rw [if_pos h2]
  · rw [if_neg h2, h k (by omega)]
theorem us_pol (M : Nat) (A : Ser Int) : ∀ K, (us K).map (fun w => row M (pol K w * A)) = shs M A K
  | 0 => rfl
  | K + 1 => by
    rw [us_succ, List.map_cons, List.map_map, shs]
    have e1 : pol (K + 1) (un 0) = px K := by
      have e : tl (un 0) = zr := by funext j; simp [tl, un, zr]
      rw [pol, e]
      have z : ∀ K, pol K zr = 0 := fun K => by
        induction K with
        | zero => rfl
        | succ K ih =>
          rw [pol, show tl zr = zr from rfl, ih, show zr 0 = 0 from rfl, con_zero]
          grind
      rw [z, show un 0 0 = 1 from rfl, con_one]
      grind
    rw [e1]
    congr 1
    have := us_pol M A K
    unfold us at this
    rw [List.map_map] at this
    rw [← this]
    apply map_eq
    intro i _
    show row M (pol (K + 1) (un (i + 1)) * A) = row M (pol K (un i) * A)
    congr 2
    rw [pol, show tl (un (i + 1)) = un i from by funext j; simp [tl, un], show un (i + 1) 0 = 0 from by simp [un], con_zero]
    grind
theorem shs_pol {K M : Nat} {A C : Ser Int} : ∀ n, (∀ t, t < n → ∀ k, K ≤ k → (px t * C).c k = 0) → (shs K C n).map (fun w => row M (pol K w * A)) = shs M (C * A) n
  | 0, _ => rfl
  | n + 1, h => by
    rw [shs, shs, List.map_cons, shs_pol n fun t ht => h t (by omega), pol_id (h n (by omega)), show px n * C * A = px n * (C * A) by grind]
/-- rows of a table of K rows, each times A -/
theorem rows_times {K : Nat} {A : Ser Int} (q : List Rw) (r : List Rw) (hr : r.length = K) : det (K + q.length) (r.map (fun w => row (K + q.length) (pol K w * A)) ++ q) = det K r * det (K + q.length) (shs (K + q.length) A K ++ q) := by
  have hd := det_alt (K + q.length)
  have ha : Alt K fun r => det (K + q.length) (r.map (fun w => row (K + q.length) (pol K w * A)) ++ q) := by
    refine ⟨fun p s c u v e => ?_, fun p s u v e => ?_⟩
    · simp only [List.map_append, List.map_cons, List.append_assoc, List.cons_append]
      rw [pol_cmb, show (con c * pol K u + pol K v) * A = con c * (pol K u * A) + pol K v * A by grind, row_cmb]
      exact hd.lin _ _ c _ _ (by rw [List.length_map, List.length_append, List.length_map]; omega)
    · simp only [List.map_append, List.map_cons, List.append_assoc, List.cons_append]
      exact hd.swp _ _ _ _ (by rw [List.length_map, List.length_append, List.length_map]; omega)
  have := ha.uniq (fun p u s e => by
    simp only [List.map_append, List.map_cons]
    rw [pol_cut]) r hr
  rw [us_pol] at this
  exact this
theorem S_snoc (x : Int) : ∀ a : List Int, S (a ++ [x]) = S a + con x * px a.length
  | [] => by rw [List.nil_append, S_cons, S_nil]; show _ = 0 + con x * px 0; rw [px]; grind
  | c :: a => by rw [List.cons_append, S_cons, S_cons, S_snoc x a, List.length_cons, px]; grind
/-- the highest rows of B made rows of A B -/
theorem swap_rows {a : List Int} {x : Int} {B : Ser Int} {N M : Nat} : ∀ (e : Nat) (p : List Rw), p.length + (a.length + e) = M → x ^ e * det M (p ++ shs N B (a.length + e)) = det M (p ++ (shs N (S (a ++ [x]) * B) e ++ shs N B a.length))
  | 0, p, _ => by simp [shs]
  | e + 1, p, h => by
    have ih := swap_rows (a := a) (x := x) (B := B) (N := N) (M := M) e (p ++ [row N (px e * (S (a ++ [x]) * B))]) (by rw [List.length_append, List.length_singleton]; omega)
    simp only [shs, List.append_assoc, List.cons_append, List.nil_append] at ih ⊢
    rw [← ih, show px e * (S (a ++ [x]) * B) = px e * (S a * B) + con x * (px (a.length + e) * B) by rw [S_snoc, px_add]; grind,
      (det_alt M).add_list N B _ p _ (by rw [shs_len]; omega) a e (fun t ht => mem_shs (by omega)), row_smul, (det_alt M).smul _ _ x _ (by rw [shs_len]; omega)]
    show x ^ (e + 1) * det M (p ++ row N (px (a.length + e) * B) :: shs N B (a.length + e)) = _
    rw [Int.pow_succ, Int.mul_assoc]
theorem row_down {A B : Ser Int} {m n : Nat} (hA : ∀ k, m < k → A.c k = 0) (hB : ∀ k, n < k → B.c k = 0) : ∀ e : Nat, det (n + e + m) (shs (n + e + m) A (n + e) ++ shs (n + e + m) B m) = A.c m ^ e * det (n + m) (shs (n + m) A n ++ shs (n + m) B m)
  | 0 => by simp
  | e + 1 => by
    rw [show n + (e + 1) + m = n + e + m + 1 by omega, show n + (e + 1) = n + e + 1 by omega, shs]
    have h1 := det_one (n + e + m) [] (row (n + e + m + 1) (px (n + e) * A)) (shs (n + e + m + 1) A (n + e) ++ shs (n + e + m + 1) B m) (by simp) (fun v hv => by
      rcases List.mem_append.mp hv with hv | hv
      · obtain ⟨t, ht, rfl⟩ := shs_mem hv
        rw [row_0, px_c, if_pos (by omega), hA _ (by omega)]
      · obtain ⟨t, ht, rfl⟩ := shs_mem hv
        rw [row_0, px_c, if_pos (by omega), hB _ (by omega)])
    rw [List.nil_append, List.nil_append] at h1
    rw [List.cons_append, h1, List.map_append, shs_tl, shs_tl, row_down hA hB e, row_0, px_c, if_pos (by omega), show n + e + m - (n + e) = m by omega, Int.pow_succ]
    simp only [List.length_nil, Int.pow_zero, Int.one_mul, Int.mul_assoc, Int.mul_left_comm]
theorem Rs_mul {a : List Int} {x : Int} {B C : Ser Int} {m' n : Nat} (hx : x ≠ 0) (hC : ∀ k, m' < k → C.c k = 0) (hB : ∀ k, n < k → B.c k = 0) : Rs (a.length + m') n (S (a ++ [x]) * C) B = Rs a.length n (S (a ++ [x])) B * Rs m' n C B := by
  have hA : ∀ k, a.length < k → (S (a ++ [x])).c k = 0 := fun k hk => cf_beyond (by rw [List.length_append, List.length_singleton]; omega)
  have hx' : (S (a ++ [x])).c a.length = x := by
    show cf (a ++ [x]) a.length = x
    rw [cf_append_right (Nat.le_refl _), Nat.sub_self]
    rfl
  generalize hS : S (a ++ [x]) = A at *
  have dC : ∀ t, t < n → ∀ k, n + m' ≤ k → (px t * C).c k = 0 := fun t ht k hk => by
    rw [px_c, if_pos (by omega), hC _ (by omega)]
  have dB : ∀ t, t < m' → ∀ k, n + m' ≤ k → (px t * B).c k = 0 := fun t ht k hk => by
    rw [px_c, if_pos (by omega), hB _ (by omega)]
  have h1 := swap_rows (a := a) (x := x) (B := B) (N := n + m' + a.length) (M := n + m' + a.length) m' (shs (n + m' + a.length) (C * A) n) (by rw [shs_len]; omega)
  rw [hS] at h1
  have h2 := rows_times (K := n + m') (A := A) (shs (n + m' + a.length) B a.length) (shs (n + m') C n ++ shs (n + m') B m') (by rw [List.length_append, shs_len, shs_len])
  rw [shs_len, List.map_append, shs_pol n dC, shs_pol m' dB, List.append_assoc, show B * A = A * B by grind] at h2
  have h3 := row_down hA hB m'
  rw [hx'] at h3
  rw [h2, h3] at h1
  unfold Rs
  rw [show a.length + m' + n = n + m' + a.length by omega, show A * C = C * A by grind]
  rw [show a.length + n = n + a.length by omega, show m' + n = n + m' by omega]
  apply Int.eq_of_mul_eq_mul_left (pow_ne x hx m')
  rw [h1]
  simp only [Int.mul_assoc, Int.mul_comm, Int.mul_left_comm]
end PL
end
section
set_option maxRecDepth 100000
set_option maxHeartbeats 1000000
/-! resultants of lines -/
namespace PL
open SR (Ser con)
open DL (pln la dg)
def rs (a b : List Int) : Int := Rs (a.length - 1) (b.length - 1) (S a) (S b)
theorem S_c (a : List Int) (k : Nat) : (S a).c k = cf a k := rfl
theorem S_dg {a : List Int} (k : Nat) (h : a.length - 1 < k) : (S a).c k = 0 := cf_beyond (by omega)
theorem lead_ml {k b : List Int} (nk : Nz k) (nb : Nz b) (k0 : k ≠ []) (b0 : b ≠ []) : cf (ml k b) (k.length + b.length - 2) ≠ 0 := by
  have h := (nz_iff.mp (nz_ml nk nb)).resolve_left (ml_ne k0 b0)
  rw [ml_len k0 b0] at h
  rwa [show k.length + b.length - 1 - 1 = k.length + b.length - 2 by omega] at h
theorem quo_len {a b k r : List Int} {c : Int} (nb : Nz b) (nk : Nz k) (b0 : b ≠ []) (hl : r.length < b.length) (e : con c * S a = S k * S b + S r) : k = [] ∨ k.length + (b.length - 1) ≤ a.length - 1 + 1 := by
  by_cases k0 : k = []
  · exact .inl k0
  · right
    have h1 := lead_ml nk nb k0 b0
    have kp := List.length_pos_iff.mpr k0
    have bp := List.length_pos_iff.mpr b0
    have h2 := congrArg (fun s => Ser.c s (k.length + b.length - 2)) e
    simp only [SR.add_c, SR.con_mul] at h2
    rw [← S_ml, S_c, S_c, S_c, cf_beyond (a := r) (by omega)] at h2
    have : k.length + b.length - 2 < a.length := Nat.lt_of_not_le fun z => by
      rw [cf_beyond z] at h2
      simp at h2
      exact h1 h2.symm
    omega
theorem rest_le {a b k r : List Int} {c : Int} (na : Nz a) (nr : Nz r) (hc : c ≠ 0) (nb : Nz b) (nk : Nz k) (b0 : b ≠ []) (hl : r.length < b.length) (e : con c * S a = S k * S b + S r) : r.length ≤ a.length := by
  by_cases k0 : k = []
  · have : a.map (c * ·) = r := S_inj (nz_sc hc na) nr (by rw [S_sc, e, k0, S_nil]; grind)
    rw [← this, List.length_map]
    exact Nat.le_refl _
  · have := (quo_len nb nk b0 hl e).resolve_left k0
    have := List.length_pos_iff.mpr k0
    omega
theorem rs_step {a b k r : List Int} {c : Int} (na : Nz a) (nb : Nz b) (nk : Nz k) (nr : Nz r) (hc : c ≠ 0) (b0 : b ≠ []) (r0 : r ≠ []) (hl : r.length < b.length) (e : con c * S a = S k * S b + S r) :
    c ^ (b.length - 1) * rs a b = (-1) ^ ((a.length - 1) * (b.length - 1)) * la b ^ (a.length - r.length) * rs b r := by
  have h1 := rest_le na nr hc nb nk b0 hl e
  have rp := List.length_pos_iff.mpr r0
  have h := Rs_step (m := a.length - 1) (n := b.length - 1) (l := r.length - 1) e (quo_len nb nk b0 hl e) (fun i hi => S_dg i hi) (fun i hi => S_dg i hi) (by omega)
  rw [show a.length - 1 - (r.length - 1) = a.length - r.length by omega] at h
  exact h
theorem rs_none {a b k : List Int} {c : Int} (nb : Nz b) (nk : Nz k) (hc : c ≠ 0) (hl : 1 < b.length) (e : con c * S a = S k * S b) : rs a b = 0 :=
  Rs_zero hc e (quo_len (r := []) nb nk (fun z => by rw [z] at hl; simp at hl) (by rw [List.length_nil]; omega) (by rw [e, S_nil]; grind)) (by omega)
theorem rs_con {a b : List Int} (hl : b.length = 1) : rs a b = cf b 0 ^ (a.length - 1) := by
  unfold rs
  rw [hl]
  exact Rs_con (fun i hi => S_dg i (by omega)) _
theorem rs_comm (a b : List Int) : rs a b = (-1) ^ ((a.length - 1) * (b.length - 1)) * rs b a := by
  unfold rs
  rw [Rs_comm, Nat.mul_comm]
theorem rs_ml {a b c : List Int} (na : Nz a) (a0 : a ≠ []) (c0 : c ≠ []) : rs (ml a c) b = rs a b * rs c b := by
  rcases List.eq_nil_or_concat a with rfl | ⟨a', x, rfl⟩
  · exact absurd rfl a0
  · rw [List.concat_eq_append] at *
    have cp := List.length_pos_iff.mpr c0
    have h := Rs_mul (a := a') (x := x) (B := S b) (C := S c) (m' := c.length - 1) (n := b.length - 1) (na a' x rfl) (fun k hk => S_dg k hk) (fun k hk => S_dg k hk)
    unfold rs
    rw [ml_len a0 c0, S_ml, List.length_append, List.length_singleton, Nat.add_sub_cancel, show a'.length + 1 + c.length - 1 - 1 = a'.length + (c.length - 1) by omega]
    exact h
/-! told roots -/
theorem syn (x : Int) : ∀ b : List Int, ∃ k : List Int, k.length ≤ b.length - 1 ∧ S b = S k * S [-x, 1] + con (vl b x)
  | [] => ⟨[], Nat.zero_le _, by rw [S_nil, show vl [] x = 0 from rfl, con_zero]; grind⟩
  | [c] => ⟨[], Nat.zero_le _, by rw [S_cons, S_nil, show vl [c] x = 0 * x + c from rfl, Int.zero_mul, Int.zero_add]; grind⟩
  | c :: d :: b => by
    obtain ⟨k, hk, e⟩ := syn x (d :: b)
    refine ⟨vl (d :: b) x :: k, by simp at hk ⊢; omega, ?_⟩
    have e1 : S [-x, 1] = con (-x) + XX := by rw [S_cons, S_cons, S_nil, con_one]; grind
    have e2 : vl (c :: d :: b) x = vl (d :: b) x * x + c := rfl
    rw [S_cons c (d :: b), e, S_cons (vl (d :: b) x) k, e2, e1, SR.con_add, SR.con_times, SR.con_neg]
    generalize vl (d :: b) x = v
    grind
theorem rs_lin (x : Int) {b : List Int} (b0 : b ≠ []) : rs [-x, 1] b = vl b x := by
  obtain ⟨k, hk, e⟩ := syn x b
  have bp := List.length_pos_iff.mpr b0
  rw [rs_comm]
  show (-1) ^ (1 * (b.length - 1)) * rs b [-x, 1] = _
  have sq : ∀ n : Nat, ((-1 : Int)) ^ n * (-1) ^ n = 1 := fun n => by
    rw [← Int.mul_pow]
    exact Int.one_pow
  by_cases hv : vl b x = 0
  · have z : rs b [-x, 1] = 0 := Rs_zero (c := 1) (k := k) (by decide) (by rw [e, hv, con_zero, con_one]; grind) (.inr (by show k.length + 1 ≤ _; omega)) (show 0 < 1 by decide)
    rw [z, hv, Int.mul_zero]
  · have h := Rs_step (c := 1) (A := S b) (B := S [-x, 1]) (R := con (vl b x)) (k := k) (m := b.length - 1) (n := 1) (l := 0) (by rw [con_one, ← e]; grind) (.inr (by omega)) (fun i hi => by
      obtain ⟨j, rfl⟩ : ∃ j, i = j + 1 := ⟨i - 1, by omega⟩
      rfl) (fun i hi => S_dg i (by simpa using hi)) (Nat.zero_le _)
    rw [Rs_con (fun i hi => by
      obtain ⟨j, rfl⟩ : ∃ j, i = j + 1 := ⟨i - 1, by omega⟩
      rfl), show (S [-x, 1]).c 1 = 1 from rfl, Int.one_pow, Int.pow_one, Int.one_mul, Int.one_pow, Int.mul_one] at h
    have h : rs b [-x, 1] = (-1) ^ ((b.length - 1) * 1) * vl b x := h
    rw [h, Nat.one_mul, Nat.mul_one, ← Int.mul_assoc, sq, Int.one_mul]
/-! nought just where there is a common part -/
theorem bd_ex (a : List Int) : ∃ A, Bd A a := by
  refine ⟨(a.map Int.natAbs).sum, bd_mem fun x hx => ?_⟩
  induction a with
  | nil => cases hx
  | cons y a ih =>
    rw [List.map_cons, List.sum_cons]
    rcases List.mem_cons.mp hx with rfl | h
    · omega
    · have := ih h
      omega
theorem rem_any {p o : List Int} (hp : Nz p) (no : Nz o) (ho : o ≠ []) : ∃ r, Rem p o r := by
  obtain ⟨A, ha⟩ := bd_ex p
  obtain ⟨B, hb⟩ := bd_ex o
  obtain ⟨r, h, -⟩ := rem_exists hp no ho ha hb
  exact ⟨r, h⟩
theorem dv_comb {h a b r : List Int} {k : List Int} {c : Int} (hc : c ≠ 0) (e : con c * S a = S k * S b + S r) (d1 : Dv h b) (d2 : Dv h r) : Dv h a := by
  obtain ⟨n1, n10, k1, nk1, e1⟩ := d1
  obtain ⟨n2, n20, k2, nk2, e2⟩ := d2
  refine ⟨n1 * n2 * c, Int.mul_ne_zero (Int.mul_ne_zero n10 n20) hc, ad (ml k (k1.map (n2 * ·))) (k2.map (n1 * ·)), nz_ad _ _, ?_⟩
  rw [S_ad, S_ml, S_sc, S_sc, SR.con_times, SR.con_times]
  grind
theorem dv_sub {h a b r : List Int} {k : List Int} {c : Int} (e : con c * S a = S k * S b + S r) (d1 : Dv h a) (d2 : Dv h b) : Dv h r := by
  obtain ⟨n1, n10, k1, nk1, e1⟩ := d1
  obtain ⟨n2, n20, k2, nk2, e2⟩ := d2
  refine ⟨n1 * n2, Int.mul_ne_zero n10 n20, su (k1.map (c * n2 * ·)) (ml k (k2.map (n1 * ·))), nz_su _ _, ?_⟩
  rw [S_su, S_ml, S_sc, S_sc, SR.con_times, SR.con_times]
  grind
theorem dv_len {h a : List Int} (na : Nz a) (a0 : a ≠ []) (nh : Nz h) (d : Dv h a) : h.length ≤ a.length := by
  obtain ⟨n, n0, k, nk, e⟩ := d
  have : a.map (n * ·) = ml k h := S_inj (nz_sc n0 na) (nz_ml nk nh) (by rw [S_sc, e, S_ml])
  have hl := congrArg List.length this
  rw [List.length_map] at hl
  have ap := List.length_pos_iff.mpr a0
  by_cases k0 : k = []
  · rw [k0, nil_ml, List.length_nil] at hl; omega
  · by_cases h0 : h = []
    · rw [h0]; exact Nat.zero_le _
    · rw [ml_len k0 h0] at hl
      have := List.length_pos_iff.mpr k0
      omega
theorem rs_shared : ∀ (n : Nat) {a b : List Int}, b.length ≤ n → Nz a → Nz b → a ≠ [] → b ≠ [] → rs a b = 0 → ∃ h, Nz h ∧ 1 < h.length ∧ Dv h a ∧ Dv h b
  | 0, a, b, hn, _, _, _, b0, _ => absurd (List.length_eq_zero_iff.mp (Nat.le_zero.mp hn)) b0
  | n + 1, a, b, hn, na, nb, a0, b0, z => by
    by_cases hb : b.length = 1
    · rw [rs_con hb] at z
      have hne : cf b 0 ≠ 0 := by
        have := DL.la_ne nb b0
        unfold la at this
        rwa [hb] at this
      exact absurd z (pow_ne _ hne _)
    · have bp := List.length_pos_iff.mpr b0
      obtain ⟨r, hr⟩ := rem_any na nb b0
      obtain ⟨c, hc, k, nk, e⟩ := hr.eq
      by_cases r0 : r = []
      · rw [r0, S_nil] at e
        exact ⟨b, nb, by omega, ⟨c, hc, k, nk, by rw [e]; grind⟩, dv_refl b⟩
      · have hs := rs_step na nb nk hr.nz hc b0 r0 hr.lt e
        rw [z, Int.mul_zero] at hs
        have z2 : rs b r = 0 := by
          rcases Int.mul_eq_zero.mp hs.symm with h | h
          · rcases Int.mul_eq_zero.mp h with h | h
            · exact absurd h (pow_ne _ (by decide) _)
            · exact absurd h (pow_ne _ (DL.la_ne nb b0) _)
          · exact h
        have hlt := hr.lt
        obtain ⟨h, nh, h1, d1, d2⟩ := rs_shared n (by omega) nb hr.nz b0 r0 z2
        exact ⟨h, nh, h1, dv_comb hc e d1 d2, d1⟩
theorem rs_of_shared : ∀ (n : Nat) {a b h : List Int}, b.length ≤ n → Nz a → Nz b → a ≠ [] → b ≠ [] → Nz h → 1 < h.length → Dv h a → Dv h b → rs a b = 0
  | 0, a, b, h, hn, _, _, _, b0, _, _, _, _ => absurd (List.length_eq_zero_iff.mp (Nat.le_zero.mp hn)) b0
  | n + 1, a, b, h, hn, na, nb, a0, b0, nh, h1, d1, d2 => by
    have hb := dv_len nb b0 nh d2
    obtain ⟨r, hr⟩ := rem_any na nb b0
    obtain ⟨c, hc, k, nk, e⟩ := hr.eq
    by_cases r0 : r = []
    · rw [r0, S_nil] at e
      exact rs_none nb nk hc (by omega) (by rw [e]; grind)
    · have hlt := hr.lt
      have z := rs_of_shared n (a := b) (b := r) (by omega) nb hr.nz b0 r0 nh h1 d2 (dv_sub e d1 d2)
      have hs := rs_step na nb nk hr.nz hc b0 r0 hr.lt e
      rw [z, Int.mul_zero] at hs
      rcases Int.mul_eq_zero.mp hs with q | q
      · exact absurd q (pow_ne _ hc _)
      · exact q
/-- G goes into both and is a mix of both -/
structure Gc (a b g : List Int) : Prop where
  nz : Nz g
  ne : g ≠ []
  d1 : Dv g a
  d2 : Dv g b
  mix : ∃ n : Int, n ≠ 0 ∧ ∃ u v, Nz u ∧ Nz v ∧ con n * S g = S u * S a + S v * S b
theorem Gc.iff {a b g : List Int} (h : Gc a b g) (na : Nz a) (nb : Nz b) (a0 : a ≠ []) (b0 : b ≠ []) : rs a b = 0 ↔ 1 < g.length := by
  constructor
  · intro z
    obtain ⟨f, nf, f1, d1, d2⟩ := rs_shared b.length (Nat.le_refl _) na nb a0 b0 z
    obtain ⟨n, n0, u, v, nu, nv, e⟩ := h.mix
    obtain ⟨n1, n10, k1, nk1, e1⟩ := d1
    obtain ⟨n2, n20, k2, nk2, e2⟩ := d2
    have : Dv f g := ⟨n1 * n2 * n, Int.mul_ne_zero (Int.mul_ne_zero n10 n20) n0, ad (ml u (k1.map (n2 * ·))) (ml v (k2.map (n1 * ·))), nz_ad _ _, by
      rw [S_ad, S_ml, S_ml, S_sc, S_sc, SR.con_times, SR.con_times]
      grind⟩
    have := dv_len h.nz h.ne nf this
    omega
  · intro g1
    exact rs_of_shared b.length (Nat.le_refl _) na nb a0 b0 h.nz g1 h.d1 h.d2
end PL
end
section
set_option maxRecDepth 100000
set_option maxHeartbeats 4000000
namespace K13
open PySem PySem.Spec L2 DL
open PyProof.Rows hiding St

/-- turns that a while may take -/
noncomputable def fuel : Nat := 1000000000

noncomputable def g_is_integer_s1 : Ss := (retS (andV (unM (isiD "int") (nameM 0)) (notV (unM (isiD "bool") (nameM 0)))))
/-- value -/
noncomputable def g_is_integer : Ss := g_is_integer_s1
@[irreducible] noncomputable def m_is_integer := bodyF 1 g_is_integer

noncomputable def g_is_list_s1 : Ss := (retS (unM (isiD2 "list" "tuple") (nameM 0)))
/-- value -/
noncomputable def g_is_list : Ss := g_is_list_s1
@[irreducible] noncomputable def m_is_list := bodyF 1 g_is_list

noncomputable def g_want_at_most_s1 : Ss := (ifS (boolM (binM gtI (nameM 2) (nameM 1)))
  (fun _ => none)
  skipS)
/-- what limit number -/
noncomputable def g_want_at_most : Ss := g_want_at_most_s1
@[irreducible] noncomputable def m_want_at_most := bodyF 3 g_want_at_most

noncomputable def g_divisor_of_t1 : Me Bool := (boolM (binM neD (nameM 3) (conM (.int 0))))
noncomputable def g_divisor_of_b1 : Ss := (parS 2 3 (consA (nameM 3) (consA (binM subI (nameM 2) (binM mulD (binM fdivD (nameM 2) (nameM 3)) (nameM 3))) nilA)))
noncomputable def g_divisor_of_w1 : Ss := whileN g_divisor_of_t1 g_divisor_of_b1 fuel
noncomputable def g_divisor_of_s1 : Ss := (parS 2 3 (consA (callM absD (consA (nameM 0) nilA)) (consA (callM absD (consA (nameM 1) nilA)) nilA)))
noncomputable def g_divisor_of_s2 : Ss := (retS (nameM 2))
/-- number other near far -/
noncomputable def g_divisor_of : Ss := (seqS g_divisor_of_s1
  (seqS g_divisor_of_w1
  g_divisor_of_s2))
@[irreducible] noncomputable def m_divisor_of := bodyF 4 g_divisor_of

noncomputable def g_power_by_b1 : Ss := (setS 2 (binM mulD (nameM 2) (nameM 0)))
noncomputable def g_power_by_f1 : Ss := forS (rngM1 (consA (nameM 1) nilA)) (asg 3) g_power_by_b1
noncomputable def g_power_by_s1 : Ss := (setS 2 (conM (.int 1)))
noncomputable def g_power_by_s2 : Ss := (retS (nameM 2))
/-- number many found turn -/
noncomputable def g_power_by : Ss := (seqS g_power_by_s1
  (seqS g_power_by_f1
  g_power_by_s2))
@[irreducible] noncomputable def m_power_by := bodyF 4 g_power_by

noncomputable def g_trimmed_t1 : Me Bool := (andM (boolM (binM gtI (nameM 1) (conM (.int 0)))) (boolM (binM eqD (binM ixD (nameM 0) (binM subI (nameM 1) (conM (.int 1)))) (conM (.int 0)))))
noncomputable def g_trimmed_b1 : Ss := (setS 1 (binM subI (nameM 1) (conM (.int 1))))
noncomputable def g_trimmed_w1 : Ss := whileN g_trimmed_t1 g_trimmed_b1 fuel
noncomputable def g_trimmed_s1 : Ss := (setS 1 (callM lenD (consA (nameM 0) nilA)))
noncomputable def g_trimmed_s2 : Ss := (retS (callM listD (consA (slM (nameM 0) (mr none) (partM (nameM 1))) nilA)))
/-- numbers many -/
noncomputable def g_trimmed : Ss := (seqS g_trimmed_s1
  (seqS g_trimmed_w1
  g_trimmed_s2))
@[irreducible] noncomputable def m_trimmed := bodyF 2 g_trimmed

noncomputable def g_scaled_line_c1 : Me Val := compM (seqM (nameM 0)) (asg 2) (mr true) (binM mulD (nameM 1) (nameM 2)) [2]
noncomputable def g_scaled_line_s1 : Ss := (retS (ifM (boolM (binM neD (nameM 1) (conM (.int 0)))) g_scaled_line_c1 (lstM nilA)))
/-- line number one -/
noncomputable def g_scaled_line : Ss := g_scaled_line_s1
@[irreducible] noncomputable def m_scaled_line := bodyF 3 g_scaled_line

noncomputable def g_times_lines_b1 : Ss := (augSubS 2 (binM addD (nameM 3) (nameM 5)) addI (binM mulD (nameM 4) (nameM 6)))
noncomputable def g_times_lines_f1 : Ss := forS (enumA (consA (nameM 1) nilA)) (tupG 2 (consG (asg 5) (consG (asg 6) nilG))) g_times_lines_b1
noncomputable def g_times_lines_b2 : Ss := (ifS (boolM (binM neD (nameM 4) (conM (.int 0))))
  g_times_lines_f1
  skipS)
noncomputable def g_times_lines_f2 : Ss := forS (enumA (consA (nameM 0) nilA)) (tupG 2 (consG (asg 3) (consG (asg 4) nilG))) g_times_lines_b2
noncomputable def g_times_lines_s1 : Ss := (ifS (orM (boolM (binM eqD (callM lenD (consA (nameM 0) nilA)) (conM (.int 0)))) (boolM (binM eqD (callM lenD (consA (nameM 1) nilA)) (conM (.int 0)))))
  (retS (lstM nilA))
  skipS)
noncomputable def g_times_lines_s2 : Ss := (setS 2 (binM mulD (lstM (consA (conM (.int 0)) nilA)) (binM subI (binM addD (callM lenD (consA (nameM 0) nilA)) (callM lenD (consA (nameM 1) nilA))) (conM (.int 1)))))
noncomputable def g_times_lines_s3 : Ss := (retS (nameM 2))
/-- line other found at near to far -/
noncomputable def g_times_lines : Ss := (seqS g_times_lines_s1
  (seqS g_times_lines_s2
  (seqS g_times_lines_f2
  g_times_lines_s3)))
@[irreducible] noncomputable def m_times_lines := bodyF 7 g_times_lines

noncomputable def g__law_pot_s1 : Ss := (setS 2 (ifM (boolM (binM ltI (nameM 1) (callM lenD (consA (nameM 0) nilA)))) (callM absD (consA (binM ixD (nameM 0) (nameM 1)) nilA)) (binM addD (binM mulD (conM (.int 563)) (nameM 1)) (conM (.int 509)))))
noncomputable def g__law_pot_s2 : Ss := (retS (lstM (consA (callM max2D (consA (conM (.int 0)) (consA (binM subI (nameM 2) (binM powD (conM (.int 10)) (conM (.int 18)))) nilA))) (consA (binM addD (binM modD (callM intD (consA (binM addD (binM addD (binM mulD (binM modD (callM intD (consA (nameM 2) nilA)) (conM (.int 2147483549))) (conM (.int 40973))) (binM mulD (conM (.int 4021)) (nameM 1))) (conM (.int 523))) nilA)) (conM (.int 2147483563))) (conM (.int 1))) nilA))))
/-- _law_script _law_k _law_cell -/
noncomputable def g__law_pot : Ss := (seqS g__law_pot_s1
  g__law_pot_s2)
@[irreducible] noncomputable def m__law_pot := bodyF 3 g__law_pot

noncomputable def g__law_draw_s1 : Ss := (ifS (boolM (binM gtI (binM ixD (nameM 0) (conM (.int 0))) (conM (.int 0))))
  (seqS (asgS (callM divmodD (consA (binM ixD (nameM 0) (conM (.int 0))) (consA (nameM 1) nilA))) (tupG 2 (consG (subG 0 (conM (.int 0))) (consG (asg 2) nilG))))
  (retS (nameM 2)))
  skipS)
noncomputable def g__law_draw_s2 : Ss := (asgS (binM modD (callM intD (consA (binM addD (binM mulD (binM ixD (nameM 0) (conM (.int 1))) (conM (.int 40014))) (conM (.int 1109))) nilA)) (conM (.int 2147483563))) (subG 0 (conM (.int 1))))
noncomputable def g__law_draw_s3 : Ss := (retS (binM modD (callM intD (consA (binM fdivD (binM modD (callM intD (consA (binM mulD (binM ixD (nameM 0) (conM (.int 1))) (binM ixD (nameM 0) (conM (.int 1)))) nilA)) (conM (.int 2147483587))) (conM (.int 21))) nilA)) (nameM 1)))
/-- _law_pot_here _law_many _law_digit -/
noncomputable def g__law_draw : Ss := (seqS g__law_draw_s1
  (seqS g__law_draw_s2
  g__law_draw_s3))
@[irreducible] noncomputable def m__law_draw := bodyI 3 g__law_draw

noncomputable def g__law_trim_t1 : Me Bool := (andM (boolM (binM neD (nameM 1) (lstM nilA))) (boolM (binM eqD (binM ixD (nameM 1) (unM negI (conM (.int 1)))) (conM (.int 0)))))
noncomputable def g__law_trim_b1 : Ss := (dropS (methM 1 popL nilA))
noncomputable def g__law_trim_w1 : Ss := whileN g__law_trim_t1 g__law_trim_b1 fuel
noncomputable def g__law_trim_s1 : Ss := (setS 1 (callM listD (consA (nameM 0) nilA)))
noncomputable def g__law_trim_s2 : Ss := (retS (nameM 1))
/-- _law_numbers _law_found -/
noncomputable def g__law_trim : Ss := (seqS g__law_trim_s1
  (seqS g__law_trim_w1
  g__law_trim_s2))
@[irreducible] noncomputable def m__law_trim := bodyF 2 g__law_trim

noncomputable def g__law_value_b1 : Ss := (setS 2 (binM addD (binM mulD (nameM 2) (nameM 1)) (nameM 3)))
noncomputable def g__law_value_f1 : Ss := forS (seqM (unM revD (nameM 0))) (asg 3) g__law_value_b1
noncomputable def g__law_value_s1 : Ss := (setS 2 (conM (.int 0)))
noncomputable def g__law_value_s2 : Ss := (retS (nameM 2))
/-- _law_line_here _law_number _law_found _law_coefficient -/
noncomputable def g__law_value : Ss := (seqS g__law_value_s1
  (seqS g__law_value_f1
  g__law_value_s2))
@[irreducible] noncomputable def m__law_value := bodyF 4 g__law_value

noncomputable def g__law_determinant_c1 : Me Val := compM (seqM (nameM 0)) (asg 4) (mr true) (callM listD (consA (nameM 4) nilA)) [4]
noncomputable def g__law_determinant_c2 : Me Val := compM (enumA (consA (nameM 1) nilA)) (tupG 2 (consG (asg 6) (consG (asg 4) nilG))) (boolM (binM neD (binM ixD (nameM 4) (conM (.int 0))) (conM (.int 0)))) (nameM 6) [6, 4]
noncomputable def g__law_determinant_c3 : Me Val := compM (zipM (consA (slM (nameM 4) (partM (conM (.int 1))) (mr none)) (consA (slM (nameM 7) (partM (conM (.int 1))) (mr none)) nilA))) (tupG 2 (consG (asg 9) (consG (asg 10) nilG))) (mr true) (binM fdivD (binM subI (binM mulD (binM ixD (nameM 7) (conM (.int 0))) (nameM 9)) (binM mulD (binM ixD (nameM 4) (conM (.int 0))) (nameM 10))) (nameM 2)) [9, 10]
noncomputable def g__law_determinant_b1 : Ss := (dropS (methM 8 appendL (consA g__law_determinant_c3 nilA)))
noncomputable def g__law_determinant_f1 : Ss := forS (seqM (nameM 1)) (asg 4) g__law_determinant_b1
noncomputable def g__law_determinant_t1 : Me Bool := (boolM (binM gtI (callM lenD (consA (nameM 1) nilA)) (conM (.int 0))))
noncomputable def g__law_determinant_b2 : Ss := (seqS (setS 5 (lendM 1 g__law_determinant_c2))
  (seqS (ifS (boolM (binM eqD (nameM 5) (lstM nilA)))
  (retS (conM (.int 0)))
  skipS)
  (seqS (setS 7 (methM 1 popAtL (consA (binM ixD (nameM 5) (conM (.int 0))) nilA)))
  (seqS (setS 3 (ifM (boolM (binM eqD (binM mulD (binM fdivD (binM ixD (nameM 5) (conM (.int 0))) (conM (.int 2))) (conM (.int 2))) (binM ixD (nameM 5) (conM (.int 0))))) (nameM 3) (binM subI (conM (.int 0)) (nameM 3))))
  (seqS (setS 8 (lstM nilA))
  (seqS (frzS 1 g__law_determinant_f1)
  (movP 1 2 8 (binM ixD (nameM 7) (conM (.int 0))))))))))
noncomputable def g__law_determinant_w1 : Ss := whileN g__law_determinant_t1 g__law_determinant_b2 fuel
noncomputable def g__law_determinant_s1 : Ss := (par3C 1 2 3 g__law_determinant_c1 1 1)
noncomputable def g__law_determinant_s2 : Ss := (retS (binM mulD (nameM 3) (nameM 2)))
/-- _law_rows _law_left _law_past _law_sign _law_row _law_some _law_at _law_first _law_lower _law_near _law_far -/
noncomputable def g__law_determinant : Ss := (seqS g__law_determinant_s1
  (seqS g__law_determinant_w1
  g__law_determinant_s2))
@[irreducible] noncomputable def m__law_determinant := bodyF 11 g__law_determinant

noncomputable def g__law_table_c1 : Me Val := compM (rngM1 (consA (binM subI (callM lenD (consA (nameM 3) nilA)) (conM (.int 1))) nilA)) (asg 5) (mr true) (binM addD (binM addD (binM mulD (lstM (consA (conM (.int 0)) nilA)) (nameM 5)) (nameM 2)) (binM mulD (lstM (consA (conM (.int 0)) nilA)) (binM subI (binM subI (callM lenD (consA (nameM 3) nilA)) (conM (.int 2))) (nameM 5)))) [5]
noncomputable def g__law_table_c2 : Me Val := compM (rngM1 (consA (binM subI (callM lenD (consA (nameM 2) nilA)) (conM (.int 1))) nilA)) (asg 5) (mr true) (binM addD (binM addD (binM mulD (lstM (consA (conM (.int 0)) nilA)) (nameM 5)) (nameM 3)) (binM mulD (lstM (consA (conM (.int 0)) nilA)) (binM subI (binM subI (callM lenD (consA (nameM 2) nilA)) (conM (.int 2))) (nameM 5)))) [5]
noncomputable def g__law_table_s1 : Ss := (asgS (tupM (consA (unM revD (nameM 0)) (consA (unM revD (nameM 1)) nilA))) (tupG 2 (consG (asg 2) (consG (asg 3) nilG))))
noncomputable def g__law_table_s2 : Ss := (setS 4 g__law_table_c1)
noncomputable def g__law_table_s3 : Ss := (retS (binM addD (nameM 4) g__law_table_c2))
/-- _law_one _law_other _law_near _law_far _law_rows _law_at -/
noncomputable def g__law_table : Ss := (seqS g__law_table_s1
  (seqS g__law_table_s2
  g__law_table_s3))
@[irreducible] noncomputable def m__law_table := bodyF 6 g__law_table

noncomputable def g__law_power_b1 : Ss := (setS 2 (binM mulD (nameM 2) (nameM 0)))
noncomputable def g__law_power_f1 : Ss := forS (rngM1 (consA (nameM 1) nilA)) (asg 3) g__law_power_b1
noncomputable def g__law_power_s1 : Ss := (setS 2 (conM (.int 1)))
noncomputable def g__law_power_s2 : Ss := (retS (nameM 2))
/-- _law_number _law_many _law_found _law_turn -/
noncomputable def g__law_power : Ss := (seqS g__law_power_s1
  (seqS g__law_power_f1
  g__law_power_s2))
@[irreducible] noncomputable def m__law_power := bodyF 4 g__law_power

noncomputable def g_greatest_of_b1 : Ss := (setS 1 (callP [0, 1] m_divisor_of (consA (nameM 1) (consA (nameM 2) nilA)) nilA))
noncomputable def g_greatest_of_f1 : Ss := forS (seqM (nameM 0)) (asg 2) g_greatest_of_b1
noncomputable def g_greatest_of_s1 : Ss := (setS 1 (conM (.int 0)))
noncomputable def g_greatest_of_s2 : Ss := (retS (nameM 1))
/-- some found number -/
noncomputable def g_greatest_of : Ss := (seqS g_greatest_of_s1
  (seqS g_greatest_of_f1
  g_greatest_of_s2))
@[irreducible] noncomputable def m_greatest_of := bodyF 3 g_greatest_of

noncomputable def g_plus_lines_c1 : Me Val := compM (rngM1 (consA (callM lenD (consA (nameM 3) nilA)) nilA)) (asg 4) (mr true) (binM addD (binM ixD (nameM 2) (nameM 4)) (binM ixD (nameM 3) (nameM 4))) [4]
noncomputable def g_plus_lines_s1 : Ss := (asgS (ifM (boolM (binM geI (callM lenD (consA (nameM 0) nilA)) (callM lenD (consA (nameM 1) nilA)))) (tupM (consA (nameM 0) (consA (nameM 1) nilA))) (tupM (consA (nameM 1) (consA (nameM 0) nilA)))) (tupG 2 (consG (asg 2) (consG (asg 3) nilG))))
noncomputable def g_plus_lines_s2 : Ss := (retS (callP [0] m_trimmed (consA (binM addD g_plus_lines_c1 (callM listD (consA (slM (nameM 2) (partM (callM lenD (consA (nameM 3) nilA))) (mr none)) nilA))) nilA) nilA))
/-- line other near far at -/
noncomputable def g_plus_lines : Ss := (seqS g_plus_lines_s1
  g_plus_lines_s2)
@[irreducible] noncomputable def m_plus_lines := bodyF 5 g_plus_lines

noncomputable def g_line_in_c1 : Me Val := compM (seqM (nameM 0)) (asg 1) (mr true) (callP [0] m_is_integer (consA (nameM 1) nilA) nilA) [1]
noncomputable def g_line_in_s1 : Ss := (ifS (orM (notM (boolM (callP [0] m_is_list (consA (nameM 0) nilA) nilA))) (orM (boolM (binM gtI (callM lenD (consA (nameM 0) nilA)) (binM addD (conM (.int 12)) (conM (.int 1))))) (notM (boolM (callM allD (consA g_line_in_c1 nilA))))))
  (retS (conM .none))
  skipS)
noncomputable def g_line_in_s2 : Ss := (retS (ifM (orM (boolM (binM eqD (callM lenD (consA (nameM 0) nilA)) (conM (.int 0)))) (boolM (binM neD (binM ixD (nameM 0) (unM negI (conM (.int 1)))) (conM (.int 0))))) (callM listD (consA (nameM 0) nilA)) (conM .none)))
/-- value one -/
noncomputable def g_line_in : Ss := (seqS g_line_in_s1
  g_line_in_s2)
@[irreducible] noncomputable def m_line_in := bodyF 2 g_line_in

noncomputable def g__law_pick_s1 : Ss := (retS (binM ixD (nameM 1) (callI m__law_draw (consA (nameM 0) (consA (callM lenD (consA (nameM 1) nilA)) nilA)))))
/-- _law_pot_here _law_some -/
noncomputable def g__law_pick : Ss := g__law_pick_s1
@[irreducible] noncomputable def m__law_pick := bodyI 2 g__law_pick

noncomputable def g__law_times_b1 : Ss := (asgS (binM addD (binM ixD (nameM 2) (binM addD (nameM 3) (nameM 5))) (binM mulD (nameM 4) (nameM 6))) (subG 2 (binM addD (nameM 3) (nameM 5))))
noncomputable def g__law_times_f1 : Ss := forS (enumA (consA (nameM 1) nilA)) (tupG 2 (consG (asg 5) (consG (asg 6) nilG))) g__law_times_b1
noncomputable def g__law_times_b2 : Ss := g__law_times_f1
noncomputable def g__law_times_f2 : Ss := forS (enumA (consA (nameM 0) nilA)) (tupG 2 (consG (asg 3) (consG (asg 4) nilG))) g__law_times_b2
noncomputable def g__law_times_s1 : Ss := (setS 2 (binM mulD (lstM (consA (conM (.int 0)) nilA)) (binM addD (callM lenD (consA (nameM 0) nilA)) (callM lenD (consA (nameM 1) nilA)))))
noncomputable def g__law_times_s2 : Ss := (frzS 2 (retS (callP [0] m__law_trim (consA (nameM 2) nilA) nilA)))
/-- _law_line_here _law_other _law_found _law_at _law_near _law_to _law_far -/
noncomputable def g__law_times : Ss := (seqS g__law_times_s1
  (seqS g__law_times_f2
  g__law_times_s2))
@[irreducible] noncomputable def m__law_times := bodyF 7 g__law_times

noncomputable def g_minus_lines_s1 : Ss := (retS (callP [0, 1] m_plus_lines (consA (nameM 0) (consA (callP [0, 1] m_scaled_line (consA (nameM 1) (consA (unM negI (conM (.int 1))) nilA)) nilA) nilA)) nilA))
/-- line other -/
noncomputable def g_minus_lines : Ss := g_minus_lines_s1
@[irreducible] noncomputable def m_minus_lines := bodyF 2 g_minus_lines

noncomputable def g_plain_of_c1 : Me Val := compM (seqM (nameM 0)) (asg 2) (mr true) (binM fdivD (nameM 2) (nameM 1)) [2]
noncomputable def g_plain_of_s1 : Ss := (ifS (boolM (binM eqD (callM lenD (consA (nameM 0) nilA)) (conM (.int 0))))
  (retS (lstM nilA))
  skipS)
noncomputable def g_plain_of_s2 : Ss := (setS 1 (callP [0] m_greatest_of (consA (nameM 0) nilA) nilA))
noncomputable def g_plain_of_s3 : Ss := (ifS (boolM (binM ltI (binM ixD (nameM 0) (unM negI (conM (.int 1)))) (conM (.int 0))))
  (setS 1 (binM subI (conM (.int 0)) (nameM 1)))
  skipS)
noncomputable def g_plain_of_s4 : Ss := (retS g_plain_of_c1)
/-- line part number -/
noncomputable def g_plain_of : Ss := (seqS g_plain_of_s1
  (seqS g_plain_of_s2
  (seqS g_plain_of_s3
  g_plain_of_s4)))
@[irreducible] noncomputable def m_plain_of := bodyF 3 g_plain_of

noncomputable def g_want_line_s1 : Ss := (setS 1 (callP [0] m_line_in (consA (nameM 0) nilA) nilA))
noncomputable def g_want_line_s2 : Ss := (ifS (boolM (binM isD (nameM 1) (conM .none)))
  (fun _ => none)
  skipS)
noncomputable def g_want_line_s3 : Ss := (retS (nameM 1))
/-- value found -/
noncomputable def g_want_line : Ss := (seqS g_want_line_s1
  (seqS g_want_line_s2
  g_want_line_s3))
@[irreducible] noncomputable def m_want_line := bodyF 2 g_want_line

noncomputable def g__law_line_b1 : Ss := (dropS (methM 3 appendL (consA (binM subI (callI m__law_draw (consA (nameM 0) (consA (binM addD (binM mulD (conM (.int 2)) (nameM 2)) (conM (.int 1))) nilA))) (nameM 2)) nilA)))
noncomputable def g__law_line_f1 : Ss := forS (rngM1 (consA (nameM 1) nilA)) (asg 4) g__law_line_b1
noncomputable def g__law_line_s1 : Ss := (setS 3 (lstM nilA))
noncomputable def g__law_line_s2 : Ss := (retS (binM addD (nameM 3) (lstM (consA (callI m__law_pick (consA (nameM 0) (consA (lstM (consA (conM (.int 1)) (consA (unM negI (conM (.int 1))) (consA (conM (.int 2)) (consA (conM (.int 3)) (consA (binM subI (conM (.int 1)) (nameM 2)) nilA)))))) nilA))) nilA))))
/-- _law_pot_here _law_most _law_wide _law_found _law_power_here -/
noncomputable def g__law_line : Ss := (seqS g__law_line_s1
  (seqS g__law_line_f1
  g__law_line_s2))
@[irreducible] noncomputable def m__law_line := bodyI 5 g__law_line

noncomputable def g_parted_t1 : Me Bool := (boolM (binM geI (callM lenD (consA (nameM 3) nilA)) (callM lenD (consA (nameM 1) nilA))))
noncomputable def g_parted_b1 : Ss := (seqS (parS 5 6 (consA (binM subI (callM lenD (consA (nameM 3) nilA)) (callM lenD (consA (nameM 1) nilA))) (consA (binM ixD (nameM 3) (unM negI (conM (.int 1)))) nilA)))
  (seqS (frzS 4 (parO 2 4 (binM mulD (nameM 2) (binM ixD (nameM 1) (unM negI (conM (.int 1))))) (callP [0, 1] m_scaled_line (consA (nameM 4) (consA (binM ixD (nameM 1) (unM negI (conM (.int 1)))) nilA)) nilA)))
  (seqS (augSubS 4 (nameM 5) addI (nameM 6))
  (seqS (frzS 6 (setS 7 (binM addD (binM mulD (lstM (consA (conM (.int 0)) nilA)) (nameM 5)) (callP [0, 1] m_scaled_line (consA (nameM 1) (consA (nameM 6) nilA)) nilA))))
  (frzS 7 (frzS 3 (setS 3 (callP [0, 1] m_minus_lines (consA (callP [0, 1] m_scaled_line (consA (nameM 3) (consA (binM ixD (nameM 1) (unM negI (conM (.int 1)))) nilA)) nilA) (consA (nameM 7) nilA)) nilA))))))))
noncomputable def g_parted_w1 : Ss := whileN g_parted_t1 g_parted_b1 fuel
noncomputable def g_parted_c1 : Me Val := compM (seqM (nameM 3)) (asg 9) (mr true) (binM fdivD (nameM 9) (nameM 8)) [9]
noncomputable def g_parted_c2 : Me Val := compM (seqM (nameM 4)) (asg 9) (mr true) (binM fdivD (nameM 9) (nameM 8)) [9]
noncomputable def g_parted_s1 : Ss := (par3S 2 3 4 (consA (conM (.int 1)) (consA (callM listD (consA (nameM 0) nilA)) (consA (lstM nilA) nilA))))
noncomputable def g_parted_s2 : Ss := (ifS (boolM (binM geI (callM lenD (consA (nameM 0) nilA)) (callM lenD (consA (nameM 1) nilA))))
  (setS 4 (binM mulD (lstM (consA (conM (.int 0)) nilA)) (binM addD (binM subI (callM lenD (consA (nameM 0) nilA)) (callM lenD (consA (nameM 1) nilA))) (conM (.int 1)))))
  skipS)
noncomputable def g_parted_s3 : Ss := (setS 8 (callP [0] m_greatest_of (consA (binM addD (binM addD (lstM (consA (nameM 2) nilA)) (nameM 4)) (nameM 3)) nilA) nilA))
noncomputable def g_parted_s4 : Ss := (ifS (boolM (binM ltI (nameM 2) (conM (.int 0))))
  (setS 8 (binM subI (conM (.int 0)) (nameM 8)))
  skipS)
noncomputable def g_parted_s5 : Ss := (frzS 3 (frzS 4 (retS (tupM (consA (binM fdivD (nameM 2) (nameM 8)) (consA g_parted_c2 (consA g_parted_c1 nilA)))))))
/-- line other number rest quotient shift much taken part one -/
noncomputable def g_parted : Ss := (seqS g_parted_s1
  (seqS g_parted_s2
  (seqS g_parted_w1
  (seqS g_parted_s3
  (seqS g_parted_s4
  g_parted_s5)))))
@[irreducible] noncomputable def m_parted := bodyF 10 g_parted

noncomputable def g_two_lines_s1 : Ss := (setS 2 (callP [0] m_want_line (consA (nameM 0) nilA) nilA))
noncomputable def g_two_lines_s2 : Ss := (frzS 2 (retS (tupM (consA (nameM 2) (consA (callP [0] m_want_line (consA (nameM 1) nilA) nilA) nilA)))))
/-- line other near -/
noncomputable def g_two_lines : Ss := (seqS g_two_lines_s1
  g_two_lines_s2)
@[irreducible] noncomputable def m_two_lines := bodyF 3 g_two_lines

noncomputable def g_common_of_t1 : Me Bool := (boolM (binM gtI (callM lenD (consA (nameM 3) nilA)) (conM (.int 0))))
noncomputable def g_common_of_b1 : Ss := (frzS 2 (frzS 3 (parS 2 3 (consA (nameM 3) (consA (callP [0] m_plain_of (consA (binM ixD (callP [0, 1] m_parted (consA (nameM 2) (consA (nameM 3) nilA)) nilA) (conM (.int 2))) nilA) nilA) nilA)))))
noncomputable def g_common_of_w1 : Ss := whileN g_common_of_t1 g_common_of_b1 fuel
noncomputable def g_common_of_s1 : Ss := (parS 2 3 (consA (callP [0] m_plain_of (consA (nameM 0) nilA) nilA) (consA (callP [0] m_plain_of (consA (nameM 1) nilA) nilA) nilA)))
noncomputable def g_common_of_s2 : Ss := (retS (nameM 2))
/-- line other near far -/
noncomputable def g_common_of : Ss := (seqS g_common_of_s1
  (seqS g_common_of_w1
  g_common_of_s2))
@[irreducible] noncomputable def m_common_of := bodyF 4 g_common_of

noncomputable def g_resultant_of_t1 : Me Bool := (boolM (binM gtI (callM lenD (consA (nameM 3) nilA)) (conM (.int 1))))
noncomputable def g_resultant_of_b1 : Ss := (seqS (frzS 3 (frzS 2 (asgS (callP [0, 1] m_parted (consA (nameM 2) (consA (nameM 3) nilA)) nilA) (tupG 3 (consG (asg 6) (consG (asg 7) (consG (asg 8) nilG)))))))
  (seqS (ifS (boolM (binM eqD (callM lenD (consA (nameM 8) nilA)) (conM (.int 0))))
  (retS (conM (.int 0)))
  skipS)
  (seqS (ifS (boolM (binM eqD (binM subI (binM mulD (binM subI (callM lenD (consA (nameM 2) nilA)) (conM (.int 1))) (binM subI (callM lenD (consA (nameM 3) nilA)) (conM (.int 1)))) (binM mulD (binM fdivD (binM mulD (binM subI (callM lenD (consA (nameM 2) nilA)) (conM (.int 1))) (binM subI (callM lenD (consA (nameM 3) nilA)) (conM (.int 1)))) (conM (.int 2))) (conM (.int 2)))) (conM (.int 1))))
  (setS 4 (binM subI (conM (.int 0)) (nameM 4)))
  skipS)
  (seqS (setS 4 (binM mulD (nameM 4) (callP [0, 1] m_power_by (consA (binM ixD (nameM 3) (unM negI (conM (.int 1)))) (consA (binM subI (callM lenD (consA (nameM 2) nilA)) (callM lenD (consA (nameM 8) nilA))) nilA)) nilA)))
  (seqS (setS 5 (binM mulD (nameM 5) (callP [0, 1] m_power_by (consA (nameM 6) (consA (binM subI (callM lenD (consA (nameM 3) nilA)) (conM (.int 1))) nilA)) nilA)))
  (frzS 3 (parS 2 3 (consA (nameM 3) (consA (nameM 8) nilA)))))))))
noncomputable def g_resultant_of_w1 : Ss := whileN g_resultant_of_t1 g_resultant_of_b1 fuel
noncomputable def g_resultant_of_s1 : Ss := (asgS (tupM (consA (nameM 0) (consA (nameM 1) (consA (conM (.int 1)) (consA (conM (.int 1)) nilA))))) (tupG 4 (consG (asg 2) (consG (asg 3) (consG (asg 4) (consG (asg 5) nilG))))))
noncomputable def g_resultant_of_s2 : Ss := (retS (binM fdivD (binM mulD (nameM 4) (callP [0, 1] m_power_by (consA (binM ixD (nameM 3) (conM (.int 0))) (consA (binM subI (callM lenD (consA (nameM 2) nilA)) (conM (.int 1))) nilA)) nilA)) (nameM 5)))
/-- line other near far top bottom number quotient rest -/
noncomputable def g_resultant_of : Ss := (seqS g_resultant_of_s1
  (seqS g_resultant_of_w1
  g_resultant_of_s2))
@[irreducible] noncomputable def m_resultant_of := bodyF 9 g_resultant_of

noncomputable def g_two_standing_s1 : Ss := (asgS (callP [0, 1] m_two_lines (consA (nameM 0) (consA (nameM 1) nilA)) nilA) (tupG 2 (consG (asg 2) (consG (asg 3) nilG))))
noncomputable def g_two_standing_s2 : Ss := (ifS (orM (boolM (binM eqD (callM lenD (consA (nameM 2) nilA)) (conM (.int 0)))) (boolM (binM eqD (callM lenD (consA (nameM 3) nilA)) (conM (.int 0)))))
  (fun _ => none)
  skipS)
noncomputable def g_two_standing_s3 : Ss := (retS (tupM (consA (nameM 2) (consA (nameM 3) nilA))))
/-- line other near far -/
noncomputable def g_two_standing : Ss := (seqS g_two_standing_s1
  (seqS g_two_standing_s2
  g_two_standing_s3))
@[irreducible] noncomputable def m_two_standing := bodyF 4 g_two_standing

noncomputable def g_line_times_s1 : Ss := (asgS (callP [0, 1] m_two_lines (consA (nameM 0) (consA (nameM 1) nilA)) nilA) (tupG 2 (consG (asg 2) (consG (asg 3) nilG))))
noncomputable def g_line_times_s2 : Ss := (ifS (andM (boolM (binM gtI (callM lenD (consA (nameM 2) nilA)) (conM (.int 0)))) (boolM (binM gtI (callM lenD (consA (nameM 3) nilA)) (conM (.int 0)))))
  (dropS (callP [0, 1, 2] m_want_at_most (consA (conM (.str "degree")) (consA (conM (.int 12)) (consA (binM subI (binM addD (callM lenD (consA (nameM 2) nilA)) (callM lenD (consA (nameM 3) nilA))) (conM (.int 2))) nilA))) nilA))
  skipS)
noncomputable def g_line_times_s3 : Ss := (retS (callP [0, 1] m_times_lines (consA (nameM 2) (consA (nameM 3) nilA)) nilA))
/-- line other near far -/
noncomputable def g_line_times : Ss := (seqS g_line_times_s1
  (seqS g_line_times_s2
  g_line_times_s3))
@[irreducible] noncomputable def m_line_times := bodyF 4 g_line_times

noncomputable def g_line_common_s1 : Ss := (asgS (callP [0, 1] m_two_lines (consA (nameM 0) (consA (nameM 1) nilA)) nilA) (tupG 2 (consG (asg 2) (consG (asg 3) nilG))))
noncomputable def g_line_common_s2 : Ss := (retS (callP [0, 1] m_common_of (consA (nameM 2) (consA (nameM 3) nilA)) nilA))
/-- line other near far -/
noncomputable def g_line_common : Ss := (seqS g_line_common_s1
  g_line_common_s2)
@[irreducible] noncomputable def m_line_common := bodyF 4 g_line_common

noncomputable def g_resultant_s1 : Ss := (asgS (callP [0, 1] m_two_standing (consA (nameM 0) (consA (nameM 1) nilA)) nilA) (tupG 2 (consG (asg 2) (consG (asg 3) nilG))))
noncomputable def g_resultant_s2 : Ss := (retS (callP [0, 1] m_resultant_of (consA (nameM 2) (consA (nameM 3) nilA)) nilA))
/-- line other near far -/
noncomputable def g_resultant : Ss := (seqS g_resultant_s1
  g_resultant_s2)
@[irreducible] noncomputable def m_resultant := bodyF 4 g_resultant

noncomputable def g__law_pair_right_s1 : Ss := (setS 2 (callP [0, 1] m_resultant (consA (nameM 0) (consA (nameM 1) nilA)) nilA))
noncomputable def g__law_pair_right_s2 : Ss := (ifS (orM (boolM (binM neD (nameM 2) (callP [0] m__law_determinant (consA (callP [0, 1] m__law_table (consA (nameM 0) (consA (nameM 1) nilA)) nilA) nilA) nilA))) (boolM (binM neD (callP [1, 0] m_resultant nilA (consA (callM tupleD (consA (nameM 1) nilA)) (consA (nameM 0) nilA))) (nameM 2))))
  (retS (conM (.bool false)))
  skipS)
noncomputable def g__law_pair_right_s3 : Ss := (setS 3 (binM mulD (binM subI (callM lenD (consA (nameM 0) nilA)) (conM (.int 1))) (binM subI (callM lenD (consA (nameM 1) nilA)) (conM (.int 1)))))
noncomputable def g__law_pair_right_s4 : Ss := (setS 4 (ifM (boolM (binM eqD (binM mulD (binM fdivD (nameM 3) (conM (.int 2))) (conM (.int 2))) (nameM 3))) (nameM 2) (binM subI (conM (.int 0)) (nameM 2))))
noncomputable def g__law_pair_right_s5 : Ss := (retS (andV (binM eqD (callP [0, 1] m_resultant (consA (nameM 1) (consA (nameM 0) nilA)) nilA) (nameM 4)) (binM eqD (binM eqD (nameM 2) (conM (.int 0))) (binM gtI (callM lenD (consA (callP [0, 1] m_line_common (consA (nameM 0) (consA (nameM 1) nilA)) nilA) nilA)) (conM (.int 1))))))
/-- _law_one _law_other _law_told _law_turn _law_back -/
noncomputable def g__law_pair_right : Ss := (seqS g__law_pair_right_s1
  (seqS g__law_pair_right_s2
  (seqS g__law_pair_right_s3
  (seqS g__law_pair_right_s4
  g__law_pair_right_s5))))
@[irreducible] noncomputable def m__law_pair_right := bodyF 5 g__law_pair_right

noncomputable def g__law_right_b1 : Ss := (seqS (dropS (methM 7 appendL (consA (binM subI (callI m__law_draw (consA (nameM 0) (consA (conM (.int 9)) nilA))) (conM (.int 4))) nilA)))
  (frzS 4 (setS 4 (callP [0, 1] m__law_times (consA (nameM 4) (consA (lstM (consA (binM subI (conM (.int 0)) (binM ixD (nameM 7) (unM negI (conM (.int 1))))) (consA (conM (.int 1)) nilA))) nilA)) nilA))))
noncomputable def g__law_right_f1 : Ss := forS (rngM1 (consA (callI m__law_draw (consA (nameM 0) (consA (conM (.int 4)) nilA))) nilA)) (asg 8) g__law_right_b1
noncomputable def g__law_right_b2 : Ss := (setS 6 (binM mulD (nameM 6) (callL [0, 1] m__law_value (consA (nameM 2) (consA (nameM 9) nilA)))))
noncomputable def g__law_right_f2 : Ss := forS (seqM (nameM 7)) (asg 9) g__law_right_b2
noncomputable def g__law_right_s1 : Ss := (par3S 1 2 3 (consA (callI m__law_line (consA (nameM 0) (consA (callI m__law_draw (consA (nameM 0) (consA (conM (.int 4)) nilA))) (consA (conM (.int 4)) nilA)))) (consA (callI m__law_line (consA (nameM 0) (consA (callI m__law_draw (consA (nameM 0) (consA (conM (.int 4)) nilA))) (consA (conM (.int 4)) nilA)))) (consA (callI m__law_line (consA (nameM 0) (consA (callI m__law_draw (consA (nameM 0) (consA (conM (.int 3)) nilA))) (consA (conM (.int 3)) nilA)))) nilA))))
noncomputable def g__law_right_s2 : Ss := (ifS (boolM (binM eqD (callI m__law_draw (consA (nameM 0) (consA (conM (.int 3)) nilA))) (conM (.int 0))))
  (frzS 2 (frzS 3 (frzS 1 (parS 1 2 (consA (callP [0, 1] m_line_times (consA (nameM 1) (consA (nameM 3) nilA)) nilA) (consA (callP [0, 1] m_line_times (consA (nameM 3) (consA (nameM 2) nilA)) nilA) nilA))))))
  skipS)
noncomputable def g__law_right_s3 : Ss := (ifS (orM (notM (boolM (callL [0, 1] m__law_pair_right (consA (nameM 1) (consA (nameM 2) nilA))))) (notM (boolM (callL [0, 1] m__law_pair_right (consA (nameM 2) (consA (nameM 3) nilA))))))
  (retS (conM (.bool false)))
  skipS)
noncomputable def g__law_right_s4 : Ss := (frzS 3 (frzS 1 (ifS (boolM (binM neD (callL [0, 1] m_resultant (consA (callP [0, 1] m__law_times (consA (nameM 1) (consA (nameM 3) nilA)) nilA) (consA (nameM 2) nilA))) (binM mulD (callL [0, 1] m_resultant (consA (nameM 1) (consA (nameM 2) nilA))) (callL [0, 1] m_resultant (consA (nameM 3) (consA (nameM 2) nilA))))))
  (retS (conM (.bool false)))
  skipS)))
noncomputable def g__law_right_s5 : Ss := (par3S 4 5 6 (consA (lstM (consA (callI m__law_pick (consA (nameM 0) (consA (lstM (consA (conM (.int 1)) (consA (unM negI (conM (.int 2))) (consA (conM (.int 3)) nilA)))) nilA))) nilA)) (consA (conM (.int 0)) (consA (conM (.int 1)) nilA))))
noncomputable def g__law_right_s6 : Ss := (setS 5 (binM ixD (nameM 4) (conM (.int 0))))
noncomputable def g__law_right_s7 : Ss := (setS 7 (lstM nilA))
noncomputable def g__law_right_s8 : Ss := (setS 6 (callL [0, 1] m__law_power (consA (nameM 5) (consA (binM subI (callM lenD (consA (nameM 2) nilA)) (conM (.int 1))) nilA))))
noncomputable def g__law_right_s9 : Ss := (frzS 7 g__law_right_f2)
noncomputable def g__law_right_s10 : Ss := (ifS (boolM (binM neD (callL [0, 1] m_resultant (consA (nameM 4) (consA (nameM 2) nilA))) (nameM 6)))
  (retS (conM (.bool false)))
  skipS)
noncomputable def g__law_right_s11 : Ss := (retS (binM eqD (lstM (consA (callP [0, 1] m_resultant (consA (lstM (consA (conM (.int 2)) nilA)) (consA (lstM (consA (conM (.int 1)) (consA (conM (.int 0)) (consA (conM (.int 3)) nilA)))) nilA)) nilA) (consA (callP [0, 1] m_resultant (consA (lstM (consA (conM (.int 1)) (consA (conM (.int 0)) (consA (conM (.int 3)) nilA)))) (consA (lstM (consA (conM (.int 2)) nilA)) nilA)) nilA) (consA (callP [0, 1] m_resultant (consA (lstM (consA (conM (.int 5)) nilA)) (consA (lstM (consA (conM (.int 7)) nilA)) nilA)) nilA) (consA (callP [0, 1] m_resultant (consA (lstM (consA (unM negI (conM (.int 5))) (consA (conM (.int 1)) nilA))) (consA (lstM (consA (unM negI (conM (.int 3))) (consA (conM (.int 1)) nilA))) nilA)) nilA) nilA))))) (lstM (consA (conM (.int 4)) (consA (conM (.int 4)) (consA (conM (.int 1)) (consA (conM (.int 2)) nilA)))))))
/-- _law_pot_here _law_one _law_other _law_third _law_line_here _law_last _law_due _law_roots _law_turn _law_root -/
noncomputable def g__law_right : Ss := (seqS g__law_right_s1
  (seqS g__law_right_s2
  (seqS g__law_right_s3
  (seqS g__law_right_s4
  (seqS g__law_right_s5
  (seqS g__law_right_s6
  (seqS g__law_right_s7
  (seqS g__law_right_f1
  (seqS g__law_right_s8
  (seqS g__law_right_s9
  (seqS g__law_right_s10
  g__law_right_s11)))))))))))
@[irreducible] noncomputable def m__law_right := bodyI 10 g__law_right

noncomputable def g_law_s1 : Ss := (retS (callO m__law_right (callP [0, 1] m__law_pot (consA (nameM 0) (consA (conM (.int 0)) nilA)) nilA)))
/-- _law_script -/
noncomputable def g_law : Ss := g_law_s1
@[irreducible] noncomputable def m_law := bodyF 1 g_law
end K13
end
section
set_option maxRecDepth 100000
set_option maxHeartbeats 4000000
namespace K13
open PySem PySem.Spec L2 DL
open PyProof.Rows hiding St

def topS (i : Nat) : Stmt := PySem.Challenge.pw_curvepieces_k13_whole_resultants_two_way.main.body.getD i (.Pass ⟨0, 0, 0, 0⟩)

abbrev s_is_integer : Stmt := topS 8

abbrev s_is_list : Stmt := topS 9

abbrev s_want_at_most : Stmt := topS 10

abbrev s_divisor_of : Stmt := topS 12

abbrev s_power_by : Stmt := topS 14

abbrev s_trimmed : Stmt := topS 17

abbrev s_scaled_line : Stmt := topS 19

abbrev s_times_lines : Stmt := topS 21

abbrev s__law_pot : Stmt := topS 34

abbrev s__law_draw : Stmt := topS 35

abbrev s__law_trim : Stmt := topS 37

abbrev s__law_value : Stmt := topS 39

abbrev s__law_determinant : Stmt := topS 41

abbrev s__law_table : Stmt := topS 42

abbrev s__law_power : Stmt := topS 43

abbrev s_greatest_of : Stmt := topS 13

abbrev s_plus_lines : Stmt := topS 18

abbrev s_line_in : Stmt := topS 26

abbrev s__law_pick : Stmt := topS 36

abbrev s__law_times : Stmt := topS 38

abbrev s_minus_lines : Stmt := topS 20

abbrev s_plain_of : Stmt := topS 22

abbrev s_want_line : Stmt := topS 27

abbrev s__law_line : Stmt := topS 40

abbrev s_parted : Stmt := topS 23

abbrev s_two_lines : Stmt := topS 28

abbrev s_common_of : Stmt := topS 24

abbrev s_resultant_of : Stmt := topS 25

abbrev s_two_standing : Stmt := topS 29

abbrev s_line_times : Stmt := topS 30

abbrev s_line_common : Stmt := topS 31

abbrev s_resultant : Stmt := topS 32

abbrev s__law_pair_right : Stmt := topS 44

abbrev s__law_right : Stmt := topS 45

abbrev s_law : Stmt := topS 46

structure Tx (K : Fg) (mg : Str → Option Value) where
  a_is_integer : Addr
  d_is_integer : FuncData
  f_is_integer : L2.Fun K "is_integer" "is_integer" s_is_integer a_is_integer d_is_integer
  g_is_integer : mg "is_integer" = some (.ref a_is_integer)
  a_is_list : Addr
  d_is_list : FuncData
  f_is_list : L2.Fun K "is_list" "is_list" s_is_list a_is_list d_is_list
  g_is_list : mg "is_list" = some (.ref a_is_list)
  a_want_at_most : Addr
  d_want_at_most : FuncData
  f_want_at_most : L2.Fun K "want_at_most" "want_at_most" s_want_at_most a_want_at_most d_want_at_most
  g_want_at_most : mg "want_at_most" = some (.ref a_want_at_most)
  a_divisor_of : Addr
  d_divisor_of : FuncData
  f_divisor_of : L2.Fun K "divisor_of" "divisor_of" s_divisor_of a_divisor_of d_divisor_of
  g_divisor_of : mg "divisor_of" = some (.ref a_divisor_of)
  a_power_by : Addr
  d_power_by : FuncData
  f_power_by : L2.Fun K "power_by" "power_by" s_power_by a_power_by d_power_by
  g_power_by : mg "power_by" = some (.ref a_power_by)
  a_trimmed : Addr
  d_trimmed : FuncData
  f_trimmed : L2.Fun K "trimmed" "trimmed" s_trimmed a_trimmed d_trimmed
  g_trimmed : mg "trimmed" = some (.ref a_trimmed)
  a_scaled_line : Addr
  d_scaled_line : FuncData
  f_scaled_line : L2.Fun K "scaled_line" "scaled_line" s_scaled_line a_scaled_line d_scaled_line
  g_scaled_line : mg "scaled_line" = some (.ref a_scaled_line)
  a_times_lines : Addr
  d_times_lines : FuncData
  f_times_lines : L2.Fun K "times_lines" "times_lines" s_times_lines a_times_lines d_times_lines
  g_times_lines : mg "times_lines" = some (.ref a_times_lines)
  a__law_pot : Addr
  d__law_pot : FuncData
  f__law_pot : L2.Fun K "_law_pot" "_law_pot" s__law_pot a__law_pot d__law_pot
  g__law_pot : mg "_law_pot" = some (.ref a__law_pot)
  a__law_draw : Addr
  d__law_draw : FuncData
  f__law_draw : L2.Fun K "_law_draw" "_law_draw" s__law_draw a__law_draw d__law_draw
  g__law_draw : mg "_law_draw" = some (.ref a__law_draw)
  a__law_trim : Addr
  d__law_trim : FuncData
  f__law_trim : L2.Fun K "_law_trim" "_law_trim" s__law_trim a__law_trim d__law_trim
  g__law_trim : mg "_law_trim" = some (.ref a__law_trim)
  a__law_value : Addr
  d__law_value : FuncData
  f__law_value : L2.Fun K "_law_value" "_law_value" s__law_value a__law_value d__law_value
  g__law_value : mg "_law_value" = some (.ref a__law_value)
  a__law_determinant : Addr
  d__law_determinant : FuncData
  f__law_determinant : L2.Fun K "_law_determinant" "_law_determinant" s__law_determinant a__law_determinant d__law_determinant
  g__law_determinant : mg "_law_determinant" = some (.ref a__law_determinant)
  a__law_table : Addr
  d__law_table : FuncData
  f__law_table : L2.Fun K "_law_table" "_law_table" s__law_table a__law_table d__law_table
  g__law_table : mg "_law_table" = some (.ref a__law_table)
  a__law_power : Addr
  d__law_power : FuncData
  f__law_power : L2.Fun K "_law_power" "_law_power" s__law_power a__law_power d__law_power
  g__law_power : mg "_law_power" = some (.ref a__law_power)
  a_greatest_of : Addr
  d_greatest_of : FuncData
  f_greatest_of : L2.Fun K "greatest_of" "greatest_of" s_greatest_of a_greatest_of d_greatest_of
  g_greatest_of : mg "greatest_of" = some (.ref a_greatest_of)
  a_plus_lines : Addr
  d_plus_lines : FuncData
  f_plus_lines : L2.Fun K "plus_lines" "plus_lines" s_plus_lines a_plus_lines d_plus_lines
  g_plus_lines : mg "plus_lines" = some (.ref a_plus_lines)
  a_line_in : Addr
  d_line_in : FuncData
  f_line_in : L2.Fun K "line_in" "line_in" s_line_in a_line_in d_line_in
  g_line_in : mg "line_in" = some (.ref a_line_in)
  a__law_pick : Addr
  d__law_pick : FuncData
  f__law_pick : L2.Fun K "_law_pick" "_law_pick" s__law_pick a__law_pick d__law_pick
  g__law_pick : mg "_law_pick" = some (.ref a__law_pick)
  a__law_times : Addr
  d__law_times : FuncData
  f__law_times : L2.Fun K "_law_times" "_law_times" s__law_times a__law_times d__law_times
  g__law_times : mg "_law_times" = some (.ref a__law_times)
  a_minus_lines : Addr
  d_minus_lines : FuncData
  f_minus_lines : L2.Fun K "minus_lines" "minus_lines" s_minus_lines a_minus_lines d_minus_lines
  g_minus_lines : mg "minus_lines" = some (.ref a_minus_lines)
  a_plain_of : Addr
  d_plain_of : FuncData
  f_plain_of : L2.Fun K "plain_of" "plain_of" s_plain_of a_plain_of d_plain_of
  g_plain_of : mg "plain_of" = some (.ref a_plain_of)
  a_want_line : Addr
  d_want_line : FuncData
  f_want_line : L2.Fun K "want_line" "want_line" s_want_line a_want_line d_want_line
  g_want_line : mg "want_line" = some (.ref a_want_line)
  a__law_line : Addr
  d__law_line : FuncData
  f__law_line : L2.Fun K "_law_line" "_law_line" s__law_line a__law_line d__law_line
  g__law_line : mg "_law_line" = some (.ref a__law_line)
  a_parted : Addr
  d_parted : FuncData
  f_parted : L2.Fun K "parted" "parted" s_parted a_parted d_parted
  g_parted : mg "parted" = some (.ref a_parted)
  a_two_lines : Addr
  d_two_lines : FuncData
  f_two_lines : L2.Fun K "two_lines" "two_lines" s_two_lines a_two_lines d_two_lines
  g_two_lines : mg "two_lines" = some (.ref a_two_lines)
  a_common_of : Addr
  d_common_of : FuncData
  f_common_of : L2.Fun K "common_of" "common_of" s_common_of a_common_of d_common_of
  g_common_of : mg "common_of" = some (.ref a_common_of)
  a_resultant_of : Addr
  d_resultant_of : FuncData
  f_resultant_of : L2.Fun K "resultant_of" "resultant_of" s_resultant_of a_resultant_of d_resultant_of
  g_resultant_of : mg "resultant_of" = some (.ref a_resultant_of)
  a_two_standing : Addr
  d_two_standing : FuncData
  f_two_standing : L2.Fun K "two_standing" "two_standing" s_two_standing a_two_standing d_two_standing
  g_two_standing : mg "two_standing" = some (.ref a_two_standing)
  a_line_times : Addr
  d_line_times : FuncData
  f_line_times : L2.Fun K "line_times" "line_times" s_line_times a_line_times d_line_times
  g_line_times : mg "line_times" = some (.ref a_line_times)
  a_line_common : Addr
  d_line_common : FuncData
  f_line_common : L2.Fun K "line_common" "line_common" s_line_common a_line_common d_line_common
  g_line_common : mg "line_common" = some (.ref a_line_common)
  a_resultant : Addr
  d_resultant : FuncData
  f_resultant : L2.Fun K "resultant" "resultant" s_resultant a_resultant d_resultant
  g_resultant : mg "resultant" = some (.ref a_resultant)
  a__law_pair_right : Addr
  d__law_pair_right : FuncData
  f__law_pair_right : L2.Fun K "_law_pair_right" "_law_pair_right" s__law_pair_right a__law_pair_right d__law_pair_right
  g__law_pair_right : mg "_law_pair_right" = some (.ref a__law_pair_right)
  a__law_right : Addr
  d__law_right : FuncData
  f__law_right : L2.Fun K "_law_right" "_law_right" s__law_right a__law_right d__law_right
  g__law_right : mg "_law_right" = some (.ref a__law_right)
  a_law : Addr
  d_law : FuncData
  f_law : L2.Fun K "law" "law" s_law a_law d_law
  g_law : mg "law" = some (.ref a_law)
  u_MOST_DEGREE : Value
  e_MOST_DEGREE : mg "MOST_DEGREE" = some u_MOST_DEGREE
  r_MOST_DEGREE : ∃ t, u_MOST_DEGREE = .int 12 t
  z_abs : mg "abs" = none
  z_all : mg "all" = none
  z_bool : mg "bool" = none
  z_divmod : mg "divmod" = none
  z_enumerate : mg "enumerate" = none
  z_int : mg "int" = none
  z_isinstance : mg "isinstance" = none
  z_len : mg "len" = none
  z_list : mg "list" = none
  z_max : mg "max" = none
  z_range : mg "range" = none
  z_tuple : mg "tuple" = none
  z_zip : mg "zip" = none

section
variable {P : Program} {w : World} {K : Fg} {mg : Str → Option Value} {base : Heap}
theorem sc_is_integer : FnScope ["value"] ["value"] (defScope s_is_integer) := ⟨rfl, rfl, rfl, by decide +kernel, rfl, by decide +kernel, by decide +kernel⟩
theorem ok_is_integer (T : Tx K mg) : FnG P w K mg base 1 T.a_is_integer T.d_is_integer ["value"] (spF K 1 m_is_integer) := by
  unfold m_is_integer
  refine ok_def (n := 1) rfl rfl T.f_is_integer sc_is_integer fun B cdv A outer s H E hr hgd => ?_
  unfold g_is_integer g_is_integer_s1
  exact (sb_one (ss_ret (de_and (de_isi (by rfl) T.z_isinstance (de_name 0) (by rfl) T.z_int bt_int) (de_one (de_not (de_isi (by rfl) T.z_isinstance (de_name 0) (by rfl) T.z_bool bt_bool))))))
theorem sc_is_list : FnScope ["value"] ["value"] (defScope s_is_list) := ⟨rfl, rfl, rfl, by decide +kernel, rfl, by decide +kernel, by decide +kernel⟩
theorem ok_is_list (T : Tx K mg) : FnG P w K mg base 1 T.a_is_list T.d_is_list ["value"] (spF K 1 m_is_list) := by
  unfold m_is_list
  refine ok_def (n := 1) rfl rfl T.f_is_list sc_is_list fun B cdv A outer s H E hr hgd => ?_
  unfold g_is_list g_is_list_s1
  exact (sb_one (ss_ret (de_isi2 (by rfl) T.z_isinstance (de_name 0) (by rfl) T.z_list bt_list (by rfl) T.z_tuple bt_tuple)))
theorem sc_want_at_most : FnScope ["what", "limit", "number"] ["what", "limit", "number"] (defScope s_want_at_most) := ⟨rfl, rfl, rfl, by decide +kernel, rfl, by decide +kernel, by decide +kernel⟩
theorem ok_want_at_most (T : Tx K mg) : FnG P w K mg base 1 T.a_want_at_most T.d_want_at_most ["what", "limit", "number"] (spF K 3 m_want_at_most) := by
  unfold m_want_at_most
  refine ok_def (n := 3) rfl rfl T.f_want_at_most sc_want_at_most fun B cdv A outer s H E hr hgd => ?_
  unfold g_want_at_most g_want_at_most_s1
  exact (sb_one (ss_if (dt_cmp op_gt od_gt (de_name 2) (de_name 1))
  sb_never
  sb_nil))
theorem sc_divisor_of : FnScope ["number", "other", "near", "far"] ["number", "other"] (defScope s_divisor_of) := ⟨rfl, rfl, rfl, by decide +kernel, rfl, by decide +kernel, by decide +kernel⟩
theorem ok_divisor_of (T : Tx K mg) : FnG P w K mg base 1 T.a_divisor_of T.d_divisor_of ["number", "other"] (spF K 2 m_divisor_of) := by
  unfold m_divisor_of
  refine ok_def (n := 4) rfl rfl T.f_divisor_of sc_divisor_of fun B cdv A outer s H E hr hgd => ?_
  unfold g_divisor_of g_divisor_of_s2 g_divisor_of_s1 g_divisor_of_w1 g_divisor_of_b1 g_divisor_of_t1
  exact (sb_cons (ss_par (i := 2) (j := 3) rfl sc_divisor_of.nd rfl rfl (by decide) rfl rfl (da_cons (de_callB call_abs fd_abs (by rfl) T.z_abs bt_abs (da_cons (de_name 0) da_nil)) (da_cons (de_callB call_abs fd_abs (by rfl) T.z_abs bt_abs (da_cons (de_name 1) da_nil)) da_nil)) (by rfl))
  (sb_cons (ss_while fuel PassesOwn.never (dt_cmp (op_neD hr.units) od_ne (de_name 3) de_int)
  (sb_one (ss_par (i := 2) (j := 3) rfl sc_divisor_of.nd rfl rfl (by decide) rfl rfl (da_cons (de_name 3) (da_cons (de_op op_sub od_sub (de_name 2) (de_op op_mulA od_mulA (de_op op_fdivZ od_fdivZ (de_name 2) (de_name 3)) (de_name 3))) da_nil)) (by rfl))))
  (sb_one (ss_ret (de_name 2)))))
theorem sc_power_by : FnScope ["number", "many", "found", "turn"] ["number", "many"] (defScope s_power_by) := ⟨rfl, rfl, rfl, by decide +kernel, rfl, by decide +kernel, by decide +kernel⟩
theorem ok_power_by (T : Tx K mg) : FnG P w K mg base 1 T.a_power_by T.d_power_by ["number", "many"] (spF K 2 m_power_by) := by
  unfold m_power_by
  refine ok_def (n := 4) rfl rfl T.f_power_by sc_power_by fun B cdv A outer s H E hr hgd => ?_
  unfold g_power_by g_power_by_s2 g_power_by_s1 g_power_by_f1 g_power_by_b1
  exact (sb_cons (ss_set (i := 2) sc_power_by.nd rfl (by first | exact Or.inl rfl | exact Or.inr rfl) de_int)
  (sb_cons (ss_for PassesOwn.never rfl (di_range1 (by rfl) T.z_range (da_cons (de_name 1) da_nil)) (dg_name 3 sc_power_by.nd rfl (by first | exact Or.inl rfl | exact Or.inr rfl))
  (sb_one (ss_set (i := 2) sc_power_by.nd rfl (by first | exact Or.inl rfl | exact Or.inr rfl) (de_op op_mulA od_mulA (de_name 2) (de_name 0)))))
  (sb_one (ss_ret (de_name 2)))))
theorem sc_trimmed : FnScope ["numbers", "many"] ["numbers"] (defScope s_trimmed) := ⟨rfl, rfl, rfl, by decide +kernel, rfl, by decide +kernel, by decide +kernel⟩
theorem ok_trimmed (T : Tx K mg) : FnG P w K mg base 1 T.a_trimmed T.d_trimmed ["numbers"] (spF K 1 m_trimmed) := by
  unfold m_trimmed
  refine ok_def (n := 2) rfl rfl T.f_trimmed sc_trimmed fun B cdv A outer s H E hr hgd => ?_
  unfold g_trimmed g_trimmed_s2 g_trimmed_s1 g_trimmed_w1 g_trimmed_b1 g_trimmed_t1
  exact (sb_cons (ss_set (i := 1) sc_trimmed.nd rfl (by first | exact Or.inl rfl | exact Or.inr rfl) (de_callB call_len fd_len (by rfl) T.z_len bt_len (da_cons (de_name 0) da_nil)))
  (sb_cons (ss_while fuel PassesOwn.never (dw_pt (dw_and (dt_cmp op_gt od_gt (de_name 1) de_int) (dw_and1 (dt_cmp (op_eqD hr.units) od_eq (de_ix (de_name 0) (de_op op_sub od_sub (de_name 1) de_int)) de_int))))
  (sb_one (ss_set (i := 1) sc_trimmed.nd rfl (by first | exact Or.inl rfl | exact Or.inr rfl) (de_op op_sub od_sub (de_name 1) de_int))))
  (sb_one (ss_ret (de_callT call_list_of fd_list (by rfl) T.z_list bt_list (da_cons (de_slice (de_name 0) dp_none (dp_some (de_name 1))) da_nil))))))
theorem sc_scaled_line : FnScope ["line", "number", "one"] ["line", "number"] (defScope s_scaled_line) := ⟨rfl, rfl, rfl, by decide +kernel, rfl, by decide +kernel, by decide +kernel⟩
theorem ok_scaled_line (T : Tx K mg) : FnG P w K mg base 1 T.a_scaled_line T.d_scaled_line ["line", "number"] (spF K 2 m_scaled_line) := by
  unfold m_scaled_line
  refine ok_def (n := 3) rfl rfl T.f_scaled_line sc_scaled_line fun B cdv A outer s H E hr hgd => ?_
  unfold g_scaled_line g_scaled_line_s1 g_scaled_line_c1
  exact (sb_one (ss_ret (de_if (dt_cmp (op_neD hr.units) od_ne (de_name 1) de_int) (de_lc (own := [("one", 2)]) rfl sc_scaled_line.nd (di_seq (de_name 0)) (blkOk_by (by kernel_rfl)) (by decide) (fun _ _ _ _ _ B => (dg_name 2 sc_scaled_line.nd rfl (by first | exact Or.inl rfl | exact Or.inr rfl))) (fun _ _ _ _ _ => dts_nil) (fun _ _ _ _ _ B => (de_op op_mulA od_mulA (de_name 1) (de_name 2)))) (de_lst da_nil))))
theorem sc_times_lines : FnScope ["line", "other", "found", "at", "near", "to", "far"] ["line", "other"] (defScope s_times_lines) := ⟨rfl, rfl, rfl, by decide +kernel, rfl, by decide +kernel, by decide +kernel⟩
theorem ok_times_lines (T : Tx K mg) : FnG P w K mg base 1 T.a_times_lines T.d_times_lines ["line", "other"] (spF K 2 m_times_lines) := by
  unfold m_times_lines
  refine ok_def (n := 7) rfl rfl T.f_times_lines sc_times_lines fun B cdv A outer s H E hr hgd => ?_
  unfold g_times_lines g_times_lines_s3 g_times_lines_s2 g_times_lines_s1 g_times_lines_f2 g_times_lines_b2 g_times_lines_f1 g_times_lines_b1
  exact (sb_cons (ss_if (dw_pt (dw_or (dt_cmp (op_eqD hr.units) od_eq (de_callB call_len fd_len (by rfl) T.z_len bt_len (da_cons (de_name 0) da_nil)) de_int) (dw_or1 (dt_cmp (op_eqD hr.units) od_eq (de_callB call_len fd_len (by rfl) T.z_len bt_len (da_cons (de_name 1) da_nil)) de_int))))
  (sb_one (ss_ret (de_lst da_nil)))
  sb_nil)
  (sb_cons (ss_set (i := 2) sc_times_lines.nd rfl (by first | exact Or.inl rfl | exact Or.inr rfl) (de_op op_mulA od_mulA (de_lst (da_cons de_int da_nil)) (de_op op_sub od_sub (de_op op_addA od_addA (de_callB call_len fd_len (by rfl) T.z_len bt_len (da_cons (de_name 0) da_nil)) (de_callB call_len fd_len (by rfl) T.z_len bt_len (da_cons (de_name 1) da_nil))) de_int)))
  (sb_cons (ss_for PassesOwn.never rfl (di_enumA (by rfl) T.z_enumerate (da_cons (de_name 0) da_nil)) (dg_tup rfl (dgs_cons (dg_name 3 sc_times_lines.nd rfl (by first | exact Or.inl rfl | exact Or.inr rfl)) (dgs_cons (dg_name 4 sc_times_lines.nd rfl (by first | exact Or.inl rfl | exact Or.inr rfl)) dgs_nil)))
  (sb_one (ss_if (dt_cmp (op_neD hr.units) od_ne (de_name 4) de_int)
  (sb_one (ss_for PassesOwn.never rfl (di_enumA (by rfl) T.z_enumerate (da_cons (de_name 1) da_nil)) (dg_tup rfl (dgs_cons (dg_name 5 sc_times_lines.nd rfl (by first | exact Or.inl rfl | exact Or.inr rfl)) (dgs_cons (dg_name 6 sc_times_lines.nd rfl (by first | exact Or.inl rfl | exact Or.inr rfl)) dgs_nil)))
  (sb_one (ss_augSub 2 (pv 2) (de_op op_addA od_addA (de_name 3) (de_name 5)) (de_op op_mulA od_mulA (de_name 4) (de_name 6)) iop_add od_iadd))))
  sb_nil)))
  (sb_one (ss_ret (de_name 2))))))
theorem sc__law_pot : FnScope ["_law_script", "_law_k", "_law_cell"] ["_law_script", "_law_k"] (defScope s__law_pot) := ⟨rfl, rfl, rfl, by decide +kernel, rfl, by decide +kernel, by decide +kernel⟩
theorem ok__law_pot (T : Tx K mg) : FnG P w K mg base 1 T.a__law_pot T.d__law_pot ["_law_script", "_law_k"] (spF K 2 m__law_pot) := by
  unfold m__law_pot
  refine ok_def (n := 3) rfl rfl T.f__law_pot sc__law_pot fun B cdv A outer s H E hr hgd => ?_
  unfold g__law_pot g__law_pot_s2 g__law_pot_s1
  exact (sb_cons (ss_set (i := 2) sc__law_pot.nd rfl (by first | exact Or.inl rfl | exact Or.inr rfl) (de_if (dt_cmp op_lt od_lt (de_name 1) (de_callB call_len fd_len (by rfl) T.z_len bt_len (da_cons (de_name 0) da_nil))) (de_callB call_abs fd_abs (by rfl) T.z_abs bt_abs (da_cons (de_ix (de_name 0) (de_name 1)) da_nil)) (de_op op_addA od_addA (de_op op_mulA od_mulA de_int (de_name 1)) de_int)))
  (sb_one (ss_ret (de_lst (da_cons (de_callB (call_max2 rfl) fd_max2 (by rfl) T.z_max bt_max (da_cons de_int (da_cons (de_op op_sub od_sub (de_name 2) (de_op op_pow od_pow de_int de_int)) da_nil))) (da_cons (de_op op_addA od_addA (de_op op_modN od_modN (de_callT call_int1 fd_int (by rfl) T.z_int bt_int (da_cons (de_op op_addA od_addA (de_op op_addA od_addA (de_op op_mulA od_mulA (de_op op_modN od_modN (de_callT call_int1 fd_int (by rfl) T.z_int bt_int (da_cons (de_name 2) da_nil)) de_int) de_int) (de_op op_mulA od_mulA de_int (de_name 1))) de_int) da_nil)) de_int) de_int) da_nil))))))
theorem sc__law_draw : FnScope ["_law_pot_here", "_law_many", "_law_digit"] ["_law_pot_here", "_law_many"] (defScope s__law_draw) := ⟨rfl, rfl, rfl, by decide +kernel, rfl, by decide +kernel, by decide +kernel⟩
theorem ok__law_draw (T : Tx K mg) : FnG P w K mg base 1 T.a__law_draw T.d__law_draw ["_law_pot_here", "_law_many"] (spI K 2 m__law_draw) := by
  unfold m__law_draw
  refine ok_defI (n := 3) rfl rfl rfl T.f__law_draw sc__law_draw fun B cdv A outer s H E hr hgd => ?_
  unfold g__law_draw g__law_draw_s3 g__law_draw_s2 g__law_draw_s1
  exact (sb_cons (ss_if (dt_cmp op_gt od_gt (de_ix (de_name 0) de_int) de_int)
  (sb_cons (ss_asg (de_callB call_divmod fd_divmod (by rfl) T.z_divmod bt_divmod (da_cons (de_ix (de_name 0) de_int) (da_cons (de_name 1) da_nil))) (dg_tup rfl (dgs_cons (dg_sub 0 (pv 0) de_int) (dgs_cons (dg_name 2 sc__law_draw.nd rfl (by first | exact Or.inl rfl | exact Or.inr rfl)) dgs_nil))))
  (sb_one (ss_ret (de_name 2))))
  sb_nil)
  (sb_cons (ss_asg (de_op op_modN od_modN (de_callT call_int1 fd_int (by rfl) T.z_int bt_int (da_cons (de_op op_addA od_addA (de_op op_mulA od_mulA (de_ix (de_name 0) de_int) de_int) de_int) da_nil)) de_int) (dg_sub 0 (pv 0) de_int))
  (sb_one (ss_ret (de_op op_modN od_modN (de_callT call_int1 fd_int (by rfl) T.z_int bt_int (da_cons (de_op op_fdivZ od_fdivZ (de_op op_modN od_modN (de_callT call_int1 fd_int (by rfl) T.z_int bt_int (da_cons (de_op op_mulA od_mulA (de_ix (de_name 0) de_int) (de_ix (de_name 0) de_int)) da_nil)) de_int) de_int) da_nil)) (de_name 1))))))
theorem sc__law_trim : FnScope ["_law_numbers", "_law_found"] ["_law_numbers"] (defScope s__law_trim) := ⟨rfl, rfl, rfl, by decide +kernel, rfl, by decide +kernel, by decide +kernel⟩
theorem ok__law_trim (T : Tx K mg) : FnG P w K mg base 1 T.a__law_trim T.d__law_trim ["_law_numbers"] (spF K 1 m__law_trim) := by
  unfold m__law_trim
  refine ok_def (n := 2) rfl rfl T.f__law_trim sc__law_trim fun B cdv A outer s H E hr hgd => ?_
  unfold g__law_trim g__law_trim_s2 g__law_trim_s1 g__law_trim_w1 g__law_trim_b1 g__law_trim_t1
  exact (sb_cons (ss_set (i := 1) sc__law_trim.nd rfl (by first | exact Or.inl rfl | exact Or.inr rfl) (de_callT call_list_of fd_list (by rfl) T.z_list bt_list (da_cons (de_name 0) da_nil)))
  (sb_cons (ss_while fuel PassesOwn.never (dw_pt (dw_and (dt_cmp (op_neD hr.units) od_ne (de_name 1) (de_lst da_nil)) (dw_and1 (dt_cmp (op_eqD hr.units) od_eq (de_ix (de_name 1) (de_un un_neg ud_neg de_int)) de_int))))
  (sb_one (ss_expr (de_meth0 1 PySem.F.plainAttrs_list PySem.F.slot_list_pop PySem.F.type_list_pop mt_pop md_pop (pv 1)))))
  (sb_one (ss_ret (de_name 1)))))
theorem sc__law_value : FnScope ["_law_line_here", "_law_number", "_law_found", "_law_coefficient"] ["_law_line_here", "_law_number"] (defScope s__law_value) := ⟨rfl, rfl, rfl, by decide +kernel, rfl, by decide +kernel, by decide +kernel⟩
theorem ok__law_value (T : Tx K mg) : FnG P w K mg base 1 T.a__law_value T.d__law_value ["_law_line_here", "_law_number"] (spF K 2 m__law_value) := by
  unfold m__law_value
  refine ok_def (n := 4) rfl rfl T.f__law_value sc__law_value fun B cdv A outer s H E hr hgd => ?_
  unfold g__law_value g__law_value_s2 g__law_value_s1 g__law_value_f1 g__law_value_b1
  exact (sb_cons (ss_set (i := 2) sc__law_value.nd rfl (by first | exact Or.inl rfl | exact Or.inr rfl) de_int)
  (sb_cons (ss_for PassesOwn.never rfl (di_seq (de_rev (de_name 0))) (dg_name 3 sc__law_value.nd rfl (by first | exact Or.inl rfl | exact Or.inr rfl))
  (sb_one (ss_set (i := 2) sc__law_value.nd rfl (by first | exact Or.inl rfl | exact Or.inr rfl) (de_op op_addA od_addA (de_op op_mulA od_mulA (de_name 2) (de_name 1)) (de_name 3)))))
  (sb_one (ss_ret (de_name 2)))))
theorem sc__law_determinant : FnScope ["_law_rows", "_law_left", "_law_past", "_law_sign", "_law_row", "_law_some", "_law_at", "_law_first", "_law_lower", "_law_near", "_law_far"] ["_law_rows"] (defScope s__law_determinant) := ⟨rfl, rfl, rfl, by decide +kernel, rfl, by decide +kernel, by decide +kernel⟩
theorem ok__law_determinant (T : Tx K mg) : FnG P w K mg base 1 T.a__law_determinant T.d__law_determinant ["_law_rows"] (spF K 1 m__law_determinant) := by
  unfold m__law_determinant
  refine ok_def (n := 11) rfl rfl T.f__law_determinant sc__law_determinant fun B cdv A outer s H E hr hgd => ?_
  unfold g__law_determinant g__law_determinant_s2 g__law_determinant_s1 g__law_determinant_w1 g__law_determinant_b2 g__law_determinant_t1 g__law_determinant_f1 g__law_determinant_b1 g__law_determinant_c3 g__law_determinant_c2 g__law_determinant_c1
  exact (sb_cons (ss_par3T (i := 1) (j := 2) (k := 3) rfl sc__law_determinant.nd rfl rfl rfl (by first | exact Or.inl rfl | exact Or.inr rfl) (by first | exact Or.inl rfl | exact Or.inr rfl) (by first | exact Or.inl rfl | exact Or.inr rfl) (de_lc (own := [("_law_row", 4)]) rfl sc__law_determinant.nd (di_seq (de_name 0)) (blkOk_by (by kernel_rfl)) (by decide) (fun _ _ _ _ _ B => (dg_name 4 sc__law_determinant.nd rfl (by first | exact Or.inl rfl | exact Or.inr rfl))) (fun _ _ _ _ _ => dts_nil) (fun _ _ _ _ _ B => (de_callT call_list_of fd_list (by rfl) T.z_list bt_list (da_cons (de_name 4) da_nil)))))
  (sb_cons (ss_while fuel PassesOwn.never (dt_cmp op_gt od_gt (de_callB call_len fd_len (by rfl) T.z_len bt_len (da_cons (de_name 1) da_nil)) de_int)
  (sb_cons (ss_setLcL 1 (i := 5) (own := [("_law_at", 6), ("_law_row", 4)]) rfl sc__law_determinant.nd rfl rfl (sw_true rfl rfl rfl (by decide +kernel)) (di_enumA (by rfl) T.z_enumerate (da_cons (de_name 1) da_nil)) (blkOk_by (by kernel_rfl)) (by decide) (fun _ _ _ _ _ B => (dg_tup rfl (dgs_cons (dg_name 6 sc__law_determinant.nd rfl (by first | exact Or.inl rfl | exact Or.inr rfl)) (dgs_cons (dg_name 4 sc__law_determinant.nd rfl (by first | exact Or.inl rfl | exact Or.inr rfl)) dgs_nil)))) (fun _ _ _ _ _ => dts_one fun B => (dt_cmp (op_neD hr.units) od_ne (de_ix (de_name 4) de_int) de_int)) (fun _ _ _ _ _ B => (de_name 6)))
  (sb_cons (ss_if (dt_cmp (op_eqD hr.units) od_eq (de_name 5) (de_lst da_nil))
  (sb_one (ss_ret de_int))
  sb_nil)
  (sb_cons (ss_set (i := 7) sc__law_determinant.nd rfl (by first | exact Or.inl rfl | exact Or.inr rfl) (de_meth 1 PySem.F.plainAttrs_list PySem.F.slot_list_pop PySem.F.type_list_pop mt_popAt md_popAt (pv 1) (da_cons (de_ix (de_name 5) de_int) da_nil)))
  (sb_cons (ss_set (i := 3) sc__law_determinant.nd rfl (by first | exact Or.inl rfl | exact Or.inr rfl) (de_if (dt_cmp (op_eqD hr.units) od_eq (de_op op_mulA od_mulA (de_op op_fdivZ od_fdivZ (de_ix (de_name 5) de_int) de_int) de_int) (de_ix (de_name 5) de_int)) (de_name 3) (de_op op_sub od_sub de_int (de_name 3))))
  (sb_cons (ss_set (i := 8) sc__law_determinant.nd rfl (by first | exact Or.inl rfl | exact Or.inr rfl) (de_lst da_nil))
  (sb_cons (ss_frz 1 (ss_for PassesOwn.never rfl (di_seq (de_name 1)) (dg_name 4 sc__law_determinant.nd rfl (by first | exact Or.inl rfl | exact Or.inr rfl))
  (sb_one (ss_expr (de_meth 8 PySem.F.plainAttrs_list PySem.F.slot_list_append PySem.F.type_list_append mt_append md_append (pv 8) (da_cons (de_lc (own := [("_law_near", 9), ("_law_far", 10)]) rfl sc__law_determinant.nd (di_zip (by rfl) T.z_zip (da_cons (de_slice (de_name 4) (dp_some de_int) dp_none) (da_cons (de_slice (de_name 7) (dp_some de_int) dp_none) da_nil))) (blkOk_by (by kernel_rfl)) (by decide) (fun _ _ _ _ _ B => (dg_tup rfl (dgs_cons (dg_name 9 sc__law_determinant.nd rfl (by first | exact Or.inl rfl | exact Or.inr rfl)) (dgs_cons (dg_name 10 sc__law_determinant.nd rfl (by first | exact Or.inl rfl | exact Or.inr rfl)) dgs_nil)))) (fun _ _ _ _ _ => dts_nil) (fun _ _ _ _ _ B => (de_op op_fdivZ od_fdivZ (de_op op_sub od_sub (de_op op_mulA od_mulA (de_ix (de_name 7) de_int) (de_name 9)) (de_op op_mulA od_mulA (de_ix (de_name 4) de_int) (de_name 10))) (de_name 2)))) da_nil))))))
  (sb_one (ss_movT (i := 1) (k := 2) (j := 8) rfl sc__law_determinant.nd rfl rfl (by first | exact Or.inl rfl | exact Or.inr rfl) (by first | exact Or.inl rfl | exact Or.inr rfl) (de_name 8) (de_ix (de_name 7) de_int))))))))))
  (sb_one (ss_ret (de_op op_mulA od_mulA (de_name 3) (de_name 2))))))
theorem sc__law_table : FnScope ["_law_one", "_law_other", "_law_near", "_law_far", "_law_rows", "_law_at"] ["_law_one", "_law_other"] (defScope s__law_table) := ⟨rfl, rfl, rfl, by decide +kernel, rfl, by decide +kernel, by decide +kernel⟩
theorem ok__law_table (T : Tx K mg) : FnG P w K mg base 1 T.a__law_table T.d__law_table ["_law_one", "_law_other"] (spF K 2 m__law_table) := by
  unfold m__law_table
  refine ok_def (n := 6) rfl rfl T.f__law_table sc__law_table fun B cdv A outer s H E hr hgd => ?_
  unfold g__law_table g__law_table_s3 g__law_table_s2 g__law_table_s1 g__law_table_c2 g__law_table_c1
  exact (sb_cons (ss_asg (de_tup (da_cons (de_rev (de_name 0)) (da_cons (de_rev (de_name 1)) da_nil))) (dg_tup rfl (dgs_cons (dg_name 2 sc__law_table.nd rfl (by first | exact Or.inl rfl | exact Or.inr rfl)) (dgs_cons (dg_name 3 sc__law_table.nd rfl (by first | exact Or.inl rfl | exact Or.inr rfl)) dgs_nil))))
  (sb_cons (ss_setLc (i := 4) (own := [("_law_at", 5)]) rfl sc__law_table.nd rfl rfl (sw_true rfl rfl rfl (by decide +kernel)) (di_range1 (by rfl) T.z_range (da_cons (de_op op_sub od_sub (de_callB call_len fd_len (by rfl) T.z_len bt_len (da_cons (de_name 3) da_nil)) de_int) da_nil)) (blkOk_by (by kernel_rfl)) (by decide) (fun _ _ _ _ _ B => (dg_name 5 sc__law_table.nd rfl (by first | exact Or.inl rfl | exact Or.inr rfl))) (fun _ _ _ _ _ => dts_nil) (fun _ _ _ _ _ B => (de_op op_addA od_addA (de_op op_addA od_addA (de_op op_mulA od_mulA (de_lst (da_cons de_int da_nil)) (de_name 5)) (de_name 2)) (de_op op_mulA od_mulA (de_lst (da_cons de_int da_nil)) (de_op op_sub od_sub (de_op op_sub od_sub (de_callB call_len fd_len (by rfl) T.z_len bt_len (da_cons (de_name 3) da_nil)) de_int) (de_name 5))))))
  (sb_one (ss_ret (de_op op_addA od_addA (de_name 4) (de_lc (own := [("_law_at", 5)]) rfl sc__law_table.nd (di_range1 (by rfl) T.z_range (da_cons (de_op op_sub od_sub (de_callB call_len fd_len (by rfl) T.z_len bt_len (da_cons (de_name 2) da_nil)) de_int) da_nil)) (blkOk_by (by kernel_rfl)) (by decide) (fun _ _ _ _ _ B => (dg_name 5 sc__law_table.nd rfl (by first | exact Or.inl rfl | exact Or.inr rfl))) (fun _ _ _ _ _ => dts_nil) (fun _ _ _ _ _ B => (de_op op_addA od_addA (de_op op_addA od_addA (de_op op_mulA od_mulA (de_lst (da_cons de_int da_nil)) (de_name 5)) (de_name 3)) (de_op op_mulA od_mulA (de_lst (da_cons de_int da_nil)) (de_op op_sub od_sub (de_op op_sub od_sub (de_callB call_len fd_len (by rfl) T.z_len bt_len (da_cons (de_name 2) da_nil)) de_int) (de_name 5)))))))))))
theorem sc__law_power : FnScope ["_law_number", "_law_many", "_law_found", "_law_turn"] ["_law_number", "_law_many"] (defScope s__law_power) := ⟨rfl, rfl, rfl, by decide +kernel, rfl, by decide +kernel, by decide +kernel⟩
theorem ok__law_power (T : Tx K mg) : FnG P w K mg base 1 T.a__law_power T.d__law_power ["_law_number", "_law_many"] (spF K 2 m__law_power) := by
  unfold m__law_power
  refine ok_def (n := 4) rfl rfl T.f__law_power sc__law_power fun B cdv A outer s H E hr hgd => ?_
  unfold g__law_power g__law_power_s2 g__law_power_s1 g__law_power_f1 g__law_power_b1
  exact (sb_cons (ss_set (i := 2) sc__law_power.nd rfl (by first | exact Or.inl rfl | exact Or.inr rfl) de_int)
  (sb_cons (ss_for PassesOwn.never rfl (di_range1 (by rfl) T.z_range (da_cons (de_name 1) da_nil)) (dg_name 3 sc__law_power.nd rfl (by first | exact Or.inl rfl | exact Or.inr rfl))
  (sb_one (ss_set (i := 2) sc__law_power.nd rfl (by first | exact Or.inl rfl | exact Or.inr rfl) (de_op op_mulA od_mulA (de_name 2) (de_name 0)))))
  (sb_one (ss_ret (de_name 2)))))
theorem sc_greatest_of : FnScope ["some", "found", "number"] ["some"] (defScope s_greatest_of) := ⟨rfl, rfl, rfl, by decide +kernel, rfl, by decide +kernel, by decide +kernel⟩
theorem ok_greatest_of (T : Tx K mg) : FnG P w K mg base 2 T.a_greatest_of T.d_greatest_of ["some"] (spF K 1 m_greatest_of) := by
  unfold m_greatest_of
  refine ok_def (n := 3) rfl rfl T.f_greatest_of sc_greatest_of fun B cdv A outer s H E hr hgd => ?_
  unfold g_greatest_of g_greatest_of_s2 g_greatest_of_s1 g_greatest_of_f1 g_greatest_of_b1
  exact (sb_cons (ss_set (i := 1) sc_greatest_of.nd rfl (by first | exact Or.inl rfl | exact Or.inr rfl) de_int)
  (sb_cons (ss_for PassesOwn.never rfl (di_seq (de_name 0)) (dg_name 2 sc_greatest_of.nd rfl (by first | exact Or.inl rfl | exact Or.inr rfl))
  (sb_one (ss_set (i := 1) sc_greatest_of.nd rfl (by first | exact Or.inl rfl | exact Or.inr rfl) (de_call (ok_divisor_of T) (hr.mono (by decide)) hgd (bindK_of (ks := []) (is := [0, 1]) T.f_divisor_of fun _ _ _ _ _ _ us ws h1 h2 => match us, ws, h1, h2 with | [_, _], [], _, _ => rfl) (by rfl) T.g_divisor_of T.f_divisor_of.kp (da_cons (de_name 1) (da_cons (de_name 2) da_nil)) dk_nil (lenA_cons (lenA_cons lenA_nil)) lenA_nil (fun xs h => match xs, h with | [_, _], _ => rfl)))))
  (sb_one (ss_ret (de_name 1)))))
theorem sc_plus_lines : FnScope ["line", "other", "near", "far", "at"] ["line", "other"] (defScope s_plus_lines) := ⟨rfl, rfl, rfl, by decide +kernel, rfl, by decide +kernel, by decide +kernel⟩
theorem ok_plus_lines (T : Tx K mg) : FnG P w K mg base 2 T.a_plus_lines T.d_plus_lines ["line", "other"] (spF K 2 m_plus_lines) := by
  unfold m_plus_lines
  refine ok_def (n := 5) rfl rfl T.f_plus_lines sc_plus_lines fun B cdv A outer s H E hr hgd => ?_
  unfold g_plus_lines g_plus_lines_s2 g_plus_lines_s1 g_plus_lines_c1
  exact (sb_cons (ss_asg (de_if (dt_cmp op_ge od_ge (de_callB call_len fd_len (by rfl) T.z_len bt_len (da_cons (de_name 0) da_nil)) (de_callB call_len fd_len (by rfl) T.z_len bt_len (da_cons (de_name 1) da_nil))) (de_tup (da_cons (de_name 0) (da_cons (de_name 1) da_nil))) (de_tup (da_cons (de_name 1) (da_cons (de_name 0) da_nil)))) (dg_tup rfl (dgs_cons (dg_name 2 sc_plus_lines.nd rfl (by first | exact Or.inl rfl | exact Or.inr rfl)) (dgs_cons (dg_name 3 sc_plus_lines.nd rfl (by first | exact Or.inl rfl | exact Or.inr rfl)) dgs_nil))))
  (sb_one (ss_ret (de_call (ok_trimmed T) (hr.mono (by decide)) hgd (bindK_of (ks := []) (is := [0]) T.f_trimmed fun _ _ _ _ _ _ us ws h1 h2 => match us, ws, h1, h2 with | [_], [], _, _ => rfl) (by rfl) T.g_trimmed T.f_trimmed.kp (da_cons (de_op op_addA od_addA (de_lc (own := [("at", 4)]) rfl sc_plus_lines.nd (di_range1 (by rfl) T.z_range (da_cons (de_callB call_len fd_len (by rfl) T.z_len bt_len (da_cons (de_name 3) da_nil)) da_nil)) (blkOk_by (by kernel_rfl)) (by decide) (fun _ _ _ _ _ B => (dg_name 4 sc_plus_lines.nd rfl (by first | exact Or.inl rfl | exact Or.inr rfl))) (fun _ _ _ _ _ => dts_nil) (fun _ _ _ _ _ B => (de_op op_addA od_addA (de_ix (de_name 2) (de_name 4)) (de_ix (de_name 3) (de_name 4))))) (de_callT call_list_of fd_list (by rfl) T.z_list bt_list (da_cons (de_slice (de_name 2) (dp_some (de_callB call_len fd_len (by rfl) T.z_len bt_len (da_cons (de_name 3) da_nil))) dp_none) da_nil))) da_nil) dk_nil (lenA_cons lenA_nil) lenA_nil (fun xs h => match xs, h with | [_], _ => rfl)))))
theorem sc_line_in : FnScope ["value", "one"] ["value"] (defScope s_line_in) := ⟨rfl, rfl, rfl, by decide +kernel, rfl, by decide +kernel, by decide +kernel⟩
theorem ok_line_in (T : Tx K mg) : FnG P w K mg base 2 T.a_line_in T.d_line_in ["value"] (spF K 1 m_line_in) := by
  unfold m_line_in
  refine ok_def (n := 2) rfl rfl T.f_line_in sc_line_in fun B cdv A outer s H E hr hgd => ?_
  unfold g_line_in g_line_in_s2 g_line_in_s1 g_line_in_c1
  exact (sb_cons (ss_if (dw_pt (dw_or (dt_not (dt_val (de_call (ok_is_list T) (hr.mono (by decide)) hgd (bindK_of (ks := []) (is := [0]) T.f_is_list fun _ _ _ _ _ _ us ws h1 h2 => match us, ws, h1, h2 with | [_], [], _, _ => rfl) (by rfl) T.g_is_list T.f_is_list.kp (da_cons (de_name 0) da_nil) dk_nil (lenA_cons lenA_nil) lenA_nil (fun xs h => match xs, h with | [_], _ => rfl)))) (dw_or (dt_cmp op_gt od_gt (de_callB call_len fd_len (by rfl) T.z_len bt_len (da_cons (de_name 0) da_nil)) (de_op op_addA od_addA (de_gint (by rfl) T.e_MOST_DEGREE T.r_MOST_DEGREE) de_int)) (dw_or1 (dt_not (dt_val (de_callB (cr_all rfl) fd_all (by rfl) T.z_all bt_all (da_cons (de_lc (own := [("one", 1)]) rfl sc_line_in.nd (di_seq (de_name 0)) (blkOk_by (by kernel_rfl)) (by decide) (fun _ _ _ _ _ B => (dg_name 1 sc_line_in.nd rfl (by first | exact Or.inl rfl | exact Or.inr rfl))) (fun _ _ _ _ _ => dts_nil) (fun _ _ _ _ _ B => (de_call (ok_is_integer T) (hr.mono (by decide)) hgd (bindK_of (ks := []) (is := [0]) T.f_is_integer fun _ _ _ _ _ _ us ws h1 h2 => match us, ws, h1, h2 with | [_], [], _, _ => rfl) (by rfl) T.g_is_integer T.f_is_integer.kp (da_cons (de_name 1) da_nil) dk_nil (lenA_cons lenA_nil) lenA_nil (fun xs h => match xs, h with | [_], _ => rfl)))) da_nil))))))))
  (sb_one (ss_ret de_non))
  sb_nil)
  (sb_one (ss_ret (de_if (dw_pt (dw_or (dt_cmp (op_eqD hr.units) od_eq (de_callB call_len fd_len (by rfl) T.z_len bt_len (da_cons (de_name 0) da_nil)) de_int) (dw_or1 (dt_cmp (op_neD hr.units) od_ne (de_ix (de_name 0) (de_un un_neg ud_neg de_int)) de_int)))) (de_callT call_list_of fd_list (by rfl) T.z_list bt_list (da_cons (de_name 0) da_nil)) de_non))))
theorem sc__law_pick : FnScope ["_law_pot_here", "_law_some"] ["_law_pot_here", "_law_some"] (defScope s__law_pick) := ⟨rfl, rfl, rfl, by decide +kernel, rfl, by decide +kernel, by decide +kernel⟩
theorem ok__law_pick (T : Tx K mg) : FnG P w K mg base 2 T.a__law_pick T.d__law_pick ["_law_pot_here", "_law_some"] (spI K 2 m__law_pick) := by
  unfold m__law_pick
  refine ok_defI (n := 2) rfl rfl rfl T.f__law_pick sc__law_pick fun B cdv A outer s H E hr hgd => ?_
  unfold g__law_pick g__law_pick_s1
  exact (sb_one (ss_ret (de_ix (de_name 1) (de_callI (ok__law_draw T) (hr.mono (by decide)) hgd (bindK_of (ks := []) (is := [0, 1]) T.f__law_draw fun _ _ _ _ _ _ us ws h1 h2 => match us, ws, h1, h2 with | [_, _], [], _, _ => rfl) (by rfl) T.g__law_draw T.f__law_draw.kp (da_cons (de_name 0) (da_cons (de_callB call_len fd_len (by rfl) T.z_len bt_len (da_cons (de_name 1) da_nil)) da_nil)) (lenA_cons (lenA_cons lenA_nil)) fun xs h => match xs, h with | [_, _], _ => rfl))))
theorem sc__law_times : FnScope ["_law_line_here", "_law_other", "_law_found", "_law_at", "_law_near", "_law_to", "_law_far"] ["_law_line_here", "_law_other"] (defScope s__law_times) := ⟨rfl, rfl, rfl, by decide +kernel, rfl, by decide +kernel, by decide +kernel⟩
theorem ok__law_times (T : Tx K mg) : FnG P w K mg base 2 T.a__law_times T.d__law_times ["_law_line_here", "_law_other"] (spF K 2 m__law_times) := by
  unfold m__law_times
  refine ok_def (n := 7) rfl rfl T.f__law_times sc__law_times fun B cdv A outer s H E hr hgd => ?_
  unfold g__law_times g__law_times_s2 g__law_times_s1 g__law_times_f2 g__law_times_b2 g__law_times_f1 g__law_times_b1
  exact (sb_cons (ss_set (i := 2) sc__law_times.nd rfl (by first | exact Or.inl rfl | exact Or.inr rfl) (de_op op_mulA od_mulA (de_lst (da_cons de_int da_nil)) (de_op op_addA od_addA (de_callB call_len fd_len (by rfl) T.z_len bt_len (da_cons (de_name 0) da_nil)) (de_callB call_len fd_len (by rfl) T.z_len bt_len (da_cons (de_name 1) da_nil)))))
  (sb_cons (ss_for PassesOwn.never rfl (di_enumA (by rfl) T.z_enumerate (da_cons (de_name 0) da_nil)) (dg_tup rfl (dgs_cons (dg_name 3 sc__law_times.nd rfl (by first | exact Or.inl rfl | exact Or.inr rfl)) (dgs_cons (dg_name 4 sc__law_times.nd rfl (by first | exact Or.inl rfl | exact Or.inr rfl)) dgs_nil)))
  (sb_one (ss_for PassesOwn.never rfl (di_enumA (by rfl) T.z_enumerate (da_cons (de_name 1) da_nil)) (dg_tup rfl (dgs_cons (dg_name 5 sc__law_times.nd rfl (by first | exact Or.inl rfl | exact Or.inr rfl)) (dgs_cons (dg_name 6 sc__law_times.nd rfl (by first | exact Or.inl rfl | exact Or.inr rfl)) dgs_nil)))
  (sb_one (ss_asg (de_op op_addA od_addA (de_ix (de_name 2) (de_op op_addA od_addA (de_name 3) (de_name 5))) (de_op op_mulA od_mulA (de_name 4) (de_name 6))) (dg_sub 2 (pv 2) (de_op op_addA od_addA (de_name 3) (de_name 5))))))))
  (sb_one (ss_frz 2 (ss_ret (de_call (ok__law_trim T) (hr.mono (by decide)) hgd (bindK_of (ks := []) (is := [0]) T.f__law_trim fun _ _ _ _ _ _ us ws h1 h2 => match us, ws, h1, h2 with | [_], [], _, _ => rfl) (by rfl) T.g__law_trim T.f__law_trim.kp (da_cons (de_name 2) da_nil) dk_nil (lenA_cons lenA_nil) lenA_nil (fun xs h => match xs, h with | [_], _ => rfl)))))))
theorem sc_minus_lines : FnScope ["line", "other"] ["line", "other"] (defScope s_minus_lines) := ⟨rfl, rfl, rfl, by decide +kernel, rfl, by decide +kernel, by decide +kernel⟩
theorem ok_minus_lines (T : Tx K mg) : FnG P w K mg base 3 T.a_minus_lines T.d_minus_lines ["line", "other"] (spF K 2 m_minus_lines) := by
  unfold m_minus_lines
  refine ok_def (n := 2) rfl rfl T.f_minus_lines sc_minus_lines fun B cdv A outer s H E hr hgd => ?_
  unfold g_minus_lines g_minus_lines_s1
  exact (sb_one (ss_ret (de_call (ok_plus_lines T) (hr.mono (by decide)) hgd (bindK_of (ks := []) (is := [0, 1]) T.f_plus_lines fun _ _ _ _ _ _ us ws h1 h2 => match us, ws, h1, h2 with | [_, _], [], _, _ => rfl) (by rfl) T.g_plus_lines T.f_plus_lines.kp (da_cons (de_name 0) (da_cons (de_call (ok_scaled_line T) (hr.mono (by decide)) hgd (bindK_of (ks := []) (is := [0, 1]) T.f_scaled_line fun _ _ _ _ _ _ us ws h1 h2 => match us, ws, h1, h2 with | [_, _], [], _, _ => rfl) (by rfl) T.g_scaled_line T.f_scaled_line.kp (da_cons (de_name 1) (da_cons (de_un un_neg ud_neg de_int) da_nil)) dk_nil (lenA_cons (lenA_cons lenA_nil)) lenA_nil (fun xs h => match xs, h with | [_, _], _ => rfl)) da_nil)) dk_nil (lenA_cons (lenA_cons lenA_nil)) lenA_nil (fun xs h => match xs, h with | [_, _], _ => rfl))))
theorem sc_plain_of : FnScope ["line", "part", "number"] ["line"] (defScope s_plain_of) := ⟨rfl, rfl, rfl, by decide +kernel, rfl, by decide +kernel, by decide +kernel⟩
theorem ok_plain_of (T : Tx K mg) : FnG P w K mg base 3 T.a_plain_of T.d_plain_of ["line"] (spF K 1 m_plain_of) := by
  unfold m_plain_of
  refine ok_def (n := 3) rfl rfl T.f_plain_of sc_plain_of fun B cdv A outer s H E hr hgd => ?_
  unfold g_plain_of g_plain_of_s4 g_plain_of_s3 g_plain_of_s2 g_plain_of_s1 g_plain_of_c1
  exact (sb_cons (ss_if (dt_cmp (op_eqD hr.units) od_eq (de_callB call_len fd_len (by rfl) T.z_len bt_len (da_cons (de_name 0) da_nil)) de_int)
  (sb_one (ss_ret (de_lst da_nil)))
  sb_nil)
  (sb_cons (ss_set (i := 1) sc_plain_of.nd rfl (by first | exact Or.inl rfl | exact Or.inr rfl) (de_call (ok_greatest_of T) (hr.mono (by decide)) hgd (bindK_of (ks := []) (is := [0]) T.f_greatest_of fun _ _ _ _ _ _ us ws h1 h2 => match us, ws, h1, h2 with | [_], [], _, _ => rfl) (by rfl) T.g_greatest_of T.f_greatest_of.kp (da_cons (de_name 0) da_nil) dk_nil (lenA_cons lenA_nil) lenA_nil (fun xs h => match xs, h with | [_], _ => rfl)))
  (sb_cons (ss_if (dt_cmp op_lt od_lt (de_ix (de_name 0) (de_un un_neg ud_neg de_int)) de_int)
  (sb_one (ss_set (i := 1) sc_plain_of.nd rfl (by first | exact Or.inl rfl | exact Or.inr rfl) (de_op op_sub od_sub de_int (de_name 1))))
  sb_nil)
  (sb_one (ss_ret (de_lc (own := [("number", 2)]) rfl sc_plain_of.nd (di_seq (de_name 0)) (blkOk_by (by kernel_rfl)) (by decide) (fun _ _ _ _ _ B => (dg_name 2 sc_plain_of.nd rfl (by first | exact Or.inl rfl | exact Or.inr rfl))) (fun _ _ _ _ _ => dts_nil) (fun _ _ _ _ _ B => (de_op op_fdivZ od_fdivZ (de_name 2) (de_name 1)))))))))
theorem sc_want_line : FnScope ["value", "found"] ["value"] (defScope s_want_line) := ⟨rfl, rfl, rfl, by decide +kernel, rfl, by decide +kernel, by decide +kernel⟩
theorem ok_want_line (T : Tx K mg) : FnG P w K mg base 3 T.a_want_line T.d_want_line ["value"] (spF K 1 m_want_line) := by
  unfold m_want_line
  refine ok_def (n := 2) rfl rfl T.f_want_line sc_want_line fun B cdv A outer s H E hr hgd => ?_
  unfold g_want_line g_want_line_s3 g_want_line_s2 g_want_line_s1
  exact (sb_cons (ss_set (i := 1) sc_want_line.nd rfl (by first | exact Or.inl rfl | exact Or.inr rfl) (de_call (ok_line_in T) (hr.mono (by decide)) hgd (bindK_of (ks := []) (is := [0]) T.f_line_in fun _ _ _ _ _ _ us ws h1 h2 => match us, ws, h1, h2 with | [_], [], _, _ => rfl) (by rfl) T.g_line_in T.f_line_in.kp (da_cons (de_name 0) da_nil) dk_nil (lenA_cons lenA_nil) lenA_nil (fun xs h => match xs, h with | [_], _ => rfl)))
  (sb_cons (ss_if (dt_cmp op_isN od_is (de_name 1) de_non)
  sb_never
  sb_nil)
  (sb_one (ss_ret (de_name 1)))))
theorem sc__law_line : FnScope ["_law_pot_here", "_law_most", "_law_wide", "_law_found", "_law_power_here"] ["_law_pot_here", "_law_most", "_law_wide"] (defScope s__law_line) := ⟨rfl, rfl, rfl, by decide +kernel, rfl, by decide +kernel, by decide +kernel⟩
theorem ok__law_line (T : Tx K mg) : FnG P w K mg base 3 T.a__law_line T.d__law_line ["_law_pot_here", "_law_most", "_law_wide"] (spI K 3 m__law_line) := by
  unfold m__law_line
  refine ok_defI (n := 5) rfl rfl rfl T.f__law_line sc__law_line fun B cdv A outer s H E hr hgd => ?_
  unfold g__law_line g__law_line_s2 g__law_line_s1 g__law_line_f1 g__law_line_b1
  exact (sb_cons (ss_set (i := 3) sc__law_line.nd rfl (by first | exact Or.inl rfl | exact Or.inr rfl) (de_lst da_nil))
  (sb_cons (ss_for PassesOwn.never rfl (di_range1 (by rfl) T.z_range (da_cons (de_name 1) da_nil)) (dg_name 4 sc__law_line.nd rfl (by first | exact Or.inl rfl | exact Or.inr rfl))
  (sb_one (ss_expr (de_meth 3 PySem.F.plainAttrs_list PySem.F.slot_list_append PySem.F.type_list_append mt_append md_append (pv 3) (da_cons (de_op op_sub od_sub (de_callI (ok__law_draw T) (hr.mono (by decide)) hgd (bindK_of (ks := []) (is := [0, 1]) T.f__law_draw fun _ _ _ _ _ _ us ws h1 h2 => match us, ws, h1, h2 with | [_, _], [], _, _ => rfl) (by rfl) T.g__law_draw T.f__law_draw.kp (da_cons (de_name 0) (da_cons (de_op op_addA od_addA (de_op op_mulA od_mulA de_int (de_name 2)) de_int) da_nil)) (lenA_cons (lenA_cons lenA_nil)) fun xs h => match xs, h with | [_, _], _ => rfl) (de_name 2)) da_nil)))))
  (sb_one (ss_ret (de_op op_addA od_addA (de_name 3) (de_lst (da_cons (de_callI (ok__law_pick T) (hr.mono (by decide)) hgd (bindK_of (ks := []) (is := [0, 1]) T.f__law_pick fun _ _ _ _ _ _ us ws h1 h2 => match us, ws, h1, h2 with | [_, _], [], _, _ => rfl) (by rfl) T.g__law_pick T.f__law_pick.kp (da_cons (de_name 0) (da_cons (de_lst (da_cons de_int (da_cons (de_un un_neg ud_neg de_int) (da_cons de_int (da_cons de_int (da_cons (de_op op_sub od_sub de_int (de_name 2)) da_nil)))))) da_nil)) (lenA_cons (lenA_cons lenA_nil)) fun xs h => match xs, h with | [_, _], _ => rfl) da_nil)))))))
theorem sc_parted : FnScope ["line", "other", "number", "rest", "quotient", "shift", "much", "taken", "part", "one"] ["line", "other"] (defScope s_parted) := ⟨rfl, rfl, rfl, by decide +kernel, rfl, by decide +kernel, by decide +kernel⟩
theorem ok_parted (T : Tx K mg) : FnG P w K mg base 4 T.a_parted T.d_parted ["line", "other"] (spF K 2 m_parted) := by
  unfold m_parted
  refine ok_def (n := 10) rfl rfl T.f_parted sc_parted fun B cdv A outer s H E hr hgd => ?_
  unfold g_parted g_parted_s5 g_parted_s4 g_parted_s3 g_parted_s2 g_parted_s1 g_parted_c2 g_parted_c1 g_parted_w1 g_parted_b1 g_parted_t1
  exact (sb_cons (ss_par3 (i := 2) (j := 3) (k := 4) rfl sc_parted.nd rfl rfl rfl (by decide) (by decide) (by decide) rfl rfl rfl (da_cons de_int (da_cons (de_callT call_list_of fd_list (by rfl) T.z_list bt_list (da_cons (de_name 0) da_nil)) (da_cons (de_lst da_nil) da_nil))) (by rfl))
  (sb_cons (ss_if (dt_cmp op_ge od_ge (de_callB call_len fd_len (by rfl) T.z_len bt_len (da_cons (de_name 0) da_nil)) (de_callB call_len fd_len (by rfl) T.z_len bt_len (da_cons (de_name 1) da_nil)))
  (sb_one (ss_set (i := 4) sc_parted.nd rfl (by first | exact Or.inl rfl | exact Or.inr rfl) (de_op op_mulA od_mulA (de_lst (da_cons de_int da_nil)) (de_op op_addA od_addA (de_op op_sub od_sub (de_callB call_len fd_len (by rfl) T.z_len bt_len (da_cons (de_name 0) da_nil)) (de_callB call_len fd_len (by rfl) T.z_len bt_len (da_cons (de_name 1) da_nil))) de_int))))
  sb_nil)
  (sb_cons (ss_while fuel PassesOwn.never (dt_cmp op_ge od_ge (de_callB call_len fd_len (by rfl) T.z_len bt_len (da_cons (de_name 3) da_nil)) (de_callB call_len fd_len (by rfl) T.z_len bt_len (da_cons (de_name 1) da_nil)))
  (sb_cons (ss_par (i := 5) (j := 6) rfl sc_parted.nd rfl rfl (by decide) rfl rfl (da_cons (de_op op_sub od_sub (de_callB call_len fd_len (by rfl) T.z_len bt_len (da_cons (de_name 3) da_nil)) (de_callB call_len fd_len (by rfl) T.z_len bt_len (da_cons (de_name 1) da_nil))) (da_cons (de_ix (de_name 3) (de_un un_neg ud_neg de_int)) da_nil)) (by rfl))
  (sb_cons (ss_frz 4 (ss_parO (i := 2) (j := 4) rfl sc_parted.nd rfl rfl (by decide) rfl rfl (de_op op_mulA od_mulA (de_name 2) (de_ix (de_name 1) (de_un un_neg ud_neg de_int))) (de_call (ok_scaled_line T) (hr.mono (by decide)) hgd (bindK_of (ks := []) (is := [0, 1]) T.f_scaled_line fun _ _ _ _ _ _ us ws h1 h2 => match us, ws, h1, h2 with | [_, _], [], _, _ => rfl) (by rfl) T.g_scaled_line T.f_scaled_line.kp (da_cons (de_name 4) (da_cons (de_ix (de_name 1) (de_un un_neg ud_neg de_int)) da_nil)) dk_nil (lenA_cons (lenA_cons lenA_nil)) lenA_nil (fun xs h => match xs, h with | [_, _], _ => rfl)) (by rfl)))
  (sb_cons (ss_augSub 4 (pv 4) (de_name 5) (de_name 6) iop_add od_iadd)
  (sb_cons (ss_frz 6 (ss_set (i := 7) sc_parted.nd rfl (by first | exact Or.inl rfl | exact Or.inr rfl) (de_op op_addA od_addA (de_op op_mulA od_mulA (de_lst (da_cons de_int da_nil)) (de_name 5)) (de_call (ok_scaled_line T) (hr.mono (by decide)) hgd (bindK_of (ks := []) (is := [0, 1]) T.f_scaled_line fun _ _ _ _ _ _ us ws h1 h2 => match us, ws, h1, h2 with | [_, _], [], _, _ => rfl) (by rfl) T.g_scaled_line T.f_scaled_line.kp (da_cons (de_name 1) (da_cons (de_name 6) da_nil)) dk_nil (lenA_cons (lenA_cons lenA_nil)) lenA_nil (fun xs h => match xs, h with | [_, _], _ => rfl)))))
  (sb_one (ss_frz 7 (ss_frz 3 (ss_set (i := 3) sc_parted.nd rfl (by first | exact Or.inl rfl | exact Or.inr rfl) (de_call (ok_minus_lines T) (hr.mono (by decide)) hgd (bindK_of (ks := []) (is := [0, 1]) T.f_minus_lines fun _ _ _ _ _ _ us ws h1 h2 => match us, ws, h1, h2 with | [_, _], [], _, _ => rfl) (by rfl) T.g_minus_lines T.f_minus_lines.kp (da_cons (de_call (ok_scaled_line T) (hr.mono (by decide)) hgd (bindK_of (ks := []) (is := [0, 1]) T.f_scaled_line fun _ _ _ _ _ _ us ws h1 h2 => match us, ws, h1, h2 with | [_, _], [], _, _ => rfl) (by rfl) T.g_scaled_line T.f_scaled_line.kp (da_cons (de_name 3) (da_cons (de_ix (de_name 1) (de_un un_neg ud_neg de_int)) da_nil)) dk_nil (lenA_cons (lenA_cons lenA_nil)) lenA_nil (fun xs h => match xs, h with | [_, _], _ => rfl)) (da_cons (de_name 7) da_nil)) dk_nil (lenA_cons (lenA_cons lenA_nil)) lenA_nil (fun xs h => match xs, h with | [_, _], _ => rfl)))))))))))
  (sb_cons (ss_set (i := 8) sc_parted.nd rfl (by first | exact Or.inl rfl | exact Or.inr rfl) (de_call (ok_greatest_of T) (hr.mono (by decide)) hgd (bindK_of (ks := []) (is := [0]) T.f_greatest_of fun _ _ _ _ _ _ us ws h1 h2 => match us, ws, h1, h2 with | [_], [], _, _ => rfl) (by rfl) T.g_greatest_of T.f_greatest_of.kp (da_cons (de_op op_addA od_addA (de_op op_addA od_addA (de_lst (da_cons (de_name 2) da_nil)) (de_name 4)) (de_name 3)) da_nil) dk_nil (lenA_cons lenA_nil) lenA_nil (fun xs h => match xs, h with | [_], _ => rfl)))
  (sb_cons (ss_if (dt_cmp op_lt od_lt (de_name 2) de_int)
  (sb_one (ss_set (i := 8) sc_parted.nd rfl (by first | exact Or.inl rfl | exact Or.inr rfl) (de_op op_sub od_sub de_int (de_name 8))))
  sb_nil)
  (sb_one (ss_frz 3 (ss_frz 4 (ss_ret (de_tup (da_cons (de_op op_fdivZ od_fdivZ (de_name 2) (de_name 8)) (da_cons (de_lc (own := [("one", 9)]) rfl sc_parted.nd (di_seq (de_name 4)) (blkOk_by (by kernel_rfl)) (by decide) (fun _ _ _ _ _ B => (dg_name 9 sc_parted.nd rfl (by first | exact Or.inl rfl | exact Or.inr rfl))) (fun _ _ _ _ _ => dts_nil) (fun _ _ _ _ _ B => (de_op op_fdivZ od_fdivZ (de_name 9) (de_name 8)))) (da_cons (de_lc (own := [("one", 9)]) rfl sc_parted.nd (di_seq (de_name 3)) (blkOk_by (by kernel_rfl)) (by decide) (fun _ _ _ _ _ B => (dg_name 9 sc_parted.nd rfl (by first | exact Or.inl rfl | exact Or.inr rfl))) (fun _ _ _ _ _ => dts_nil) (fun _ _ _ _ _ B => (de_op op_fdivZ od_fdivZ (de_name 9) (de_name 8)))) da_nil)))))))))))))
theorem sc_two_lines : FnScope ["line", "other", "near"] ["line", "other"] (defScope s_two_lines) := ⟨rfl, rfl, rfl, by decide +kernel, rfl, by decide +kernel, by decide +kernel⟩
theorem ok_two_lines (T : Tx K mg) : FnG P w K mg base 4 T.a_two_lines T.d_two_lines ["line", "other"] (spF K 2 m_two_lines) := by
  unfold m_two_lines
  refine ok_def (n := 3) rfl rfl T.f_two_lines sc_two_lines fun B cdv A outer s H E hr hgd => ?_
  unfold g_two_lines g_two_lines_s2 g_two_lines_s1
  exact (sb_cons (ss_set (i := 2) sc_two_lines.nd rfl (by first | exact Or.inl rfl | exact Or.inr rfl) (de_call (ok_want_line T) (hr.mono (by decide)) hgd (bindK_of (ks := []) (is := [0]) T.f_want_line fun _ _ _ _ _ _ us ws h1 h2 => match us, ws, h1, h2 with | [_], [], _, _ => rfl) (by rfl) T.g_want_line T.f_want_line.kp (da_cons (de_name 0) da_nil) dk_nil (lenA_cons lenA_nil) lenA_nil (fun xs h => match xs, h with | [_], _ => rfl)))
  (sb_one (ss_frz 2 (ss_ret (de_tup (da_cons (de_name 2) (da_cons (de_call (ok_want_line T) (hr.mono (by decide)) hgd (bindK_of (ks := []) (is := [0]) T.f_want_line fun _ _ _ _ _ _ us ws h1 h2 => match us, ws, h1, h2 with | [_], [], _, _ => rfl) (by rfl) T.g_want_line T.f_want_line.kp (da_cons (de_name 1) da_nil) dk_nil (lenA_cons lenA_nil) lenA_nil (fun xs h => match xs, h with | [_], _ => rfl)) da_nil)))))))
theorem sc_common_of : FnScope ["line", "other", "near", "far"] ["line", "other"] (defScope s_common_of) := ⟨rfl, rfl, rfl, by decide +kernel, rfl, by decide +kernel, by decide +kernel⟩
theorem ok_common_of (T : Tx K mg) : FnG P w K mg base 5 T.a_common_of T.d_common_of ["line", "other"] (spF K 2 m_common_of) := by
  unfold m_common_of
  refine ok_def (n := 4) rfl rfl T.f_common_of sc_common_of fun B cdv A outer s H E hr hgd => ?_
  unfold g_common_of g_common_of_s2 g_common_of_s1 g_common_of_w1 g_common_of_b1 g_common_of_t1
  exact (sb_cons (ss_par (i := 2) (j := 3) rfl sc_common_of.nd rfl rfl (by decide) rfl rfl (da_cons (de_call (ok_plain_of T) (hr.mono (by decide)) hgd (bindK_of (ks := []) (is := [0]) T.f_plain_of fun _ _ _ _ _ _ us ws h1 h2 => match us, ws, h1, h2 with | [_], [], _, _ => rfl) (by rfl) T.g_plain_of T.f_plain_of.kp (da_cons (de_name 0) da_nil) dk_nil (lenA_cons lenA_nil) lenA_nil (fun xs h => match xs, h with | [_], _ => rfl)) (da_cons (de_call (ok_plain_of T) (hr.mono (by decide)) hgd (bindK_of (ks := []) (is := [0]) T.f_plain_of fun _ _ _ _ _ _ us ws h1 h2 => match us, ws, h1, h2 with | [_], [], _, _ => rfl) (by rfl) T.g_plain_of T.f_plain_of.kp (da_cons (de_name 1) da_nil) dk_nil (lenA_cons lenA_nil) lenA_nil (fun xs h => match xs, h with | [_], _ => rfl)) da_nil)) (by rfl))
  (sb_cons (ss_while fuel PassesOwn.never (dt_cmp op_gt od_gt (de_callB call_len fd_len (by rfl) T.z_len bt_len (da_cons (de_name 3) da_nil)) de_int)
  (sb_one (ss_frz 2 (ss_frz 3 (ss_par (i := 2) (j := 3) rfl sc_common_of.nd rfl rfl (by decide) rfl rfl (da_cons (de_name 3) (da_cons (de_call (ok_plain_of T) (hr.mono (by decide)) hgd (bindK_of (ks := []) (is := [0]) T.f_plain_of fun _ _ _ _ _ _ us ws h1 h2 => match us, ws, h1, h2 with | [_], [], _, _ => rfl) (by rfl) T.g_plain_of T.f_plain_of.kp (da_cons (de_ix (de_call (ok_parted T) (hr.mono (by decide)) hgd (bindK_of (ks := []) (is := [0, 1]) T.f_parted fun _ _ _ _ _ _ us ws h1 h2 => match us, ws, h1, h2 with | [_, _], [], _, _ => rfl) (by rfl) T.g_parted T.f_parted.kp (da_cons (de_name 2) (da_cons (de_name 3) da_nil)) dk_nil (lenA_cons (lenA_cons lenA_nil)) lenA_nil (fun xs h => match xs, h with | [_, _], _ => rfl)) de_int) da_nil) dk_nil (lenA_cons lenA_nil) lenA_nil (fun xs h => match xs, h with | [_], _ => rfl)) da_nil)) (by rfl))))))
  (sb_one (ss_ret (de_name 2)))))
theorem sc_resultant_of : FnScope ["line", "other", "near", "far", "top", "bottom", "number", "quotient", "rest"] ["line", "other"] (defScope s_resultant_of) := ⟨rfl, rfl, rfl, by decide +kernel, rfl, by decide +kernel, by decide +kernel⟩
theorem ok_resultant_of (T : Tx K mg) : FnG P w K mg base 5 T.a_resultant_of T.d_resultant_of ["line", "other"] (spF K 2 m_resultant_of) := by
  unfold m_resultant_of
  refine ok_def (n := 9) rfl rfl T.f_resultant_of sc_resultant_of fun B cdv A outer s H E hr hgd => ?_
  unfold g_resultant_of g_resultant_of_s2 g_resultant_of_s1 g_resultant_of_w1 g_resultant_of_b1 g_resultant_of_t1
  exact (sb_cons (ss_asg (de_tup (da_cons (de_name 0) (da_cons (de_name 1) (da_cons de_int (da_cons de_int da_nil))))) (dg_tup rfl (dgs_cons (dg_name 2 sc_resultant_of.nd rfl (by first | exact Or.inl rfl | exact Or.inr rfl)) (dgs_cons (dg_name 3 sc_resultant_of.nd rfl (by first | exact Or.inl rfl | exact Or.inr rfl)) (dgs_cons (dg_name 4 sc_resultant_of.nd rfl (by first | exact Or.inl rfl | exact Or.inr rfl)) (dgs_cons (dg_name 5 sc_resultant_of.nd rfl (by first | exact Or.inl rfl | exact Or.inr rfl)) dgs_nil))))))
  (sb_cons (ss_while fuel PassesOwn.never (dt_cmp op_gt od_gt (de_callB call_len fd_len (by rfl) T.z_len bt_len (da_cons (de_name 3) da_nil)) de_int)
  (sb_cons (ss_frz 3 (ss_frz 2 (ss_asg (de_call (ok_parted T) (hr.mono (by decide)) hgd (bindK_of (ks := []) (is := [0, 1]) T.f_parted fun _ _ _ _ _ _ us ws h1 h2 => match us, ws, h1, h2 with | [_, _], [], _, _ => rfl) (by rfl) T.g_parted T.f_parted.kp (da_cons (de_name 2) (da_cons (de_name 3) da_nil)) dk_nil (lenA_cons (lenA_cons lenA_nil)) lenA_nil (fun xs h => match xs, h with | [_, _], _ => rfl)) (dg_tup rfl (dgs_cons (dg_name 6 sc_resultant_of.nd rfl (by first | exact Or.inl rfl | exact Or.inr rfl)) (dgs_cons (dg_name 7 sc_resultant_of.nd rfl (by first | exact Or.inl rfl | exact Or.inr rfl)) (dgs_cons (dg_name 8 sc_resultant_of.nd rfl (by first | exact Or.inl rfl | exact Or.inr rfl)) dgs_nil)))))))
  (sb_cons (ss_if (dt_cmp (op_eqD hr.units) od_eq (de_callB call_len fd_len (by rfl) T.z_len bt_len (da_cons (de_name 8) da_nil)) de_int)
  (sb_one (ss_ret de_int))
  sb_nil)
  (sb_cons (ss_if (dt_cmp (op_eqD hr.units) od_eq (de_op op_sub od_sub (de_op op_mulA od_mulA (de_op op_sub od_sub (de_callB call_len fd_len (by rfl) T.z_len bt_len (da_cons (de_name 2) da_nil)) de_int) (de_op op_sub od_sub (de_callB call_len fd_len (by rfl) T.z_len bt_len (da_cons (de_name 3) da_nil)) de_int)) (de_op op_mulA od_mulA (de_op op_fdivZ od_fdivZ (de_op op_mulA od_mulA (de_op op_sub od_sub (de_callB call_len fd_len (by rfl) T.z_len bt_len (da_cons (de_name 2) da_nil)) de_int) (de_op op_sub od_sub (de_callB call_len fd_len (by rfl) T.z_len bt_len (da_cons (de_name 3) da_nil)) de_int)) de_int) de_int)) de_int)
  (sb_one (ss_set (i := 4) sc_resultant_of.nd rfl (by first | exact Or.inl rfl | exact Or.inr rfl) (de_op op_sub od_sub de_int (de_name 4))))
  sb_nil)
  (sb_cons (ss_set (i := 4) sc_resultant_of.nd rfl (by first | exact Or.inl rfl | exact Or.inr rfl) (de_op op_mulA od_mulA (de_name 4) (de_call (ok_power_by T) (hr.mono (by decide)) hgd (bindK_of (ks := []) (is := [0, 1]) T.f_power_by fun _ _ _ _ _ _ us ws h1 h2 => match us, ws, h1, h2 with | [_, _], [], _, _ => rfl) (by rfl) T.g_power_by T.f_power_by.kp (da_cons (de_ix (de_name 3) (de_un un_neg ud_neg de_int)) (da_cons (de_op op_sub od_sub (de_callB call_len fd_len (by rfl) T.z_len bt_len (da_cons (de_name 2) da_nil)) (de_callB call_len fd_len (by rfl) T.z_len bt_len (da_cons (de_name 8) da_nil))) da_nil)) dk_nil (lenA_cons (lenA_cons lenA_nil)) lenA_nil (fun xs h => match xs, h with | [_, _], _ => rfl))))
  (sb_cons (ss_set (i := 5) sc_resultant_of.nd rfl (by first | exact Or.inl rfl | exact Or.inr rfl) (de_op op_mulA od_mulA (de_name 5) (de_call (ok_power_by T) (hr.mono (by decide)) hgd (bindK_of (ks := []) (is := [0, 1]) T.f_power_by fun _ _ _ _ _ _ us ws h1 h2 => match us, ws, h1, h2 with | [_, _], [], _, _ => rfl) (by rfl) T.g_power_by T.f_power_by.kp (da_cons (de_name 6) (da_cons (de_op op_sub od_sub (de_callB call_len fd_len (by rfl) T.z_len bt_len (da_cons (de_name 3) da_nil)) de_int) da_nil)) dk_nil (lenA_cons (lenA_cons lenA_nil)) lenA_nil (fun xs h => match xs, h with | [_, _], _ => rfl))))
  (sb_one (ss_frz 3 (ss_par (i := 2) (j := 3) rfl sc_resultant_of.nd rfl rfl (by decide) rfl rfl (da_cons (de_name 3) (da_cons (de_name 8) da_nil)) (by rfl))))))))))
  (sb_one (ss_ret (de_op op_fdivZ od_fdivZ (de_op op_mulA od_mulA (de_name 4) (de_call (ok_power_by T) (hr.mono (by decide)) hgd (bindK_of (ks := []) (is := [0, 1]) T.f_power_by fun _ _ _ _ _ _ us ws h1 h2 => match us, ws, h1, h2 with | [_, _], [], _, _ => rfl) (by rfl) T.g_power_by T.f_power_by.kp (da_cons (de_ix (de_name 3) de_int) (da_cons (de_op op_sub od_sub (de_callB call_len fd_len (by rfl) T.z_len bt_len (da_cons (de_name 2) da_nil)) de_int) da_nil)) dk_nil (lenA_cons (lenA_cons lenA_nil)) lenA_nil (fun xs h => match xs, h with | [_, _], _ => rfl))) (de_name 5))))))
theorem sc_two_standing : FnScope ["line", "other", "near", "far"] ["line", "other"] (defScope s_two_standing) := ⟨rfl, rfl, rfl, by decide +kernel, rfl, by decide +kernel, by decide +kernel⟩
theorem ok_two_standing (T : Tx K mg) : FnG P w K mg base 5 T.a_two_standing T.d_two_standing ["line", "other"] (spF K 2 m_two_standing) := by
  unfold m_two_standing
  refine ok_def (n := 4) rfl rfl T.f_two_standing sc_two_standing fun B cdv A outer s H E hr hgd => ?_
  unfold g_two_standing g_two_standing_s3 g_two_standing_s2 g_two_standing_s1
  exact (sb_cons (ss_asg (de_call (ok_two_lines T) (hr.mono (by decide)) hgd (bindK_of (ks := []) (is := [0, 1]) T.f_two_lines fun _ _ _ _ _ _ us ws h1 h2 => match us, ws, h1, h2 with | [_, _], [], _, _ => rfl) (by rfl) T.g_two_lines T.f_two_lines.kp (da_cons (de_name 0) (da_cons (de_name 1) da_nil)) dk_nil (lenA_cons (lenA_cons lenA_nil)) lenA_nil (fun xs h => match xs, h with | [_, _], _ => rfl)) (dg_tup rfl (dgs_cons (dg_name 2 sc_two_standing.nd rfl (by first | exact Or.inl rfl | exact Or.inr rfl)) (dgs_cons (dg_name 3 sc_two_standing.nd rfl (by first | exact Or.inl rfl | exact Or.inr rfl)) dgs_nil))))
  (sb_cons (ss_if (dw_pt (dw_or (dt_cmp (op_eqD hr.units) od_eq (de_callB call_len fd_len (by rfl) T.z_len bt_len (da_cons (de_name 2) da_nil)) de_int) (dw_or1 (dt_cmp (op_eqD hr.units) od_eq (de_callB call_len fd_len (by rfl) T.z_len bt_len (da_cons (de_name 3) da_nil)) de_int))))
  sb_never
  sb_nil)
  (sb_one (ss_ret (de_tup (da_cons (de_name 2) (da_cons (de_name 3) da_nil)))))))
theorem sc_line_times : FnScope ["line", "other", "near", "far"] ["line", "other"] (defScope s_line_times) := ⟨rfl, rfl, rfl, by decide +kernel, rfl, by decide +kernel, by decide +kernel⟩
theorem ok_line_times (T : Tx K mg) : FnG P w K mg base 5 T.a_line_times T.d_line_times ["line", "other"] (spF K 2 m_line_times) := by
  unfold m_line_times
  refine ok_def (n := 4) rfl rfl T.f_line_times sc_line_times fun B cdv A outer s H E hr hgd => ?_
  unfold g_line_times g_line_times_s3 g_line_times_s2 g_line_times_s1
  exact (sb_cons (ss_asg (de_call (ok_two_lines T) (hr.mono (by decide)) hgd (bindK_of (ks := []) (is := [0, 1]) T.f_two_lines fun _ _ _ _ _ _ us ws h1 h2 => match us, ws, h1, h2 with | [_, _], [], _, _ => rfl) (by rfl) T.g_two_lines T.f_two_lines.kp (da_cons (de_name 0) (da_cons (de_name 1) da_nil)) dk_nil (lenA_cons (lenA_cons lenA_nil)) lenA_nil (fun xs h => match xs, h with | [_, _], _ => rfl)) (dg_tup rfl (dgs_cons (dg_name 2 sc_line_times.nd rfl (by first | exact Or.inl rfl | exact Or.inr rfl)) (dgs_cons (dg_name 3 sc_line_times.nd rfl (by first | exact Or.inl rfl | exact Or.inr rfl)) dgs_nil))))
  (sb_cons (ss_if (dw_pt (dw_and (dt_cmp op_gt od_gt (de_callB call_len fd_len (by rfl) T.z_len bt_len (da_cons (de_name 2) da_nil)) de_int) (dw_and1 (dt_cmp op_gt od_gt (de_callB call_len fd_len (by rfl) T.z_len bt_len (da_cons (de_name 3) da_nil)) de_int))))
  (sb_one (ss_expr (de_call (ok_want_at_most T) (hr.mono (by decide)) hgd (bindK_of (ks := []) (is := [0, 1, 2]) T.f_want_at_most fun _ _ _ _ _ _ us ws h1 h2 => match us, ws, h1, h2 with | [_, _, _], [], _, _ => rfl) (by rfl) T.g_want_at_most T.f_want_at_most.kp (da_cons de_str (da_cons (de_gint (by rfl) T.e_MOST_DEGREE T.r_MOST_DEGREE) (da_cons (de_op op_sub od_sub (de_op op_addA od_addA (de_callB call_len fd_len (by rfl) T.z_len bt_len (da_cons (de_name 2) da_nil)) (de_callB call_len fd_len (by rfl) T.z_len bt_len (da_cons (de_name 3) da_nil))) de_int) da_nil))) dk_nil (lenA_cons (lenA_cons (lenA_cons lenA_nil))) lenA_nil (fun xs h => match xs, h with | [_, _, _], _ => rfl))))
  sb_nil)
  (sb_one (ss_ret (de_call (ok_times_lines T) (hr.mono (by decide)) hgd (bindK_of (ks := []) (is := [0, 1]) T.f_times_lines fun _ _ _ _ _ _ us ws h1 h2 => match us, ws, h1, h2 with | [_, _], [], _, _ => rfl) (by rfl) T.g_times_lines T.f_times_lines.kp (da_cons (de_name 2) (da_cons (de_name 3) da_nil)) dk_nil (lenA_cons (lenA_cons lenA_nil)) lenA_nil (fun xs h => match xs, h with | [_, _], _ => rfl))))))
theorem sc_line_common : FnScope ["line", "other", "near", "far"] ["line", "other"] (defScope s_line_common) := ⟨rfl, rfl, rfl, by decide +kernel, rfl, by decide +kernel, by decide +kernel⟩
theorem ok_line_common (T : Tx K mg) : FnG P w K mg base 6 T.a_line_common T.d_line_common ["line", "other"] (spF K 2 m_line_common) := by
  unfold m_line_common
  refine ok_def (n := 4) rfl rfl T.f_line_common sc_line_common fun B cdv A outer s H E hr hgd => ?_
  unfold g_line_common g_line_common_s2 g_line_common_s1
  exact (sb_cons (ss_asg (de_call (ok_two_lines T) (hr.mono (by decide)) hgd (bindK_of (ks := []) (is := [0, 1]) T.f_two_lines fun _ _ _ _ _ _ us ws h1 h2 => match us, ws, h1, h2 with | [_, _], [], _, _ => rfl) (by rfl) T.g_two_lines T.f_two_lines.kp (da_cons (de_name 0) (da_cons (de_name 1) da_nil)) dk_nil (lenA_cons (lenA_cons lenA_nil)) lenA_nil (fun xs h => match xs, h with | [_, _], _ => rfl)) (dg_tup rfl (dgs_cons (dg_name 2 sc_line_common.nd rfl (by first | exact Or.inl rfl | exact Or.inr rfl)) (dgs_cons (dg_name 3 sc_line_common.nd rfl (by first | exact Or.inl rfl | exact Or.inr rfl)) dgs_nil))))
  (sb_one (ss_ret (de_call (ok_common_of T) (hr.mono (by decide)) hgd (bindK_of (ks := []) (is := [0, 1]) T.f_common_of fun _ _ _ _ _ _ us ws h1 h2 => match us, ws, h1, h2 with | [_, _], [], _, _ => rfl) (by rfl) T.g_common_of T.f_common_of.kp (da_cons (de_name 2) (da_cons (de_name 3) da_nil)) dk_nil (lenA_cons (lenA_cons lenA_nil)) lenA_nil (fun xs h => match xs, h with | [_, _], _ => rfl)))))
theorem sc_resultant : FnScope ["line", "other", "near", "far"] ["line", "other"] (defScope s_resultant) := ⟨rfl, rfl, rfl, by decide +kernel, rfl, by decide +kernel, by decide +kernel⟩
theorem ok_resultant (T : Tx K mg) : FnG P w K mg base 6 T.a_resultant T.d_resultant ["line", "other"] (spF K 2 m_resultant) := by
  unfold m_resultant
  refine ok_def (n := 4) rfl rfl T.f_resultant sc_resultant fun B cdv A outer s H E hr hgd => ?_
  unfold g_resultant g_resultant_s2 g_resultant_s1
  exact (sb_cons (ss_asg (de_call (ok_two_standing T) (hr.mono (by decide)) hgd (bindK_of (ks := []) (is := [0, 1]) T.f_two_standing fun _ _ _ _ _ _ us ws h1 h2 => match us, ws, h1, h2 with | [_, _], [], _, _ => rfl) (by rfl) T.g_two_standing T.f_two_standing.kp (da_cons (de_name 0) (da_cons (de_name 1) da_nil)) dk_nil (lenA_cons (lenA_cons lenA_nil)) lenA_nil (fun xs h => match xs, h with | [_, _], _ => rfl)) (dg_tup rfl (dgs_cons (dg_name 2 sc_resultant.nd rfl (by first | exact Or.inl rfl | exact Or.inr rfl)) (dgs_cons (dg_name 3 sc_resultant.nd rfl (by first | exact Or.inl rfl | exact Or.inr rfl)) dgs_nil))))
  (sb_one (ss_ret (de_call (ok_resultant_of T) (hr.mono (by decide)) hgd (bindK_of (ks := []) (is := [0, 1]) T.f_resultant_of fun _ _ _ _ _ _ us ws h1 h2 => match us, ws, h1, h2 with | [_, _], [], _, _ => rfl) (by rfl) T.g_resultant_of T.f_resultant_of.kp (da_cons (de_name 2) (da_cons (de_name 3) da_nil)) dk_nil (lenA_cons (lenA_cons lenA_nil)) lenA_nil (fun xs h => match xs, h with | [_, _], _ => rfl)))))
theorem sc__law_pair_right : FnScope ["_law_one", "_law_other", "_law_told", "_law_turn", "_law_back"] ["_law_one", "_law_other"] (defScope s__law_pair_right) := ⟨rfl, rfl, rfl, by decide +kernel, rfl, by decide +kernel, by decide +kernel⟩
theorem ok__law_pair_right (T : Tx K mg) : FnG P w K mg base 7 T.a__law_pair_right T.d__law_pair_right ["_law_one", "_law_other"] (spF K 2 m__law_pair_right) := by
  unfold m__law_pair_right
  refine ok_def (n := 5) rfl rfl T.f__law_pair_right sc__law_pair_right fun B cdv A outer s H E hr hgd => ?_
  unfold g__law_pair_right g__law_pair_right_s5 g__law_pair_right_s4 g__law_pair_right_s3 g__law_pair_right_s2 g__law_pair_right_s1
  exact (sb_cons (ss_set (i := 2) sc__law_pair_right.nd rfl (by first | exact Or.inl rfl | exact Or.inr rfl) (de_call (ok_resultant T) (hr.mono (by decide)) hgd (bindK_of (ks := []) (is := [0, 1]) T.f_resultant fun _ _ _ _ _ _ us ws h1 h2 => match us, ws, h1, h2 with | [_, _], [], _, _ => rfl) (by rfl) T.g_resultant T.f_resultant.kp (da_cons (de_name 0) (da_cons (de_name 1) da_nil)) dk_nil (lenA_cons (lenA_cons lenA_nil)) lenA_nil (fun xs h => match xs, h with | [_, _], _ => rfl)))
  (sb_cons (ss_if (dw_pt (dw_or (dt_cmp (op_neD hr.units) od_ne (de_name 2) (de_call (ok__law_determinant T) (hr.mono (by decide)) hgd (bindK_of (ks := []) (is := [0]) T.f__law_determinant fun _ _ _ _ _ _ us ws h1 h2 => match us, ws, h1, h2 with | [_], [], _, _ => rfl) (by rfl) T.g__law_determinant T.f__law_determinant.kp (da_cons (de_call (ok__law_table T) (hr.mono (by decide)) hgd (bindK_of (ks := []) (is := [0, 1]) T.f__law_table fun _ _ _ _ _ _ us ws h1 h2 => match us, ws, h1, h2 with | [_, _], [], _, _ => rfl) (by rfl) T.g__law_table T.f__law_table.kp (da_cons (de_name 0) (da_cons (de_name 1) da_nil)) dk_nil (lenA_cons (lenA_cons lenA_nil)) lenA_nil (fun xs h => match xs, h with | [_, _], _ => rfl)) da_nil) dk_nil (lenA_cons lenA_nil) lenA_nil (fun xs h => match xs, h with | [_], _ => rfl))) (dw_or1 (dt_cmp (op_neD hr.units) od_ne (de_call0 (ok_resultant T) (hr.mono (by decide)) hgd (bindK_of (ks := ["other", "line"]) (is := [1, 0]) T.f_resultant fun _ _ _ _ _ _ us ws h1 h2 => match us, ws, h1, h2 with | [], [_, _], _, _ => rfl) (by rfl) T.g_resultant T.f_resultant.kp (dk_cons (de_callT call_tuple_of fd_tuple (by rfl) T.z_tuple bt_tuple (da_cons (de_name 1) da_nil)) (dk_cons (de_name 0) dk_nil)) (lenA_cons (lenA_cons lenA_nil)) (fun xs h => match xs, h with | [_, _], _ => rfl)) (de_name 2)))))
  (sb_one (ss_ret de_bl))
  sb_nil)
  (sb_cons (ss_set (i := 3) sc__law_pair_right.nd rfl (by first | exact Or.inl rfl | exact Or.inr rfl) (de_op op_mulA od_mulA (de_op op_sub od_sub (de_callB call_len fd_len (by rfl) T.z_len bt_len (da_cons (de_name 0) da_nil)) de_int) (de_op op_sub od_sub (de_callB call_len fd_len (by rfl) T.z_len bt_len (da_cons (de_name 1) da_nil)) de_int)))
  (sb_cons (ss_set (i := 4) sc__law_pair_right.nd rfl (by first | exact Or.inl rfl | exact Or.inr rfl) (de_if (dt_cmp (op_eqD hr.units) od_eq (de_op op_mulA od_mulA (de_op op_fdivZ od_fdivZ (de_name 3) de_int) de_int) (de_name 3)) (de_name 2) (de_op op_sub od_sub de_int (de_name 2))))
  (sb_one (ss_ret (de_and (de_cmp (op_eqD hr.units) od_eq (de_call (ok_resultant T) (hr.mono (by decide)) hgd (bindK_of (ks := []) (is := [0, 1]) T.f_resultant fun _ _ _ _ _ _ us ws h1 h2 => match us, ws, h1, h2 with | [_, _], [], _, _ => rfl) (by rfl) T.g_resultant T.f_resultant.kp (da_cons (de_name 1) (da_cons (de_name 0) da_nil)) dk_nil (lenA_cons (lenA_cons lenA_nil)) lenA_nil (fun xs h => match xs, h with | [_, _], _ => rfl)) (de_name 4)) (de_one (de_cmp (op_eqD hr.units) od_eq (de_cmp (op_eqD hr.units) od_eq (de_name 2) de_int) (de_cmp op_gt od_gt (de_callB call_len fd_len (by rfl) T.z_len bt_len (da_cons (de_call (ok_line_common T) (hr.mono (by decide)) hgd (bindK_of (ks := []) (is := [0, 1]) T.f_line_common fun _ _ _ _ _ _ us ws h1 h2 => match us, ws, h1, h2 with | [_, _], [], _, _ => rfl) (by rfl) T.g_line_common T.f_line_common.kp (da_cons (de_name 0) (da_cons (de_name 1) da_nil)) dk_nil (lenA_cons (lenA_cons lenA_nil)) lenA_nil (fun xs h => match xs, h with | [_, _], _ => rfl)) da_nil)) de_int))))))))))
theorem sc__law_right : FnScope ["_law_pot_here", "_law_one", "_law_other", "_law_third", "_law_line_here", "_law_last", "_law_due", "_law_roots", "_law_turn", "_law_root"] ["_law_pot_here"] (defScope s__law_right) := ⟨rfl, rfl, rfl, by decide +kernel, rfl, by decide +kernel, by decide +kernel⟩
theorem ok__law_right (T : Tx K mg) : FnG P w K mg base 8 T.a__law_right T.d__law_right ["_law_pot_here"] (spI K 1 m__law_right) := by
  unfold m__law_right
  refine ok_defI (n := 10) rfl rfl rfl T.f__law_right sc__law_right fun B cdv A outer s H E hr hgd => ?_
  unfold g__law_right g__law_right_s11 g__law_right_s10 g__law_right_s9 g__law_right_s8 g__law_right_s7 g__law_right_s6 g__law_right_s5 g__law_right_s4 g__law_right_s3 g__law_right_s2 g__law_right_s1 g__law_right_f2 g__law_right_b2 g__law_right_f1 g__law_right_b1
  exact (sb_cons (ss_par3 (i := 1) (j := 2) (k := 3) rfl sc__law_right.nd rfl rfl rfl (by decide) (by decide) (by decide) rfl rfl rfl (da_cons (de_callI (ok__law_line T) (hr.mono (by decide)) hgd (bindK_of (ks := []) (is := [0, 1, 2]) T.f__law_line fun _ _ _ _ _ _ us ws h1 h2 => match us, ws, h1, h2 with | [_, _, _], [], _, _ => rfl) (by rfl) T.g__law_line T.f__law_line.kp (da_cons (de_name 0) (da_cons (de_callI (ok__law_draw T) (hr.mono (by decide)) hgd (bindK_of (ks := []) (is := [0, 1]) T.f__law_draw fun _ _ _ _ _ _ us ws h1 h2 => match us, ws, h1, h2 with | [_, _], [], _, _ => rfl) (by rfl) T.g__law_draw T.f__law_draw.kp (da_cons (de_name 0) (da_cons de_int da_nil)) (lenA_cons (lenA_cons lenA_nil)) fun xs h => match xs, h with | [_, _], _ => rfl) (da_cons de_int da_nil))) (lenA_cons (lenA_cons (lenA_cons lenA_nil))) fun xs h => match xs, h with | [_, _, _], _ => rfl) (da_cons (de_callI (ok__law_line T) (hr.mono (by decide)) hgd (bindK_of (ks := []) (is := [0, 1, 2]) T.f__law_line fun _ _ _ _ _ _ us ws h1 h2 => match us, ws, h1, h2 with | [_, _, _], [], _, _ => rfl) (by rfl) T.g__law_line T.f__law_line.kp (da_cons (de_name 0) (da_cons (de_callI (ok__law_draw T) (hr.mono (by decide)) hgd (bindK_of (ks := []) (is := [0, 1]) T.f__law_draw fun _ _ _ _ _ _ us ws h1 h2 => match us, ws, h1, h2 with | [_, _], [], _, _ => rfl) (by rfl) T.g__law_draw T.f__law_draw.kp (da_cons (de_name 0) (da_cons de_int da_nil)) (lenA_cons (lenA_cons lenA_nil)) fun xs h => match xs, h with | [_, _], _ => rfl) (da_cons de_int da_nil))) (lenA_cons (lenA_cons (lenA_cons lenA_nil))) fun xs h => match xs, h with | [_, _, _], _ => rfl) (da_cons (de_callI (ok__law_line T) (hr.mono (by decide)) hgd (bindK_of (ks := []) (is := [0, 1, 2]) T.f__law_line fun _ _ _ _ _ _ us ws h1 h2 => match us, ws, h1, h2 with | [_, _, _], [], _, _ => rfl) (by rfl) T.g__law_line T.f__law_line.kp (da_cons (de_name 0) (da_cons (de_callI (ok__law_draw T) (hr.mono (by decide)) hgd (bindK_of (ks := []) (is := [0, 1]) T.f__law_draw fun _ _ _ _ _ _ us ws h1 h2 => match us, ws, h1, h2 with | [_, _], [], _, _ => rfl) (by rfl) T.g__law_draw T.f__law_draw.kp (da_cons (de_name 0) (da_cons de_int da_nil)) (lenA_cons (lenA_cons lenA_nil)) fun xs h => match xs, h with | [_, _], _ => rfl) (da_cons de_int da_nil))) (lenA_cons (lenA_cons (lenA_cons lenA_nil))) fun xs h => match xs, h with | [_, _, _], _ => rfl) da_nil))) (by rfl))
  (sb_cons (ss_if (dt_cmp (op_eqD hr.units) od_eq (de_callI (ok__law_draw T) (hr.mono (by decide)) hgd (bindK_of (ks := []) (is := [0, 1]) T.f__law_draw fun _ _ _ _ _ _ us ws h1 h2 => match us, ws, h1, h2 with | [_, _], [], _, _ => rfl) (by rfl) T.g__law_draw T.f__law_draw.kp (da_cons (de_name 0) (da_cons de_int da_nil)) (lenA_cons (lenA_cons lenA_nil)) fun xs h => match xs, h with | [_, _], _ => rfl) de_int)
  (sb_one (ss_frz 2 (ss_frz 3 (ss_frz 1 (ss_par (i := 1) (j := 2) rfl sc__law_right.nd rfl rfl (by decide) rfl rfl (da_cons (de_call (ok_line_times T) (hr.mono (by decide)) hgd (bindK_of (ks := []) (is := [0, 1]) T.f_line_times fun _ _ _ _ _ _ us ws h1 h2 => match us, ws, h1, h2 with | [_, _], [], _, _ => rfl) (by rfl) T.g_line_times T.f_line_times.kp (da_cons (de_name 1) (da_cons (de_name 3) da_nil)) dk_nil (lenA_cons (lenA_cons lenA_nil)) lenA_nil (fun xs h => match xs, h with | [_, _], _ => rfl)) (da_cons (de_call (ok_line_times T) (hr.mono (by decide)) hgd (bindK_of (ks := []) (is := [0, 1]) T.f_line_times fun _ _ _ _ _ _ us ws h1 h2 => match us, ws, h1, h2 with | [_, _], [], _, _ => rfl) (by rfl) T.g_line_times T.f_line_times.kp (da_cons (de_name 3) (da_cons (de_name 2) da_nil)) dk_nil (lenA_cons (lenA_cons lenA_nil)) lenA_nil (fun xs h => match xs, h with | [_, _], _ => rfl)) da_nil)) (by rfl))))))
  sb_nil)
  (sb_cons (ss_if (dw_pt (dw_or (dt_not (dt_val (de_callL (ok__law_pair_right T) (hr.mono (by decide)) hgd (bindK_of (ks := []) (is := [0, 1]) T.f__law_pair_right fun _ _ _ _ _ _ us ws h1 h2 => match us, ws, h1, h2 with | [_, _], [], _, _ => rfl) (by rfl) T.g__law_pair_right T.f__law_pair_right.kp (da_cons (de_name 1) (da_cons (de_name 2) da_nil)) (lenA_cons (lenA_cons lenA_nil)) fun xs h => match xs, h with | [_, _], _ => rfl))) (dw_or1 (dt_not (dt_val (de_callL (ok__law_pair_right T) (hr.mono (by decide)) hgd (bindK_of (ks := []) (is := [0, 1]) T.f__law_pair_right fun _ _ _ _ _ _ us ws h1 h2 => match us, ws, h1, h2 with | [_, _], [], _, _ => rfl) (by rfl) T.g__law_pair_right T.f__law_pair_right.kp (da_cons (de_name 2) (da_cons (de_name 3) da_nil)) (lenA_cons (lenA_cons lenA_nil)) fun xs h => match xs, h with | [_, _], _ => rfl))))))
  (sb_one (ss_ret de_bl))
  sb_nil)
  (sb_cons (ss_frz 3 (ss_frz 1 (ss_if (dt_cmp (op_neD hr.units) od_ne (de_callL (ok_resultant T) (hr.mono (by decide)) hgd (bindK_of (ks := []) (is := [0, 1]) T.f_resultant fun _ _ _ _ _ _ us ws h1 h2 => match us, ws, h1, h2 with | [_, _], [], _, _ => rfl) (by rfl) T.g_resultant T.f_resultant.kp (da_cons (de_call (ok__law_times T) (hr.mono (by decide)) hgd (bindK_of (ks := []) (is := [0, 1]) T.f__law_times fun _ _ _ _ _ _ us ws h1 h2 => match us, ws, h1, h2 with | [_, _], [], _, _ => rfl) (by rfl) T.g__law_times T.f__law_times.kp (da_cons (de_name 1) (da_cons (de_name 3) da_nil)) dk_nil (lenA_cons (lenA_cons lenA_nil)) lenA_nil (fun xs h => match xs, h with | [_, _], _ => rfl)) (da_cons (de_name 2) da_nil)) (lenA_cons (lenA_cons lenA_nil)) fun xs h => match xs, h with | [_, _], _ => rfl) (de_op op_mulA od_mulA (de_callL (ok_resultant T) (hr.mono (by decide)) hgd (bindK_of (ks := []) (is := [0, 1]) T.f_resultant fun _ _ _ _ _ _ us ws h1 h2 => match us, ws, h1, h2 with | [_, _], [], _, _ => rfl) (by rfl) T.g_resultant T.f_resultant.kp (da_cons (de_name 1) (da_cons (de_name 2) da_nil)) (lenA_cons (lenA_cons lenA_nil)) fun xs h => match xs, h with | [_, _], _ => rfl) (de_callL (ok_resultant T) (hr.mono (by decide)) hgd (bindK_of (ks := []) (is := [0, 1]) T.f_resultant fun _ _ _ _ _ _ us ws h1 h2 => match us, ws, h1, h2 with | [_, _], [], _, _ => rfl) (by rfl) T.g_resultant T.f_resultant.kp (da_cons (de_name 3) (da_cons (de_name 2) da_nil)) (lenA_cons (lenA_cons lenA_nil)) fun xs h => match xs, h with | [_, _], _ => rfl)))
  (sb_one (ss_ret de_bl))
  sb_nil)))
  (sb_cons (ss_par3 (i := 4) (j := 5) (k := 6) rfl sc__law_right.nd rfl rfl rfl (by decide) (by decide) (by decide) rfl rfl rfl (da_cons (de_lst (da_cons (de_callI (ok__law_pick T) (hr.mono (by decide)) hgd (bindK_of (ks := []) (is := [0, 1]) T.f__law_pick fun _ _ _ _ _ _ us ws h1 h2 => match us, ws, h1, h2 with | [_, _], [], _, _ => rfl) (by rfl) T.g__law_pick T.f__law_pick.kp (da_cons (de_name 0) (da_cons (de_lst (da_cons de_int (da_cons (de_un un_neg ud_neg de_int) (da_cons de_int da_nil)))) da_nil)) (lenA_cons (lenA_cons lenA_nil)) fun xs h => match xs, h with | [_, _], _ => rfl) da_nil)) (da_cons de_int (da_cons de_int da_nil))) (by rfl))
  (sb_cons (ss_set (i := 5) sc__law_right.nd rfl (by first | exact Or.inl rfl | exact Or.inr rfl) (de_ix (de_name 4) de_int))
  (sb_cons (ss_set (i := 7) sc__law_right.nd rfl (by first | exact Or.inl rfl | exact Or.inr rfl) (de_lst da_nil))
  (sb_cons (ss_for PassesOwn.never rfl (di_range1 (by rfl) T.z_range (da_cons (de_callI (ok__law_draw T) (hr.mono (by decide)) hgd (bindK_of (ks := []) (is := [0, 1]) T.f__law_draw fun _ _ _ _ _ _ us ws h1 h2 => match us, ws, h1, h2 with | [_, _], [], _, _ => rfl) (by rfl) T.g__law_draw T.f__law_draw.kp (da_cons (de_name 0) (da_cons de_int da_nil)) (lenA_cons (lenA_cons lenA_nil)) fun xs h => match xs, h with | [_, _], _ => rfl) da_nil)) (dg_name 8 sc__law_right.nd rfl (by first | exact Or.inl rfl | exact Or.inr rfl))
  (sb_cons (ss_expr (de_meth 7 PySem.F.plainAttrs_list PySem.F.slot_list_append PySem.F.type_list_append mt_append md_append (pv 7) (da_cons (de_op op_sub od_sub (de_callI (ok__law_draw T) (hr.mono (by decide)) hgd (bindK_of (ks := []) (is := [0, 1]) T.f__law_draw fun _ _ _ _ _ _ us ws h1 h2 => match us, ws, h1, h2 with | [_, _], [], _, _ => rfl) (by rfl) T.g__law_draw T.f__law_draw.kp (da_cons (de_name 0) (da_cons de_int da_nil)) (lenA_cons (lenA_cons lenA_nil)) fun xs h => match xs, h with | [_, _], _ => rfl) de_int) da_nil)))
  (sb_one (ss_frz 4 (ss_set (i := 4) sc__law_right.nd rfl (by first | exact Or.inl rfl | exact Or.inr rfl) (de_call (ok__law_times T) (hr.mono (by decide)) hgd (bindK_of (ks := []) (is := [0, 1]) T.f__law_times fun _ _ _ _ _ _ us ws h1 h2 => match us, ws, h1, h2 with | [_, _], [], _, _ => rfl) (by rfl) T.g__law_times T.f__law_times.kp (da_cons (de_name 4) (da_cons (de_lst (da_cons (de_op op_sub od_sub de_int (de_ix (de_name 7) (de_un un_neg ud_neg de_int))) (da_cons de_int da_nil))) da_nil)) dk_nil (lenA_cons (lenA_cons lenA_nil)) lenA_nil (fun xs h => match xs, h with | [_, _], _ => rfl)))))))
  (sb_cons (ss_set (i := 6) sc__law_right.nd rfl (by first | exact Or.inl rfl | exact Or.inr rfl) (de_callL (ok__law_power T) (hr.mono (by decide)) hgd (bindK_of (ks := []) (is := [0, 1]) T.f__law_power fun _ _ _ _ _ _ us ws h1 h2 => match us, ws, h1, h2 with | [_, _], [], _, _ => rfl) (by rfl) T.g__law_power T.f__law_power.kp (da_cons (de_name 5) (da_cons (de_op op_sub od_sub (de_callB call_len fd_len (by rfl) T.z_len bt_len (da_cons (de_name 2) da_nil)) de_int) da_nil)) (lenA_cons (lenA_cons lenA_nil)) fun xs h => match xs, h with | [_, _], _ => rfl))
  (sb_cons (ss_frz 7 (ss_for PassesOwn.never rfl (di_seq (de_name 7)) (dg_name 9 sc__law_right.nd rfl (by first | exact Or.inl rfl | exact Or.inr rfl))
  (sb_one (ss_set (i := 6) sc__law_right.nd rfl (by first | exact Or.inl rfl | exact Or.inr rfl) (de_op op_mulA od_mulA (de_name 6) (de_callL (ok__law_value T) (hr.mono (by decide)) hgd (bindK_of (ks := []) (is := [0, 1]) T.f__law_value fun _ _ _ _ _ _ us ws h1 h2 => match us, ws, h1, h2 with | [_, _], [], _, _ => rfl) (by rfl) T.g__law_value T.f__law_value.kp (da_cons (de_name 2) (da_cons (de_name 9) da_nil)) (lenA_cons (lenA_cons lenA_nil)) fun xs h => match xs, h with | [_, _], _ => rfl))))))
  (sb_cons (ss_if (dt_cmp (op_neD hr.units) od_ne (de_callL (ok_resultant T) (hr.mono (by decide)) hgd (bindK_of (ks := []) (is := [0, 1]) T.f_resultant fun _ _ _ _ _ _ us ws h1 h2 => match us, ws, h1, h2 with | [_, _], [], _, _ => rfl) (by rfl) T.g_resultant T.f_resultant.kp (da_cons (de_name 4) (da_cons (de_name 2) da_nil)) (lenA_cons (lenA_cons lenA_nil)) fun xs h => match xs, h with | [_, _], _ => rfl) (de_name 6))
  (sb_one (ss_ret de_bl))
  sb_nil)
  (sb_one (ss_ret (de_cmp (op_eqD hr.units) od_eq (de_lst (da_cons (de_call (ok_resultant T) (hr.mono (by decide)) hgd (bindK_of (ks := []) (is := [0, 1]) T.f_resultant fun _ _ _ _ _ _ us ws h1 h2 => match us, ws, h1, h2 with | [_, _], [], _, _ => rfl) (by rfl) T.g_resultant T.f_resultant.kp (da_cons (de_lst (da_cons de_int da_nil)) (da_cons (de_lst (da_cons de_int (da_cons de_int (da_cons de_int da_nil)))) da_nil)) dk_nil (lenA_cons (lenA_cons lenA_nil)) lenA_nil (fun xs h => match xs, h with | [_, _], _ => rfl)) (da_cons (de_call (ok_resultant T) (hr.mono (by decide)) hgd (bindK_of (ks := []) (is := [0, 1]) T.f_resultant fun _ _ _ _ _ _ us ws h1 h2 => match us, ws, h1, h2 with | [_, _], [], _, _ => rfl) (by rfl) T.g_resultant T.f_resultant.kp (da_cons (de_lst (da_cons de_int (da_cons de_int (da_cons de_int da_nil)))) (da_cons (de_lst (da_cons de_int da_nil)) da_nil)) dk_nil (lenA_cons (lenA_cons lenA_nil)) lenA_nil (fun xs h => match xs, h with | [_, _], _ => rfl)) (da_cons (de_call (ok_resultant T) (hr.mono (by decide)) hgd (bindK_of (ks := []) (is := [0, 1]) T.f_resultant fun _ _ _ _ _ _ us ws h1 h2 => match us, ws, h1, h2 with | [_, _], [], _, _ => rfl) (by rfl) T.g_resultant T.f_resultant.kp (da_cons (de_lst (da_cons de_int da_nil)) (da_cons (de_lst (da_cons de_int da_nil)) da_nil)) dk_nil (lenA_cons (lenA_cons lenA_nil)) lenA_nil (fun xs h => match xs, h with | [_, _], _ => rfl)) (da_cons (de_call (ok_resultant T) (hr.mono (by decide)) hgd (bindK_of (ks := []) (is := [0, 1]) T.f_resultant fun _ _ _ _ _ _ us ws h1 h2 => match us, ws, h1, h2 with | [_, _], [], _, _ => rfl) (by rfl) T.g_resultant T.f_resultant.kp (da_cons (de_lst (da_cons (de_un un_neg ud_neg de_int) (da_cons de_int da_nil))) (da_cons (de_lst (da_cons (de_un un_neg ud_neg de_int) (da_cons de_int da_nil))) da_nil)) dk_nil (lenA_cons (lenA_cons lenA_nil)) lenA_nil (fun xs h => match xs, h with | [_, _], _ => rfl)) da_nil))))) (de_lst (da_cons de_int (da_cons de_int (da_cons de_int (da_cons de_int da_nil)))))))))))))))))))
theorem sc_law : FnScope ["_law_script"] ["_law_script"] (defScope s_law) := ⟨rfl, rfl, rfl, by decide +kernel, rfl, by decide +kernel, by decide +kernel⟩
theorem ok_law (T : Tx K mg) : FnG P w K mg base 9 T.a_law T.d_law ["_law_script"] (spF K 1 m_law) := by
  unfold m_law
  refine ok_def (n := 1) rfl rfl T.f_law sc_law fun B cdv A outer s H E hr hgd => ?_
  unfold g_law g_law_s1
  exact (sb_one (ss_ret (de_callO (ok__law_right T) (hr.mono (by decide)) hgd (bindK_of (ks := []) (is := [0]) T.f__law_right fun _ _ _ _ _ _ us ws h1 h2 => match us, ws, h1, h2 with | [_], [], _, _ => rfl) (by rfl) T.g__law_right T.f__law_right.kp (de_call (ok__law_pot T) (hr.mono (by decide)) hgd (bindK_of (ks := []) (is := [0, 1]) T.f__law_pot fun _ _ _ _ _ _ us ws h1 h2 => match us, ws, h1, h2 with | [_, _], [], _, _ => rfl) (by rfl) T.g__law_pot T.f__law_pot.kp (da_cons (de_name 0) (da_cons de_int da_nil)) dk_nil (lenA_cons (lenA_cons lenA_nil)) lenA_nil (fun xs h => match xs, h with | [_, _], _ => rfl)) fun xs h => match xs, h with | [_], _ => rfl)))
end
theorem all_mk {l : PySem.W.OpenLaw} {w : World} {K : Fg} {h : Heap} {mg : Str → Option Value} {fa : Addr} (X : K.In h) (G : h.Ns mainGlobals mg) (hfa : mg "law" = some (.ref fa))
        {f1 : Addr} {od1 an1 : Option Addr} {sl1 : Array (Option Value)} {oc1 kV1 dc1 pm1 cd1 ct1 : Value} (a1 : PySem.W.nsIn K mainGlobals "is_integer" = some (some (.ref f1))) (l1 : K.lookup f1 = some ⟨oc1, od1, .func (PySem.W.fnOf "is_integer" "is_integer" (defArgs s_is_integer) (defBody s_is_integer) (defScope s_is_integer) .none kV1 dc1 pm1 an1 cd1 ct1), sl1⟩) (c1 : PySem.W.codeIn K cd1 "is_integer" = true) (k1 : PySem.W.keepIn K (.ref f1) = true)
    {f2 : Addr} {od2 an2 : Option Addr} {sl2 : Array (Option Value)} {oc2 kV2 dc2 pm2 cd2 ct2 : Value} (a2 : PySem.W.nsIn K mainGlobals "is_list" = some (some (.ref f2))) (l2 : K.lookup f2 = some ⟨oc2, od2, .func (PySem.W.fnOf "is_list" "is_list" (defArgs s_is_list) (defBody s_is_list) (defScope s_is_list) .none kV2 dc2 pm2 an2 cd2 ct2), sl2⟩) (c2 : PySem.W.codeIn K cd2 "is_list" = true) (k2 : PySem.W.keepIn K (.ref f2) = true)
    {f3 : Addr} {od3 an3 : Option Addr} {sl3 : Array (Option Value)} {oc3 kV3 dc3 pm3 cd3 ct3 : Value} (a3 : PySem.W.nsIn K mainGlobals "want_at_most" = some (some (.ref f3))) (l3 : K.lookup f3 = some ⟨oc3, od3, .func (PySem.W.fnOf "want_at_most" "want_at_most" (defArgs s_want_at_most) (defBody s_want_at_most) (defScope s_want_at_most) .none kV3 dc3 pm3 an3 cd3 ct3), sl3⟩) (c3 : PySem.W.codeIn K cd3 "want_at_most" = true) (k3 : PySem.W.keepIn K (.ref f3) = true)
    {f4 : Addr} {od4 an4 : Option Addr} {sl4 : Array (Option Value)} {oc4 kV4 dc4 pm4 cd4 ct4 : Value} (a4 : PySem.W.nsIn K mainGlobals "divisor_of" = some (some (.ref f4))) (l4 : K.lookup f4 = some ⟨oc4, od4, .func (PySem.W.fnOf "divisor_of" "divisor_of" (defArgs s_divisor_of) (defBody s_divisor_of) (defScope s_divisor_of) .none kV4 dc4 pm4 an4 cd4 ct4), sl4⟩) (c4 : PySem.W.codeIn K cd4 "divisor_of" = true) (k4 : PySem.W.keepIn K (.ref f4) = true)
    {f5 : Addr} {od5 an5 : Option Addr} {sl5 : Array (Option Value)} {oc5 kV5 dc5 pm5 cd5 ct5 : Value} (a5 : PySem.W.nsIn K mainGlobals "power_by" = some (some (.ref f5))) (l5 : K.lookup f5 = some ⟨oc5, od5, .func (PySem.W.fnOf "power_by" "power_by" (defArgs s_power_by) (defBody s_power_by) (defScope s_power_by) .none kV5 dc5 pm5 an5 cd5 ct5), sl5⟩) (c5 : PySem.W.codeIn K cd5 "power_by" = true) (k5 : PySem.W.keepIn K (.ref f5) = true)
    {f6 : Addr} {od6 an6 : Option Addr} {sl6 : Array (Option Value)} {oc6 kV6 dc6 pm6 cd6 ct6 : Value} (a6 : PySem.W.nsIn K mainGlobals "trimmed" = some (some (.ref f6))) (l6 : K.lookup f6 = some ⟨oc6, od6, .func (PySem.W.fnOf "trimmed" "trimmed" (defArgs s_trimmed) (defBody s_trimmed) (defScope s_trimmed) .none kV6 dc6 pm6 an6 cd6 ct6), sl6⟩) (c6 : PySem.W.codeIn K cd6 "trimmed" = true) (k6 : PySem.W.keepIn K (.ref f6) = true)
    {f7 : Addr} {od7 an7 : Option Addr} {sl7 : Array (Option Value)} {oc7 kV7 dc7 pm7 cd7 ct7 : Value} (a7 : PySem.W.nsIn K mainGlobals "scaled_line" = some (some (.ref f7))) (l7 : K.lookup f7 = some ⟨oc7, od7, .func (PySem.W.fnOf "scaled_line" "scaled_line" (defArgs s_scaled_line) (defBody s_scaled_line) (defScope s_scaled_line) .none kV7 dc7 pm7 an7 cd7 ct7), sl7⟩) (c7 : PySem.W.codeIn K cd7 "scaled_line" = true) (k7 : PySem.W.keepIn K (.ref f7) = true)
    {f8 : Addr} {od8 an8 : Option Addr} {sl8 : Array (Option Value)} {oc8 kV8 dc8 pm8 cd8 ct8 : Value} (a8 : PySem.W.nsIn K mainGlobals "times_lines" = some (some (.ref f8))) (l8 : K.lookup f8 = some ⟨oc8, od8, .func (PySem.W.fnOf "times_lines" "times_lines" (defArgs s_times_lines) (defBody s_times_lines) (defScope s_times_lines) .none kV8 dc8 pm8 an8 cd8 ct8), sl8⟩) (c8 : PySem.W.codeIn K cd8 "times_lines" = true) (k8 : PySem.W.keepIn K (.ref f8) = true)
    {f9 : Addr} {od9 an9 : Option Addr} {sl9 : Array (Option Value)} {oc9 kV9 dc9 pm9 cd9 ct9 : Value} (a9 : PySem.W.nsIn K mainGlobals "_law_pot" = some (some (.ref f9))) (l9 : K.lookup f9 = some ⟨oc9, od9, .func (PySem.W.fnOf "_law_pot" "_law_pot" (defArgs s__law_pot) (defBody s__law_pot) (defScope s__law_pot) .none kV9 dc9 pm9 an9 cd9 ct9), sl9⟩) (c9 : PySem.W.codeIn K cd9 "_law_pot" = true) (k9 : PySem.W.keepIn K (.ref f9) = true)
    {f10 : Addr} {od10 an10 : Option Addr} {sl10 : Array (Option Value)} {oc10 kV10 dc10 pm10 cd10 ct10 : Value} (a10 : PySem.W.nsIn K mainGlobals "_law_draw" = some (some (.ref f10))) (l10 : K.lookup f10 = some ⟨oc10, od10, .func (PySem.W.fnOf "_law_draw" "_law_draw" (defArgs s__law_draw) (defBody s__law_draw) (defScope s__law_draw) .none kV10 dc10 pm10 an10 cd10 ct10), sl10⟩) (c10 : PySem.W.codeIn K cd10 "_law_draw" = true) (k10 : PySem.W.keepIn K (.ref f10) = true)
    {f11 : Addr} {od11 an11 : Option Addr} {sl11 : Array (Option Value)} {oc11 kV11 dc11 pm11 cd11 ct11 : Value} (a11 : PySem.W.nsIn K mainGlobals "_law_trim" = some (some (.ref f11))) (l11 : K.lookup f11 = some ⟨oc11, od11, .func (PySem.W.fnOf "_law_trim" "_law_trim" (defArgs s__law_trim) (defBody s__law_trim) (defScope s__law_trim) .none kV11 dc11 pm11 an11 cd11 ct11), sl11⟩) (c11 : PySem.W.codeIn K cd11 "_law_trim" = true) (k11 : PySem.W.keepIn K (.ref f11) = true)
    {f12 : Addr} {od12 an12 : Option Addr} {sl12 : Array (Option Value)} {oc12 kV12 dc12 pm12 cd12 ct12 : Value} (a12 : PySem.W.nsIn K mainGlobals "_law_value" = some (some (.ref f12))) (l12 : K.lookup f12 = some ⟨oc12, od12, .func (PySem.W.fnOf "_law_value" "_law_value" (defArgs s__law_value) (defBody s__law_value) (defScope s__law_value) .none kV12 dc12 pm12 an12 cd12 ct12), sl12⟩) (c12 : PySem.W.codeIn K cd12 "_law_value" = true) (k12 : PySem.W.keepIn K (.ref f12) = true)
    {f13 : Addr} {od13 an13 : Option Addr} {sl13 : Array (Option Value)} {oc13 kV13 dc13 pm13 cd13 ct13 : Value} (a13 : PySem.W.nsIn K mainGlobals "_law_determinant" = some (some (.ref f13))) (l13 : K.lookup f13 = some ⟨oc13, od13, .func (PySem.W.fnOf "_law_determinant" "_law_determinant" (defArgs s__law_determinant) (defBody s__law_determinant) (defScope s__law_determinant) .none kV13 dc13 pm13 an13 cd13 ct13), sl13⟩) (c13 : PySem.W.codeIn K cd13 "_law_determinant" = true) (k13 : PySem.W.keepIn K (.ref f13) = true)
    {f14 : Addr} {od14 an14 : Option Addr} {sl14 : Array (Option Value)} {oc14 kV14 dc14 pm14 cd14 ct14 : Value} (a14 : PySem.W.nsIn K mainGlobals "_law_table" = some (some (.ref f14))) (l14 : K.lookup f14 = some ⟨oc14, od14, .func (PySem.W.fnOf "_law_table" "_law_table" (defArgs s__law_table) (defBody s__law_table) (defScope s__law_table) .none kV14 dc14 pm14 an14 cd14 ct14), sl14⟩) (c14 : PySem.W.codeIn K cd14 "_law_table" = true) (k14 : PySem.W.keepIn K (.ref f14) = true)
    {f15 : Addr} {od15 an15 : Option Addr} {sl15 : Array (Option Value)} {oc15 kV15 dc15 pm15 cd15 ct15 : Value} (a15 : PySem.W.nsIn K mainGlobals "_law_power" = some (some (.ref f15))) (l15 : K.lookup f15 = some ⟨oc15, od15, .func (PySem.W.fnOf "_law_power" "_law_power" (defArgs s__law_power) (defBody s__law_power) (defScope s__law_power) .none kV15 dc15 pm15 an15 cd15 ct15), sl15⟩) (c15 : PySem.W.codeIn K cd15 "_law_power" = true) (k15 : PySem.W.keepIn K (.ref f15) = true)
    {f16 : Addr} {od16 an16 : Option Addr} {sl16 : Array (Option Value)} {oc16 kV16 dc16 pm16 cd16 ct16 : Value} (a16 : PySem.W.nsIn K mainGlobals "greatest_of" = some (some (.ref f16))) (l16 : K.lookup f16 = some ⟨oc16, od16, .func (PySem.W.fnOf "greatest_of" "greatest_of" (defArgs s_greatest_of) (defBody s_greatest_of) (defScope s_greatest_of) .none kV16 dc16 pm16 an16 cd16 ct16), sl16⟩) (c16 : PySem.W.codeIn K cd16 "greatest_of" = true) (k16 : PySem.W.keepIn K (.ref f16) = true)
    {f17 : Addr} {od17 an17 : Option Addr} {sl17 : Array (Option Value)} {oc17 kV17 dc17 pm17 cd17 ct17 : Value} (a17 : PySem.W.nsIn K mainGlobals "plus_lines" = some (some (.ref f17))) (l17 : K.lookup f17 = some ⟨oc17, od17, .func (PySem.W.fnOf "plus_lines" "plus_lines" (defArgs s_plus_lines) (defBody s_plus_lines) (defScope s_plus_lines) .none kV17 dc17 pm17 an17 cd17 ct17), sl17⟩) (c17 : PySem.W.codeIn K cd17 "plus_lines" = true) (k17 : PySem.W.keepIn K (.ref f17) = true)
    {f18 : Addr} {od18 an18 : Option Addr} {sl18 : Array (Option Value)} {oc18 kV18 dc18 pm18 cd18 ct18 : Value} (a18 : PySem.W.nsIn K mainGlobals "line_in" = some (some (.ref f18))) (l18 : K.lookup f18 = some ⟨oc18, od18, .func (PySem.W.fnOf "line_in" "line_in" (defArgs s_line_in) (defBody s_line_in) (defScope s_line_in) .none kV18 dc18 pm18 an18 cd18 ct18), sl18⟩) (c18 : PySem.W.codeIn K cd18 "line_in" = true) (k18 : PySem.W.keepIn K (.ref f18) = true)
    {f19 : Addr} {od19 an19 : Option Addr} {sl19 : Array (Option Value)} {oc19 kV19 dc19 pm19 cd19 ct19 : Value} (a19 : PySem.W.nsIn K mainGlobals "_law_pick" = some (some (.ref f19))) (l19 : K.lookup f19 = some ⟨oc19, od19, .func (PySem.W.fnOf "_law_pick" "_law_pick" (defArgs s__law_pick) (defBody s__law_pick) (defScope s__law_pick) .none kV19 dc19 pm19 an19 cd19 ct19), sl19⟩) (c19 : PySem.W.codeIn K cd19 "_law_pick" = true) (k19 : PySem.W.keepIn K (.ref f19) = true)
    {f20 : Addr} {od20 an20 : Option Addr} {sl20 : Array (Option Value)} {oc20 kV20 dc20 pm20 cd20 ct20 : Value} (a20 : PySem.W.nsIn K mainGlobals "_law_times" = some (some (.ref f20))) (l20 : K.lookup f20 = some ⟨oc20, od20, .func (PySem.W.fnOf "_law_times" "_law_times" (defArgs s__law_times) (defBody s__law_times) (defScope s__law_times) .none kV20 dc20 pm20 an20 cd20 ct20), sl20⟩) (c20 : PySem.W.codeIn K cd20 "_law_times" = true) (k20 : PySem.W.keepIn K (.ref f20) = true)
    {f21 : Addr} {od21 an21 : Option Addr} {sl21 : Array (Option Value)} {oc21 kV21 dc21 pm21 cd21 ct21 : Value} (a21 : PySem.W.nsIn K mainGlobals "minus_lines" = some (some (.ref f21))) (l21 : K.lookup f21 = some ⟨oc21, od21, .func (PySem.W.fnOf "minus_lines" "minus_lines" (defArgs s_minus_lines) (defBody s_minus_lines) (defScope s_minus_lines) .none kV21 dc21 pm21 an21 cd21 ct21), sl21⟩) (c21 : PySem.W.codeIn K cd21 "minus_lines" = true) (k21 : PySem.W.keepIn K (.ref f21) = true)
    {f22 : Addr} {od22 an22 : Option Addr} {sl22 : Array (Option Value)} {oc22 kV22 dc22 pm22 cd22 ct22 : Value} (a22 : PySem.W.nsIn K mainGlobals "plain_of" = some (some (.ref f22))) (l22 : K.lookup f22 = some ⟨oc22, od22, .func (PySem.W.fnOf "plain_of" "plain_of" (defArgs s_plain_of) (defBody s_plain_of) (defScope s_plain_of) .none kV22 dc22 pm22 an22 cd22 ct22), sl22⟩) (c22 : PySem.W.codeIn K cd22 "plain_of" = true) (k22 : PySem.W.keepIn K (.ref f22) = true)
    {f23 : Addr} {od23 an23 : Option Addr} {sl23 : Array (Option Value)} {oc23 kV23 dc23 pm23 cd23 ct23 : Value} (a23 : PySem.W.nsIn K mainGlobals "want_line" = some (some (.ref f23))) (l23 : K.lookup f23 = some ⟨oc23, od23, .func (PySem.W.fnOf "want_line" "want_line" (defArgs s_want_line) (defBody s_want_line) (defScope s_want_line) .none kV23 dc23 pm23 an23 cd23 ct23), sl23⟩) (c23 : PySem.W.codeIn K cd23 "want_line" = true) (k23 : PySem.W.keepIn K (.ref f23) = true)
    {f24 : Addr} {od24 an24 : Option Addr} {sl24 : Array (Option Value)} {oc24 kV24 dc24 pm24 cd24 ct24 : Value} (a24 : PySem.W.nsIn K mainGlobals "_law_line" = some (some (.ref f24))) (l24 : K.lookup f24 = some ⟨oc24, od24, .func (PySem.W.fnOf "_law_line" "_law_line" (defArgs s__law_line) (defBody s__law_line) (defScope s__law_line) .none kV24 dc24 pm24 an24 cd24 ct24), sl24⟩) (c24 : PySem.W.codeIn K cd24 "_law_line" = true) (k24 : PySem.W.keepIn K (.ref f24) = true)
    {f25 : Addr} {od25 an25 : Option Addr} {sl25 : Array (Option Value)} {oc25 kV25 dc25 pm25 cd25 ct25 : Value} (a25 : PySem.W.nsIn K mainGlobals "parted" = some (some (.ref f25))) (l25 : K.lookup f25 = some ⟨oc25, od25, .func (PySem.W.fnOf "parted" "parted" (defArgs s_parted) (defBody s_parted) (defScope s_parted) .none kV25 dc25 pm25 an25 cd25 ct25), sl25⟩) (c25 : PySem.W.codeIn K cd25 "parted" = true) (k25 : PySem.W.keepIn K (.ref f25) = true)
    {f26 : Addr} {od26 an26 : Option Addr} {sl26 : Array (Option Value)} {oc26 kV26 dc26 pm26 cd26 ct26 : Value} (a26 : PySem.W.nsIn K mainGlobals "two_lines" = some (some (.ref f26))) (l26 : K.lookup f26 = some ⟨oc26, od26, .func (PySem.W.fnOf "two_lines" "two_lines" (defArgs s_two_lines) (defBody s_two_lines) (defScope s_two_lines) .none kV26 dc26 pm26 an26 cd26 ct26), sl26⟩) (c26 : PySem.W.codeIn K cd26 "two_lines" = true) (k26 : PySem.W.keepIn K (.ref f26) = true)
    {f27 : Addr} {od27 an27 : Option Addr} {sl27 : Array (Option Value)} {oc27 kV27 dc27 pm27 cd27 ct27 : Value} (a27 : PySem.W.nsIn K mainGlobals "common_of" = some (some (.ref f27))) (l27 : K.lookup f27 = some ⟨oc27, od27, .func (PySem.W.fnOf "common_of" "common_of" (defArgs s_common_of) (defBody s_common_of) (defScope s_common_of) .none kV27 dc27 pm27 an27 cd27 ct27), sl27⟩) (c27 : PySem.W.codeIn K cd27 "common_of" = true) (k27 : PySem.W.keepIn K (.ref f27) = true)
    {f28 : Addr} {od28 an28 : Option Addr} {sl28 : Array (Option Value)} {oc28 kV28 dc28 pm28 cd28 ct28 : Value} (a28 : PySem.W.nsIn K mainGlobals "resultant_of" = some (some (.ref f28))) (l28 : K.lookup f28 = some ⟨oc28, od28, .func (PySem.W.fnOf "resultant_of" "resultant_of" (defArgs s_resultant_of) (defBody s_resultant_of) (defScope s_resultant_of) .none kV28 dc28 pm28 an28 cd28 ct28), sl28⟩) (c28 : PySem.W.codeIn K cd28 "resultant_of" = true) (k28 : PySem.W.keepIn K (.ref f28) = true)
    {f29 : Addr} {od29 an29 : Option Addr} {sl29 : Array (Option Value)} {oc29 kV29 dc29 pm29 cd29 ct29 : Value} (a29 : PySem.W.nsIn K mainGlobals "two_standing" = some (some (.ref f29))) (l29 : K.lookup f29 = some ⟨oc29, od29, .func (PySem.W.fnOf "two_standing" "two_standing" (defArgs s_two_standing) (defBody s_two_standing) (defScope s_two_standing) .none kV29 dc29 pm29 an29 cd29 ct29), sl29⟩) (c29 : PySem.W.codeIn K cd29 "two_standing" = true) (k29 : PySem.W.keepIn K (.ref f29) = true)
    {f30 : Addr} {od30 an30 : Option Addr} {sl30 : Array (Option Value)} {oc30 kV30 dc30 pm30 cd30 ct30 : Value} (a30 : PySem.W.nsIn K mainGlobals "line_times" = some (some (.ref f30))) (l30 : K.lookup f30 = some ⟨oc30, od30, .func (PySem.W.fnOf "line_times" "line_times" (defArgs s_line_times) (defBody s_line_times) (defScope s_line_times) .none kV30 dc30 pm30 an30 cd30 ct30), sl30⟩) (c30 : PySem.W.codeIn K cd30 "line_times" = true) (k30 : PySem.W.keepIn K (.ref f30) = true)
    {f31 : Addr} {od31 an31 : Option Addr} {sl31 : Array (Option Value)} {oc31 kV31 dc31 pm31 cd31 ct31 : Value} (a31 : PySem.W.nsIn K mainGlobals "line_common" = some (some (.ref f31))) (l31 : K.lookup f31 = some ⟨oc31, od31, .func (PySem.W.fnOf "line_common" "line_common" (defArgs s_line_common) (defBody s_line_common) (defScope s_line_common) .none kV31 dc31 pm31 an31 cd31 ct31), sl31⟩) (c31 : PySem.W.codeIn K cd31 "line_common" = true) (k31 : PySem.W.keepIn K (.ref f31) = true)
    {f32 : Addr} {od32 an32 : Option Addr} {sl32 : Array (Option Value)} {oc32 kV32 dc32 pm32 cd32 ct32 : Value} (a32 : PySem.W.nsIn K mainGlobals "resultant" = some (some (.ref f32))) (l32 : K.lookup f32 = some ⟨oc32, od32, .func (PySem.W.fnOf "resultant" "resultant" (defArgs s_resultant) (defBody s_resultant) (defScope s_resultant) .none kV32 dc32 pm32 an32 cd32 ct32), sl32⟩) (c32 : PySem.W.codeIn K cd32 "resultant" = true) (k32 : PySem.W.keepIn K (.ref f32) = true)
    {f33 : Addr} {od33 an33 : Option Addr} {sl33 : Array (Option Value)} {oc33 kV33 dc33 pm33 cd33 ct33 : Value} (a33 : PySem.W.nsIn K mainGlobals "_law_pair_right" = some (some (.ref f33))) (l33 : K.lookup f33 = some ⟨oc33, od33, .func (PySem.W.fnOf "_law_pair_right" "_law_pair_right" (defArgs s__law_pair_right) (defBody s__law_pair_right) (defScope s__law_pair_right) .none kV33 dc33 pm33 an33 cd33 ct33), sl33⟩) (c33 : PySem.W.codeIn K cd33 "_law_pair_right" = true) (k33 : PySem.W.keepIn K (.ref f33) = true)
    {f34 : Addr} {od34 an34 : Option Addr} {sl34 : Array (Option Value)} {oc34 kV34 dc34 pm34 cd34 ct34 : Value} (a34 : PySem.W.nsIn K mainGlobals "_law_right" = some (some (.ref f34))) (l34 : K.lookup f34 = some ⟨oc34, od34, .func (PySem.W.fnOf "_law_right" "_law_right" (defArgs s__law_right) (defBody s__law_right) (defScope s__law_right) .none kV34 dc34 pm34 an34 cd34 ct34), sl34⟩) (c34 : PySem.W.codeIn K cd34 "_law_right" = true) (k34 : PySem.W.keepIn K (.ref f34) = true)
    {f35 : Addr} {od35 an35 : Option Addr} {sl35 : Array (Option Value)} {oc35 kV35 dc35 pm35 cd35 ct35 : Value} (a35 : PySem.W.nsIn K mainGlobals "law" = some (some (.ref f35))) (l35 : K.lookup f35 = some ⟨oc35, od35, .func (PySem.W.fnOf "law" "law" (defArgs s_law) (defBody s_law) (defScope s_law) .none kV35 dc35 pm35 an35 cd35 ct35), sl35⟩) (c35 : PySem.W.codeIn K cd35 "law" = true) (k35 : PySem.W.keepIn K (.ref f35) = true)
    {t_MOST_DEGREE : Tok} (e_MOST_DEGREE : PySem.W.nsIn K mainGlobals "MOST_DEGREE" = some (some (.int 12 t_MOST_DEGREE)))
    (z_abs : PySem.W.nsIn K mainGlobals "abs" = some none)
    (z_all : PySem.W.nsIn K mainGlobals "all" = some none)
    (z_bool : PySem.W.nsIn K mainGlobals "bool" = some none)
    (z_divmod : PySem.W.nsIn K mainGlobals "divmod" = some none)
    (z_enumerate : PySem.W.nsIn K mainGlobals "enumerate" = some none)
    (z_int : PySem.W.nsIn K mainGlobals "int" = some none)
    (z_isinstance : PySem.W.nsIn K mainGlobals "isinstance" = some none)
    (z_len : PySem.W.nsIn K mainGlobals "len" = some none)
    (z_list : PySem.W.nsIn K mainGlobals "list" = some none)
    (z_max : PySem.W.nsIn K mainGlobals "max" = some none)
    (z_range : PySem.W.nsIn K mainGlobals "range" = some none)
    (z_tuple : PySem.W.nsIn K mainGlobals "tuple" = some none)
    (z_zip : PySem.W.nsIn K mainGlobals "zip" = some none) :
    ∃ fd : FuncData, (∀ (s : Shared) (v : Value), BindsTo s fd ⟨[v], []⟩ [("_law_script", v)]) ∧ ∀ base : Heap, K.In base → base.Ns mainGlobals mg → FnG l.prog w K mg base 9 fa fd ["_law_script"] (spF K 1 m_law) := by
  have e := hfa.symm.trans (PySem.W.mg_of X G a35)
  cases e
  let T : Tx K mg := { a_is_integer := _, d_is_integer := _, f_is_integer := fun_mk (st := s_is_integer) l1 c1 k1, g_is_integer := PySem.W.mg_of X G a1, a_is_list := _, d_is_list := _, f_is_list := fun_mk (st := s_is_list) l2 c2 k2, g_is_list := PySem.W.mg_of X G a2, a_want_at_most := _, d_want_at_most := _, f_want_at_most := fun_mk (st := s_want_at_most) l3 c3 k3, g_want_at_most := PySem.W.mg_of X G a3, a_divisor_of := _, d_divisor_of := _, f_divisor_of := fun_mk (st := s_divisor_of) l4 c4 k4, g_divisor_of := PySem.W.mg_of X G a4, a_power_by := _, d_power_by := _, f_power_by := fun_mk (st := s_power_by) l5 c5 k5, g_power_by := PySem.W.mg_of X G a5, a_trimmed := _, d_trimmed := _, f_trimmed := fun_mk (st := s_trimmed) l6 c6 k6, g_trimmed := PySem.W.mg_of X G a6, a_scaled_line := _, d_scaled_line := _, f_scaled_line := fun_mk (st := s_scaled_line) l7 c7 k7, g_scaled_line := PySem.W.mg_of X G a7, a_times_lines := _, d_times_lines := _, f_times_lines := fun_mk (st := s_times_lines) l8 c8 k8, g_times_lines := PySem.W.mg_of X G a8, a__law_pot := _, d__law_pot := _, f__law_pot := fun_mk (st := s__law_pot) l9 c9 k9, g__law_pot := PySem.W.mg_of X G a9, a__law_draw := _, d__law_draw := _, f__law_draw := fun_mk (st := s__law_draw) l10 c10 k10, g__law_draw := PySem.W.mg_of X G a10, a__law_trim := _, d__law_trim := _, f__law_trim := fun_mk (st := s__law_trim) l11 c11 k11, g__law_trim := PySem.W.mg_of X G a11, a__law_value := _, d__law_value := _, f__law_value := fun_mk (st := s__law_value) l12 c12 k12, g__law_value := PySem.W.mg_of X G a12, a__law_determinant := _, d__law_determinant := _, f__law_determinant := fun_mk (st := s__law_determinant) l13 c13 k13, g__law_determinant := PySem.W.mg_of X G a13, a__law_table := _, d__law_table := _, f__law_table := fun_mk (st := s__law_table) l14 c14 k14, g__law_table := PySem.W.mg_of X G a14, a__law_power := _, d__law_power := _, f__law_power := fun_mk (st := s__law_power) l15 c15 k15, g__law_power := PySem.W.mg_of X G a15, a_greatest_of := _, d_greatest_of := _, f_greatest_of := fun_mk (st := s_greatest_of) l16 c16 k16, g_greatest_of := PySem.W.mg_of X G a16, a_plus_lines := _, d_plus_lines := _, f_plus_lines := fun_mk (st := s_plus_lines) l17 c17 k17, g_plus_lines := PySem.W.mg_of X G a17, a_line_in := _, d_line_in := _, f_line_in := fun_mk (st := s_line_in) l18 c18 k18, g_line_in := PySem.W.mg_of X G a18, a__law_pick := _, d__law_pick := _, f__law_pick := fun_mk (st := s__law_pick) l19 c19 k19, g__law_pick := PySem.W.mg_of X G a19, a__law_times := _, d__law_times := _, f__law_times := fun_mk (st := s__law_times) l20 c20 k20, g__law_times := PySem.W.mg_of X G a20, a_minus_lines := _, d_minus_lines := _, f_minus_lines := fun_mk (st := s_minus_lines) l21 c21 k21, g_minus_lines := PySem.W.mg_of X G a21, a_plain_of := _, d_plain_of := _, f_plain_of := fun_mk (st := s_plain_of) l22 c22 k22, g_plain_of := PySem.W.mg_of X G a22, a_want_line := _, d_want_line := _, f_want_line := fun_mk (st := s_want_line) l23 c23 k23, g_want_line := PySem.W.mg_of X G a23, a__law_line := _, d__law_line := _, f__law_line := fun_mk (st := s__law_line) l24 c24 k24, g__law_line := PySem.W.mg_of X G a24, a_parted := _, d_parted := _, f_parted := fun_mk (st := s_parted) l25 c25 k25, g_parted := PySem.W.mg_of X G a25, a_two_lines := _, d_two_lines := _, f_two_lines := fun_mk (st := s_two_lines) l26 c26 k26, g_two_lines := PySem.W.mg_of X G a26, a_common_of := _, d_common_of := _, f_common_of := fun_mk (st := s_common_of) l27 c27 k27, g_common_of := PySem.W.mg_of X G a27, a_resultant_of := _, d_resultant_of := _, f_resultant_of := fun_mk (st := s_resultant_of) l28 c28 k28, g_resultant_of := PySem.W.mg_of X G a28, a_two_standing := _, d_two_standing := _, f_two_standing := fun_mk (st := s_two_standing) l29 c29 k29, g_two_standing := PySem.W.mg_of X G a29, a_line_times := _, d_line_times := _, f_line_times := fun_mk (st := s_line_times) l30 c30 k30, g_line_times := PySem.W.mg_of X G a30, a_line_common := _, d_line_common := _, f_line_common := fun_mk (st := s_line_common) l31 c31 k31, g_line_common := PySem.W.mg_of X G a31, a_resultant := _, d_resultant := _, f_resultant := fun_mk (st := s_resultant) l32 c32 k32, g_resultant := PySem.W.mg_of X G a32, a__law_pair_right := _, d__law_pair_right := _, f__law_pair_right := fun_mk (st := s__law_pair_right) l33 c33 k33, g__law_pair_right := PySem.W.mg_of X G a33, a__law_right := _, d__law_right := _, f__law_right := fun_mk (st := s__law_right) l34 c34 k34, g__law_right := PySem.W.mg_of X G a34, a_law := _, d_law := _, f_law := fun_mk (st := s_law) l35 c35 k35, g_law := PySem.W.mg_of X G a35, u_MOST_DEGREE := _, e_MOST_DEGREE := PySem.W.mg_of X G e_MOST_DEGREE, r_MOST_DEGREE := ⟨_, rfl⟩, z_abs := PySem.W.mg_none_of X G z_abs, z_all := PySem.W.mg_none_of X G z_all, z_bool := PySem.W.mg_none_of X G z_bool, z_divmod := PySem.W.mg_none_of X G z_divmod, z_enumerate := PySem.W.mg_none_of X G z_enumerate, z_int := PySem.W.mg_none_of X G z_int, z_isinstance := PySem.W.mg_none_of X G z_isinstance, z_len := PySem.W.mg_none_of X G z_len, z_list := PySem.W.mg_none_of X G z_list, z_max := PySem.W.mg_none_of X G z_max, z_range := PySem.W.mg_none_of X G z_range, z_tuple := PySem.W.mg_none_of X G z_tuple, z_zip := PySem.W.mg_none_of X G z_zip }
  exact ⟨T.d_law, fun s v => .of_eq rfl, fun base _ _ => ok_law T⟩
end K13
end
section
set_option maxRecDepth 100000
set_option exponentiation.threshold 100000
set_option exponentiation.threshold 100000
set_option maxHeartbeats 1000000
namespace K13
open PySem PySem.Spec L2 DL
open PL (cf Nz cv vl sm)
def Ln (d : D) (a : List Int) : Prop := seq? d = some (a.map .int)
theorem ln_IL (a : List Int) : Ln (IL a) a := rfl
theorem ln_cases {d : D} {a : List Int} (h : Ln d a) : d = IL a ∨ d = .tuple (a.map .int) := seq_cases h
theorem r_is_integer (i : Int) : m_is_integer [.int i] = some (.fz (.bool true)) := by
  have h : tyName (.int i) = some "int" := rfl
  simp only [m_is_integer, g_is_integer, g_is_integer_s1, mb, mr, mo, nameM, conM, binM, unM, boolM, ifM, DL.andM, DL.orM, DL.notM, andV, orV, notV, chainM, nilA, consA, dvs, dv, ownAt, fzs, lstM, tupM, callM, callP, permL, fzv, seqS, skipS, ifS, setS, asg, freeAt, retS, retV, dropS, frz, frzS, asgS, nilG, consG, tupG, subG, listAt, methM, augS, augSubS, forS, seqM, treeV, startD, endV, bodyF, bodyI, startI, ioAt, slM, partM, bors, callL, callI, callO, DL.flatV, DL.flat, List.filterMap_cons, List.filterMap_nil, List.map_cons, List.map_nil, List.getElem?_cons_zero, List.getElem?_cons_succ, List.getElem?_nil, List.set_cons_zero, List.set_cons_succ, List.cons_append, List.nil_append, List.length_cons, List.length_nil, Option.bind_some, Option.bind_none, Option.map_some, Option.map_none, Nat.reduceSub, Nat.reduceAdd, List.replicate_succ, List.replicate_zero, Bool.not_true, Bool.not_false, if_true, if_false, Bool.false_eq_true, reduceIte, decide_true, decide_false, Nat.reduceLT, Nat.reduceLeDiff, reduceCtorEq, Option.some.injEq, Prod.mk.injEq, isiD, h, show isT "int" "int" = true from by decide, show isT "int" "bool" = false from by decide]
theorem r_is_list {d : D} {a : List Int} (h : Ln d a) : m_is_list [d] = some (.fz (.bool true)) := by
  rcases ln_cases h with rfl | rfl
  · have e : isiD2 "list" "tuple" (IL a) = some (.fz (.bool true)) := rfl
    simp only [m_is_list, g_is_list, g_is_list_s1, mb, mr, mo, nameM, conM, binM, unM, boolM, ifM, DL.andM, DL.orM, DL.notM, andV, orV, notV, chainM, nilA, consA, dvs, dv, ownAt, fzs, lstM, tupM, callM, callP, permL, fzv, seqS, skipS, ifS, setS, asg, freeAt, retS, retV, dropS, frz, frzS, asgS, nilG, consG, tupG, subG, listAt, methM, augS, augSubS, forS, seqM, treeV, startD, endV, bodyF, bodyI, startI, ioAt, slM, partM, bors, callL, callI, callO, DL.flatV, DL.flat, List.filterMap_cons, List.filterMap_nil, List.map_cons, List.map_nil, List.getElem?_cons_zero, List.getElem?_cons_succ, List.getElem?_nil, List.set_cons_zero, List.set_cons_succ, List.cons_append, List.nil_append, List.length_cons, List.length_nil, Option.bind_some, Option.bind_none, Option.map_some, Option.map_none, Nat.reduceSub, Nat.reduceAdd, List.replicate_succ, List.replicate_zero, Bool.not_true, Bool.not_false, if_true, if_false, Bool.false_eq_true, reduceIte, decide_true, decide_false, Nat.reduceLT, Nat.reduceLeDiff, reduceCtorEq, Option.some.injEq, Prod.mk.injEq, e]
  · have e : isiD2 "list" "tuple" (.tuple (a.map .int)) = some (.fz (.bool true)) := rfl
    simp only [m_is_list, g_is_list, g_is_list_s1, mb, mr, mo, nameM, conM, binM, unM, boolM, ifM, DL.andM, DL.orM, DL.notM, andV, orV, notV, chainM, nilA, consA, dvs, dv, ownAt, fzs, lstM, tupM, callM, callP, permL, fzv, seqS, skipS, ifS, setS, asg, freeAt, retS, retV, dropS, frz, frzS, asgS, nilG, consG, tupG, subG, listAt, methM, augS, augSubS, forS, seqM, treeV, startD, endV, bodyF, bodyI, startI, ioAt, slM, partM, bors, callL, callI, callO, DL.flatV, DL.flat, List.filterMap_cons, List.filterMap_nil, List.map_cons, List.map_nil, List.getElem?_cons_zero, List.getElem?_cons_succ, List.getElem?_nil, List.set_cons_zero, List.set_cons_succ, List.cons_append, List.nil_append, List.length_cons, List.length_nil, Option.bind_some, Option.bind_none, Option.map_some, Option.map_none, Nat.reduceSub, Nat.reduceAdd, List.replicate_succ, List.replicate_zero, Bool.not_true, Bool.not_false, if_true, if_false, Bool.false_eq_true, reduceIte, decide_true, decide_false, Nat.reduceLT, Nat.reduceLeDiff, reduceCtorEq, Option.some.injEq, Prod.mk.injEq, e]
theorem r_all {d : D} {a : List Int} (hl : Ln d a) (hz : a.length ≤ 13) : g_line_in_c1 [.dat d, .un] = some (.ow (.list (a.map fun _ => .bool true)), [.dat d, .un]) := by
  unfold g_line_in_c1
  have e := compM_gen (fi := seqM (nameM 0)) (gt := asg 1) (ft := mr true) (fe := callP [0] m_is_integer (consA (nameM 1) nilA) nilA) (vs := [1]) (δ := [.dat d, .un]) (ds := a.map .int) (fun _ => some (.bool true)) ?_ rfl rfl ?_ ?_
  · rw [e, List.filterMap_eq_map', List.map_map]
    rfl
  · rcases ln_cases hl with rfl | rfl <;> simp only [mb, mr, mo, nameM, conM, binM, unM, boolM, ifM, DL.andM, DL.orM, DL.notM, andV, orV, notV, chainM, nilA, consA, dvs, dv, ownAt, fzs, lstM, tupM, callM, callP, permL, fzv, seqS, skipS, ifS, setS, asg, freeAt, retS, retV, dropS, frz, frzS, asgS, nilG, consG, tupG, subG, listAt, methM, augS, augSubS, forS, seqM, treeV, startD, endV, bodyF, bodyI, startI, ioAt, slM, partM, bors, callL, callI, callO, DL.flatV, DL.flat, List.filterMap_cons, List.filterMap_nil, List.map_cons, List.map_nil, List.getElem?_cons_zero, List.getElem?_cons_succ, List.getElem?_nil, List.set_cons_zero, List.set_cons_succ, List.cons_append, List.nil_append, List.length_cons, List.length_nil, Option.bind_some, Option.bind_none, Option.map_some, Option.map_none, Nat.reduceSub, Nat.reduceAdd, List.replicate_succ, List.replicate_zero, Bool.not_true, Bool.not_false, if_true, if_false, Bool.false_eq_true, reduceIte, decide_true, decide_false, Nat.reduceLT, Nat.reduceLeDiff, reduceCtorEq, Option.some.injEq, Prod.mk.injEq, itemsOf]
  · rw [List.filterMap_eq_map']
    exact szOkL (by simp; omega)
  · intro x hx
    obtain ⟨i, -, rfl⟩ := List.mem_map.mp hx
    refine ⟨[.dat d, .dat (.int i)], ?_, .inr ⟨_, .fz (.bool true), rfl, rfl, ?_, rfl⟩, ?_⟩
    · simp only [wipeD, mb, mr, mo, nameM, conM, binM, unM, boolM, ifM, DL.andM, DL.orM, DL.notM, andV, orV, notV, chainM, nilA, consA, dvs, dv, ownAt, fzs, lstM, tupM, callM, callP, permL, fzv, seqS, skipS, ifS, setS, asg, freeAt, retS, retV, dropS, frz, frzS, asgS, nilG, consG, tupG, subG, listAt, methM, augS, augSubS, forS, seqM, treeV, startD, endV, bodyF, bodyI, startI, ioAt, slM, partM, bors, callL, callI, callO, DL.flatV, DL.flat, List.filterMap_cons, List.filterMap_nil, List.map_cons, List.map_nil, List.getElem?_cons_zero, List.getElem?_cons_succ, List.getElem?_nil, List.set_cons_zero, List.set_cons_succ, List.cons_append, List.nil_append, List.length_cons, List.length_nil, Option.bind_some, Option.bind_none, Option.map_some, Option.map_none, Nat.reduceSub, Nat.reduceAdd, List.replicate_succ, List.replicate_zero, Bool.not_true, Bool.not_false, if_true, if_false, Bool.false_eq_true, reduceIte, decide_true, decide_false, Nat.reduceLT, Nat.reduceLeDiff, reduceCtorEq, Option.some.injEq, Prod.mk.injEq]
    · simp only [mb, mr, mo, nameM, conM, binM, unM, boolM, ifM, DL.andM, DL.orM, DL.notM, andV, orV, notV, chainM, nilA, consA, dvs, dv, ownAt, fzs, lstM, tupM, callM, callP, permL, fzv, seqS, skipS, ifS, setS, asg, freeAt, retS, retV, dropS, frz, frzS, asgS, nilG, consG, tupG, subG, listAt, methM, augS, augSubS, forS, seqM, treeV, startD, endV, bodyF, bodyI, startI, ioAt, slM, partM, bors, callL, callI, callO, DL.flatV, DL.flat, List.filterMap_cons, List.filterMap_nil, List.map_cons, List.map_nil, List.getElem?_cons_zero, List.getElem?_cons_succ, List.getElem?_nil, List.set_cons_zero, List.set_cons_succ, List.cons_append, List.nil_append, List.length_cons, List.length_nil, Option.bind_some, Option.bind_none, Option.map_some, Option.map_none, Nat.reduceSub, Nat.reduceAdd, List.replicate_succ, List.replicate_zero, Bool.not_true, Bool.not_false, if_true, if_false, Bool.false_eq_true, reduceIte, decide_true, decide_false, Nat.reduceLT, Nat.reduceLeDiff, reduceCtorEq, Option.some.injEq, Prod.mk.injEq, r_is_integer]
    · simp only [wipeD, mb, mr, mo, nameM, conM, binM, unM, boolM, ifM, DL.andM, DL.orM, DL.notM, andV, orV, notV, chainM, nilA, consA, dvs, dv, ownAt, fzs, lstM, tupM, callM, callP, permL, fzv, seqS, skipS, ifS, setS, asg, freeAt, retS, retV, dropS, frz, frzS, asgS, nilG, consG, tupG, subG, listAt, methM, augS, augSubS, forS, seqM, treeV, startD, endV, bodyF, bodyI, startI, ioAt, slM, partM, bors, callL, callI, callO, DL.flatV, DL.flat, List.filterMap_cons, List.filterMap_nil, List.map_cons, List.map_nil, List.getElem?_cons_zero, List.getElem?_cons_succ, List.getElem?_nil, List.set_cons_zero, List.set_cons_succ, List.cons_append, List.nil_append, List.length_cons, List.length_nil, Option.bind_some, Option.bind_none, Option.map_some, Option.map_none, Nat.reduceSub, Nat.reduceAdd, List.replicate_succ, List.replicate_zero, Bool.not_true, Bool.not_false, if_true, if_false, Bool.false_eq_true, reduceIte, decide_true, decide_false, Nat.reduceLT, Nat.reduceLeDiff, reduceCtorEq, Option.some.injEq, Prod.mk.injEq]
theorem r_line_in {d : D} {a : List Int} (hl : Ln d a) (hz : a.length ≤ 13) (hn : Nz a) : m_line_in [d] = some (.ow (IL a)) := by
  have h1 := r_is_list hl
  have h2 : lenD [d] = some (.fz (.int (a.length : Nat))) := by rw [len_seq hl, List.length_map]
  have h3 := r_all hl hz
  have h4 : allD [.list (a.map fun _ => .bool true)] = some (.fz (.bool true)) := by
    have : a.map (fun _ => PyData.bool true) = (a.map fun _ => true).map PyData.bool := by rw [List.map_map]; rfl
    show (boolsOf _).bind _ = _
    rw [this, boolsOf_map]
    simp
  have h5 : listD [d] = some (.ow (IL a)) := listD_seq hl
  have hgt : decide (((12 : Int) + 1) < (a.length : Int)) = false := decide_eq_false (by omega)
  rcases List.eq_nil_or_concat a with rfl | ⟨b, x, rfl⟩
  · have h2 : lenD [d] = some (.fz (.int 0)) := h2
    have h3 : g_line_in_c1 [.dat d, .un] = some (.ow (.list []), [.dat d, .un]) := h3
    have h4 : allD [.list []] = some (.fz (.bool true)) := h4
    simp only [m_line_in, g_line_in, g_line_in_s1, g_line_in_s2, mb, mr, mo, nameM, conM, binM, unM, boolM, ifM, DL.andM, DL.orM, DL.notM, andV, orV, notV, chainM, nilA, consA, dvs, dv, ownAt, fzs, lstM, tupM, callM, callP, permL, fzv, seqS, skipS, ifS, setS, asg, freeAt, retS, retV, dropS, frz, frzS, asgS, nilG, consG, tupG, subG, listAt, methM, augS, augSubS, forS, seqM, treeV, startD, endV, bodyF, bodyI, startI, ioAt, slM, partM, bors, callL, callI, callO, DL.flatV, DL.flat, List.filterMap_cons, List.filterMap_nil, List.map_cons, List.map_nil, List.getElem?_cons_zero, List.getElem?_cons_succ, List.getElem?_nil, List.set_cons_zero, List.set_cons_succ, List.cons_append, List.nil_append, List.length_cons, List.length_nil, Option.bind_some, Option.bind_none, Option.map_some, Option.map_none, Nat.reduceSub, Nat.reduceAdd, List.replicate_succ, List.replicate_zero, Bool.not_true, Bool.not_false, if_true, if_false, Bool.false_eq_true, reduceIte, decide_true, decide_false, Nat.reduceLT, Nat.reduceLeDiff, reduceCtorEq, Option.some.injEq, Prod.mk.injEq, h1, h2, addD, gtI, intB, show decide (((12 : Int) + 1) < 0) = false from rfl, h3, h4, eqD_int, h5]
  · rw [List.concat_eq_append] at *
    have hx : x ≠ 0 := hn b x rfl
    have h0 : decide (((b ++ [x]).length : Int) = 0) = false := decide_eq_false (by simp; omega)
    have h6 : ixD d (.int (-1)) = some (.fz (.int x)) := ix_last (by rw [hl, List.map_append]; rfl)
    simp only [m_line_in, g_line_in, g_line_in_s1, g_line_in_s2, mb, mr, mo, nameM, conM, binM, unM, boolM, ifM, DL.andM, DL.orM, DL.notM, andV, orV, notV, chainM, nilA, consA, dvs, dv, ownAt, fzs, lstM, tupM, callM, callP, permL, fzv, seqS, skipS, ifS, setS, asg, freeAt, retS, retV, dropS, frz, frzS, asgS, nilG, consG, tupG, subG, listAt, methM, augS, augSubS, forS, seqM, treeV, startD, endV, bodyF, bodyI, startI, ioAt, slM, partM, bors, callL, callI, callO, DL.flatV, DL.flat, List.filterMap_cons, List.filterMap_nil, List.map_cons, List.map_nil, List.getElem?_cons_zero, List.getElem?_cons_succ, List.getElem?_nil, List.set_cons_zero, List.set_cons_succ, List.cons_append, List.nil_append, List.length_cons, List.length_nil, Option.bind_some, Option.bind_none, Option.map_some, Option.map_none, Nat.reduceSub, Nat.reduceAdd, List.replicate_succ, List.replicate_zero, Bool.not_true, Bool.not_false, if_true, if_false, Bool.false_eq_true, reduceIte, decide_true, decide_false, Nat.reduceLT, Nat.reduceLeDiff, reduceCtorEq, Option.some.injEq, Prod.mk.injEq, h1, h2, addD, gtI, intB, hgt, h3, h4, eqD_int, neD_int, h0, negI, h6, decide_eq_false hx, h5]
theorem r_want_line {d : D} {a : List Int} (hl : Ln d a) (hz : a.length ≤ 13) (hn : Nz a) : m_want_line [d] = some (.ow (IL a)) := by
  simp only [m_want_line, g_want_line, g_want_line_s1, g_want_line_s2, g_want_line_s3, mb, mr, mo, nameM, conM, binM, unM, boolM, ifM, DL.andM, DL.orM, DL.notM, andV, orV, notV, chainM, nilA, consA, dvs, dv, ownAt, fzs, lstM, tupM, callM, callP, permL, fzv, seqS, skipS, ifS, setS, asg, freeAt, retS, retV, dropS, frz, frzS, asgS, nilG, consG, tupG, subG, listAt, methM, augS, augSubS, forS, seqM, treeV, startD, endV, bodyF, bodyI, startI, ioAt, slM, partM, bors, callL, callI, callO, DL.flatV, DL.flat, List.filterMap_cons, List.filterMap_nil, List.map_cons, List.map_nil, List.getElem?_cons_zero, List.getElem?_cons_succ, List.getElem?_nil, List.set_cons_zero, List.set_cons_succ, List.cons_append, List.nil_append, List.length_cons, List.length_nil, Option.bind_some, Option.bind_none, Option.map_some, Option.map_none, Nat.reduceSub, Nat.reduceAdd, List.replicate_succ, List.replicate_zero, Bool.not_true, Bool.not_false, if_true, if_false, Bool.false_eq_true, reduceIte, decide_true, decide_false, Nat.reduceLT, Nat.reduceLeDiff, reduceCtorEq, Option.some.injEq, Prod.mk.injEq, r_line_in hl hz hn, isD, isNone]
theorem r_two_lines {d e : D} {a b : List Int} (hl : Ln d a) (hz : a.length ≤ 13) (hn : Nz a) (kl : Ln e b) (kz : b.length ≤ 13) (kn : Nz b) : m_two_lines [d, e] = some (.fz (.tuple [IL a, IL b])) := by
  simp only [m_two_lines, g_two_lines, g_two_lines_s1, g_two_lines_s2, mb, mr, mo, nameM, conM, binM, unM, boolM, ifM, DL.andM, DL.orM, DL.notM, andV, orV, notV, chainM, nilA, consA, dvs, dv, ownAt, fzs, lstM, tupM, callM, callP, permL, fzv, seqS, skipS, ifS, setS, asg, freeAt, retS, retV, dropS, frz, frzS, asgS, nilG, consG, tupG, subG, listAt, methM, augS, augSubS, forS, seqM, treeV, startD, endV, bodyF, bodyI, startI, ioAt, slM, partM, bors, callL, callI, callO, DL.flatV, DL.flat, List.filterMap_cons, List.filterMap_nil, List.map_cons, List.map_nil, List.getElem?_cons_zero, List.getElem?_cons_succ, List.getElem?_nil, List.set_cons_zero, List.set_cons_succ, List.cons_append, List.nil_append, List.length_cons, List.length_nil, Option.bind_some, Option.bind_none, Option.map_some, Option.map_none, Nat.reduceSub, Nat.reduceAdd, List.replicate_succ, List.replicate_zero, Bool.not_true, Bool.not_false, if_true, if_false, Bool.false_eq_true, reduceIte, decide_true, decide_false, Nat.reduceLT, Nat.reduceLeDiff, reduceCtorEq, Option.some.injEq, Prod.mk.injEq, r_want_line hl hz hn, r_want_line kl kz kn, szOk2]
theorem cut_to (l : List D) {k : Nat} (h : k ≤ l.length) : cutD l none (some (k : Int)) = l.take k := by
  unfold cutD
  rw [HT.sIx_none, HT.sIx_nat, Nat.min_eq_left h]
  simp
theorem cut_from (l : List D) {k : Nat} (h : k ≤ l.length) : cutD l (some (k : Int)) none = l.drop k := by
  unfold cutD
  rw [HT.sIx_none, HT.sIx_nat, Nat.min_eq_left h]
  rw [List.take_of_length_le (by simp)]
theorem cf_take {a : List Int} {k n : Nat} : cf (a.take k) n = if n < k then cf a n else 0 := by
  rw [PL.cf_get, PL.cf_get, List.getD_eq_getElem?_getD, List.getD_eq_getElem?_getD, List.getElem?_take]
  split <;> rfl
theorem getD_ix {a : List Int} {k : Nat} (h : k < a.length) : (a.map PyData.int)[k]? = some (.int (cf a k)) := by
  rw [List.getElem?_map, List.getElem?_eq_getElem h, PL.cf_get, List.getD_eq_getElem?_getD, List.getElem?_eq_getElem h]
  rfl
theorem r_trimmed (a : List Int) (hz : a.length ≤ 1000) : ∃ b, m_trimmed [IL a] = some (.ow (IL b)) ∧ Nz b ∧ (∀ n, cf b n = cf a n) ∧ b.length ≤ a.length := by
  have hw : ∃ δ', g_trimmed_w1 [.dat (IL a), .dat (.int (a.length : Nat))] = some (.nx, δ') ∧ ∃ k : Nat, δ' = [.dat (IL a), .dat (.int (k : Nat))] ∧ k ≤ a.length ∧ (∀ n, k ≤ n → cf a n = 0) ∧ (k = 0 ∨ cf a (k - 1) ≠ 0) := by
    refine whileN_inv (fun δ => ∃ k : Nat, δ = [.dat (IL a), .dat (.int (k : Nat))] ∧ k ≤ a.length ∧ (∀ n, k ≤ n → cf a n = 0)) _ (fun δ => match δ with
      | [_, .dat (.int k)] => k.toNat
      | _ => 0) ?_ fuel _ ⟨a.length, rfl, Nat.le_refl _, fun n hn => PL.cf_beyond hn⟩ (by show (a.length : Int).toNat < _; unfold fuel; omega)
    rintro δ ⟨k, rfl, hk, h0⟩
    by_cases hk0 : k = 0
    · subst hk0
      refine .inl ⟨_, ?_, 0, rfl, hk, h0, .inl rfl⟩
      simp only [g_trimmed_t1, mb, mr, mo, nameM, conM, binM, unM, boolM, ifM, DL.andM, DL.orM, DL.notM, andV, orV, notV, chainM, nilA, consA, dvs, dv, ownAt, fzs, lstM, tupM, callM, callP, permL, fzv, seqS, skipS, ifS, setS, asg, freeAt, retS, retV, dropS, frz, frzS, asgS, nilG, consG, tupG, subG, listAt, methM, augS, augSubS, forS, seqM, treeV, startD, endV, bodyF, bodyI, startI, ioAt, slM, partM, bors, callL, callI, callO, DL.flatV, DL.flat, List.filterMap_cons, List.filterMap_nil, List.map_cons, List.map_nil, List.getElem?_cons_zero, List.getElem?_cons_succ, List.getElem?_nil, List.set_cons_zero, List.set_cons_succ, List.cons_append, List.nil_append, List.length_cons, List.length_nil, Option.bind_some, Option.bind_none, Option.map_some, Option.map_none, Nat.reduceSub, Nat.reduceAdd, List.replicate_succ, List.replicate_zero, Bool.not_true, Bool.not_false, if_true, if_false, Bool.false_eq_true, reduceIte, decide_true, decide_false, Nat.reduceLT, Nat.reduceLeDiff, reduceCtorEq, Option.some.injEq, Prod.mk.injEq, gtI, intB, show decide ((0 : Int) < ((0 : Nat) : Int)) = false from rfl]
    · have hp : decide ((0 : Int) < (k : Int)) = true := decide_eq_true (by omega)
      have hix : ixD (IL a) (.int ((k : Int) - 1)) = some (.fz (.int (cf a (k - 1)))) := by
        rw [show ((k : Int) - 1) = ((k - 1 : Nat) : Int) by omega]
        exact ix_nat rfl (getD_ix (by omega))
      by_cases hc : cf a (k - 1) = 0
      · refine .inr ⟨[.dat (IL a), .dat (.int (k : Nat))], [.dat (IL a), .dat (.int ((k - 1 : Nat) : Int))], ?_, .inl ?_, ⟨k - 1, rfl, by omega, fun n hn => ?_⟩, ?_⟩
        rotate_left
        · simp only [g_trimmed_b1, mb, mr, mo, nameM, conM, binM, unM, boolM, ifM, DL.andM, DL.orM, DL.notM, andV, orV, notV, chainM, nilA, consA, dvs, dv, ownAt, fzs, lstM, tupM, callM, callP, permL, fzv, seqS, skipS, ifS, setS, asg, freeAt, retS, retV, dropS, frz, frzS, asgS, nilG, consG, tupG, subG, listAt, methM, augS, augSubS, forS, seqM, treeV, startD, endV, bodyF, bodyI, startI, ioAt, slM, partM, bors, callL, callI, callO, DL.flatV, DL.flat, List.filterMap_cons, List.filterMap_nil, List.map_cons, List.map_nil, List.getElem?_cons_zero, List.getElem?_cons_succ, List.getElem?_nil, List.set_cons_zero, List.set_cons_succ, List.cons_append, List.nil_append, List.length_cons, List.length_nil, Option.bind_some, Option.bind_none, Option.map_some, Option.map_none, Nat.reduceSub, Nat.reduceAdd, List.replicate_succ, List.replicate_zero, Bool.not_true, Bool.not_false, if_true, if_false, Bool.false_eq_true, reduceIte, decide_true, decide_false, Nat.reduceLT, Nat.reduceLeDiff, reduceCtorEq, Option.some.injEq, Prod.mk.injEq, subI, intB]
          rw [show ((k : Int) - 1) = ((k - 1 : Nat) : Int) by omega]
          exact ⟨trivial, rfl⟩
        · by_cases hnk : n = k - 1
          · rw [hnk]; exact hc
          · exact h0 n (by omega)
        · show (((k - 1 : Nat) : Int)).toNat < ((k : Nat) : Int).toNat
          omega
        · simp only [g_trimmed_t1, mb, mr, mo, nameM, conM, binM, unM, boolM, ifM, DL.andM, DL.orM, DL.notM, andV, orV, notV, chainM, nilA, consA, dvs, dv, ownAt, fzs, lstM, tupM, callM, callP, permL, fzv, seqS, skipS, ifS, setS, asg, freeAt, retS, retV, dropS, frz, frzS, asgS, nilG, consG, tupG, subG, listAt, methM, augS, augSubS, forS, seqM, treeV, startD, endV, bodyF, bodyI, startI, ioAt, slM, partM, bors, callL, callI, callO, DL.flatV, DL.flat, List.filterMap_cons, List.filterMap_nil, List.map_cons, List.map_nil, List.getElem?_cons_zero, List.getElem?_cons_succ, List.getElem?_nil, List.set_cons_zero, List.set_cons_succ, List.cons_append, List.nil_append, List.length_cons, List.length_nil, Option.bind_some, Option.bind_none, Option.map_some, Option.map_none, Nat.reduceSub, Nat.reduceAdd, List.replicate_succ, List.replicate_zero, Bool.not_true, Bool.not_false, if_true, if_false, Bool.false_eq_true, reduceIte, decide_true, decide_false, Nat.reduceLT, Nat.reduceLeDiff, reduceCtorEq, Option.some.injEq, Prod.mk.injEq, gtI, subI, intB, hp, hix, eqD_int, decide_eq_true hc]
      · refine .inl ⟨_, ?_, k, rfl, hk, h0, .inr hc⟩
        simp only [g_trimmed_t1, mb, mr, mo, nameM, conM, binM, unM, boolM, ifM, DL.andM, DL.orM, DL.notM, andV, orV, notV, chainM, nilA, consA, dvs, dv, ownAt, fzs, lstM, tupM, callM, callP, permL, fzv, seqS, skipS, ifS, setS, asg, freeAt, retS, retV, dropS, frz, frzS, asgS, nilG, consG, tupG, subG, listAt, methM, augS, augSubS, forS, seqM, treeV, startD, endV, bodyF, bodyI, startI, ioAt, slM, partM, bors, callL, callI, callO, DL.flatV, DL.flat, List.filterMap_cons, List.filterMap_nil, List.map_cons, List.map_nil, List.getElem?_cons_zero, List.getElem?_cons_succ, List.getElem?_nil, List.set_cons_zero, List.set_cons_succ, List.cons_append, List.nil_append, List.length_cons, List.length_nil, Option.bind_some, Option.bind_none, Option.map_some, Option.map_none, Nat.reduceSub, Nat.reduceAdd, List.replicate_succ, List.replicate_zero, Bool.not_true, Bool.not_false, if_true, if_false, Bool.false_eq_true, reduceIte, decide_true, decide_false, Nat.reduceLT, Nat.reduceLeDiff, reduceCtorEq, Option.some.injEq, Prod.mk.injEq, gtI, subI, intB, hp, hix, eqD_int, decide_eq_false hc]
  obtain ⟨δ', h1, k, rfl, hk, h0, hx⟩ := hw
  refine ⟨a.take k, ?_, ?_, fun n => ?_, by simp; omega⟩
  · have hs : slD (IL a) none (some (k : Int)) = some (.ow (IL (a.take k))) := by
      show some (Val.ow (.list (cutD (a.map .int) none (some (k : Int))))) = _
      rw [cut_to _ (by simpa using hk), ← List.map_take]
    have hl : lenD [IL a] = some (.fz (.int (a.length : Nat))) := by rw [len_seq (l := a.map .int) rfl, List.length_map]
    have hd : listD [IL (a.take k)] = some (.ow (IL (a.take k))) := rfl
    simp only [m_trimmed, g_trimmed, g_trimmed_s1, g_trimmed_s2, mb, mr, mo, nameM, conM, binM, unM, boolM, ifM, DL.andM, DL.orM, DL.notM, andV, orV, notV, chainM, nilA, consA, dvs, dv, ownAt, fzs, lstM, tupM, callM, callP, permL, fzv, seqS, skipS, ifS, setS, asg, freeAt, retS, retV, dropS, frz, frzS, asgS, nilG, consG, tupG, subG, listAt, methM, augS, augSubS, forS, seqM, treeV, startD, endV, bodyF, bodyI, startI, ioAt, slM, partM, bors, callL, callI, callO, DL.flatV, DL.flat, List.filterMap_cons, List.filterMap_nil, List.map_cons, List.map_nil, List.getElem?_cons_zero, List.getElem?_cons_succ, List.getElem?_nil, List.set_cons_zero, List.set_cons_succ, List.cons_append, List.nil_append, List.length_cons, List.length_nil, Option.bind_some, Option.bind_none, Option.map_some, Option.map_none, Nat.reduceSub, Nat.reduceAdd, List.replicate_succ, List.replicate_zero, Bool.not_true, Bool.not_false, if_true, if_false, Bool.false_eq_true, reduceIte, decide_true, decide_false, Nat.reduceLT, Nat.reduceLeDiff, reduceCtorEq, Option.some.injEq, Prod.mk.injEq, hl, h1, hs, hd]
  · intro b x e
    have hlen : (a.take k).length = k := by simp; omega
    have hb : b.length + 1 = k := by rw [← hlen, e]; simp
    have : cf (a.take k) b.length = x := by rw [e, PL.cf_append_right (Nat.le_refl _), Nat.sub_self]; rfl
    rw [cf_take, if_pos (by omega)] at this
    rw [← this, show b.length = k - 1 by omega]
    exact hx.resolve_left (by omega)
  · rw [cf_take]
    split
    · rfl
    · exact (h0 n (by omega)).symm
end K13
end
section
set_option maxRecDepth 100000
set_option exponentiation.threshold 100000
set_option exponentiation.threshold 100000
set_option maxHeartbeats 1000000
namespace K13
open PySem PySem.Spec L2 DL
open PL (cf Nz cv vl sm)
theorem lenD_IL (a : List Int) : lenD [IL a] = some (.fz (.int (a.length : Nat))) := by rw [len_seq (l := a.map .int) rfl, List.length_map]
theorem rngM1_eq {fa : Me (List Val)} {δ δ' : DS} {j : Int} (h : fa δ = some ([.fz (.int j)], δ')) (hr : rOk j = true) : rngM1 fa δ = some (rngD 0 j.toNat, δ') := by
  unfold rngM1 mb mo
  rw [h]
  simp only [hr, if_true]
def rgF (F : Nat → Int) (t : D) : Option D := match t with
  | .int i => some (.int (F i.toNat))
  | _ => none
theorem rng_map (F : Nat → Int) (n : Nat) : (rngD 0 n).filterMap (rgF F) = ((List.range n).map F).map .int := by
  unfold rngD
  rw [List.filterMap_map, List.map_map, ← List.filterMap_eq_map']
  congr 1
  funext i
  show some (PyData.int (F ((0 : Int) + (i : Nat)).toNat)) = _
  simp
theorem cf_range (F : Nat → Int) (k n : Nat) : cf ((List.range k).map F) n = if n < k then F n else 0 := by
  rw [PL.cf_get, List.getD_eq_getElem?_getD, List.getElem?_map]
  by_cases h : n < k
  · rw [List.getElem?_range h, if_pos h]; rfl
  · rw [List.getElem?_eq_none (by simp; omega), if_neg h]; rfl
theorem cf_drop : ∀ (a : List Int) (k n : Nat), cf (a.drop k) n = cf a (n + k)
  | a, 0, n => rfl
  | [], k + 1, n => by simp [PL.cf_nil]
  | x :: a, k + 1, n => cf_drop a k n
theorem addD_list (x y : List D) (h : x.length + y.length ≤ 16777216) : addD (.list x) (.list y) = some (.ow (.list (x ++ y))) := by
  unfold addD
  simp only [szOkL h, if_true]
theorem addD_IL (a b : List Int) (h : a.length + b.length ≤ 16777216) : addD (IL a) (IL b) = some (.ow (IL (a ++ b))) := by
  rw [addD_list _ _ (by rw [List.length_map, List.length_map]; exact h), ← List.map_append]
theorem slD_from (a : List Int) {k : Nat} (h : k ≤ a.length) : slD (IL a) (some (k : Int)) none = some (.ow (IL (a.drop k))) := by
  unfold slD
  simp only
  rw [cut_from _ (by rw [List.length_map]; exact h), ← List.map_drop]
theorem plus_c1 (la lb : D) (a b : List Int) (h : b.length ≤ a.length) (hz : a.length ≤ 900) : g_plus_lines_c1 [.dat la, .dat lb, .dat (IL a), .dat (IL b), .un] = some (.ow (IL ((List.range b.length).map fun n => cf a n + cf b n)), [.dat la, .dat lb, .dat (IL a), .dat (IL b), .un]) := by
  have hrg : rOk ((b.length : Nat) : Int) = true := rOk_small ⟨by omega, by omega⟩
  · unfold g_plus_lines_c1
    have e := compM_gen (fi := rngM1 (consA (callM lenD (consA (nameM 3) nilA)) nilA)) (gt := asg 4) (ft := mr true) (fe := binM addD (binM ixD (nameM 2) (nameM 4)) (binM ixD (nameM 3) (nameM 4))) (vs := [4]) (δ := [.dat la, .dat lb, .dat (IL a), .dat (IL b), .un]) (ds := rngD 0 b.length) (rgF fun n => cf a n + cf b n) ?_ rfl rfl ?_ ?_
    · rw [e, rng_map]
    · exact rngM1_eq (j := ((b.length : Nat) : Int)) (by simp only [mb, mr, mo, nameM, conM, binM, unM, boolM, ifM, DL.andM, DL.orM, DL.notM, andV, orV, notV, chainM, nilA, consA, dvs, dv, ownAt, fzs, lstM, tupM, callM, callP, permL, fzv, seqS, skipS, ifS, setS, asg, freeAt, retS, retV, dropS, frz, frzS, asgS, nilG, consG, tupG, subG, listAt, methM, augS, augSubS, forS, seqM, treeV, startD, endV, bodyF, bodyI, startI, ioAt, slM, partM, bors, callL, callI, callO, DL.flatV, DL.flat, List.filterMap_cons, List.filterMap_nil, List.map_cons, List.map_nil, List.getElem?_cons_zero, List.getElem?_cons_succ, List.getElem?_nil, List.set_cons_zero, List.set_cons_succ, List.cons_append, List.nil_append, List.length_cons, List.length_nil, Option.bind_some, Option.bind_none, Option.map_some, Option.map_none, Nat.reduceSub, Nat.reduceAdd, List.replicate_succ, List.replicate_zero, Bool.not_true, Bool.not_false, if_true, if_false, Bool.false_eq_true, reduceIte, decide_true, decide_false, Nat.reduceLT, Nat.reduceLeDiff, reduceCtorEq, Option.some.injEq, Prod.mk.injEq, lenD_IL]) hrg
    · rw [rng_map]
      exact szOkL (by simp; omega)
    · intro x hx
      obtain ⟨i, hi, rfl⟩ := List.mem_map.mp hx
      have hi := List.mem_range.mp hi
      have h1 : ixD (IL a) (.int (0 + (i : Nat))) = some (.fz (.int (cf a i))) := by rw [Int.zero_add]; exact ix_nat rfl (getD_ix (by omega))
      have h2 : ixD (IL b) (.int (0 + (i : Nat))) = some (.fz (.int (cf b i))) := by rw [Int.zero_add]; exact ix_nat rfl (getD_ix (by omega))
      refine ⟨[.dat la, .dat lb, .dat (IL a), .dat (IL b), .dat (.int (0 + (i : Nat)))], ?_, .inr ⟨.int (cf a i + cf b i), .fz (.int (cf a i + cf b i)), ?_, rfl, ?_, rfl⟩, ?_⟩
      · simp only [wipeD, mb, mr, mo, nameM, conM, binM, unM, boolM, ifM, DL.andM, DL.orM, DL.notM, andV, orV, notV, chainM, nilA, consA, dvs, dv, ownAt, fzs, lstM, tupM, callM, callP, permL, fzv, seqS, skipS, ifS, setS, asg, freeAt, retS, retV, dropS, frz, frzS, asgS, nilG, consG, tupG, subG, listAt, methM, augS, augSubS, forS, seqM, treeV, startD, endV, bodyF, bodyI, startI, ioAt, slM, partM, bors, callL, callI, callO, DL.flatV, DL.flat, List.filterMap_cons, List.filterMap_nil, List.map_cons, List.map_nil, List.getElem?_cons_zero, List.getElem?_cons_succ, List.getElem?_nil, List.set_cons_zero, List.set_cons_succ, List.cons_append, List.nil_append, List.length_cons, List.length_nil, Option.bind_some, Option.bind_none, Option.map_some, Option.map_none, Nat.reduceSub, Nat.reduceAdd, List.replicate_succ, List.replicate_zero, Bool.not_true, Bool.not_false, if_true, if_false, Bool.false_eq_true, reduceIte, decide_true, decide_false, Nat.reduceLT, Nat.reduceLeDiff, reduceCtorEq, Option.some.injEq, Prod.mk.injEq]
      · show some (PyData.int (cf a ((0 : Int) + (i : Nat)).toNat + cf b ((0 : Int) + (i : Nat)).toNat)) = _
        simp
      · simp only [mb, mr, mo, nameM, conM, binM, unM, boolM, ifM, DL.andM, DL.orM, DL.notM, andV, orV, notV, chainM, nilA, consA, dvs, dv, ownAt, fzs, lstM, tupM, callM, callP, permL, fzv, seqS, skipS, ifS, setS, asg, freeAt, retS, retV, dropS, frz, frzS, asgS, nilG, consG, tupG, subG, listAt, methM, augS, augSubS, forS, seqM, treeV, startD, endV, bodyF, bodyI, startI, ioAt, slM, partM, bors, callL, callI, callO, DL.flatV, DL.flat, List.filterMap_cons, List.filterMap_nil, List.map_cons, List.map_nil, List.getElem?_cons_zero, List.getElem?_cons_succ, List.getElem?_nil, List.set_cons_zero, List.set_cons_succ, List.cons_append, List.nil_append, List.length_cons, List.length_nil, Option.bind_some, Option.bind_none, Option.map_some, Option.map_none, Nat.reduceSub, Nat.reduceAdd, List.replicate_succ, List.replicate_zero, Bool.not_true, Bool.not_false, if_true, if_false, Bool.false_eq_true, reduceIte, decide_true, decide_false, Nat.reduceLT, Nat.reduceLeDiff, reduceCtorEq, Option.some.injEq, Prod.mk.injEq, h1, h2, addD]
      · simp only [wipeD, mb, mr, mo, nameM, conM, binM, unM, boolM, ifM, DL.andM, DL.orM, DL.notM, andV, orV, notV, chainM, nilA, consA, dvs, dv, ownAt, fzs, lstM, tupM, callM, callP, permL, fzv, seqS, skipS, ifS, setS, asg, freeAt, retS, retV, dropS, frz, frzS, asgS, nilG, consG, tupG, subG, listAt, methM, augS, augSubS, forS, seqM, treeV, startD, endV, bodyF, bodyI, startI, ioAt, slM, partM, bors, callL, callI, callO, DL.flatV, DL.flat, List.filterMap_cons, List.filterMap_nil, List.map_cons, List.map_nil, List.getElem?_cons_zero, List.getElem?_cons_succ, List.getElem?_nil, List.set_cons_zero, List.set_cons_succ, List.cons_append, List.nil_append, List.length_cons, List.length_nil, Option.bind_some, Option.bind_none, Option.map_some, Option.map_none, Nat.reduceSub, Nat.reduceAdd, List.replicate_succ, List.replicate_zero, Bool.not_true, Bool.not_false, if_true, if_false, Bool.false_eq_true, reduceIte, decide_true, decide_false, Nat.reduceLT, Nat.reduceLeDiff, reduceCtorEq, Option.some.injEq, Prod.mk.injEq]
/-- the sum, the longer line first -/
theorem plus_s2_gen {la lb near far s t u c : D} {k : Int} (hc : g_plus_lines_c1 [.dat la, .dat lb, .dat near, .dat far, .un] = some (.ow s, [.dat la, .dat lb, .dat near, .dat far, .un])) (hl : lenD [far] = some (.fz (.int k))) (hs : slD near (some k) none = some (.ow t)) (hd : listD [t] = some (.ow t)) (hadd : addD s t = some (.ow u)) (h1 : m_trimmed [u] = some (.ow c)) :
    g_plus_lines_s2 [.dat la, .dat lb, .dat near, .dat far, .un] = some (.rt (.ow c), [.dat la, .dat lb, .dat near, .dat far, .un]) := by
  simp only [g_plus_lines_s2, mb, mr, mo, nameM, conM, binM, unM, boolM, ifM, DL.andM, DL.orM, DL.notM, andV, orV, notV, chainM, nilA, consA, dvs, dv, ownAt, fzs, lstM, tupM, callM, callP, permL, fzv, seqS, skipS, ifS, setS, asg, freeAt, retS, retV, dropS, frz, frzS, asgS, nilG, consG, tupG, subG, listAt, methM, augS, augSubS, forS, seqM, treeV, startD, endV, bodyF, bodyI, startI, ioAt, slM, partM, bors, callL, callI, callO, DL.flatV, DL.flat, List.filterMap_cons, List.filterMap_nil, List.map_cons, List.map_nil, List.getElem?_cons_zero, List.getElem?_cons_succ, List.getElem?_nil, List.set_cons_zero, List.set_cons_succ, List.cons_append, List.nil_append, List.length_cons, List.length_nil, Option.bind_some, Option.bind_none, Option.map_some, Option.map_none, Nat.reduceSub, Nat.reduceAdd, List.replicate_succ, List.replicate_zero, Bool.not_true, Bool.not_false, if_true, if_false, Bool.false_eq_true, reduceIte, decide_true, decide_false, Nat.reduceLT, Nat.reduceLeDiff, reduceCtorEq, Option.some.injEq, Prod.mk.injEq, hc, hl, hs, hd, hadd, h1]
theorem plus_s2 (la lb : D) (a b : List Int) (h : b.length ≤ a.length) (hz : a.length ≤ 900) : ∃ c, (∃ δ', g_plus_lines_s2 [.dat la, .dat lb, .dat (IL a), .dat (IL b), .un] = some (.rt (.ow (IL c)), δ')) ∧ Nz c ∧ (∀ n, cf c n = cf a n + cf b n) ∧ c.length ≤ a.length := by
  have hc := plus_c1 la lb a b h hz
  have hs := slD_from a h
  have hd : listD [IL (a.drop b.length)] = some (.ow (IL (a.drop b.length))) := rfl
  have hadd := addD_IL ((List.range b.length).map fun n => cf a n + cf b n) (a.drop b.length) (by rw [List.length_map, List.length_range, List.length_drop]; omega)
  obtain ⟨c, h1, h2, h3, h4⟩ := r_trimmed (((List.range b.length).map fun n => cf a n + cf b n) ++ a.drop b.length) (by simp; omega)
  refine ⟨c, ⟨[.dat la, .dat lb, .dat (IL a), .dat (IL b), .un], plus_s2_gen hc (lenD_IL b) hs hd hadd h1⟩, h2, fun n => ?_, by simp at h4; omega⟩
  rw [h3]
  by_cases hn : n < b.length
  · rw [PL.cf_append_left (by simpa using hn), cf_range, if_pos hn]
  · have hl : ((List.range b.length).map fun n => cf a n + cf b n).length = b.length := by rw [List.length_map, List.length_range]
    rw [PL.cf_append_right (by rw [hl]; omega), cf_drop, PL.cf_beyond (a := b) (by omega), hl, Int.add_zero, Nat.sub_add_cancel (by omega)]
theorem r_plus (a b : List Int) (ha : a.length ≤ 900) (hb : b.length ≤ 900) : ∃ c, m_plus_lines [IL a, IL b] = some (.ow (IL c)) ∧ Nz c ∧ (∀ n, cf c n = cf a n + cf b n) ∧ c.length ≤ max a.length b.length := by
  by_cases h : b.length ≤ a.length
  · obtain ⟨c, ⟨δ', h1⟩, h2, h3, h4⟩ := plus_s2 (IL a) (IL b) a b h ha
    refine ⟨c, ?_, h2, h3, by omega⟩
    simp only [m_plus_lines, g_plus_lines, g_plus_lines_s1, mb, mr, mo, nameM, conM, binM, unM, boolM, ifM, DL.andM, DL.orM, DL.notM, andV, orV, notV, chainM, nilA, consA, dvs, dv, ownAt, fzs, lstM, tupM, callM, callP, permL, fzv, seqS, skipS, ifS, setS, asg, freeAt, retS, retV, dropS, frz, frzS, asgS, nilG, consG, tupG, subG, listAt, methM, augS, augSubS, forS, seqM, treeV, startD, endV, bodyF, bodyI, startI, ioAt, slM, partM, bors, callL, callI, callO, DL.flatV, DL.flat, List.filterMap_cons, List.filterMap_nil, List.map_cons, List.map_nil, List.getElem?_cons_zero, List.getElem?_cons_succ, List.getElem?_nil, List.set_cons_zero, List.set_cons_succ, List.cons_append, List.nil_append, List.length_cons, List.length_nil, Option.bind_some, Option.bind_none, Option.map_some, Option.map_none, Nat.reduceSub, Nat.reduceAdd, List.replicate_succ, List.replicate_zero, Bool.not_true, Bool.not_false, if_true, if_false, Bool.false_eq_true, reduceIte, decide_true, decide_false, Nat.reduceLT, Nat.reduceLeDiff, reduceCtorEq, Option.some.injEq, Prod.mk.injEq, lenD_IL, geI, intB, decide_eq_true (show ((b.length : Nat) : Int) ≤ (a.length : Nat) by omega), szOk2, itemsOf, h1]
  · obtain ⟨c, ⟨δ', h1⟩, h2, h3, h4⟩ := plus_s2 (IL a) (IL b) b a (by omega) hb
    refine ⟨c, ?_, h2, fun n => by rw [h3, Int.add_comm], by omega⟩
    simp only [m_plus_lines, g_plus_lines, g_plus_lines_s1, mb, mr, mo, nameM, conM, binM, unM, boolM, ifM, DL.andM, DL.orM, DL.notM, andV, orV, notV, chainM, nilA, consA, dvs, dv, ownAt, fzs, lstM, tupM, callM, callP, permL, fzv, seqS, skipS, ifS, setS, asg, freeAt, retS, retV, dropS, frz, frzS, asgS, nilG, consG, tupG, subG, listAt, methM, augS, augSubS, forS, seqM, treeV, startD, endV, bodyF, bodyI, startI, ioAt, slM, partM, bors, callL, callI, callO, DL.flatV, DL.flat, List.filterMap_cons, List.filterMap_nil, List.map_cons, List.map_nil, List.getElem?_cons_zero, List.getElem?_cons_succ, List.getElem?_nil, List.set_cons_zero, List.set_cons_succ, List.cons_append, List.nil_append, List.length_cons, List.length_nil, Option.bind_some, Option.bind_none, Option.map_some, Option.map_none, Nat.reduceSub, Nat.reduceAdd, List.replicate_succ, List.replicate_zero, Bool.not_true, Bool.not_false, if_true, if_false, Bool.false_eq_true, reduceIte, decide_true, decide_false, Nat.reduceLT, Nat.reduceLeDiff, reduceCtorEq, Option.some.injEq, Prod.mk.injEq, lenD_IL, geI, intB, decide_eq_false (show ¬ ((b.length : Nat) : Int) ≤ (a.length : Nat) by omega), szOk2, itemsOf, h1]
end K13
end
section
set_option maxRecDepth 100000
set_option exponentiation.threshold 100000
set_option exponentiation.threshold 100000
set_option maxHeartbeats 1000000
namespace K13
open PySem PySem.Spec L2 DL
open PL (cf Nz cv vl sm)
theorem scaled_c1 (b : List Int) (x : Int) (hx : x.natAbs < 2 ^ 8000) (hb : ∀ y ∈ b, y.natAbs < 2 ^ 8000) (hz : b.length ≤ 900) : g_scaled_line_c1 [.dat (IL b), .dat (.int x), .un] = some (.ow (IL (b.map (x * ·))), [.dat (IL b), .dat (.int x), .un]) := by
  unfold g_scaled_line_c1
  have e := compM_gen (fi := seqM (nameM 0)) (gt := asg 2) (ft := mr true) (fe := binM mulD (nameM 1) (nameM 2)) (vs := [2]) (δ := [.dat (IL b), .dat (.int x), .un]) (ds := b.map .int) (fun t => match t with
    | .int i => some (.int (x * i))
    | _ => none) ?_ rfl rfl ?_ ?_
  · rw [e, List.filterMap_map]
    congr 3
    rw [IL, List.map_map, ← List.filterMap_eq_map']
    rfl
  · simp only [mb, mr, mo, nameM, conM, binM, unM, boolM, ifM, DL.andM, DL.orM, DL.notM, andV, orV, notV, chainM, nilA, consA, dvs, dv, ownAt, fzs, lstM, tupM, callM, callP, permL, fzv, seqS, skipS, ifS, setS, asg, freeAt, retS, retV, dropS, frz, frzS, asgS, nilG, consG, tupG, subG, listAt, methM, augS, augSubS, forS, seqM, treeV, startD, endV, bodyF, bodyI, startI, ioAt, slM, partM, bors, callL, callI, callO, DL.flatV, DL.flat, List.filterMap_cons, List.filterMap_nil, List.map_cons, List.map_nil, List.getElem?_cons_zero, List.getElem?_cons_succ, List.getElem?_nil, List.set_cons_zero, List.set_cons_succ, List.cons_append, List.nil_append, List.length_cons, List.length_nil, Option.bind_some, Option.bind_none, Option.map_some, Option.map_none, Nat.reduceSub, Nat.reduceAdd, List.replicate_succ, List.replicate_zero, Bool.not_true, Bool.not_false, if_true, if_false, Bool.false_eq_true, reduceIte, decide_true, decide_false, Nat.reduceLT, Nat.reduceLeDiff, reduceCtorEq, Option.some.injEq, Prod.mk.injEq, itemsOf]
  · refine szOkL (Nat.le_trans (List.length_filterMap_le _ _) ?_)
    rw [List.length_map]
    omega
  · intro t ht
    obtain ⟨i, hi, rfl⟩ := List.mem_map.mp ht
    have hm := mulD_big hx (hb i hi)
    refine ⟨[.dat (IL b), .dat (.int x), .dat (.int i)], ?_, .inr ⟨_, .fz (.int (x * i)), rfl, rfl, ?_, rfl⟩, ?_⟩
    · simp only [wipeD, mb, mr, mo, nameM, conM, binM, unM, boolM, ifM, DL.andM, DL.orM, DL.notM, andV, orV, notV, chainM, nilA, consA, dvs, dv, ownAt, fzs, lstM, tupM, callM, callP, permL, fzv, seqS, skipS, ifS, setS, asg, freeAt, retS, retV, dropS, frz, frzS, asgS, nilG, consG, tupG, subG, listAt, methM, augS, augSubS, forS, seqM, treeV, startD, endV, bodyF, bodyI, startI, ioAt, slM, partM, bors, callL, callI, callO, DL.flatV, DL.flat, List.filterMap_cons, List.filterMap_nil, List.map_cons, List.map_nil, List.getElem?_cons_zero, List.getElem?_cons_succ, List.getElem?_nil, List.set_cons_zero, List.set_cons_succ, List.cons_append, List.nil_append, List.length_cons, List.length_nil, Option.bind_some, Option.bind_none, Option.map_some, Option.map_none, Nat.reduceSub, Nat.reduceAdd, List.replicate_succ, List.replicate_zero, Bool.not_true, Bool.not_false, if_true, if_false, Bool.false_eq_true, reduceIte, decide_true, decide_false, Nat.reduceLT, Nat.reduceLeDiff, reduceCtorEq, Option.some.injEq, Prod.mk.injEq]
    · simp only [mb, mr, mo, nameM, conM, binM, unM, boolM, ifM, DL.andM, DL.orM, DL.notM, andV, orV, notV, chainM, nilA, consA, dvs, dv, ownAt, fzs, lstM, tupM, callM, callP, permL, fzv, seqS, skipS, ifS, setS, asg, freeAt, retS, retV, dropS, frz, frzS, asgS, nilG, consG, tupG, subG, listAt, methM, augS, augSubS, forS, seqM, treeV, startD, endV, bodyF, bodyI, startI, ioAt, slM, partM, bors, callL, callI, callO, DL.flatV, DL.flat, List.filterMap_cons, List.filterMap_nil, List.map_cons, List.map_nil, List.getElem?_cons_zero, List.getElem?_cons_succ, List.getElem?_nil, List.set_cons_zero, List.set_cons_succ, List.cons_append, List.nil_append, List.length_cons, List.length_nil, Option.bind_some, Option.bind_none, Option.map_some, Option.map_none, Nat.reduceSub, Nat.reduceAdd, List.replicate_succ, List.replicate_zero, Bool.not_true, Bool.not_false, if_true, if_false, Bool.false_eq_true, reduceIte, decide_true, decide_false, Nat.reduceLT, Nat.reduceLeDiff, reduceCtorEq, Option.some.injEq, Prod.mk.injEq, hm]
    · simp only [wipeD, mb, mr, mo, nameM, conM, binM, unM, boolM, ifM, DL.andM, DL.orM, DL.notM, andV, orV, notV, chainM, nilA, consA, dvs, dv, ownAt, fzs, lstM, tupM, callM, callP, permL, fzv, seqS, skipS, ifS, setS, asg, freeAt, retS, retV, dropS, frz, frzS, asgS, nilG, consG, tupG, subG, listAt, methM, augS, augSubS, forS, seqM, treeV, startD, endV, bodyF, bodyI, startI, ioAt, slM, partM, bors, callL, callI, callO, DL.flatV, DL.flat, List.filterMap_cons, List.filterMap_nil, List.map_cons, List.map_nil, List.getElem?_cons_zero, List.getElem?_cons_succ, List.getElem?_nil, List.set_cons_zero, List.set_cons_succ, List.cons_append, List.nil_append, List.length_cons, List.length_nil, Option.bind_some, Option.bind_none, Option.map_some, Option.map_none, Nat.reduceSub, Nat.reduceAdd, List.replicate_succ, List.replicate_zero, Bool.not_true, Bool.not_false, if_true, if_false, Bool.false_eq_true, reduceIte, decide_true, decide_false, Nat.reduceLT, Nat.reduceLeDiff, reduceCtorEq, Option.some.injEq, Prod.mk.injEq]
theorem r_scaled (b : List Int) {x : Int} (h0 : x ≠ 0) (hx : x.natAbs < 2 ^ 8000) (hb : ∀ y ∈ b, y.natAbs < 2 ^ 8000) (hz : b.length ≤ 900) : m_scaled_line [IL b, .int x] = some (.ow (IL (b.map (x * ·)))) := by
  have hc := scaled_c1 b x hx hb hz
  simp only [m_scaled_line, g_scaled_line, g_scaled_line_s1, mb, mr, mo, nameM, conM, binM, unM, boolM, ifM, DL.andM, DL.orM, DL.notM, andV, orV, notV, chainM, nilA, consA, dvs, dv, ownAt, fzs, lstM, tupM, callM, callP, permL, fzv, seqS, skipS, ifS, setS, asg, freeAt, retS, retV, dropS, frz, frzS, asgS, nilG, consG, tupG, subG, listAt, methM, augS, augSubS, forS, seqM, treeV, startD, endV, bodyF, bodyI, startI, ioAt, slM, partM, bors, callL, callI, callO, DL.flatV, DL.flat, List.filterMap_cons, List.filterMap_nil, List.map_cons, List.map_nil, List.getElem?_cons_zero, List.getElem?_cons_succ, List.getElem?_nil, List.set_cons_zero, List.set_cons_succ, List.cons_append, List.nil_append, List.length_cons, List.length_nil, Option.bind_some, Option.bind_none, Option.map_some, Option.map_none, Nat.reduceSub, Nat.reduceAdd, List.replicate_succ, List.replicate_zero, Bool.not_true, Bool.not_false, if_true, if_false, Bool.false_eq_true, reduceIte, decide_true, decide_false, Nat.reduceLT, Nat.reduceLeDiff, reduceCtorEq, Option.some.injEq, Prod.mk.injEq, neD_int, decide_eq_false h0, hc]
theorem r_minus (a b : List Int) (ha : a.length ≤ 900) (hb : b.length ≤ 900) (hy : ∀ y ∈ b, y.natAbs < 2 ^ 8000) : ∃ c, m_minus_lines [IL a, IL b] = some (.ow (IL c)) ∧ Nz c ∧ (∀ n, cf c n = cf a n - cf b n) ∧ c.length ≤ max a.length b.length := by
  have hs := r_scaled b (x := -1) (by decide) (by decide) hy hb
  obtain ⟨c, h1, h2, h3, h4⟩ := r_plus a (b.map ((-1) * ·)) ha (by simpa using hb)
  refine ⟨c, ?_, h2, fun n => ?_, by simpa using h4⟩
  · simp only [m_minus_lines, g_minus_lines, g_minus_lines_s1, mb, mr, mo, nameM, conM, binM, unM, boolM, ifM, DL.andM, DL.orM, DL.notM, andV, orV, notV, chainM, nilA, consA, dvs, dv, ownAt, fzs, lstM, tupM, callM, callP, permL, fzv, seqS, skipS, ifS, setS, asg, freeAt, retS, retV, dropS, frz, frzS, asgS, nilG, consG, tupG, subG, listAt, methM, augS, augSubS, forS, seqM, treeV, startD, endV, bodyF, bodyI, startI, ioAt, slM, partM, bors, callL, callI, callO, DL.flatV, DL.flat, List.filterMap_cons, List.filterMap_nil, List.map_cons, List.map_nil, List.getElem?_cons_zero, List.getElem?_cons_succ, List.getElem?_nil, List.set_cons_zero, List.set_cons_succ, List.cons_append, List.nil_append, List.length_cons, List.length_nil, Option.bind_some, Option.bind_none, Option.map_some, Option.map_none, Nat.reduceSub, Nat.reduceAdd, List.replicate_succ, List.replicate_zero, Bool.not_true, Bool.not_false, if_true, if_false, Bool.false_eq_true, reduceIte, decide_true, decide_false, Nat.reduceLT, Nat.reduceLeDiff, reduceCtorEq, Option.some.injEq, Prod.mk.injEq, negI, hs, h1]
  · rw [h3, PL.cf_map (by decide)]
    omega
end K13
end
section
set_option maxRecDepth 100000
set_option exponentiation.threshold 100000
set_option exponentiation.threshold 100000
set_option maxHeartbeats 1000000
namespace K13
open PySem PySem.Spec L2 DL
open PL (cf Nz cv vl sm)
theorem cf_zero_end (zs : List Int) (n : Nat) : cf (zs ++ [0]) n = cf zs n := by
  by_cases h : n < zs.length
  · exact PL.cf_append_left h
  · rw [PL.cf_append_right (by omega), PL.cf_beyond (a := zs) (by omega)]
    cases n - zs.length with
    | zero => rfl
    | succ k => exact PL.cf_nil k
theorem r_law_trim (a : List Int) (hz : a.length ≤ 900) : ∃ b, m__law_trim [IL a] = some (.ow (IL b)) ∧ Nz b ∧ (∀ n, cf b n = cf a n) ∧ b.length ≤ a.length := by
  have hw : ∃ δ', g__law_trim_w1 [.dat (IL a), .own false (IL a)] = some (.nx, δ') ∧ ∃ b : List Int, δ' = [.dat (IL a), .own false (IL b)] ∧ b.length ≤ a.length ∧ (∀ n, cf b n = cf a n) ∧ Nz b := by
    refine whileN_inv (fun δ => ∃ b : List Int, δ = [.dat (IL a), .own false (IL b)] ∧ b.length ≤ a.length ∧ (∀ n, cf b n = cf a n)) _ (fun δ => match δ with
      | [_, .own _ (.list l)] => l.length
      | _ => 0) ?_ fuel _ ⟨a, rfl, Nat.le_refl _, fun _ => rfl⟩ (by show (a.map PyData.int).length < _; unfold fuel; simp; omega)
    rintro δ ⟨b, rfl, hb, hc⟩
    have hne := neD_nil (shaped_IL b)
    rcases List.eq_nil_or_concat b with rfl | ⟨zs, z, rfl⟩
    · refine .inl ⟨_, ?_, [], rfl, hb, hc, PL.nz_nil⟩
      have hne : neD (IL []) (.list []) = some (.fz (.bool false)) := hne
      simp only [g__law_trim_t1, mb, mr, mo, nameM, conM, binM, unM, boolM, ifM, DL.andM, DL.orM, DL.notM, andV, orV, notV, chainM, nilA, consA, dvs, dv, ownAt, fzs, lstM, tupM, callM, callP, permL, fzv, seqS, skipS, ifS, setS, asg, freeAt, retS, retV, dropS, frz, frzS, asgS, nilG, consG, tupG, subG, listAt, methM, augS, augSubS, forS, seqM, treeV, startD, endV, bodyF, bodyI, startI, ioAt, slM, partM, bors, callL, callI, callO, DL.flatV, DL.flat, List.filterMap_cons, List.filterMap_nil, List.map_cons, List.map_nil, List.getElem?_cons_zero, List.getElem?_cons_succ, List.getElem?_nil, List.set_cons_zero, List.set_cons_succ, List.cons_append, List.nil_append, List.length_cons, List.length_nil, Option.bind_some, Option.bind_none, Option.map_some, Option.map_none, Nat.reduceSub, Nat.reduceAdd, List.replicate_succ, List.replicate_zero, Bool.not_true, Bool.not_false, if_true, if_false, Bool.false_eq_true, reduceIte, decide_true, decide_false, Nat.reduceLT, Nat.reduceLeDiff, reduceCtorEq, Option.some.injEq, Prod.mk.injEq, szOk0, hne]
    · rw [List.concat_eq_append] at *
      have hne : neD (IL (zs ++ [z])) (.list []) = some (.fz (.bool true)) := by rw [hne]; simp
      have hix : ixD (IL (zs ++ [z])) (.int (-1)) = some (.fz (.int z)) := ix_last (by rw [seq?, List.map_append]; rfl)
      by_cases hz0 : z = 0
      · subst hz0
        refine .inr ⟨[.dat (IL a), .own false (IL (zs ++ [0]))], [.dat (IL a), .own false (IL zs)], ?_, .inl ?_, ⟨zs, rfl, by simp at hb; omega, fun n => by rw [← hc, cf_zero_end]⟩, ?_⟩
        · simp only [g__law_trim_t1, mb, mr, mo, nameM, conM, binM, unM, boolM, ifM, DL.andM, DL.orM, DL.notM, andV, orV, notV, chainM, nilA, consA, dvs, dv, ownAt, fzs, lstM, tupM, callM, callP, permL, fzv, seqS, skipS, ifS, setS, asg, freeAt, retS, retV, dropS, frz, frzS, asgS, nilG, consG, tupG, subG, listAt, methM, augS, augSubS, forS, seqM, treeV, startD, endV, bodyF, bodyI, startI, ioAt, slM, partM, bors, callL, callI, callO, DL.flatV, DL.flat, List.filterMap_cons, List.filterMap_nil, List.map_cons, List.map_nil, List.getElem?_cons_zero, List.getElem?_cons_succ, List.getElem?_nil, List.set_cons_zero, List.set_cons_succ, List.cons_append, List.nil_append, List.length_cons, List.length_nil, Option.bind_some, Option.bind_none, Option.map_some, Option.map_none, Nat.reduceSub, Nat.reduceAdd, List.replicate_succ, List.replicate_zero, Bool.not_true, Bool.not_false, if_true, if_false, Bool.false_eq_true, reduceIte, decide_true, decide_false, Nat.reduceLT, Nat.reduceLeDiff, reduceCtorEq, Option.some.injEq, Prod.mk.injEq, szOk0, hne, negI, hix, eqD_int]
        · have hp : popL (List.map PyData.int (zs ++ [0])) [] = some (.int 0, zs.map .int) := by
            unfold popL
            simp
          simp only [g__law_trim_b1, mb, mr, mo, nameM, conM, binM, unM, boolM, ifM, DL.andM, DL.orM, DL.notM, andV, orV, notV, chainM, nilA, consA, dvs, dv, ownAt, fzs, lstM, tupM, callM, callP, permL, fzv, seqS, skipS, ifS, setS, asg, freeAt, retS, retV, dropS, frz, frzS, asgS, nilG, consG, tupG, subG, listAt, methM, augS, augSubS, forS, seqM, treeV, startD, endV, bodyF, bodyI, startI, ioAt, slM, partM, bors, callL, callI, callO, DL.flatV, DL.flat, List.filterMap_cons, List.filterMap_nil, List.map_cons, List.map_nil, List.getElem?_cons_zero, List.getElem?_cons_succ, List.getElem?_nil, List.set_cons_zero, List.set_cons_succ, List.cons_append, List.nil_append, List.length_cons, List.length_nil, Option.bind_some, Option.bind_none, Option.map_some, Option.map_none, Nat.reduceSub, Nat.reduceAdd, List.replicate_succ, List.replicate_zero, Bool.not_true, Bool.not_false, if_true, if_false, Bool.false_eq_true, reduceIte, decide_true, decide_false, Nat.reduceLT, Nat.reduceLeDiff, reduceCtorEq, Option.some.injEq, Prod.mk.injEq, hp]
        · show (zs.map PyData.int).length < ((zs ++ [0]).map PyData.int).length
          simp
      · refine .inl ⟨_, ?_, zs ++ [z], rfl, hb, hc, PL.nz_last hz0⟩
        simp only [g__law_trim_t1, mb, mr, mo, nameM, conM, binM, unM, boolM, ifM, DL.andM, DL.orM, DL.notM, andV, orV, notV, chainM, nilA, consA, dvs, dv, ownAt, fzs, lstM, tupM, callM, callP, permL, fzv, seqS, skipS, ifS, setS, asg, freeAt, retS, retV, dropS, frz, frzS, asgS, nilG, consG, tupG, subG, listAt, methM, augS, augSubS, forS, seqM, treeV, startD, endV, bodyF, bodyI, startI, ioAt, slM, partM, bors, callL, callI, callO, DL.flatV, DL.flat, List.filterMap_cons, List.filterMap_nil, List.map_cons, List.map_nil, List.getElem?_cons_zero, List.getElem?_cons_succ, List.getElem?_nil, List.set_cons_zero, List.set_cons_succ, List.cons_append, List.nil_append, List.length_cons, List.length_nil, Option.bind_some, Option.bind_none, Option.map_some, Option.map_none, Nat.reduceSub, Nat.reduceAdd, List.replicate_succ, List.replicate_zero, Bool.not_true, Bool.not_false, if_true, if_false, Bool.false_eq_true, reduceIte, decide_true, decide_false, Nat.reduceLT, Nat.reduceLeDiff, reduceCtorEq, Option.some.injEq, Prod.mk.injEq, szOk0, hne, negI, hix, eqD_int, decide_eq_false hz0]
  obtain ⟨δ', h1, b, rfl, h2, h3, h4⟩ := hw
  refine ⟨b, ?_, h4, h3, h2⟩
  have hl : listD [IL a] = some (.ow (IL a)) := rfl
  simp only [m__law_trim, g__law_trim, g__law_trim_s1, g__law_trim_s2, mb, mr, mo, nameM, conM, binM, unM, boolM, ifM, DL.andM, DL.orM, DL.notM, andV, orV, notV, chainM, nilA, consA, dvs, dv, ownAt, fzs, lstM, tupM, callM, callP, permL, fzv, seqS, skipS, ifS, setS, asg, freeAt, retS, retV, dropS, frz, frzS, asgS, nilG, consG, tupG, subG, listAt, methM, augS, augSubS, forS, seqM, treeV, startD, endV, bodyF, bodyI, startI, ioAt, slM, partM, bors, callL, callI, callO, DL.flatV, DL.flat, List.filterMap_cons, List.filterMap_nil, List.map_cons, List.map_nil, List.getElem?_cons_zero, List.getElem?_cons_succ, List.getElem?_nil, List.set_cons_zero, List.set_cons_succ, List.cons_append, List.nil_append, List.length_cons, List.length_nil, Option.bind_some, Option.bind_none, Option.map_some, Option.map_none, Nat.reduceSub, Nat.reduceAdd, List.replicate_succ, List.replicate_zero, Bool.not_true, Bool.not_false, if_true, if_false, Bool.false_eq_true, reduceIte, decide_true, decide_false, Nat.reduceLT, Nat.reduceLeDiff, reduceCtorEq, Option.some.injEq, Prod.mk.injEq, hl, h1]
end K13
end
section
set_option maxRecDepth 100000
set_option exponentiation.threshold 100000
set_option exponentiation.threshold 100000
set_option maxHeartbeats 1000000
namespace K13
open PySem PySem.Spec L2 DL
open PL (cf Nz cv vl sm tms inL outL outL')
/-! ### products -/
theorem tl_b1 {la lb : D} {F : List Int} {i k : Nat} {x y : Int} {n m : Sl} (hk : i + k < F.length) (hm : mulD (.int x) (.int y) = some (.fz (.int (x * y)))) :
    g_times_lines_b1 [.dat la, .dat lb, .own false (IL F), .dat (.int (i : Nat)), .dat (.int x), .dat (.int (k : Nat)), .dat (.int y)] = some (.nx, [.dat la, .dat lb, .own false (IL (PL.bump F (i + k) (x * y))), .dat (.int (i : Nat)), .dat (.int x), .dat (.int (k : Nat)), .dat (.int y)]) := by
  unfold g_times_lines_b1
  refine augSub_bump (io := false) (F := F) rfl ?_ ?_ hk
  · simp only [mb, mr, mo, nameM, conM, binM, unM, boolM, ifM, DL.andM, DL.orM, DL.notM, andV, orV, notV, chainM, nilA, consA, dvs, dv, ownAt, fzs, lstM, tupM, callM, callP, permL, fzv, seqS, skipS, ifS, setS, asg, freeAt, retS, retV, dropS, frz, frzS, asgS, nilG, consG, tupG, subG, listAt, methM, augS, augSubS, forS, seqM, treeV, startD, endV, bodyF, bodyI, startI, ioAt, slM, partM, bors, callL, callI, callO, DL.flatV, DL.flat, List.filterMap_cons, List.filterMap_nil, List.map_cons, List.map_nil, List.getElem?_cons_zero, List.getElem?_cons_succ, List.getElem?_nil, List.set_cons_zero, List.set_cons_succ, List.cons_append, List.nil_append, List.length_cons, List.length_nil, Option.bind_some, Option.bind_none, Option.map_some, Option.map_none, Nat.reduceSub, Nat.reduceAdd, List.replicate_succ, List.replicate_zero, Bool.not_true, Bool.not_false, if_true, if_false, Bool.false_eq_true, reduceIte, decide_true, decide_false, Nat.reduceLT, Nat.reduceLeDiff, reduceCtorEq, Option.some.injEq, Prod.mk.injEq, addD, ← Int.natCast_add]
  · simp only [mb, mr, mo, nameM, conM, binM, unM, boolM, ifM, DL.andM, DL.orM, DL.notM, andV, orV, notV, chainM, nilA, consA, dvs, dv, ownAt, fzs, lstM, tupM, callM, callP, permL, fzv, seqS, skipS, ifS, setS, asg, freeAt, retS, retV, dropS, frz, frzS, asgS, nilG, consG, tupG, subG, listAt, methM, augS, augSubS, forS, seqM, treeV, startD, endV, bodyF, bodyI, startI, ioAt, slM, partM, bors, callL, callI, callO, DL.flatV, DL.flat, List.filterMap_cons, List.filterMap_nil, List.map_cons, List.map_nil, List.getElem?_cons_zero, List.getElem?_cons_succ, List.getElem?_nil, List.set_cons_zero, List.set_cons_succ, List.cons_append, List.nil_append, List.length_cons, List.length_nil, Option.bind_some, Option.bind_none, Option.map_some, Option.map_none, Nat.reduceSub, Nat.reduceAdd, List.replicate_succ, List.replicate_zero, Bool.not_true, Bool.not_false, if_true, if_false, Bool.false_eq_true, reduceIte, decide_true, decide_false, Nat.reduceLT, Nat.reduceLeDiff, reduceCtorEq, Option.some.injEq, Prod.mk.injEq, hm]
theorem tl_f1 {la lb : D} {b F : List Int} {i : Nat} {x : Int} {r1 r2 : Option D} (hlb : seq? lb = some (b.map .int)) (hx : x.natAbs < 2 ^ 8000) (hb : ∀ y ∈ b, y.natAbs < 2 ^ 8000) (hF : i + b.length ≤ F.length) :
    ∃ r : Option D × Option D, g_times_lines_f1 [.dat la, .dat lb, .own false (IL F), .dat (.int (i : Nat)), .dat (.int x), rw' r1, rw' r2] = some (.nx, [.dat la, .dat lb, .own false (IL (b.zipIdx.foldl (inL i x) F)), .dat (.int (i : Nat)), .dat (.int x), rw' r.1, rw' r.2]) := by
  unfold g_times_lines_f1
  have hi : enumA (consA (nameM 1) nilA) [.dat la, .dat lb, .own false (IL F), .dat (.int (i : Nat)), .dat (.int x), rw' r1, rw' r2] = some (b.zipIdx.map fun p => .tuple [.int (p.2 : Nat), .int p.1], [.dat la, .dat lb, .own false (IL F), .dat (.int (i : Nat)), .dat (.int x), rw' r1, rw' r2]) := by
    rw [← enum_ints]
    rcases seq_cases hlb with rfl | rfl <;> simp only [mb, mr, mo, nameM, conM, binM, unM, boolM, ifM, DL.andM, DL.orM, DL.notM, andV, orV, notV, chainM, nilA, consA, dvs, dv, ownAt, fzs, lstM, tupM, callM, callP, permL, fzv, seqS, skipS, ifS, setS, asg, fr_z_un, fr_z_dat, fr_z_rw, fr_z_own, fr_s, turnF, retS, retV, dropS, frz, frzS, asgS, nilG, consG, tupG, subG, listAt, methM, augS, augSubS, forS, seqM, treeV, startD, endV, bodyF, bodyI, startI, ioAt, slM, partM, bors, callL, callI, callO, DL.flatV, DL.flat, List.filterMap_cons, List.filterMap_nil, List.map_cons, List.map_nil, List.getElem?_cons_zero, List.getElem?_cons_succ, List.getElem?_nil, List.set_cons_zero, List.set_cons_succ, List.cons_append, List.nil_append, List.length_cons, List.length_nil, Option.bind_some, Option.bind_none, Option.map_some, Option.map_none, Nat.reduceSub, Nat.reduceAdd, List.replicate_succ, List.replicate_zero, Bool.not_true, Bool.not_false, if_true, if_false, Bool.false_eq_true, reduceIte, decide_true, decide_false, Nat.reduceLT, Nat.reduceLeDiff, reduceCtorEq, Option.some.injEq, Prod.mk.injEq, enumA]
  obtain ⟨r', e, -⟩ := for_fold (gt := tupG 2 (consG (asg 5) (consG (asg 6) nilG))) (body := g_times_lines_b1) (fun p : Int × Nat => .tuple [.int (p.2 : Nat), .int p.1]) (fun (G : List Int) (r : Option D × Option D) => [.dat la, .dat lb, .own false (IL G), .dat (.int (i : Nat)), .dat (.int x), rw' r.1, rw' r.2]) (inL i x) (fun k G => G.length = F.length) b.zipIdx (s0 := F) (r0 := (r1, r2)) rfl hi rfl (fun k p G r hk hG => by
    obtain ⟨hp, hkl, hpc, hpm⟩ := zipIdx_mem hk
    refine ⟨⟨(some (.int (p.2 : Nat)), some (.int p.1)), ?_⟩, by rw [inL, PL.bump_len]; exact hG⟩
    have e1 := tl_b1 (la := la) (lb := lb) (F := G) (i := i) (k := p.2) (x := x) (y := p.1) (n := .un) (m := .un) (by omega) (mulD_big hx (hb _ hpm))
    generalize ((p.2 : Nat) : Int) = pk at e1 ⊢
    generalize ((i : Nat) : Int) = ik at e1 ⊢
    simp only [mb, mr, mo, nameM, conM, binM, unM, boolM, ifM, DL.andM, DL.orM, DL.notM, andV, orV, notV, chainM, nilA, consA, dvs, dv, ownAt, fzs, lstM, tupM, callM, callP, permL, fzv, seqS, skipS, ifS, setS, asg, fr_z_un, fr_z_dat, fr_z_rw, fr_z_own, fr_s, turnF, retS, retV, dropS, frz, frzS, asgS, nilG, consG, tupG, subG, listAt, methM, augS, augSubS, forS, seqM, treeV, startD, endV, bodyF, bodyI, startI, ioAt, slM, partM, bors, callL, callI, callO, DL.flatV, DL.flat, List.filterMap_cons, List.filterMap_nil, List.map_cons, List.map_nil, List.getElem?_cons_zero, List.getElem?_cons_succ, List.getElem?_nil, List.set_cons_zero, List.set_cons_succ, List.cons_append, List.nil_append, List.length_cons, List.length_nil, Option.bind_some, Option.bind_none, Option.map_some, Option.map_none, Nat.reduceSub, Nat.reduceAdd, List.replicate_succ, List.replicate_zero, Bool.not_true, Bool.not_false, if_true, if_false, Bool.false_eq_true, reduceIte, decide_true, decide_false, Nat.reduceLT, Nat.reduceLeDiff, reduceCtorEq, Option.some.injEq, Prod.mk.injEq, itemsOf, e1]
    rfl)
  exact ⟨r', e⟩
theorem tl_f2 {la lb : D} {a b F : List Int} {r1 r2 r3 r4 : Option D} (hla : seq? la = some (a.map .int)) (hlb : seq? lb = some (b.map .int)) (ha : ∀ y ∈ a, y.natAbs < 2 ^ 8000) (hb : ∀ y ∈ b, y.natAbs < 2 ^ 8000) (hF : a.length + b.length ≤ F.length + 1) :
    ∃ r : Option D × Option D × Option D × Option D, g_times_lines_f2 [.dat la, .dat lb, .own false (IL F), rw' r1, rw' r2, rw' r3, rw' r4] = some (.nx, [.dat la, .dat lb, .own false (IL (a.zipIdx.foldl (outL b) F)), rw' r.1, rw' r.2.1, rw' r.2.2.1, rw' r.2.2.2]) := by
  unfold g_times_lines_f2
  have hi : enumA (consA (nameM 0) nilA) [.dat la, .dat lb, .own false (IL F), rw' r1, rw' r2, rw' r3, rw' r4] = some (a.zipIdx.map fun p => .tuple [.int (p.2 : Nat), .int p.1], [.dat la, .dat lb, .own false (IL F), rw' r1, rw' r2, rw' r3, rw' r4]) := by
    rw [← enum_ints]
    rcases seq_cases hla with rfl | rfl <;> simp only [mb, mr, mo, nameM, conM, binM, unM, boolM, ifM, DL.andM, DL.orM, DL.notM, andV, orV, notV, chainM, nilA, consA, dvs, dv, ownAt, fzs, lstM, tupM, callM, callP, permL, fzv, seqS, skipS, ifS, setS, asg, fr_z_un, fr_z_dat, fr_z_rw, fr_z_own, fr_s, turnF, retS, retV, dropS, frz, frzS, asgS, nilG, consG, tupG, subG, listAt, methM, augS, augSubS, forS, seqM, treeV, startD, endV, bodyF, bodyI, startI, ioAt, slM, partM, bors, callL, callI, callO, DL.flatV, DL.flat, List.filterMap_cons, List.filterMap_nil, List.map_cons, List.map_nil, List.getElem?_cons_zero, List.getElem?_cons_succ, List.getElem?_nil, List.set_cons_zero, List.set_cons_succ, List.cons_append, List.nil_append, List.length_cons, List.length_nil, Option.bind_some, Option.bind_none, Option.map_some, Option.map_none, Nat.reduceSub, Nat.reduceAdd, List.replicate_succ, List.replicate_zero, Bool.not_true, Bool.not_false, if_true, if_false, Bool.false_eq_true, reduceIte, decide_true, decide_false, Nat.reduceLT, Nat.reduceLeDiff, reduceCtorEq, Option.some.injEq, Prod.mk.injEq, enumA]
  obtain ⟨r', e, -⟩ := for_fold (gt := tupG 2 (consG (asg 3) (consG (asg 4) nilG))) (body := g_times_lines_b2) (fun p : Int × Nat => .tuple [.int (p.2 : Nat), .int p.1]) (fun (G : List Int) (r : Option D × Option D × Option D × Option D) => [.dat la, .dat lb, .own false (IL G), rw' r.1, rw' r.2.1, rw' r.2.2.1, rw' r.2.2.2]) (outL b) (fun k G => G.length = F.length) a.zipIdx (s0 := F) (r0 := (r1, r2, r3, r4)) rfl hi rfl (fun k p G r hk hG => by
    obtain ⟨hp, hkl, hpc, hpm⟩ := zipIdx_mem hk
    refine ⟨?_, by rw [outL, PL.inL_len]; exact hG⟩
    obtain ⟨r', e1⟩ := tl_f1 (la := la) (F := G) (i := p.2) (x := p.1) (r1 := r.2.2.1) (r2 := r.2.2.2) hlb (ha _ hpm) hb (by omega)
    by_cases h0 : p.1 = 0
    · refine ⟨(some (.int (p.2 : Nat)), some (.int p.1), r.2.2.1, r.2.2.2), ?_⟩
      have e2 : outL b G p = G := by rw [outL, h0, PL.inL_zero]
      rw [e2]
      generalize ((p.2 : Nat) : Int) = pk
      simp only [mb, mr, mo, nameM, conM, binM, unM, boolM, ifM, DL.andM, DL.orM, DL.notM, andV, orV, notV, chainM, nilA, consA, dvs, dv, ownAt, fzs, lstM, tupM, callM, callP, permL, fzv, seqS, skipS, ifS, setS, asg, fr_z_un, fr_z_dat, fr_z_rw, fr_z_own, fr_s, turnF, retS, retV, dropS, frz, frzS, asgS, nilG, consG, tupG, subG, listAt, methM, augS, augSubS, forS, seqM, treeV, startD, endV, bodyF, bodyI, startI, ioAt, slM, partM, bors, callL, callI, callO, DL.flatV, DL.flat, List.filterMap_cons, List.filterMap_nil, List.map_cons, List.map_nil, List.getElem?_cons_zero, List.getElem?_cons_succ, List.getElem?_nil, List.set_cons_zero, List.set_cons_succ, List.cons_append, List.nil_append, List.length_cons, List.length_nil, Option.bind_some, Option.bind_none, Option.map_some, Option.map_none, Nat.reduceSub, Nat.reduceAdd, List.replicate_succ, List.replicate_zero, Bool.not_true, Bool.not_false, if_true, if_false, Bool.false_eq_true, reduceIte, decide_true, decide_false, Nat.reduceLT, Nat.reduceLeDiff, reduceCtorEq, Option.some.injEq, Prod.mk.injEq, itemsOf, g_times_lines_b2, neD_int, decide_eq_true h0]
      rfl
    · refine ⟨(some (.int (p.2 : Nat)), some (.int p.1), r'.1, r'.2), ?_⟩
      rw [outL]
      generalize (b.zipIdx.foldl (inL p.2 p.1) G) = G2 at e1 ⊢
      generalize ((p.2 : Nat) : Int) = pk at e1 ⊢
      simp only [mb, mr, mo, nameM, conM, binM, unM, boolM, ifM, DL.andM, DL.orM, DL.notM, andV, orV, notV, chainM, nilA, consA, dvs, dv, ownAt, fzs, lstM, tupM, callM, callP, permL, fzv, seqS, skipS, ifS, setS, asg, fr_z_un, fr_z_dat, fr_z_rw, fr_z_own, fr_s, turnF, retS, retV, dropS, frz, frzS, asgS, nilG, consG, tupG, subG, listAt, methM, augS, augSubS, forS, seqM, treeV, startD, endV, bodyF, bodyI, startI, ioAt, slM, partM, bors, callL, callI, callO, DL.flatV, DL.flat, List.filterMap_cons, List.filterMap_nil, List.map_cons, List.map_nil, List.getElem?_cons_zero, List.getElem?_cons_succ, List.getElem?_nil, List.set_cons_zero, List.set_cons_succ, List.cons_append, List.nil_append, List.length_cons, List.length_nil, Option.bind_some, Option.bind_none, Option.map_some, Option.map_none, Nat.reduceSub, Nat.reduceAdd, List.replicate_succ, List.replicate_zero, Bool.not_true, Bool.not_false, if_true, if_false, Bool.false_eq_true, reduceIte, decide_true, decide_false, Nat.reduceLT, Nat.reduceLeDiff, reduceCtorEq, Option.some.injEq, Prod.mk.injEq, itemsOf, g_times_lines_b2, neD_int, decide_eq_false h0, e1]
      rfl)
  exact ⟨r', e⟩
theorem tl_end {la lb z c : D} {k1 k2 : Int} {δ : DS} (h1 : lenD [la] = some (.fz (.int k1))) (h2 : lenD [lb] = some (.fz (.int k2))) (n1 : k1 ≠ 0) (n2 : k2 ≠ 0) (hz : mulD (.list [.int 0]) (.int (k1 + k2 - 1)) = some (.ow z))
    (hf : g_times_lines_f2 [.dat la, .dat lb, .own false z, .un, .un, .un, .un] = some (.nx, .dat la :: .dat lb :: .own false c :: δ)) (hd : δ.length = 4) : m_times_lines [la, lb] = some (.ow c) := by
  simp only [m_times_lines, g_times_lines, g_times_lines_s1, g_times_lines_s2, g_times_lines_s3, mb, mr, mo, nameM, conM, binM, unM, boolM, ifM, DL.andM, DL.orM, DL.notM, andV, orV, notV, chainM, nilA, consA, dvs, dv, ownAt, fzs, lstM, tupM, callM, callP, permL, fzv, seqS, skipS, ifS, setS, asg, freeAt, retS, retV, dropS, frz, frzS, asgS, nilG, consG, tupG, subG, listAt, methM, augS, augSubS, forS, seqM, treeV, startD, endV, bodyF, bodyI, startI, ioAt, slM, partM, bors, callL, callI, callO, DL.flatV, DL.flat, List.filterMap_cons, List.filterMap_nil, List.map_cons, List.map_nil, List.getElem?_cons_zero, List.getElem?_cons_succ, List.getElem?_nil, List.set_cons_zero, List.set_cons_succ, List.cons_append, List.nil_append, List.length_cons, List.length_nil, Option.bind_some, Option.bind_none, Option.map_some, Option.map_none, Nat.reduceSub, Nat.reduceAdd, List.replicate_succ, List.replicate_zero, Bool.not_true, Bool.not_false, if_true, if_false, Bool.false_eq_true, reduceIte, decide_true, decide_false, Nat.reduceLT, Nat.reduceLeDiff, reduceCtorEq, Option.some.injEq, Prod.mk.injEq, h1, h2, eqD_int, decide_eq_false n1, decide_eq_false n2, szOk1, addD, subI, intB, hz, hf]
theorem tl_nil {la lb : D} {k1 k2 : Int} (h1 : lenD [la] = some (.fz (.int k1))) (h2 : lenD [lb] = some (.fz (.int k2))) (n : k1 = 0 ∨ k2 = 0) : m_times_lines [la, lb] = some (.ow (.list [])) := by
  by_cases n1 : k1 = 0
  · simp only [m_times_lines, g_times_lines, g_times_lines_s1, g_times_lines_s2, g_times_lines_s3, mb, mr, mo, nameM, conM, binM, unM, boolM, ifM, DL.andM, DL.orM, DL.notM, andV, orV, notV, chainM, nilA, consA, dvs, dv, ownAt, fzs, lstM, tupM, callM, callP, permL, fzv, seqS, skipS, ifS, setS, asg, freeAt, retS, retV, dropS, frz, frzS, asgS, nilG, consG, tupG, subG, listAt, methM, augS, augSubS, forS, seqM, treeV, startD, endV, bodyF, bodyI, startI, ioAt, slM, partM, bors, callL, callI, callO, DL.flatV, DL.flat, List.filterMap_cons, List.filterMap_nil, List.map_cons, List.map_nil, List.getElem?_cons_zero, List.getElem?_cons_succ, List.getElem?_nil, List.set_cons_zero, List.set_cons_succ, List.cons_append, List.nil_append, List.length_cons, List.length_nil, Option.bind_some, Option.bind_none, Option.map_some, Option.map_none, Nat.reduceSub, Nat.reduceAdd, List.replicate_succ, List.replicate_zero, Bool.not_true, Bool.not_false, if_true, if_false, Bool.false_eq_true, reduceIte, decide_true, decide_false, Nat.reduceLT, Nat.reduceLeDiff, reduceCtorEq, Option.some.injEq, Prod.mk.injEq, h1, h2, eqD_int, decide_eq_true n1, szOk0]
  · simp only [m_times_lines, g_times_lines, g_times_lines_s1, g_times_lines_s2, g_times_lines_s3, mb, mr, mo, nameM, conM, binM, unM, boolM, ifM, DL.andM, DL.orM, DL.notM, andV, orV, notV, chainM, nilA, consA, dvs, dv, ownAt, fzs, lstM, tupM, callM, callP, permL, fzv, seqS, skipS, ifS, setS, asg, freeAt, retS, retV, dropS, frz, frzS, asgS, nilG, consG, tupG, subG, listAt, methM, augS, augSubS, forS, seqM, treeV, startD, endV, bodyF, bodyI, startI, ioAt, slM, partM, bors, callL, callI, callO, DL.flatV, DL.flat, List.filterMap_cons, List.filterMap_nil, List.map_cons, List.map_nil, List.getElem?_cons_zero, List.getElem?_cons_succ, List.getElem?_nil, List.set_cons_zero, List.set_cons_succ, List.cons_append, List.nil_append, List.length_cons, List.length_nil, Option.bind_some, Option.bind_none, Option.map_some, Option.map_none, Nat.reduceSub, Nat.reduceAdd, List.replicate_succ, List.replicate_zero, Bool.not_true, Bool.not_false, if_true, if_false, Bool.false_eq_true, reduceIte, decide_true, decide_false, Nat.reduceLT, Nat.reduceLeDiff, reduceCtorEq, Option.some.injEq, Prod.mk.injEq, h1, h2, eqD_int, decide_eq_false n1, decide_eq_true (n.resolve_left n1), szOk0]
/-- the program's product -/
theorem r_times {la lb : D} {a b : List Int} (hla : seq? la = some (a.map .int)) (hlb : seq? lb = some (b.map .int)) (ha : ∀ y ∈ a, y.natAbs < 2 ^ 8000) (hb : ∀ y ∈ b, y.natAbs < 2 ^ 8000) (hz : a.length ≤ 900) (hy : b.length ≤ 900) : m_times_lines [la, lb] = some (.ow (IL (PL.ml a b))) := by
  unfold PL.ml
  by_cases h : a = [] ∨ b = []
  · rw [if_pos h]
    exact tl_nil (len_ints hla) (len_ints hlb) (h.imp (fun e => by rw [e]; rfl) fun e => by rw [e]; rfl)
  · rw [if_neg h]
    have h1 : 0 < a.length := List.length_pos_iff.mpr fun z => h (.inl z)
    have h2 : 0 < b.length := List.length_pos_iff.mpr fun z => h (.inr z)
    obtain ⟨r, e⟩ := tl_f2 (F := List.replicate (a.length + b.length - 1) 0) (r1 := none) (r2 := none) (r3 := none) (r4 := none) hla hlb ha hb (by rw [List.length_replicate]; omega)
    refine tl_end (len_ints hla) (len_ints hlb) (by omega) (by omega) ?_ e rfl
    rw [show ((a.length : Nat) : Int) + (b.length : Nat) - 1 = ((a.length + b.length - 1 : Nat) : Int) by omega]
    exact rep_zeros _ (by omega)
end K13
end
section
set_option maxRecDepth 100000
set_option exponentiation.threshold 100000
set_option exponentiation.threshold 100000
set_option maxHeartbeats 1000000
namespace K13
open PySem PySem.Spec L2 DL
open PL (cf Nz cv vl sm tms inL outL outL')
/-! ### greatest divisors -/
theorem gcd_w {d e : D} {a b : Nat} (ha : a < 2 ^ 8000) (hb : b < 2 ^ 8000) : g_divisor_of_w1 [.dat d, .dat e, .dat (.int a), .dat (.int b)] = some (.nx, [.dat d, .dat e, .dat (.int (Nat.gcd a b)), .dat (.int 0)]) := by
  unfold g_divisor_of_w1
  refine gcd_big (fun x y => [.dat d, .dat e, .dat (.int x), .dat (.int y)]) (fun x y => ?_) (fun x y q p h1 h2 => ?_) ha hb (by unfold fuel; decide)
  · simp only [g_divisor_of_t1, mb, mr, mo, nameM, conM, binM, unM, boolM, ifM, DL.andM, DL.orM, DL.notM, andV, orV, notV, chainM, nilA, consA, dvs, dv, ownAt, fzs, lstM, tupM, callM, callP, permL, fzv, seqS, skipS, ifS, setS, asg, freeAt, retS, retV, dropS, frz, frzS, asgS, nilG, consG, tupG, subG, listAt, methM, augS, augSubS, forS, seqM, treeV, startD, endV, bodyF, bodyI, startI, ioAt, slM, partM, bors, callL, callI, callO, DL.flatV, DL.flat, List.filterMap_cons, List.filterMap_nil, List.map_cons, List.map_nil, List.getElem?_cons_zero, List.getElem?_cons_succ, List.getElem?_nil, List.set_cons_zero, List.set_cons_succ, List.cons_append, List.nil_append, List.length_cons, List.length_nil, Option.bind_some, Option.bind_none, Option.map_some, Option.map_none, Nat.reduceSub, Nat.reduceAdd, List.replicate_succ, List.replicate_zero, Bool.not_true, Bool.not_false, if_true, if_false, Bool.false_eq_true, reduceIte, decide_true, decide_false, Nat.reduceLT, Nat.reduceLeDiff, reduceCtorEq, Option.some.injEq, Prod.mk.injEq, neD_int]
  · simp only [g_divisor_of_b1, parS, mb, mr, mo, nameM, conM, binM, unM, boolM, ifM, DL.andM, DL.orM, DL.notM, andV, orV, notV, chainM, nilA, consA, dvs, dv, ownAt, fzs, lstM, tupM, callM, callP, permL, fzv, seqS, skipS, ifS, setS, asg, freeAt, retS, retV, dropS, frz, frzS, asgS, nilG, consG, tupG, subG, listAt, methM, augS, augSubS, forS, seqM, treeV, startD, endV, bodyF, bodyI, startI, ioAt, slM, partM, bors, callL, callI, callO, DL.flatV, DL.flat, List.filterMap_cons, List.filterMap_nil, List.map_cons, List.map_nil, List.getElem?_cons_zero, List.getElem?_cons_succ, List.getElem?_nil, List.set_cons_zero, List.set_cons_succ, List.cons_append, List.nil_append, List.length_cons, List.length_nil, Option.bind_some, Option.bind_none, Option.map_some, Option.map_none, Nat.reduceSub, Nat.reduceAdd, List.replicate_succ, List.replicate_zero, Bool.not_true, Bool.not_false, if_true, if_false, Bool.false_eq_true, reduceIte, decide_true, decide_false, Nat.reduceLT, Nat.reduceLeDiff, reduceCtorEq, Option.some.injEq, Prod.mk.injEq, h1, h2, subI, intB]
theorem div_end {i j a b c : Int} (h1 : absD [.int i] = some (.fz (.int a))) (h2 : absD [.int j] = some (.fz (.int b))) (hw : g_divisor_of_w1 [.dat (.int i), .dat (.int j), .dat (.int a), .dat (.int b)] = some (.nx, [.dat (.int i), .dat (.int j), .dat (.int c), .dat (.int 0)])) : m_divisor_of [.int i, .int j] = some (.fz (.int c)) := by
  simp only [m_divisor_of, g_divisor_of, g_divisor_of_s1, g_divisor_of_s2, parS, mb, mr, mo, nameM, conM, binM, unM, boolM, ifM, DL.andM, DL.orM, DL.notM, andV, orV, notV, chainM, nilA, consA, dvs, dv, ownAt, fzs, lstM, tupM, callM, callP, permL, fzv, seqS, skipS, ifS, setS, asg, freeAt, retS, retV, dropS, frz, frzS, asgS, nilG, consG, tupG, subG, listAt, methM, augS, augSubS, forS, seqM, treeV, startD, endV, bodyF, bodyI, startI, ioAt, slM, partM, bors, callL, callI, callO, DL.flatV, DL.flat, List.filterMap_cons, List.filterMap_nil, List.map_cons, List.map_nil, List.getElem?_cons_zero, List.getElem?_cons_succ, List.getElem?_nil, List.set_cons_zero, List.set_cons_succ, List.cons_append, List.nil_append, List.length_cons, List.length_nil, Option.bind_some, Option.bind_none, Option.map_some, Option.map_none, Nat.reduceSub, Nat.reduceAdd, List.replicate_succ, List.replicate_zero, Bool.not_true, Bool.not_false, if_true, if_false, Bool.false_eq_true, reduceIte, decide_true, decide_false, Nat.reduceLT, Nat.reduceLeDiff, reduceCtorEq, Option.some.injEq, Prod.mk.injEq, h1, h2, hw]
theorem r_divisor {i j : Int} (hi : i.natAbs < 2 ^ 8000) (hj : j.natAbs < 2 ^ 8000) : m_divisor_of [.int i, .int j] = some (.fz (.int (Nat.gcd i.natAbs j.natAbs))) := div_end (absD_int i) (absD_int j) (gcd_w hi hj)
theorem gcd_lt {g k : Nat} (h : g < 2 ^ 8000) (hk : k < 2 ^ 8000) : Nat.gcd g k < 2 ^ 8000 := by
  by_cases h0 : g = 0
  · subst h0
    rw [Nat.gcd_zero_left]
    exact hk
  · exact Nat.lt_of_le_of_lt (Nat.gcd_le_left _ (Nat.pos_of_ne_zero h0)) h
theorem great_b1 {d : D} {g x v : Int} (h : m_divisor_of [.int g, .int x] = some (.fz (.int v))) : g_greatest_of_b1 [.dat d, .dat (.int g), .dat (.int x)] = some (.nx, [.dat d, .dat (.int v), .dat (.int x)]) := by
  simp only [g_greatest_of_b1, mb, mr, mo, nameM, conM, binM, unM, boolM, ifM, DL.andM, DL.orM, DL.notM, andV, orV, notV, chainM, nilA, consA, dvs, dv, ownAt, fzs, lstM, tupM, callM, callP, permL, fzv, seqS, skipS, ifS, setS, asg, freeAt, retS, retV, dropS, frz, frzS, asgS, nilG, consG, tupG, subG, listAt, methM, augS, augSubS, forS, seqM, treeV, startD, endV, bodyF, bodyI, startI, ioAt, slM, partM, bors, callL, callI, callO, DL.flatV, DL.flat, List.filterMap_cons, List.filterMap_nil, List.map_cons, List.map_nil, List.getElem?_cons_zero, List.getElem?_cons_succ, List.getElem?_nil, List.set_cons_zero, List.set_cons_succ, List.cons_append, List.nil_append, List.length_cons, List.length_nil, Option.bind_some, Option.bind_none, Option.map_some, Option.map_none, Nat.reduceSub, Nat.reduceAdd, List.replicate_succ, List.replicate_zero, Bool.not_true, Bool.not_false, if_true, if_false, Bool.false_eq_true, reduceIte, decide_true, decide_false, Nat.reduceLT, Nat.reduceLeDiff, reduceCtorEq, Option.some.injEq, Prod.mk.injEq, h]
theorem great_end {d : D} {v : Int} {s : Sl} (h : g_greatest_of_f1 [.dat d, .dat (.int 0), .un] = some (.nx, [.dat d, .dat (.int v), s])) : m_greatest_of [d] = some (.fz (.int v)) := by
  simp only [m_greatest_of, g_greatest_of, g_greatest_of_s1, g_greatest_of_s2, mb, mr, mo, nameM, conM, binM, unM, boolM, ifM, DL.andM, DL.orM, DL.notM, andV, orV, notV, chainM, nilA, consA, dvs, dv, ownAt, fzs, lstM, tupM, callM, callP, permL, fzv, seqS, skipS, ifS, setS, asg, freeAt, retS, retV, dropS, frz, frzS, asgS, nilG, consG, tupG, subG, listAt, methM, augS, augSubS, forS, seqM, treeV, startD, endV, bodyF, bodyI, startI, ioAt, slM, partM, bors, callL, callI, callO, DL.flatV, DL.flat, List.filterMap_cons, List.filterMap_nil, List.map_cons, List.map_nil, List.getElem?_cons_zero, List.getElem?_cons_succ, List.getElem?_nil, List.set_cons_zero, List.set_cons_succ, List.cons_append, List.nil_append, List.length_cons, List.length_nil, Option.bind_some, Option.bind_none, Option.map_some, Option.map_none, Nat.reduceSub, Nat.reduceAdd, List.replicate_succ, List.replicate_zero, Bool.not_true, Bool.not_false, if_true, if_false, Bool.false_eq_true, reduceIte, decide_true, decide_false, Nat.reduceLT, Nat.reduceLeDiff, reduceCtorEq, Option.some.injEq, Prod.mk.injEq, h]
theorem r_greatest {d : D} {a : List Int} (hd : seq? d = some (a.map .int)) (ha : ∀ y ∈ a, y.natAbs < 2 ^ 8000) : m_greatest_of [d] = some (.fz (.int (gl a))) := by
  have hi : seqM (nameM 0) [.dat d, .dat (.int 0), .un] = some (a.map .int, [.dat d, .dat (.int 0), .un]) := by
    rcases seq_cases hd with rfl | rfl <;> simp only [mb, mr, mo, nameM, conM, binM, unM, boolM, ifM, DL.andM, DL.orM, DL.notM, andV, orV, notV, chainM, nilA, consA, dvs, dv, ownAt, fzs, lstM, tupM, callM, callP, permL, fzv, seqS, skipS, ifS, setS, asg, fr_z_un, fr_z_dat, fr_z_rw, fr_z_own, fr_s, turnF, retS, retV, dropS, frz, frzS, asgS, nilG, consG, tupG, subG, listAt, methM, augS, augSubS, forS, seqM, treeV, startD, endV, bodyF, bodyI, startI, ioAt, slM, partM, bors, callL, callI, callO, DL.flatV, DL.flat, List.filterMap_cons, List.filterMap_nil, List.map_cons, List.map_nil, List.getElem?_cons_zero, List.getElem?_cons_succ, List.getElem?_nil, List.set_cons_zero, List.set_cons_succ, List.cons_append, List.nil_append, List.length_cons, List.length_nil, Option.bind_some, Option.bind_none, Option.map_some, Option.map_none, Nat.reduceSub, Nat.reduceAdd, List.replicate_succ, List.replicate_zero, Bool.not_true, Bool.not_false, if_true, if_false, Bool.false_eq_true, reduceIte, decide_true, decide_false, Nat.reduceLT, Nat.reduceLeDiff, reduceCtorEq, Option.some.injEq, Prod.mk.injEq, itemsOf]
  obtain ⟨r', e, -⟩ := for_fold (gt := asg 2) (body := g_greatest_of_b1) (fun x : Int => .int x) (fun (g : Nat) (r : Option D) => [.dat d, .dat (.int g), rw' r]) (fun g x => Nat.gcd g x.natAbs) (fun k g => g < 2 ^ 8000) a (s0 := 0) (r0 := none) rfl hi (by decide) (fun k x g r hk hg => by
    have hx := ha x (List.mem_of_getElem? hk)
    refine ⟨⟨some (.int x), ?_⟩, gcd_lt hg hx⟩
    have e := great_b1 (d := d) (r_divisor (i := (g : Int)) (j := x) (by rw [Int.natAbs_natCast]; exact hg) hx)
    rw [Int.natAbs_natCast] at e
    generalize ((Nat.gcd g x.natAbs : Nat) : Int) = v at e ⊢
    simp only [mb, mr, mo, nameM, conM, binM, unM, boolM, ifM, DL.andM, DL.orM, DL.notM, andV, orV, notV, chainM, nilA, consA, dvs, dv, ownAt, fzs, lstM, tupM, callM, callP, permL, fzv, seqS, skipS, ifS, setS, asg, fr_z_un, fr_z_dat, fr_z_rw, fr_z_own, fr_s, turnF, retS, retV, dropS, frz, frzS, asgS, nilG, consG, tupG, subG, listAt, methM, augS, augSubS, forS, seqM, treeV, startD, endV, bodyF, bodyI, startI, ioAt, slM, partM, bors, callL, callI, callO, DL.flatV, DL.flat, List.filterMap_cons, List.filterMap_nil, List.map_cons, List.map_nil, List.getElem?_cons_zero, List.getElem?_cons_succ, List.getElem?_nil, List.set_cons_zero, List.set_cons_succ, List.cons_append, List.nil_append, List.length_cons, List.length_nil, Option.bind_some, Option.bind_none, Option.map_some, Option.map_none, Nat.reduceSub, Nat.reduceAdd, List.replicate_succ, List.replicate_zero, Bool.not_true, Bool.not_false, if_true, if_false, Bool.false_eq_true, reduceIte, decide_true, decide_false, Nat.reduceLT, Nat.reduceLeDiff, reduceCtorEq, Option.some.injEq, Prod.mk.injEq, e]
    rfl)
  exact great_end e
end K13
end
section
set_option maxRecDepth 100000
set_option exponentiation.threshold 100000
set_option exponentiation.threshold 100000
set_option maxHeartbeats 1000000
namespace K13
open PySem PySem.Spec L2 DL
open PL (cf Nz cv vl sm tms inL outL outL')
/-! ### plain lines -/
theorem div_comp {d : D} {g : Int} {a : List Int} (hd : seq? d = some (a.map .int)) (h0 : g ≠ 0) (hg : g.natAbs < 2 ^ 8000) (hz : a.length ≤ 900) : compM (seqM (nameM 0)) (asg 2) (mr true) (binM fdivD (nameM 2) (nameM 1)) [2] [.dat d, .dat (.int g), .un] = some (.ow (IL (a.map fun x => x.fdiv g)), [.dat d, .dat (.int g), .un]) := by
  have hi : seqM (nameM 0) [.dat d, .dat (.int g), .un] = some (a.map .int, [.dat d, .dat (.int g), .un]) := by
    rcases seq_cases hd with rfl | rfl <;> simp only [mb, mr, mo, nameM, conM, binM, unM, boolM, ifM, DL.andM, DL.orM, DL.notM, andV, orV, notV, chainM, nilA, consA, dvs, dv, ownAt, fzs, lstM, tupM, callM, callP, permL, fzv, seqS, skipS, ifS, setS, asg, fr_z_un, fr_z_dat, fr_z_rw, fr_z_own, fr_s, turnF, retS, retV, dropS, frz, frzS, asgS, nilG, consG, tupG, subG, listAt, methM, augS, augSubS, forS, seqM, treeV, startD, endV, bodyF, bodyI, startI, ioAt, slM, partM, bors, callL, callI, callO, DL.flatV, DL.flat, List.filterMap_cons, List.filterMap_nil, List.map_cons, List.map_nil, List.getElem?_cons_zero, List.getElem?_cons_succ, List.getElem?_nil, List.set_cons_zero, List.set_cons_succ, List.cons_append, List.nil_append, List.length_cons, List.length_nil, Option.bind_some, Option.bind_none, Option.map_some, Option.map_none, Nat.reduceSub, Nat.reduceAdd, List.replicate_succ, List.replicate_zero, Bool.not_true, Bool.not_false, if_true, if_false, Bool.false_eq_true, reduceIte, decide_true, decide_false, Nat.reduceLT, Nat.reduceLeDiff, reduceCtorEq, Option.some.injEq, Prod.mk.injEq, itemsOf]
  rw [comp_map (gt := asg 2) (fe := binM fdivD (nameM 2) (nameM 1)) (vs := [2]) a (fun x => .int x) (fun x => .int (x.fdiv g)) (fun x => [.dat d, .dat (.int g), .dat (.int x)]) hi rfl rfl (by omega) (fun x hx => by
    have hf := fdivD_big (i := x) h0 hg
    exact ⟨rfl, ⟨.fz (.int (x.fdiv g)), by simp only [mb, mr, mo, nameM, conM, binM, unM, boolM, ifM, DL.andM, DL.orM, DL.notM, andV, orV, notV, chainM, nilA, consA, dvs, dv, ownAt, fzs, lstM, tupM, callM, callP, permL, fzv, seqS, skipS, ifS, setS, asg, fr_z_un, fr_z_dat, fr_z_rw, fr_z_own, fr_s, turnF, retS, retV, dropS, frz, frzS, asgS, nilG, consG, tupG, subG, listAt, methM, augS, augSubS, forS, seqM, treeV, startD, endV, bodyF, bodyI, startI, ioAt, slM, partM, bors, callL, callI, callO, DL.flatV, DL.flat, List.filterMap_cons, List.filterMap_nil, List.map_cons, List.map_nil, List.getElem?_cons_zero, List.getElem?_cons_succ, List.getElem?_nil, List.set_cons_zero, List.set_cons_succ, List.cons_append, List.nil_append, List.length_cons, List.length_nil, Option.bind_some, Option.bind_none, Option.map_some, Option.map_none, Nat.reduceSub, Nat.reduceAdd, List.replicate_succ, List.replicate_zero, Bool.not_true, Bool.not_false, if_true, if_false, Bool.false_eq_true, reduceIte, decide_true, decide_false, Nat.reduceLT, Nat.reduceLeDiff, reduceCtorEq, Option.some.injEq, Prod.mk.injEq, hf], rfl⟩, rfl⟩)]
  unfold IL
  rw [List.map_map]
  rfl
theorem plain_nil {d : D} (h1 : lenD [d] = some (.fz (.int 0))) : m_plain_of [d] = some (.ow (.list [])) := by
  simp only [m_plain_of, g_plain_of, g_plain_of_s1, g_plain_of_s2, g_plain_of_s3, g_plain_of_s4, mb, mr, mo, nameM, conM, binM, unM, boolM, ifM, DL.andM, DL.orM, DL.notM, andV, orV, notV, chainM, nilA, consA, dvs, dv, ownAt, fzs, lstM, tupM, callM, callP, permL, fzv, seqS, skipS, ifS, setS, asg, freeAt, retS, retV, dropS, frz, frzS, asgS, nilG, consG, tupG, subG, listAt, methM, augS, augSubS, forS, seqM, treeV, startD, endV, bodyF, bodyI, startI, ioAt, slM, partM, bors, callL, callI, callO, DL.flatV, DL.flat, List.filterMap_cons, List.filterMap_nil, List.map_cons, List.map_nil, List.getElem?_cons_zero, List.getElem?_cons_succ, List.getElem?_nil, List.set_cons_zero, List.set_cons_succ, List.cons_append, List.nil_append, List.length_cons, List.length_nil, Option.bind_some, Option.bind_none, Option.map_some, Option.map_none, Nat.reduceSub, Nat.reduceAdd, List.replicate_succ, List.replicate_zero, Bool.not_true, Bool.not_false, if_true, if_false, Bool.false_eq_true, reduceIte, decide_true, decide_false, Nat.reduceLT, Nat.reduceLeDiff, reduceCtorEq, Option.some.injEq, Prod.mk.injEq, h1, eqD_int, szOk0, decide_eq_true]
theorem plain_end {d c : D} {k g l g' : Int} (h1 : lenD [d] = some (.fz (.int k))) (hk : k ≠ 0) (h2 : m_greatest_of [d] = some (.fz (.int g))) (h3 : ixD d (.int (-1)) = some (.fz (.int l))) (hg : (if l < 0 then 0 - g else g) = g')
    (hc : g_plain_of_c1 [.dat d, .dat (.int g'), .un] = some (.ow c, [.dat d, .dat (.int g'), .un])) : m_plain_of [d] = some (.ow c) := by
  by_cases hl : l < 0
  · rw [if_pos hl] at hg
    simp only [m_plain_of, g_plain_of, g_plain_of_s1, g_plain_of_s2, g_plain_of_s3, g_plain_of_s4, mb, mr, mo, nameM, conM, binM, unM, boolM, ifM, DL.andM, DL.orM, DL.notM, andV, orV, notV, chainM, nilA, consA, dvs, dv, ownAt, fzs, lstM, tupM, callM, callP, permL, fzv, seqS, skipS, ifS, setS, asg, freeAt, retS, retV, dropS, frz, frzS, asgS, nilG, consG, tupG, subG, listAt, methM, augS, augSubS, forS, seqM, treeV, startD, endV, bodyF, bodyI, startI, ioAt, slM, partM, bors, callL, callI, callO, DL.flatV, DL.flat, List.filterMap_cons, List.filterMap_nil, List.map_cons, List.map_nil, List.getElem?_cons_zero, List.getElem?_cons_succ, List.getElem?_nil, List.set_cons_zero, List.set_cons_succ, List.cons_append, List.nil_append, List.length_cons, List.length_nil, Option.bind_some, Option.bind_none, Option.map_some, Option.map_none, Nat.reduceSub, Nat.reduceAdd, List.replicate_succ, List.replicate_zero, Bool.not_true, Bool.not_false, if_true, if_false, Bool.false_eq_true, reduceIte, decide_true, decide_false, Nat.reduceLT, Nat.reduceLeDiff, reduceCtorEq, Option.some.injEq, Prod.mk.injEq, h1, eqD_int, decide_eq_false hk, h2, negI, h3, ltI, subI, intB, decide_eq_true hl, hg, hc]
  · rw [if_neg hl] at hg
    simp only [m_plain_of, g_plain_of, g_plain_of_s1, g_plain_of_s2, g_plain_of_s3, g_plain_of_s4, mb, mr, mo, nameM, conM, binM, unM, boolM, ifM, DL.andM, DL.orM, DL.notM, andV, orV, notV, chainM, nilA, consA, dvs, dv, ownAt, fzs, lstM, tupM, callM, callP, permL, fzv, seqS, skipS, ifS, setS, asg, freeAt, retS, retV, dropS, frz, frzS, asgS, nilG, consG, tupG, subG, listAt, methM, augS, augSubS, forS, seqM, treeV, startD, endV, bodyF, bodyI, startI, ioAt, slM, partM, bors, callL, callI, callO, DL.flatV, DL.flat, List.filterMap_cons, List.filterMap_nil, List.map_cons, List.map_nil, List.getElem?_cons_zero, List.getElem?_cons_succ, List.getElem?_nil, List.set_cons_zero, List.set_cons_succ, List.cons_append, List.nil_append, List.length_cons, List.length_nil, Option.bind_some, Option.bind_none, Option.map_some, Option.map_none, Nat.reduceSub, Nat.reduceAdd, List.replicate_succ, List.replicate_zero, Bool.not_true, Bool.not_false, if_true, if_false, Bool.false_eq_true, reduceIte, decide_true, decide_false, Nat.reduceLT, Nat.reduceLeDiff, reduceCtorEq, Option.some.injEq, Prod.mk.injEq, h1, eqD_int, decide_eq_false hk, h2, negI, h3, ltI, subI, intB, decide_eq_false hl, hg, hc]
theorem r_plain {d : D} {a : List Int} (hd : seq? d = some (a.map .int)) (hn : Nz a) (ha : ∀ y ∈ a, y.natAbs < 2 ^ 8000) (hz : a.length ≤ 900) : m_plain_of [d] = some (.ow (IL (pln a))) := by
  by_cases h : a = []
  · subst h
    exact plain_nil (len_ints hd)
  · have hp := List.length_pos_iff.mpr h
    have hc := div_comp (g := dg a) hd (dg_ne hn h) (by rw [dg_abs]; exact gl_lt hn h ha) hz
    have e : pln a = a.map fun x => x.fdiv (dg a) := by unfold pln; rw [if_neg h]
    rw [e]
    exact plain_end (len_ints hd) (by omega) (r_greatest hd ha) (ix_neg1 hd h) rfl hc
/-! ### the law's own products and sums -/
theorem lt_b1 {da db : D} {F : List Int} {i k : Nat} {x y : Int} (hk : i + k < F.length) (hm : mulD (.int x) (.int y) = some (.fz (.int (x * y)))) :
    g__law_times_b1 [.dat da, .dat db, .own false (IL F), .dat (.int (i : Nat)), .dat (.int x), .dat (.int (k : Nat)), .dat (.int y)] = some (.nx, [.dat da, .dat db, .own false (IL (PL.bump F (i + k) (x * y))), .dat (.int (i : Nat)), .dat (.int x), .dat (.int (k : Nat)), .dat (.int y)]) := by
  unfold g__law_times_b1
  refine asgSub_bump (io := false) (F := F) rfl ?_ ?_ hk
  · simp only [mb, mr, mo, nameM, conM, binM, unM, boolM, ifM, DL.andM, DL.orM, DL.notM, andV, orV, notV, chainM, nilA, consA, dvs, dv, ownAt, fzs, lstM, tupM, callM, callP, permL, fzv, seqS, skipS, ifS, setS, asg, freeAt, retS, retV, dropS, frz, frzS, asgS, nilG, consG, tupG, subG, listAt, methM, augS, augSubS, forS, seqM, treeV, startD, endV, bodyF, bodyI, startI, ioAt, slM, partM, bors, callL, callI, callO, DL.flatV, DL.flat, List.filterMap_cons, List.filterMap_nil, List.map_cons, List.map_nil, List.getElem?_cons_zero, List.getElem?_cons_succ, List.getElem?_nil, List.set_cons_zero, List.set_cons_succ, List.cons_append, List.nil_append, List.length_cons, List.length_nil, Option.bind_some, Option.bind_none, Option.map_some, Option.map_none, Nat.reduceSub, Nat.reduceAdd, List.replicate_succ, List.replicate_zero, Bool.not_true, Bool.not_false, if_true, if_false, Bool.false_eq_true, reduceIte, decide_true, decide_false, Nat.reduceLT, Nat.reduceLeDiff, reduceCtorEq, Option.some.injEq, Prod.mk.injEq, addD, ← Int.natCast_add]
  · simp only [mb, mr, mo, nameM, conM, binM, unM, boolM, ifM, DL.andM, DL.orM, DL.notM, andV, orV, notV, chainM, nilA, consA, dvs, dv, ownAt, fzs, lstM, tupM, callM, callP, permL, fzv, seqS, skipS, ifS, setS, asg, freeAt, retS, retV, dropS, frz, frzS, asgS, nilG, consG, tupG, subG, listAt, methM, augS, augSubS, forS, seqM, treeV, startD, endV, bodyF, bodyI, startI, ioAt, slM, partM, bors, callL, callI, callO, DL.flatV, DL.flat, List.filterMap_cons, List.filterMap_nil, List.map_cons, List.map_nil, List.getElem?_cons_zero, List.getElem?_cons_succ, List.getElem?_nil, List.set_cons_zero, List.set_cons_succ, List.cons_append, List.nil_append, List.length_cons, List.length_nil, Option.bind_some, Option.bind_none, Option.map_some, Option.map_none, Nat.reduceSub, Nat.reduceAdd, List.replicate_succ, List.replicate_zero, Bool.not_true, Bool.not_false, if_true, if_false, Bool.false_eq_true, reduceIte, decide_true, decide_false, Nat.reduceLT, Nat.reduceLeDiff, reduceCtorEq, Option.some.injEq, Prod.mk.injEq, hm]
theorem lt_f1 {da : D} {b F : List Int} {i : Nat} {x : Int} {r1 r2 : Option D} (hx : x.natAbs < 2 ^ 8000) (hb : ∀ y ∈ b, y.natAbs < 2 ^ 8000) (hF : i + b.length ≤ F.length) :
    ∃ r : Option D × Option D, g__law_times_f1 [.dat da, .dat (IL b), .own false (IL F), .dat (.int (i : Nat)), .dat (.int x), rw' r1, rw' r2] = some (.nx, [.dat da, .dat (IL b), .own false (IL (b.zipIdx.foldl (inL i x) F)), .dat (.int (i : Nat)), .dat (.int x), rw' r.1, rw' r.2]) := by
  unfold g__law_times_f1
  have hi : enumA (consA (nameM 1) nilA) [.dat da, .dat (IL b), .own false (IL F), .dat (.int (i : Nat)), .dat (.int x), rw' r1, rw' r2] = some (b.zipIdx.map fun p => .tuple [.int (p.2 : Nat), .int p.1], [.dat da, .dat (IL b), .own false (IL F), .dat (.int (i : Nat)), .dat (.int x), rw' r1, rw' r2]) := by
    rw [← enum_ints]
    simp only [mb, mr, mo, nameM, conM, binM, unM, boolM, ifM, DL.andM, DL.orM, DL.notM, andV, orV, notV, chainM, nilA, consA, dvs, dv, ownAt, fzs, lstM, tupM, callM, callP, permL, fzv, seqS, skipS, ifS, setS, asg, fr_z_un, fr_z_dat, fr_z_rw, fr_z_own, fr_s, turnF, retS, retV, dropS, frz, frzS, asgS, nilG, consG, tupG, subG, listAt, methM, augS, augSubS, forS, seqM, treeV, startD, endV, bodyF, bodyI, startI, ioAt, slM, partM, bors, callL, callI, callO, DL.flatV, DL.flat, List.filterMap_cons, List.filterMap_nil, List.map_cons, List.map_nil, List.getElem?_cons_zero, List.getElem?_cons_succ, List.getElem?_nil, List.set_cons_zero, List.set_cons_succ, List.cons_append, List.nil_append, List.length_cons, List.length_nil, Option.bind_some, Option.bind_none, Option.map_some, Option.map_none, Nat.reduceSub, Nat.reduceAdd, List.replicate_succ, List.replicate_zero, Bool.not_true, Bool.not_false, if_true, if_false, Bool.false_eq_true, reduceIte, decide_true, decide_false, Nat.reduceLT, Nat.reduceLeDiff, reduceCtorEq, Option.some.injEq, Prod.mk.injEq, enumA]
  obtain ⟨r', e, -⟩ := for_fold (gt := tupG 2 (consG (asg 5) (consG (asg 6) nilG))) (body := g__law_times_b1) (fun p : Int × Nat => .tuple [.int (p.2 : Nat), .int p.1]) (fun (G : List Int) (r : Option D × Option D) => [.dat da, .dat (IL b), .own false (IL G), .dat (.int (i : Nat)), .dat (.int x), rw' r.1, rw' r.2]) (inL i x) (fun k G => G.length = F.length) b.zipIdx (s0 := F) (r0 := (r1, r2)) rfl hi rfl (fun k p G r hk hG => by
    obtain ⟨hp, hkl, hpc, hpm⟩ := zipIdx_mem hk
    refine ⟨⟨(some (.int (p.2 : Nat)), some (.int p.1)), ?_⟩, by rw [inL, PL.bump_len]; exact hG⟩
    have e1 := lt_b1 (da := da) (db := IL b) (F := G) (i := i) (k := p.2) (x := x) (y := p.1) (by omega) (mulD_big hx (hb _ hpm))
    generalize ((p.2 : Nat) : Int) = pk at e1 ⊢
    generalize ((i : Nat) : Int) = ik at e1 ⊢
    simp only [mb, mr, mo, nameM, conM, binM, unM, boolM, ifM, DL.andM, DL.orM, DL.notM, andV, orV, notV, chainM, nilA, consA, dvs, dv, ownAt, fzs, lstM, tupM, callM, callP, permL, fzv, seqS, skipS, ifS, setS, asg, fr_z_un, fr_z_dat, fr_z_rw, fr_z_own, fr_s, turnF, retS, retV, dropS, frz, frzS, asgS, nilG, consG, tupG, subG, listAt, methM, augS, augSubS, forS, seqM, treeV, startD, endV, bodyF, bodyI, startI, ioAt, slM, partM, bors, callL, callI, callO, DL.flatV, DL.flat, List.filterMap_cons, List.filterMap_nil, List.map_cons, List.map_nil, List.getElem?_cons_zero, List.getElem?_cons_succ, List.getElem?_nil, List.set_cons_zero, List.set_cons_succ, List.cons_append, List.nil_append, List.length_cons, List.length_nil, Option.bind_some, Option.bind_none, Option.map_some, Option.map_none, Nat.reduceSub, Nat.reduceAdd, List.replicate_succ, List.replicate_zero, Bool.not_true, Bool.not_false, if_true, if_false, Bool.false_eq_true, reduceIte, decide_true, decide_false, Nat.reduceLT, Nat.reduceLeDiff, reduceCtorEq, Option.some.injEq, Prod.mk.injEq, itemsOf, e1]
    rfl)
  exact ⟨r', e⟩
theorem lt_f2 {a b F : List Int} {r1 r2 r3 r4 : Option D} (ha : ∀ y ∈ a, y.natAbs < 2 ^ 8000) (hb : ∀ y ∈ b, y.natAbs < 2 ^ 8000) (hF : a.length + b.length ≤ F.length + 1) :
    ∃ r : Option D × Option D × Option D × Option D, g__law_times_f2 [.dat (IL a), .dat (IL b), .own false (IL F), rw' r1, rw' r2, rw' r3, rw' r4] = some (.nx, [.dat (IL a), .dat (IL b), .own false (IL (a.zipIdx.foldl (outL b) F)), rw' r.1, rw' r.2.1, rw' r.2.2.1, rw' r.2.2.2]) := by
  unfold g__law_times_f2
  have hi : enumA (consA (nameM 0) nilA) [.dat (IL a), .dat (IL b), .own false (IL F), rw' r1, rw' r2, rw' r3, rw' r4] = some (a.zipIdx.map fun p => .tuple [.int (p.2 : Nat), .int p.1], [.dat (IL a), .dat (IL b), .own false (IL F), rw' r1, rw' r2, rw' r3, rw' r4]) := by
    rw [← enum_ints]
    simp only [mb, mr, mo, nameM, conM, binM, unM, boolM, ifM, DL.andM, DL.orM, DL.notM, andV, orV, notV, chainM, nilA, consA, dvs, dv, ownAt, fzs, lstM, tupM, callM, callP, permL, fzv, seqS, skipS, ifS, setS, asg, fr_z_un, fr_z_dat, fr_z_rw, fr_z_own, fr_s, turnF, retS, retV, dropS, frz, frzS, asgS, nilG, consG, tupG, subG, listAt, methM, augS, augSubS, forS, seqM, treeV, startD, endV, bodyF, bodyI, startI, ioAt, slM, partM, bors, callL, callI, callO, DL.flatV, DL.flat, List.filterMap_cons, List.filterMap_nil, List.map_cons, List.map_nil, List.getElem?_cons_zero, List.getElem?_cons_succ, List.getElem?_nil, List.set_cons_zero, List.set_cons_succ, List.cons_append, List.nil_append, List.length_cons, List.length_nil, Option.bind_some, Option.bind_none, Option.map_some, Option.map_none, Nat.reduceSub, Nat.reduceAdd, List.replicate_succ, List.replicate_zero, Bool.not_true, Bool.not_false, if_true, if_false, Bool.false_eq_true, reduceIte, decide_true, decide_false, Nat.reduceLT, Nat.reduceLeDiff, reduceCtorEq, Option.some.injEq, Prod.mk.injEq, enumA]
  obtain ⟨r', e, -⟩ := for_fold (gt := tupG 2 (consG (asg 3) (consG (asg 4) nilG))) (body := g__law_times_b2) (fun p : Int × Nat => .tuple [.int (p.2 : Nat), .int p.1]) (fun (G : List Int) (r : Option D × Option D × Option D × Option D) => [.dat (IL a), .dat (IL b), .own false (IL G), rw' r.1, rw' r.2.1, rw' r.2.2.1, rw' r.2.2.2]) (outL b) (fun k G => G.length = F.length) a.zipIdx (s0 := F) (r0 := (r1, r2, r3, r4)) rfl hi rfl (fun k p G r hk hG => by
    obtain ⟨hp, hkl, hpc, hpm⟩ := zipIdx_mem hk
    refine ⟨?_, by rw [outL, PL.inL_len]; exact hG⟩
    obtain ⟨r', e1⟩ := lt_f1 (da := IL a) (F := G) (i := p.2) (x := p.1) (r1 := r.2.2.1) (r2 := r.2.2.2) (ha _ hpm) hb (by omega)
    refine ⟨(some (.int (p.2 : Nat)), some (.int p.1), r'.1, r'.2), ?_⟩
    rw [outL]
    generalize (b.zipIdx.foldl (inL p.2 p.1) G) = G2 at e1 ⊢
    generalize ((p.2 : Nat) : Int) = pk at e1 ⊢
    simp only [mb, mr, mo, nameM, conM, binM, unM, boolM, ifM, DL.andM, DL.orM, DL.notM, andV, orV, notV, chainM, nilA, consA, dvs, dv, ownAt, fzs, lstM, tupM, callM, callP, permL, fzv, seqS, skipS, ifS, setS, asg, fr_z_un, fr_z_dat, fr_z_rw, fr_z_own, fr_s, turnF, retS, retV, dropS, frz, frzS, asgS, nilG, consG, tupG, subG, listAt, methM, augS, augSubS, forS, seqM, treeV, startD, endV, bodyF, bodyI, startI, ioAt, slM, partM, bors, callL, callI, callO, DL.flatV, DL.flat, List.filterMap_cons, List.filterMap_nil, List.map_cons, List.map_nil, List.getElem?_cons_zero, List.getElem?_cons_succ, List.getElem?_nil, List.set_cons_zero, List.set_cons_succ, List.cons_append, List.nil_append, List.length_cons, List.length_nil, Option.bind_some, Option.bind_none, Option.map_some, Option.map_none, Nat.reduceSub, Nat.reduceAdd, List.replicate_succ, List.replicate_zero, Bool.not_true, Bool.not_false, if_true, if_false, Bool.false_eq_true, reduceIte, decide_true, decide_false, Nat.reduceLT, Nat.reduceLeDiff, reduceCtorEq, Option.some.injEq, Prod.mk.injEq, itemsOf, g__law_times_b2, e1]
    rfl)
  exact ⟨r', e⟩
theorem lt_end {da db z c t : D} {k1 k2 : Int} {δ : DS} (h1 : lenD [da] = some (.fz (.int k1))) (h2 : lenD [db] = some (.fz (.int k2))) (hz : mulD (.list [.int 0]) (.int (k1 + k2)) = some (.ow z))
    (hf : g__law_times_f2 [.dat da, .dat db, .own false z, .un, .un, .un, .un] = some (.nx, .dat da :: .dat db :: .own false c :: δ)) (ht : m__law_trim [c] = some (.ow t)) : m__law_times [da, db] = some (.ow t) := by
  simp only [m__law_times, g__law_times, g__law_times_s1, g__law_times_s2, mb, mr, mo, nameM, conM, binM, unM, boolM, ifM, DL.andM, DL.orM, DL.notM, andV, orV, notV, chainM, nilA, consA, dvs, dv, ownAt, fzs, lstM, tupM, callM, callP, permL, fzv, seqS, skipS, ifS, setS, asg, freeAt, retS, retV, dropS, frz, frzS, asgS, nilG, consG, tupG, subG, listAt, methM, augS, augSubS, forS, seqM, treeV, startD, endV, bodyF, bodyI, startI, ioAt, slM, partM, bors, callL, callI, callO, DL.flatV, DL.flat, List.filterMap_cons, List.filterMap_nil, List.map_cons, List.map_nil, List.getElem?_cons_zero, List.getElem?_cons_succ, List.getElem?_nil, List.set_cons_zero, List.set_cons_succ, List.cons_append, List.nil_append, List.length_cons, List.length_nil, Option.bind_some, Option.bind_none, Option.map_some, Option.map_none, Nat.reduceSub, Nat.reduceAdd, List.replicate_succ, List.replicate_zero, Bool.not_true, Bool.not_false, if_true, if_false, Bool.false_eq_true, reduceIte, decide_true, decide_false, Nat.reduceLT, Nat.reduceLeDiff, reduceCtorEq, Option.some.injEq, Prod.mk.injEq, h1, h2, szOk1, addD, hz, hf, ht]
theorem r_law_times {a b : List Int} (ha : ∀ y ∈ a, y.natAbs < 2 ^ 8000) (hb : ∀ y ∈ b, y.natAbs < 2 ^ 8000) (na : Nz a) (nb : Nz b) (hz : a.length ≤ 400) (hy : b.length ≤ 400) : m__law_times [IL a, IL b] = some (.ow (IL (PL.ml a b))) := by
  obtain ⟨r, e⟩ := lt_f2 (F := List.replicate (a.length + b.length) 0) (r1 := none) (r2 := none) (r3 := none) (r4 := none) ha hb (by rw [List.length_replicate]; omega)
  obtain ⟨c, h1, h2, h3, h4⟩ := r_law_trim (a.zipIdx.foldl (outL b) (List.replicate (a.length + b.length) 0)) (by rw [PL.outL_len, List.length_replicate]; omega)
  have hc : c = PL.ml a b := PL.nz_ext h2 (PL.nz_ml na nb) fun n => by
    rw [h3, PL.cf_ml, PL.cf_outL b a 0 _ (fun _ => by rw [List.length_replicate]; omega), PL.cf_zeros]
    simp
  rw [← hc]
  refine lt_end (len_ints rfl) (len_ints rfl) ?_ e h1
  rw [show ((a.length : Nat) : Int) + (b.length : Nat) = ((a.length + b.length : Nat) : Int) by omega]
  exact rep_zeros _ (by omega)
end K13
end
section
set_option maxRecDepth 100000
set_option exponentiation.threshold 100000
set_option exponentiation.threshold 100000
set_option maxHeartbeats 1000000
namespace K13
open PySem PySem.Spec L2 DL
open PL (cf Nz cv vl sm tms Bd ad su)
theorem e_plus {a b : List Int} (ha : a.length ≤ 900) (hb : b.length ≤ 900) : m_plus_lines [IL a, IL b] = some (.ow (IL (ad a b))) := by
  obtain ⟨c, h1, h2, h3, -⟩ := r_plus a b ha hb
  rw [h1, PL.nz_ext h2 (PL.nz_ad a b) fun n => by rw [h3, PL.cf_ad]]
theorem e_minus {a b : List Int} (ha : a.length ≤ 900) (hb : b.length ≤ 900) (hy : ∀ y ∈ b, y.natAbs < 2 ^ 8000) : m_minus_lines [IL a, IL b] = some (.ow (IL (su a b))) := by
  obtain ⟨c, h1, h2, h3, -⟩ := r_minus a b ha hb hy
  rw [h1, PL.nz_ext h2 (PL.nz_su a b) fun n => by rw [h3, PL.cf_su]]
/-! ### what is called from outside -/
structure Gd (a : List Int) : Prop where
  len : a.length ≤ 13
  nz : Nz a
  bd : Bd (2 ^ 60) a
theorem Gd.mem {a : List Int} (g : Gd a) : ∀ y ∈ a, y.natAbs < 2 ^ 8000 := fun y hy => Nat.lt_of_le_of_lt (PL.mem_bd g.bd y hy) (by decide)
theorem Gd.mem60 {a : List Int} (g : Gd a) : ∀ y ∈ a, y.natAbs ≤ 2 ^ 60 := PL.mem_bd g.bd
theorem want1 {d : D} {a : List Int} (hl : Ln d a) (g : Gd a) : m_want_line [d] = some (.ow (IL a)) := r_want_line hl g.len g.nz
theorem two {d e : D} {a b : List Int} (hl : Ln d a) (g : Gd a) (kl : Ln e b) (k : Gd b) : m_two_lines [d, e] = some (.fz (.tuple [IL a, IL b])) := r_two_lines hl g.len g.nz kl k.len k.nz
theorem ev_most {k : Int} (h : k ≤ 12) : m_want_at_most [.str "degree", .int 12, .int k] = some (.fz .none) := by
  simp only [m_want_at_most, g_want_at_most, g_want_at_most_s1, mb, mr, mo, nameM, conM, binM, unM, boolM, ifM, DL.andM, DL.orM, DL.notM, andV, orV, notV, chainM, nilA, consA, dvs, dv, ownAt, fzs, lstM, tupM, callM, callP, permL, fzv, seqS, skipS, ifS, setS, asg, freeAt, retS, retV, dropS, frz, frzS, asgS, nilG, consG, tupG, subG, listAt, methM, augS, augSubS, forS, seqM, treeV, startD, endV, bodyF, bodyI, startI, ioAt, slM, partM, bors, callL, callI, callO, DL.flatV, DL.flat, List.filterMap_cons, List.filterMap_nil, List.map_cons, List.map_nil, List.getElem?_cons_zero, List.getElem?_cons_succ, List.getElem?_nil, List.set_cons_zero, List.set_cons_succ, List.cons_append, List.nil_append, List.length_cons, List.length_nil, Option.bind_some, Option.bind_none, Option.map_some, Option.map_none, Nat.reduceSub, Nat.reduceAdd, List.replicate_succ, List.replicate_zero, Bool.not_true, Bool.not_false, if_true, if_false, Bool.false_eq_true, reduceIte, decide_true, decide_false, Nat.reduceLT, Nat.reduceLeDiff, reduceCtorEq, Option.some.injEq, Prod.mk.injEq, gtI, intB, decide_eq_false (show ¬ (12 : Int) < k by omega)]
theorem ev_times {d e l k c : D} {i j : Int} (h : m_two_lines [d, e] = some (.fz (.tuple [l, k]))) (h1 : lenD [l] = some (.fz (.int i))) (h2 : lenD [k] = some (.fz (.int j))) (hij : 0 < i → 0 < j → i + j - 2 ≤ 12) (h3 : m_times_lines [l, k] = some (.ow c)) : m_line_times [d, e] = some (.ow c) := by
  by_cases hi : 0 < i
  · by_cases hj : 0 < j
    · have hm := ev_most (hij hi hj)
      simp only [m_line_times, g_line_times, g_line_times_s1, g_line_times_s2, g_line_times_s3, mb, mr, mo, nameM, conM, binM, unM, boolM, ifM, DL.andM, DL.orM, DL.notM, andV, orV, notV, chainM, nilA, consA, dvs, dv, ownAt, fzs, lstM, tupM, callM, callP, permL, fzv, seqS, skipS, ifS, setS, asg, freeAt, retS, retV, dropS, frz, frzS, asgS, nilG, consG, tupG, subG, listAt, methM, augS, augSubS, forS, seqM, treeV, startD, endV, bodyF, bodyI, startI, ioAt, slM, partM, bors, callL, callI, callO, DL.flatV, DL.flat, List.filterMap_cons, List.filterMap_nil, List.map_cons, List.map_nil, List.getElem?_cons_zero, List.getElem?_cons_succ, List.getElem?_nil, List.set_cons_zero, List.set_cons_succ, List.cons_append, List.nil_append, List.length_cons, List.length_nil, Option.bind_some, Option.bind_none, Option.map_some, Option.map_none, Nat.reduceSub, Nat.reduceAdd, List.replicate_succ, List.replicate_zero, Bool.not_true, Bool.not_false, if_true, if_false, Bool.false_eq_true, reduceIte, decide_true, decide_false, Nat.reduceLT, Nat.reduceLeDiff, reduceCtorEq, Option.some.injEq, Prod.mk.injEq, h, itemsOf, h1, h2, gtI, intB, decide_eq_true hi, decide_eq_true hj, addD, subI, hm, h3]
    · simp only [m_line_times, g_line_times, g_line_times_s1, g_line_times_s2, g_line_times_s3, mb, mr, mo, nameM, conM, binM, unM, boolM, ifM, DL.andM, DL.orM, DL.notM, andV, orV, notV, chainM, nilA, consA, dvs, dv, ownAt, fzs, lstM, tupM, callM, callP, permL, fzv, seqS, skipS, ifS, setS, asg, freeAt, retS, retV, dropS, frz, frzS, asgS, nilG, consG, tupG, subG, listAt, methM, augS, augSubS, forS, seqM, treeV, startD, endV, bodyF, bodyI, startI, ioAt, slM, partM, bors, callL, callI, callO, DL.flatV, DL.flat, List.filterMap_cons, List.filterMap_nil, List.map_cons, List.map_nil, List.getElem?_cons_zero, List.getElem?_cons_succ, List.getElem?_nil, List.set_cons_zero, List.set_cons_succ, List.cons_append, List.nil_append, List.length_cons, List.length_nil, Option.bind_some, Option.bind_none, Option.map_some, Option.map_none, Nat.reduceSub, Nat.reduceAdd, List.replicate_succ, List.replicate_zero, Bool.not_true, Bool.not_false, if_true, if_false, Bool.false_eq_true, reduceIte, decide_true, decide_false, Nat.reduceLT, Nat.reduceLeDiff, reduceCtorEq, Option.some.injEq, Prod.mk.injEq, h, itemsOf, h1, h2, gtI, intB, decide_eq_true hi, decide_eq_false hj, h3]
  · simp only [m_line_times, g_line_times, g_line_times_s1, g_line_times_s2, g_line_times_s3, mb, mr, mo, nameM, conM, binM, unM, boolM, ifM, DL.andM, DL.orM, DL.notM, andV, orV, notV, chainM, nilA, consA, dvs, dv, ownAt, fzs, lstM, tupM, callM, callP, permL, fzv, seqS, skipS, ifS, setS, asg, freeAt, retS, retV, dropS, frz, frzS, asgS, nilG, consG, tupG, subG, listAt, methM, augS, augSubS, forS, seqM, treeV, startD, endV, bodyF, bodyI, startI, ioAt, slM, partM, bors, callL, callI, callO, DL.flatV, DL.flat, List.filterMap_cons, List.filterMap_nil, List.map_cons, List.map_nil, List.getElem?_cons_zero, List.getElem?_cons_succ, List.getElem?_nil, List.set_cons_zero, List.set_cons_succ, List.cons_append, List.nil_append, List.length_cons, List.length_nil, Option.bind_some, Option.bind_none, Option.map_some, Option.map_none, Nat.reduceSub, Nat.reduceAdd, List.replicate_succ, List.replicate_zero, Bool.not_true, Bool.not_false, if_true, if_false, Bool.false_eq_true, reduceIte, decide_true, decide_false, Nat.reduceLT, Nat.reduceLeDiff, reduceCtorEq, Option.some.injEq, Prod.mk.injEq, h, itemsOf, h1, h2, gtI, intB, decide_eq_false hi, h3]
theorem r_line_times {d e : D} {a b : List Int} (hl : Ln d a) (g : Gd a) (kl : Ln e b) (k : Gd b) (hz : a ≠ [] → b ≠ [] → a.length + b.length ≤ 14) : m_line_times [d, e] = some (.ow (IL (PL.ml a b))) :=
  ev_times (two hl g kl k) (len_ints rfl) (len_ints rfl) (fun h1 h2 => by
    have := hz (fun z => by rw [z] at h1; simp at h1) (fun z => by rw [z] at h2; simp at h2)
    omega) (r_times rfl rfl g.mem k.mem (by have := g.len; omega) (by have := k.len; omega))
end K13
end
section
set_option maxRecDepth 100000
set_option exponentiation.threshold 100000
set_option exponentiation.threshold 100000
set_option maxHeartbeats 1000000
namespace K13
open PySem PySem.Spec L2 DL
open PL (cf Nz cv vl sm tms Bd ad su)
/-! ### draws -/
theorem fdivD_21 (i : Int) : fdivD (.int i) (.int 21) = some (.fz (.int (i / 21))) := by
  rw [fdivD_big (by decide) (by decide), Int.fdiv_eq_ediv_of_nonneg _ (show (0 : Int) ≤ 21 from by decide)]
def Pot (d : D) : Prop := ∃ a b : Int, d = .list [.int a, .int b] ∧ 0 ≤ a ∧ 0 ≤ b ∧ b < 2 ^ 32
theorem draw_ok {d : D} {n : Int} (hd : Pot d) (h0 : 0 < n) (h1 : n < 1073741824) : ∃ r d', m__law_draw d [.int n] = some (.fz (.int r), d') ∧ Pot d' ∧ 0 ≤ r ∧ r < n := by
  obtain ⟨a, b, rfl, ha, hb, hb2⟩ := hd
  by_cases ha0 : 0 < a
  · refine ⟨a % n, .list [.int (a / n), .int b], ?_, ⟨_, _, rfl, Int.ediv_nonneg ha (by omega), hb, hb2⟩, Int.emod_nonneg _ (by omega), Int.emod_lt_of_pos _ h0⟩
    simp only [m__law_draw, g__law_draw, g__law_draw_s1, g__law_draw_s2, g__law_draw_s3, mb, mr, mo, nameM, conM, binM, unM, boolM, ifM, DL.andM, DL.orM, DL.notM, andV, orV, notV, chainM, nilA, consA, dvs, dv, ownAt, fzs, lstM, tupM, callM, callP, permL, fzv, seqS, skipS, ifS, setS, asg, freeAt, retS, retV, dropS, frz, frzS, asgS, nilG, consG, tupG, subG, listAt, methM, augS, augSubS, forS, seqM, treeV, startD, endV, bodyF, bodyI, startI, ioAt, slM, partM, bors, callL, callI, callO, DL.flatV, DL.flat, List.filterMap_cons, List.filterMap_nil, List.map_cons, List.map_nil, List.getElem?_cons_zero, List.getElem?_cons_succ, List.getElem?_nil, List.set_cons_zero, List.set_cons_succ, List.cons_append, List.nil_append, List.length_cons, List.length_nil, Option.bind_some, Option.bind_none, Option.map_some, Option.map_none, Nat.reduceSub, Nat.reduceAdd, List.replicate_succ, List.replicate_zero, Bool.not_true, Bool.not_false, if_true, if_false, Bool.false_eq_true, reduceIte, decide_true, decide_false, Nat.reduceLT, Nat.reduceLeDiff, reduceCtorEq, Option.some.injEq, Prod.mk.injEq, ixL0, ixL1, gtI, intB, decide_eq_true ha0, divmodD, decide_eq_true h0, decide_eq_true h1, itemsOf, ixN20, ixN21, Bool.and_self, Bool.and_true]
  · obtain ⟨b', hb', q0, q1⟩ : ∃ b' : Int, (b * 40014 + 1109) % 2147483563 = b' ∧ 0 ≤ b' ∧ b' < 2147483563 := ⟨_, rfl, Int.emod_nonneg _ (by omega), Int.emod_lt_of_pos _ (by omega)⟩
    refine ⟨(b' * b') % 2147483587 / 21 % n, .list [.int a, .int b'], ?_, ⟨_, _, rfl, ha, q0, by omega⟩, Int.emod_nonneg _ (by omega), Int.emod_lt_of_pos _ h0⟩
    have m1 : mulD (.int b) (.int 40014) = some (.fz (.int (b * 40014))) := mulD_big (by omega) (by decide)
    have m2 : mulD (.int b') (.int b') = some (.fz (.int (b' * b'))) := mulD_big (by omega) (by omega)
    simp only [m__law_draw, g__law_draw, g__law_draw_s1, g__law_draw_s2, g__law_draw_s3, mb, mr, mo, nameM, conM, binM, unM, boolM, ifM, DL.andM, DL.orM, DL.notM, andV, orV, notV, chainM, nilA, consA, dvs, dv, ownAt, fzs, lstM, tupM, callM, callP, permL, fzv, seqS, skipS, ifS, setS, asg, freeAt, retS, retV, dropS, frz, frzS, asgS, nilG, consG, tupG, subG, listAt, methM, augS, augSubS, forS, seqM, treeV, startD, endV, bodyF, bodyI, startI, ioAt, slM, partM, bors, callL, callI, callO, DL.flatV, DL.flat, List.filterMap_cons, List.filterMap_nil, List.map_cons, List.map_nil, List.getElem?_cons_zero, List.getElem?_cons_succ, List.getElem?_nil, List.set_cons_zero, List.set_cons_succ, List.cons_append, List.nil_append, List.length_cons, List.length_nil, Option.bind_some, Option.bind_none, Option.map_some, Option.map_none, Nat.reduceSub, Nat.reduceAdd, List.replicate_succ, List.replicate_zero, Bool.not_true, Bool.not_false, if_true, if_false, Bool.false_eq_true, reduceIte, decide_true, decide_false, Nat.reduceLT, Nat.reduceLeDiff, reduceCtorEq, Option.some.injEq, Prod.mk.injEq, ixL0, ixL1, gtI, intB, decide_eq_false ha0, addD, fdivD_21, modD_pos _ h0, modD_pos _ (show (0 : Int) < 2147483587 from by decide), modD_pos _ (show (0 : Int) < 2147483563 from by decide), intD, m1, m2, hb', ixN20, ixN21]
theorem pot_s2 {s : D} {c : Int} (hc : 0 ≤ c) : ∃ d, g__law_pot_s2 [.dat s, .dat (.int 0), .dat (.int c)] = some (.rt (.ow d), [.dat s, .dat (.int 0), .dat (.int c)]) ∧ Pot d := by
  obtain ⟨r, hr, r0, r1⟩ : ∃ r : Int, c % 2147483549 = r ∧ 0 ≤ r ∧ r < 2147483549 := ⟨_, rfl, Int.emod_nonneg _ (by omega), Int.emod_lt_of_pos _ (by omega)⟩
  obtain ⟨b, hb, b0, b1⟩ : ∃ b : Int, (r * 40973 + 4021 * 0 + 523) % 2147483563 = b ∧ 0 ≤ b ∧ b < 2147483563 := ⟨_, rfl, Int.emod_nonneg _ (by omega), Int.emod_lt_of_pos _ (by omega)⟩
  have m1 : mulD (.int r) (.int 40973) = some (.fz (.int (r * 40973))) := mulD_big (by omega) (by decide)
  have m2 : mulD (.int 4021) (.int 0) = some (.fz (.int (4021 * 0))) := mulD_big (by decide) (by decide)
  refine ⟨_, ?_, ⟨if c - 1000000000000000000 > 0 then c - 1000000000000000000 else 0, b + 1, rfl, by split <;> omega, by omega, by omega⟩⟩
  simp only [g__law_pot_s2, mb, mr, mo, nameM, conM, binM, unM, boolM, ifM, DL.andM, DL.orM, DL.notM, andV, orV, notV, chainM, nilA, consA, dvs, dv, ownAt, fzs, lstM, tupM, callM, callP, permL, fzv, seqS, skipS, ifS, setS, asg, freeAt, retS, retV, dropS, frz, frzS, asgS, nilG, consG, tupG, subG, listAt, methM, augS, augSubS, forS, seqM, treeV, startD, endV, bodyF, bodyI, startI, ioAt, slM, partM, bors, callL, callI, callO, DL.flatV, DL.flat, List.filterMap_cons, List.filterMap_nil, List.map_cons, List.map_nil, List.getElem?_cons_zero, List.getElem?_cons_succ, List.getElem?_nil, List.set_cons_zero, List.set_cons_succ, List.cons_append, List.nil_append, List.length_cons, List.length_nil, Option.bind_some, Option.bind_none, Option.map_some, Option.map_none, Nat.reduceSub, Nat.reduceAdd, List.replicate_succ, List.replicate_zero, Bool.not_true, Bool.not_false, if_true, if_false, Bool.false_eq_true, reduceIte, decide_true, decide_false, Nat.reduceLT, Nat.reduceLeDiff, reduceCtorEq, Option.some.injEq, Prod.mk.injEq, max2D, subI, powE, intB, addD, modD_pos _ (show (0 : Int) < 2147483549 from by decide), modD_pos _ (show (0 : Int) < 2147483563 from by decide), intD, m1, m2, hr, hb, szOk2]
theorem pot_ok (ns : List Int) : ∃ d, m__law_pot [scrD ns, .int 0] = some (.ow d) ∧ Pot d := by
  cases ns with
  | nil =>
    obtain ⟨d, h, hp⟩ := pot_s2 (s := scrD []) (c := 509) (by decide)
    refine ⟨d, ?_, hp⟩
    have hl : lenD [scrD []] = some (.fz (.int 0)) := rfl
    have m2 : mulD (.int 563) (.int 0) = some (.fz (.int 0)) := mulD_big (by decide) (by decide)
    simp only [m__law_pot, g__law_pot, g__law_pot_s1, mb, mr, mo, nameM, conM, binM, unM, boolM, ifM, DL.andM, DL.orM, DL.notM, andV, orV, notV, chainM, nilA, consA, dvs, dv, ownAt, fzs, lstM, tupM, callM, callP, permL, fzv, seqS, skipS, ifS, setS, asg, freeAt, retS, retV, dropS, frz, frzS, asgS, nilG, consG, tupG, subG, listAt, methM, augS, augSubS, forS, seqM, treeV, startD, endV, bodyF, bodyI, startI, ioAt, slM, partM, bors, callL, callI, callO, DL.flatV, DL.flat, List.filterMap_cons, List.filterMap_nil, List.map_cons, List.map_nil, List.getElem?_cons_zero, List.getElem?_cons_succ, List.getElem?_nil, List.set_cons_zero, List.set_cons_succ, List.cons_append, List.nil_append, List.length_cons, List.length_nil, Option.bind_some, Option.bind_none, Option.map_some, Option.map_none, Nat.reduceSub, Nat.reduceAdd, List.replicate_succ, List.replicate_zero, Bool.not_true, Bool.not_false, if_true, if_false, Bool.false_eq_true, reduceIte, decide_true, decide_false, Nat.reduceLT, Nat.reduceLeDiff, reduceCtorEq, Option.some.injEq, Prod.mk.injEq, hl, ltI, intB, addD, m2, show decide ((0 : Int) < 0) = false from rfl, show (0 : Int) + 509 = 509 from rfl, h]
  | cons n r =>
    obtain ⟨d, h, hp⟩ := pot_s2 (s := scrD (n :: r)) (c := if n < 0 then -n else n) (by split <;> omega)
    refine ⟨d, ?_, hp⟩
    obtain ⟨k, hk, hl⟩ : ∃ k : Int, 0 < k ∧ lenD [scrD (n :: r)] = some (.fz (.int k)) := ⟨(((n :: r).map PyData.int).length : Nat), by simp, rfl⟩
    have hx : ixD (scrD (n :: r)) (.int 0) = some (.fz (.int n)) := by
      show (atI ((n :: r).map PyData.int) 0).bind _ = _
      have := atI_natI ((n :: r).map PyData.int) 0 (by simp)
      rw [show ((0 : Nat) : Int) = 0 from rfl] at this
      rw [this]; rfl
    generalize scrD (n :: r) = s at h hl hx ⊢
    simp only [m__law_pot, g__law_pot, g__law_pot_s1, mb, mr, mo, nameM, conM, binM, unM, boolM, ifM, DL.andM, DL.orM, DL.notM, andV, orV, notV, chainM, nilA, consA, dvs, dv, ownAt, fzs, lstM, tupM, callM, callP, permL, fzv, seqS, skipS, ifS, setS, asg, freeAt, retS, retV, dropS, frz, frzS, asgS, nilG, consG, tupG, subG, listAt, methM, augS, augSubS, forS, seqM, treeV, startD, endV, bodyF, bodyI, startI, ioAt, slM, partM, bors, callL, callI, callO, DL.flatV, DL.flat, List.filterMap_cons, List.filterMap_nil, List.map_cons, List.map_nil, List.getElem?_cons_zero, List.getElem?_cons_succ, List.getElem?_nil, List.set_cons_zero, List.set_cons_succ, List.cons_append, List.nil_append, List.length_cons, List.length_nil, Option.bind_some, Option.bind_none, Option.map_some, Option.map_none, Nat.reduceSub, Nat.reduceAdd, List.replicate_succ, List.replicate_zero, Bool.not_true, Bool.not_false, if_true, if_false, Bool.false_eq_true, reduceIte, decide_true, decide_false, Nat.reduceLT, Nat.reduceLeDiff, reduceCtorEq, Option.some.injEq, Prod.mk.injEq, hl, hx, decide_eq_true hk, absD, ltI, intB, h]
theorem pick_ok {d : D} {xs : List D} (hd : Pot d) (h0 : xs ≠ []) (h1 : xs.length < 1073741824) : ∃ x ∈ xs, ∃ d', m__law_pick d [.list xs] = some (.fz x, d') ∧ Pot d' := by
  have hp := List.length_pos_iff.mpr h0
  obtain ⟨r, d', h, hd', r0, r1⟩ := draw_ok hd (n := (xs.length : Nat)) (by omega) (by omega)
  obtain ⟨k, rfl⟩ : ∃ k : Nat, r = k := ⟨r.toNat, by omega⟩
  have hk : k < xs.length := by omega
  refine ⟨xs[k], List.getElem_mem hk, d', ?_, hd'⟩
  have hx : ixD (.list xs) (.int (k : Nat)) = some (.fz xs[k]) := ix_nat rfl (List.getElem?_eq_getElem hk)
  have hl : lenD [.list xs] = some (.fz (.int (xs.length : Nat))) := rfl
  generalize ((k : Nat) : Int) = r at h hx
  generalize ((xs.length : Nat) : Int) = n at h hl
  generalize xs[k] = y at hx ⊢
  simp only [m__law_pick, g__law_pick, g__law_pick_s1, mb, mr, mo, nameM, conM, binM, unM, boolM, ifM, DL.andM, DL.orM, DL.notM, andV, orV, notV, chainM, nilA, consA, dvs, dv, ownAt, fzs, lstM, tupM, callM, callP, permL, fzv, seqS, skipS, ifS, setS, asg, freeAt, retS, retV, dropS, frz, frzS, asgS, nilG, consG, tupG, subG, listAt, methM, augS, augSubS, forS, seqM, treeV, startD, endV, bodyF, bodyI, startI, ioAt, slM, partM, bors, callL, callI, callO, DL.flatV, DL.flat, List.filterMap_cons, List.filterMap_nil, List.map_cons, List.map_nil, List.getElem?_cons_zero, List.getElem?_cons_succ, List.getElem?_nil, List.set_cons_zero, List.set_cons_succ, List.cons_append, List.nil_append, List.length_cons, List.length_nil, Option.bind_some, Option.bind_none, Option.map_some, Option.map_none, Nat.reduceSub, Nat.reduceAdd, List.replicate_succ, List.replicate_zero, Bool.not_true, Bool.not_false, if_true, if_false, Bool.false_eq_true, reduceIte, decide_true, decide_false, Nat.reduceLT, Nat.reduceLeDiff, reduceCtorEq, Option.some.injEq, Prod.mk.injEq, hl, h, hx]
end K13
end
section
set_option maxRecDepth 100000
set_option exponentiation.threshold 100000
set_option exponentiation.threshold 100000
set_option maxHeartbeats 1000000
namespace K13
open PySem PySem.Spec L2 DL
open PL (cf Nz Bd)
theorem append_IL {xs : List Int} {y : Int} (hz : xs.length ≤ 900) : appendL (xs.map .int) [.int y] = some (.none, (xs ++ [y]).map .int) := by
  unfold appendL
  rw [List.map_append]
  simp only [List.length_map, szOkL (show xs.length + 1 ≤ 16777216 by omega), if_true]
  rfl
theorem line_b1 {d d' : D} {m w v n : Int} {xs : List Int} {x y : Int} {r : Option D} (hw : mulD (.int 2) (.int w) = some (.fz (.int v))) (hn : v + 1 = n) (h : m__law_draw d [.int n] = some (.fz (.int x), d')) (hy : x - w = y) (ha : appendL (xs.map .int) [.int y] = some (.none, (xs ++ [y]).map .int)) : g__law_line_b1 [.own true d, .dat (.int m), .dat (.int w), .own false (IL xs), rw' r] = some (.nx, [.own true d', .dat (.int m), .dat (.int w), .own false (IL (xs ++ [y])), rw' r]) := by
  simp only [g__law_line_b1, mb, mr, mo, nameM, conM, binM, unM, boolM, ifM, DL.andM, DL.orM, DL.notM, andV, orV, notV, chainM, nilA, consA, dvs, dv, ownAt, fzs, lstM, tupM, callM, callP, permL, fzv, seqS, skipS, ifS, setS, asg, fr_z_un, fr_z_dat, fr_z_rw, fr_z_own, fr_s, turnF, retS, retV, dropS, frz, frzS, asgS, nilG, consG, tupG, subG, listAt, methM, augS, augSubS, forS, seqM, treeV, startD, endV, bodyF, bodyI, startI, ioAt, slM, partM, bors, callL, callI, callO, DL.flatV, DL.flat, List.filterMap_cons, List.filterMap_nil, List.map_cons, List.map_nil, List.getElem?_cons_zero, List.getElem?_cons_succ, List.getElem?_nil, List.set_cons_zero, List.set_cons_succ, List.cons_append, List.nil_append, List.length_cons, List.length_nil, Option.bind_some, Option.bind_none, Option.map_some, Option.map_none, Nat.reduceSub, Nat.reduceAdd, List.replicate_succ, List.replicate_zero, Bool.not_true, Bool.not_false, if_true, if_false, Bool.false_eq_true, reduceIte, decide_true, decide_false, Nat.reduceLT, Nat.reduceLeDiff, reduceCtorEq, Option.some.injEq, Prod.mk.injEq, hw, addD, hn, h, subI, intB, hy, ha]
theorem line_end {d d' d'' x xs : D} {m w u : Int} {δ : DS} {ys : List D} (hf : g__law_line_f1 [.own true d, .dat (.int m), .dat (.int w), .own false (.list []), .un] = some (.nx, .own true d' :: .dat (.int m) :: .dat (.int w) :: .own false xs :: δ)) (hu : 1 - w = u) (hp : m__law_pick d' [.list [.int 1, .int (-1), .int 2, .int 3, .int u]] = some (.fz x, d''))
    (ha : addD xs (.list [x]) = some (.ow (.list ys))) : m__law_line d [.int m, .int w] = some (.ow (.list ys), d'') := by
  simp only [m__law_line, g__law_line, g__law_line_s1, g__law_line_s2, mb, mr, mo, nameM, conM, binM, unM, boolM, ifM, DL.andM, DL.orM, DL.notM, andV, orV, notV, chainM, nilA, consA, dvs, dv, ownAt, fzs, lstM, tupM, callM, callP, permL, fzv, seqS, skipS, ifS, setS, asg, freeAt, retS, retV, dropS, frz, frzS, asgS, nilG, consG, tupG, subG, listAt, methM, augS, augSubS, forS, seqM, treeV, startD, endV, bodyF, bodyI, startI, ioAt, slM, partM, bors, callL, callI, callO, DL.flatV, DL.flat, List.filterMap_cons, List.filterMap_nil, List.map_cons, List.map_nil, List.getElem?_cons_zero, List.getElem?_cons_succ, List.getElem?_nil, List.set_cons_zero, List.set_cons_succ, List.cons_append, List.nil_append, List.length_cons, List.length_nil, Option.bind_some, Option.bind_none, Option.map_some, Option.map_none, Nat.reduceSub, Nat.reduceAdd, List.replicate_succ, List.replicate_zero, Bool.not_true, Bool.not_false, if_true, if_false, Bool.false_eq_true, reduceIte, decide_true, decide_false, Nat.reduceLT, Nat.reduceLeDiff, reduceCtorEq, Option.some.injEq, Prod.mk.injEq, szOk0, hf, negI, subI, intB, hu, szOkL (show 5 ≤ 16777216 by decide), hp, szOk1, ha]
/-- a drawn line of length m + 1 -/
structure Dr (m : Nat) (a : List Int) : Prop where
  len : a.length = m + 1
  nz : Nz a
  bd : Bd 5 a
theorem r_law_line {d : D} {m w : Int} (hd : Pot d) (h0 : 0 ≤ m) (h1 : m ≤ 6) (w0 : 3 ≤ w) (w1 : w ≤ 5) : ∃ a d', m__law_line d [.int m, .int w] = some (.ow (IL a), d') ∧ Pot d' ∧ Dr m.toNat a := by
  obtain ⟨s, r, e, p⟩ := for_ex (δ0 := [.own true d, .dat (.int m), .dat (.int w), .own false (IL []), rw' none]) (fi := rngM1 (consA (nameM 1) nilA)) (gt := asg 4) (body := g__law_line_b1) (fun i : Nat => .int ((0 : Int) + (i : Nat))) (fun (s : D × List Int) (r : Option D) => [.own true s.1, .dat (.int m), .dat (.int w), .own false (IL s.2), rw' r]) (fun k s => Pot s.1 ∧ s.2.length = k ∧ ∀ y ∈ s.2, y.natAbs ≤ 5) (List.range m.toNat) (s0 := (d, [])) (r0 := none) rfl (rng_1 (by simp only [mb, mr, mo, nameM, conM, binM, unM, boolM, ifM, DL.andM, DL.orM, DL.notM, andV, orV, notV, chainM, nilA, consA, dvs, dv, ownAt, fzs, lstM, tupM, callM, callP, permL, fzv, seqS, skipS, ifS, setS, asg, fr_z_un, fr_z_dat, fr_z_rw, fr_z_own, fr_s, turnF, retS, retV, dropS, frz, frzS, asgS, nilG, consG, tupG, subG, listAt, methM, augS, augSubS, forS, seqM, treeV, startD, endV, bodyF, bodyI, startI, ioAt, slM, partM, bors, callL, callI, callO, DL.flatV, DL.flat, List.filterMap_cons, List.filterMap_nil, List.map_cons, List.map_nil, List.getElem?_cons_zero, List.getElem?_cons_succ, List.getElem?_nil, List.set_cons_zero, List.set_cons_succ, List.cons_append, List.nil_append, List.length_cons, List.length_nil, Option.bind_some, Option.bind_none, Option.map_some, Option.map_none, Nat.reduceSub, Nat.reduceAdd, List.replicate_succ, List.replicate_zero, Bool.not_true, Bool.not_false, if_true, if_false, Bool.false_eq_true, reduceIte, decide_true, decide_false, Nat.reduceLT, Nat.reduceLeDiff, reduceCtorEq, Option.some.injEq, Prod.mk.injEq]) ⟨h0, by omega⟩) ⟨hd, rfl, by intro y hy; cases hy⟩ (fun k i s r hk p => by
    have hkl : k < m.toNat := by simpa using (List.getElem?_eq_some_iff.mp hk).1
    obtain ⟨x, d', hx, hd', x0, x1⟩ := draw_ok p.1 (n := 2 * w + 1) (by omega) (by omega)
    refine ⟨(d', s.2 ++ [x - w]), some (.int ((0 : Int) + (i : Nat))), ?_, hd', by simp [p.2.1], fun y hy => ?_⟩
    · have e := line_b1 (m := m) (r := some (.int ((0 : Int) + (i : Nat)))) (mulD_big (by decide) (by omega)) rfl hx rfl (append_IL (by omega : s.2.length ≤ 900))
      generalize (0 : Int) + (i : Nat) = j at e ⊢
      generalize s.2 ++ [x - w] = ys at e ⊢
      unfold rw' at e
      simp only [mb, mr, mo, nameM, conM, binM, unM, boolM, ifM, DL.andM, DL.orM, DL.notM, andV, orV, notV, chainM, nilA, consA, dvs, dv, ownAt, fzs, lstM, tupM, callM, callP, permL, fzv, seqS, skipS, ifS, setS, asg, fr_z_un, fr_z_dat, fr_z_rw, fr_z_own, fr_s, turnF, retS, retV, dropS, frz, frzS, asgS, nilG, consG, tupG, subG, listAt, methM, augS, augSubS, forS, seqM, treeV, startD, endV, bodyF, bodyI, startI, ioAt, slM, partM, bors, callL, callI, callO, DL.flatV, DL.flat, List.filterMap_cons, List.filterMap_nil, List.map_cons, List.map_nil, List.getElem?_cons_zero, List.getElem?_cons_succ, List.getElem?_nil, List.set_cons_zero, List.set_cons_succ, List.cons_append, List.nil_append, List.length_cons, List.length_nil, Option.bind_some, Option.bind_none, Option.map_some, Option.map_none, Nat.reduceSub, Nat.reduceAdd, List.replicate_succ, List.replicate_zero, Bool.not_true, Bool.not_false, if_true, if_false, Bool.false_eq_true, reduceIte, decide_true, decide_false, Nat.reduceLT, Nat.reduceLeDiff, reduceCtorEq, Option.some.injEq, Prod.mk.injEq, e]
      rfl
    · rcases List.mem_append.mp hy with h | h
      · exact p.2.2 y h
      · rw [List.mem_singleton.mp h]
        omega)
  rw [List.length_range] at p
  obtain ⟨x, hx, d', hp, hd'⟩ := pick_ok (xs := [.int 1, .int (-1), .int 2, .int 3, .int (1 - w)]) p.1 (by simp) (by show 5 < _; decide)
  obtain ⟨y, rfl, y0, y1⟩ : ∃ y : Int, x = .int y ∧ y ≠ 0 ∧ y.natAbs ≤ 5 := by
    simp only [List.mem_cons, List.not_mem_nil, or_false] at hx
    rcases hx with rfl | rfl | rfl | rfl | rfl <;> exact ⟨_, rfl, by omega, by omega⟩
  refine ⟨s.2 ++ [y], d', line_end e rfl hp (addD_IL s.2 [y] (by simp; omega)), hd', by simp; omega, PL.nz_last y0, PL.bd_mem fun z hz => ?_⟩
  rcases List.mem_append.mp hz with h | h
  · exact p.2.2 z h
  · rw [List.mem_singleton.mp h]
    exact y1
end K13
end
section
set_option maxRecDepth 100000
set_option exponentiation.threshold 100000
set_option exponentiation.threshold 100000
set_option maxHeartbeats 4000000
namespace K13
open PySem PySem.Spec L2 DL
open PL (cf Nz Bd Prt Qt pst df)
/-! ### division -/
/-- a list that may be one's own -/
def bl (b : Bool) (d : D) : Sl := if b then .own false d else .dat d
theorem bl_t (d : D) : bl true d = .own false d := rfl
theorem bl_f (d : D) : bl false d = .dat d := rfl
theorem free_bl (b : Bool) (d : D) (r : DS) : freeAt (bl b d :: r) 0 = true := by cases b <;> rfl
theorem par_b1 {p o r q q1 z o1 t r1 r2 q2 : D} {n n' k j sh m lc : Int} {b : Bool} {x y w : Option D} (h1 : lenD [r] = some (.fz (.int k))) (h2 : lenD [o] = some (.fz (.int j))) (hs : k - j = sh) (hm : ixD r (.int (-1)) = some (.fz (.int m))) (hl : ixD o (.int (-1)) = some (.fz (.int lc))) (hn : mulD (.int n) (.int lc) = some (.fz (.int n')))
    (hq : m_scaled_line [q, .int lc] = some (.ow q1)) (hb : augSubS 4 (nameM 5) addI (nameM 6) [.dat p, .dat o, .dat (.int n'), bl b r, .own false q1, .dat (.int sh), .dat (.int m), rw' w, .un, .un] = some (.nx, [.dat p, .dat o, .dat (.int n'), bl b r, .own false q2, .dat (.int sh), .dat (.int m), rw' w, .un, .un]))
    (hz : mulD (.list [.int 0]) (.int sh) = some (.ow z)) (ho : m_scaled_line [o, .int m] = some (.ow o1)) (ht : addD z o1 = some (.ow t)) (hr : m_scaled_line [r, .int lc] = some (.ow r1)) (hr2 : m_minus_lines [r1, t] = some (.ow r2)) :
    g_parted_b1 [.dat p, .dat o, .dat (.int n), bl b r, .own false q, rw' x, rw' y, rw' w, .un, .un] = some (.nx, [.dat p, .dat o, .dat (.int n'), .own false r2, .own false q2, .dat (.int sh), .dat (.int m), .dat t, .un, .un]) := by
  cases b
  · rw [bl_f] at hb
    simp only [g_parted_b1, bl_f, parS, parO, mb, mr, mo, nameM, conM, binM, unM, boolM, ifM, DL.andM, DL.orM, DL.notM, andV, orV, notV, chainM, nilA, consA, dvs, dv, ownAt, fzs, lstM, tupM, callM, callP, permL, fzv, seqS, skipS, ifS, setS, asg, fr_z_un, fr_z_dat, fr_z_rw, fr_z_own, fr_s, turnF, retS, retV, dropS, frz, frzS, asgS, nilG, consG, tupG, subG, listAt, methM, augS, forS, seqM, treeV, startD, endV, bodyF, bodyI, startI, ioAt, slM, partM, bors, callL, callI, callO, DL.flatV, DL.flat, List.filterMap_cons, List.filterMap_nil, List.map_cons, List.map_nil, List.getElem?_cons_zero, List.getElem?_cons_succ, List.getElem?_nil, List.set_cons_zero, List.set_cons_succ, List.cons_append, List.nil_append, List.length_cons, List.length_nil, Option.bind_some, Option.bind_none, Option.map_some, Option.map_none, Nat.reduceSub, Nat.reduceAdd, List.replicate_succ, List.replicate_zero, Bool.not_true, Bool.not_false, if_true, if_false, Bool.false_eq_true, reduceIte, decide_true, decide_false, Nat.reduceLT, Nat.reduceLeDiff, reduceCtorEq, Option.some.injEq, Prod.mk.injEq, h1, h2, subI, intB, hs, negI, hm, hl, hn, hq, hb, szOk1, hz, ho, ht, hr, hr2]
  · rw [bl_t] at hb
    simp only [g_parted_b1, bl_t, parS, parO, mb, mr, mo, nameM, conM, binM, unM, boolM, ifM, DL.andM, DL.orM, DL.notM, andV, orV, notV, chainM, nilA, consA, dvs, dv, ownAt, fzs, lstM, tupM, callM, callP, permL, fzv, seqS, skipS, ifS, setS, asg, fr_z_un, fr_z_dat, fr_z_rw, fr_z_own, fr_s, turnF, retS, retV, dropS, frz, frzS, asgS, nilG, consG, tupG, subG, listAt, methM, augS, forS, seqM, treeV, startD, endV, bodyF, bodyI, startI, ioAt, slM, partM, bors, callL, callI, callO, DL.flatV, DL.flat, List.filterMap_cons, List.filterMap_nil, List.map_cons, List.map_nil, List.getElem?_cons_zero, List.getElem?_cons_succ, List.getElem?_nil, List.set_cons_zero, List.set_cons_succ, List.cons_append, List.nil_append, List.length_cons, List.length_nil, Option.bind_some, Option.bind_none, Option.map_some, Option.map_none, Nat.reduceSub, Nat.reduceAdd, List.replicate_succ, List.replicate_zero, Bool.not_true, Bool.not_false, if_true, if_false, Bool.false_eq_true, reduceIte, decide_true, decide_false, Nat.reduceLT, Nat.reduceLeDiff, reduceCtorEq, Option.some.injEq, Prod.mk.injEq, h1, h2, subI, intB, hs, negI, hm, hl, hn, hq, hb, szOk1, hz, ho, ht, hr, hr2]
theorem par_t1 {p o r q n : D} {k j : Int} {b : Bool} {x y w : Option D} (h1 : lenD [r] = some (.fz (.int k))) (h2 : lenD [o] = some (.fz (.int j))) : g_parted_t1 [.dat p, .dat o, .dat n, bl b r, .own false q, rw' x, rw' y, rw' w, .un, .un] = some (decide (j ≤ k), [.dat p, .dat o, .dat n, bl b r, .own false q, rw' x, rw' y, rw' w, .un, .un]) := by
  cases b <;> simp only [g_parted_t1, bl_f, bl_t, mb, mr, mo, nameM, conM, binM, unM, boolM, ifM, DL.andM, DL.orM, DL.notM, andV, orV, notV, chainM, nilA, consA, dvs, dv, ownAt, fzs, lstM, tupM, callM, callP, permL, fzv, seqS, skipS, ifS, setS, asg, fr_z_un, fr_z_dat, fr_z_rw, fr_z_own, fr_s, turnF, retS, retV, dropS, frz, frzS, asgS, nilG, consG, tupG, subG, listAt, methM, augS, augSubS, forS, seqM, treeV, startD, endV, bodyF, bodyI, startI, ioAt, slM, partM, bors, callL, callI, callO, DL.flatV, DL.flat, List.filterMap_cons, List.filterMap_nil, List.map_cons, List.map_nil, List.getElem?_cons_zero, List.getElem?_cons_succ, List.getElem?_nil, List.set_cons_zero, List.set_cons_succ, List.cons_append, List.nil_append, List.length_cons, List.length_nil, Option.bind_some, Option.bind_none, Option.map_some, Option.map_none, Nat.reduceSub, Nat.reduceAdd, List.replicate_succ, List.replicate_zero, Bool.not_true, Bool.not_false, if_true, if_false, Bool.false_eq_true, reduceIte, decide_true, decide_false, Nat.reduceLT, Nat.reduceLeDiff, reduceCtorEq, Option.some.injEq, Prod.mk.injEq, h1, h2, geI, intB]
theorem scaled0 {b : List Int} {x : Int} (h0 : x ≠ 0) (hx : x.natAbs < 2 ^ 8000) (hb : ∀ y ∈ b, y.natAbs < 2 ^ 8000) (hz : b.length ≤ 900) : m_scaled_line [IL b, .int x] = some (.ow (IL (b.map (x * ·)))) := r_scaled b h0 hx hb hz
theorem lt_big {A B t : Nat} (h : A * (2 * B) ^ t < 2 ^ 8000) {a : List Int} (hb : Bd (A * (2 * B) ^ t) a) : ∀ y ∈ a, y.natAbs < 2 ^ 8000 := fun y hy => Nat.lt_of_le_of_lt (PL.mem_bd hb y hy) h
/-- the loop -/
theorem par_w {A B : Nat} {p o : List Int} (np : Nz p) (no : Nz o) (o0 : o ≠ []) (ha : Bd A p) (hb : Bd B o) (hl : o.length ≤ p.length) (hp : p.length ≤ 400) (hbig : A * (2 * B) ^ (p.length + 1 - o.length) < 2 ^ 8000) (hbig2 : (2 * B) ^ (p.length + 1 - o.length) < 2 ^ 8000) (A1 : 1 ≤ A) :
    ∃ n k r, ∃ b : Bool, ∃ x y w : Option D, g_parted_w1 [.dat (IL p), .dat (IL o), .dat (.int 1), .dat (IL p), .own false (IL (List.replicate (p.length - o.length + 1) 0)), .un, .un, .un, .un, .un] = some (.nx, [.dat (IL p), .dat (IL o), .dat (.int n), bl b (IL r), .own false (IL k), rw' x, rw' y, rw' w, .un, .un]) ∧ Prt A B p o n k r ∧ r.length < o.length := by
  have hB : 1 ≤ B := by
    have h1 := PL.bd_la hb
    have h2 := la_ne no o0
    omega
  have op := List.length_pos_iff.mpr o0
  obtain ⟨s, r, h1, h2, h3⟩ := while_fold (c := g_parted_t1) (body := g_parted_b1) (fun (s : Int × List Int × List Int) (r : Bool × Option D × Option D × Option D) => [.dat (IL p), .dat (IL o), .dat (.int s.1), bl r.1 (IL s.2.2), .own false (IL s.2.1), rw' r.2.1, rw' r.2.2.1, rw' r.2.2.2, .un, .un]) (fun s => Prt A B p o s.1 s.2.1 s.2.2) (fun s => decide (((o.length : Nat) : Int) ≤ (s.2.2.length : Nat))) (fun s => (s.1 * la o, PL.bump (s.2.1.map (la o * ·)) (s.2.2.length - o.length) (la s.2.2), pst o s.2.2)) (fun s => s.2.2.length) (fun s r h => par_t1 (len_ints rfl) (len_ints rfl)) (fun s r h hc => by
    have hc : o.length ≤ s.2.2.length := by simpa using hc
    have hst := h.step no o0 hb hc
    have hlt := PL.pst_len o0 hc
    have hle := h.le
    have r0 : s.2.2 ≠ [] := fun z => by
      rw [z, List.length_nil] at hc
      omega
    have l0 := la_ne no o0
    have m0 := la_ne h.nz r0
    have mono : ∀ t, t ≤ p.length + 1 - o.length → A * (2 * B) ^ t < 2 ^ 8000 := fun t ht => Nat.lt_of_le_of_lt (Nat.mul_le_mul_left _ (Nat.pow_le_pow_right (by omega) ht)) hbig
    have b1 := lt_big (mono _ (by omega)) h.bd
    have b2 := lt_big (mono _ (by omega)) h.bk
    have bo : ∀ y ∈ o, y.natAbs < 2 ^ 8000 := fun y hy => by
      have h1 := PL.mem_bd hb y hy
      have h2 := mono 1 (by omega)
      have h3 := Nat.le_mul_of_pos_left (2 * B) A1
      rw [Nat.pow_one] at h2
      omega
    have bl0 := bo _ (la_mem o0)
    have bm0 := b1 _ (la_mem r0)
    have bn : s.1.natAbs < 2 ^ 8000 := Nat.lt_of_le_of_lt (Nat.le_trans h.bn (Nat.pow_le_pow_right (by omega) (by omega))) hbig2
    have hk : s.2.2.length - o.length < (s.2.1.map (la o * ·)).length := by
      rw [List.length_map, h.kl]
      omega
    have e4 : (((s.2.2.length : Nat) : Int) - (o.length : Nat)) = ((s.2.2.length - o.length : Nat) : Int) := by omega
    have hmin := e_minus (a := s.2.2.map (la o * ·)) (b := PL.shf (s.2.2.length - o.length) (o.map (la s.2.2 * ·))) (by rw [List.length_map]; omega) (by rw [PL.shf_len, List.length_map]; omega) (fun y hy => by
      have hb3 : Bd (A * (2 * B) ^ (min (p.length - s.2.2.length) (p.length + 1 - o.length) + 1)) (PL.shf (s.2.2.length - o.length) (o.map (la s.2.2 * ·))) := PL.bd_shf _ (PL.bd_le (by
        rw [Nat.pow_succ, ← Nat.mul_assoc]
        exact Nat.mul_le_mul_left _ (by omega)) (PL.bd_sc (PL.bd_la h.bd) hb))
      exact lt_big (mono _ (by omega)) hb3 y hy)
    refine ⟨⟨(true, some (.int ((s.2.2.length - o.length : Nat) : Int)), some (.int (la s.2.2)), some (IL (PL.shf (s.2.2.length - o.length) (o.map (la s.2.2 * ·))))), ?_⟩, hst, hlt⟩
    refine par_b1 (len_ints rfl) (len_ints rfl) e4 (ix_neg1 rfl r0) (ix_neg1 rfl o0) (mulD_big bn bl0) (scaled0 l0 bl0 b2 (by rw [h.kl]; omega)) ?_ (rep_zeros _ (by omega)) (scaled0 m0 bm0 bo (by omega)) (addD_IL _ _ (by rw [List.length_replicate, List.length_map]; omega)) (scaled0 l0 bl0 b1 (by omega)) hmin
    exact augSub_bump (io := false) rfl rfl rfl hk) fuel (1, List.replicate (p.length - o.length + 1) 0, p) (false, none, none, none) (Prt.start np ha) (by show p.length < fuel; unfold fuel; omega)
  have h3 : s.2.2.length < o.length := by simpa using h3
  exact ⟨s.1, s.2.1, s.2.2, r.1, r.2.1, r.2.2.1, r.2.2.2, h1, h2, h3⟩
theorem par_end {p o ls n1 : D} {n g f u : Int} {k r : List Int} {b : Bool} {x y w : Sl} {qd rd : D} (q1 : addD (.list [.int n]) (IL k) = some (.ow n1)) (q2 : addD n1 (IL r) = some (.ow ls)) (hg : m_greatest_of [ls] = some (.fz (.int g))) (hf : (if n < 0 then 0 - g else g) = f) (hu : fdivD (.int n) (.int f) = some (.fz (.int u)))
    (c2 : g_parted_c2 [.dat p, .dat o, .dat (.int n), .dat (IL r), .dat (IL k), x, y, w, .dat (.int f), .un] = some (.ow qd, [.dat p, .dat o, .dat (.int n), .dat (IL r), .dat (IL k), x, y, w, .dat (.int f), .un]))
    (c1 : g_parted_c1 [.dat p, .dat o, .dat (.int n), .dat (IL r), .dat (IL k), x, y, w, .dat (.int f), .un] = some (.ow rd, [.dat p, .dat o, .dat (.int n), .dat (IL r), .dat (IL k), x, y, w, .dat (.int f), .un])) {s4 : Sl} (h4 : s4 = .own false (IL k) ∨ s4 = .dat (IL k)) :
    seqS g_parted_s3 (seqS g_parted_s4 g_parted_s5) [.dat p, .dat o, .dat (.int n), bl b (IL r), s4, x, y, w, .un, .un] = some (.rt (.fz (.tuple [.int u, qd, rd])), [.dat p, .dat o, .dat (.int n), .dat (IL r), .dat (IL k), x, y, w, .dat (.int f), .un]) := by
  have z3 := szOkL (show 3 ≤ 16777216 by decide)
  generalize IL r = rl at *
  generalize IL k = kl at *
  by_cases hn : n < 0
  · rw [if_pos hn] at hf
    rcases h4 with rfl | rfl <;> cases b <;> simp only [bl_f, bl_t, g_parted_s3, g_parted_s4, g_parted_s5, mb, mr, mo, nameM, conM, binM, unM, boolM, ifM, DL.andM, DL.orM, DL.notM, andV, orV, notV, chainM, nilA, consA, dvs, dv, ownAt, fzs, lstM, tupM, callM, callP, permL, fzv, seqS, skipS, ifS, setS, asg, fr_z_un, fr_z_dat, fr_z_rw, fr_z_own, fr_s, turnF, retS, retV, dropS, frz, frzS, asgS, nilG, consG, tupG, subG, listAt, methM, augS, augSubS, forS, seqM, treeV, startD, endV, bodyF, bodyI, startI, ioAt, slM, partM, bors, callL, callI, callO, DL.flatV, DL.flat, List.filterMap_cons, List.filterMap_nil, List.map_cons, List.map_nil, List.getElem?_cons_zero, List.getElem?_cons_succ, List.getElem?_nil, List.set_cons_zero, List.set_cons_succ, List.cons_append, List.nil_append, List.length_cons, List.length_nil, Option.bind_some, Option.bind_none, Option.map_some, Option.map_none, Nat.reduceSub, Nat.reduceAdd, List.replicate_succ, List.replicate_zero, Bool.not_true, Bool.not_false, if_true, if_false, Bool.false_eq_true, reduceIte, decide_true, decide_false, Nat.reduceLT, Nat.reduceLeDiff, reduceCtorEq, Option.some.injEq, Prod.mk.injEq, szOk1, q1, q2, hg, ltI, intB, decide_eq_true hn, subI, hf, hu, c2, c1, z3]
  · rw [if_neg hn] at hf
    subst hf
    rcases h4 with rfl | rfl <;> cases b <;> simp only [bl_f, bl_t, g_parted_s3, g_parted_s4, g_parted_s5, mb, mr, mo, nameM, conM, binM, unM, boolM, ifM, DL.andM, DL.orM, DL.notM, andV, orV, notV, chainM, nilA, consA, dvs, dv, ownAt, fzs, lstM, tupM, callM, callP, permL, fzv, seqS, skipS, ifS, setS, asg, fr_z_un, fr_z_dat, fr_z_rw, fr_z_own, fr_s, turnF, retS, retV, dropS, frz, frzS, asgS, nilG, consG, tupG, subG, listAt, methM, augS, augSubS, forS, seqM, treeV, startD, endV, bodyF, bodyI, startI, ioAt, slM, partM, bors, callL, callI, callO, DL.flatV, DL.flat, List.filterMap_cons, List.filterMap_nil, List.map_cons, List.map_nil, List.getElem?_cons_zero, List.getElem?_cons_succ, List.getElem?_nil, List.set_cons_zero, List.set_cons_succ, List.cons_append, List.nil_append, List.length_cons, List.length_nil, Option.bind_some, Option.bind_none, Option.map_some, Option.map_none, Nat.reduceSub, Nat.reduceAdd, List.replicate_succ, List.replicate_zero, Bool.not_true, Bool.not_false, if_true, if_false, Bool.false_eq_true, reduceIte, decide_true, decide_false, Nat.reduceLT, Nat.reduceLeDiff, reduceCtorEq, Option.some.injEq, Prod.mk.injEq, szOk1, q1, q2, hg, ltI, intB, decide_eq_false hn, hu, c2, c1, z3]
theorem par_start {p o z : D} {k j c : Int} (hp : listD [p] = some (.ow p)) (h1 : lenD [p] = some (.fz (.int k))) (h2 : lenD [o] = some (.fz (.int j))) (hl : j ≤ k) (hc : k - j + 1 = c) (hz : mulD (.list [.int 0]) (.int c) = some (.ow z)) :
    seqS g_parted_s1 g_parted_s2 [.dat p, .dat o, .un, .un, .un, .un, .un, .un, .un, .un] = some (.nx, [.dat p, .dat o, .dat (.int 1), .dat p, .own false z, .un, .un, .un, .un, .un]) := by
  simp only [g_parted_s1, g_parted_s2, par3S, mb, mr, mo, nameM, conM, binM, unM, boolM, ifM, DL.andM, DL.orM, DL.notM, andV, orV, notV, chainM, nilA, consA, dvs, dv, ownAt, fzs, lstM, tupM, callM, callP, permL, fzv, seqS, skipS, ifS, setS, asg, fr_z_un, fr_z_dat, fr_z_rw, fr_z_own, fr_s, turnF, retS, retV, dropS, frz, frzS, asgS, nilG, consG, tupG, subG, listAt, methM, augS, augSubS, forS, seqM, treeV, startD, endV, bodyF, bodyI, startI, ioAt, slM, partM, bors, callL, callI, callO, DL.flatV, DL.flat, List.filterMap_cons, List.filterMap_nil, List.map_cons, List.map_nil, List.getElem?_cons_zero, List.getElem?_cons_succ, List.getElem?_nil, List.set_cons_zero, List.set_cons_succ, List.cons_append, List.nil_append, List.length_cons, List.length_nil, Option.bind_some, Option.bind_none, Option.map_some, Option.map_none, Nat.reduceSub, Nat.reduceAdd, List.replicate_succ, List.replicate_zero, Bool.not_true, Bool.not_false, if_true, if_false, Bool.false_eq_true, reduceIte, decide_true, decide_false, Nat.reduceLT, Nat.reduceLeDiff, reduceCtorEq, Option.some.injEq, Prod.mk.injEq, hp, szOk0, szOk1, h1, h2, geI, intB, decide_eq_true hl, subI, addD, hc, hz]
theorem par_start0 {p o : D} {k j : Int} (hp : listD [p] = some (.ow p)) (h1 : lenD [p] = some (.fz (.int k))) (h2 : lenD [o] = some (.fz (.int j))) (hl : ¬ j ≤ k) :
    seqS g_parted_s1 (seqS g_parted_s2 g_parted_w1) [.dat p, .dat o, .un, .un, .un, .un, .un, .un, .un, .un] = some (.nx, [.dat p, .dat o, .dat (.int 1), .dat p, .dat (.list []), .un, .un, .un, .un, .un]) := by
  have e : fuel = 999999999 + 1 := rfl
  simp only [g_parted_s1, g_parted_s2, g_parted_w1, e, whileN, g_parted_t1, par3S, mb, mr, mo, nameM, conM, binM, unM, boolM, ifM, DL.andM, DL.orM, DL.notM, andV, orV, notV, chainM, nilA, consA, dvs, dv, ownAt, fzs, lstM, tupM, callM, callP, permL, fzv, seqS, skipS, ifS, setS, asg, fr_z_un, fr_z_dat, fr_z_rw, fr_z_own, fr_s, turnF, retS, retV, dropS, frz, frzS, asgS, nilG, consG, tupG, subG, listAt, methM, augS, augSubS, forS, seqM, treeV, startD, endV, bodyF, bodyI, startI, ioAt, slM, partM, bors, callL, callI, callO, DL.flatV, DL.flat, List.filterMap_cons, List.filterMap_nil, List.map_cons, List.map_nil, List.getElem?_cons_zero, List.getElem?_cons_succ, List.getElem?_nil, List.set_cons_zero, List.set_cons_succ, List.cons_append, List.nil_append, List.length_cons, List.length_nil, Option.bind_some, Option.bind_none, Option.map_some, Option.map_none, Nat.reduceSub, Nat.reduceAdd, List.replicate_succ, List.replicate_zero, Bool.not_true, Bool.not_false, if_true, if_false, Bool.false_eq_true, reduceIte, decide_true, decide_false, Nat.reduceLT, Nat.reduceLeDiff, reduceCtorEq, Option.some.injEq, Prod.mk.injEq, hp, szOk0, h1, h2, geI, intB, decide_eq_false hl]
theorem par_all {p o q : D} {δ δ' : DS} (h1 : seqS g_parted_s1 (seqS g_parted_s2 g_parted_w1) [.dat p, .dat o, .un, .un, .un, .un, .un, .un, .un, .un] = some (.nx, δ)) (h2 : seqS g_parted_s3 (seqS g_parted_s4 g_parted_s5) δ = some (.rt (.fz q), δ')) : m_parted [p, o] = some (.fz q) := by
  have e : g_parted [.dat p, .dat o, .un, .un, .un, .un, .un, .un, .un, .un] = some (.rt (.fz q), δ') := by
    unfold g_parted
    rw [seq_as, seq_as, seq_ok (by rw [← seq_as]; exact h1), h2]
  simp only [m_parted, mb, mr, mo, nameM, conM, binM, unM, boolM, ifM, DL.andM, DL.orM, DL.notM, andV, orV, notV, chainM, nilA, consA, dvs, dv, ownAt, fzs, lstM, tupM, callM, callP, permL, fzv, seqS, skipS, ifS, setS, asg, freeAt, retS, retV, dropS, frz, frzS, asgS, nilG, consG, tupG, subG, listAt, methM, augS, augSubS, forS, seqM, treeV, startD, endV, bodyF, bodyI, startI, ioAt, slM, partM, bors, callL, callI, callO, DL.flatV, DL.flat, List.filterMap_cons, List.filterMap_nil, List.map_cons, List.map_nil, List.getElem?_cons_zero, List.getElem?_cons_succ, List.getElem?_nil, List.set_cons_zero, List.set_cons_succ, List.cons_append, List.nil_append, List.length_cons, List.length_nil, Option.bind_some, Option.bind_none, Option.map_some, Option.map_none, Nat.reduceSub, Nat.reduceAdd, List.replicate_succ, List.replicate_zero, Bool.not_true, Bool.not_false, if_true, if_false, Bool.false_eq_true, reduceIte, decide_true, decide_false, Nat.reduceLT, Nat.reduceLeDiff, reduceCtorEq, Option.some.injEq, Prod.mk.injEq, e]
theorem par_c {p o : D} {n f : Int} {k r : List Int} {x y w : Sl} (f0 : f ≠ 0) (fb : f.natAbs < 2 ^ 8000) (hk : k.length ≤ 900) (hr : r.length ≤ 900) :
    g_parted_c2 [.dat p, .dat o, .dat (.int n), .dat (IL r), .dat (IL k), x, y, w, .dat (.int f), .un] = some (.ow (IL (k.map fun z => z.fdiv f)), [.dat p, .dat o, .dat (.int n), .dat (IL r), .dat (IL k), x, y, w, .dat (.int f), .un]) ∧
    g_parted_c1 [.dat p, .dat o, .dat (.int n), .dat (IL r), .dat (IL k), x, y, w, .dat (.int f), .un] = some (.ow (IL (r.map fun z => z.fdiv f)), [.dat p, .dat o, .dat (.int n), .dat (IL r), .dat (IL k), x, y, w, .dat (.int f), .un]) := by
  unfold g_parted_c2 g_parted_c1
  refine ⟨comp_ints (fun z => z.fdiv f) ?_ rfl (by omega) fun z hz => ?_, comp_ints (fun z => z.fdiv f) ?_ rfl (by omega) fun z hz => ?_⟩
  · simp only [mb, mr, mo, nameM, conM, binM, unM, boolM, ifM, DL.andM, DL.orM, DL.notM, andV, orV, notV, chainM, nilA, consA, dvs, dv, ownAt, fzs, lstM, tupM, callM, callP, permL, fzv, seqS, skipS, ifS, setS, asg, freeAt, retS, retV, dropS, frz, frzS, asgS, nilG, consG, tupG, subG, listAt, methM, augS, augSubS, forS, seqM, treeV, startD, endV, bodyF, bodyI, startI, ioAt, slM, partM, bors, callL, callI, callO, DL.flatV, DL.flat, List.filterMap_cons, List.filterMap_nil, List.map_cons, List.map_nil, List.getElem?_cons_zero, List.getElem?_cons_succ, List.getElem?_nil, List.set_cons_zero, List.set_cons_succ, List.cons_append, List.nil_append, List.length_cons, List.length_nil, Option.bind_some, Option.bind_none, Option.map_some, Option.map_none, Nat.reduceSub, Nat.reduceAdd, List.replicate_succ, List.replicate_zero, Bool.not_true, Bool.not_false, if_true, if_false, Bool.false_eq_true, reduceIte, decide_true, decide_false, Nat.reduceLT, Nat.reduceLeDiff, reduceCtorEq, Option.some.injEq, Prod.mk.injEq, itemsOf]
  · have := fdivD_big (i := z) f0 fb
    simp only [mb, mr, mo, nameM, conM, binM, unM, boolM, ifM, DL.andM, DL.orM, DL.notM, andV, orV, notV, chainM, nilA, consA, dvs, dv, ownAt, fzs, lstM, tupM, callM, callP, permL, fzv, seqS, skipS, ifS, setS, asg, freeAt, retS, retV, dropS, frz, frzS, asgS, nilG, consG, tupG, subG, listAt, methM, augS, augSubS, forS, seqM, treeV, startD, endV, bodyF, bodyI, startI, ioAt, slM, partM, bors, callL, callI, callO, DL.flatV, DL.flat, List.filterMap_cons, List.filterMap_nil, List.map_cons, List.map_nil, List.getElem?_cons_zero, List.getElem?_cons_succ, List.getElem?_nil, List.set_cons_zero, List.set_cons_succ, List.cons_append, List.nil_append, List.length_cons, List.length_nil, Option.bind_some, Option.bind_none, Option.map_some, Option.map_none, Nat.reduceSub, Nat.reduceAdd, List.replicate_succ, List.replicate_zero, Bool.not_true, Bool.not_false, if_true, if_false, Bool.false_eq_true, reduceIte, decide_true, decide_false, Nat.reduceLT, Nat.reduceLeDiff, reduceCtorEq, Option.some.injEq, Prod.mk.injEq, this]
  · simp only [mb, mr, mo, nameM, conM, binM, unM, boolM, ifM, DL.andM, DL.orM, DL.notM, andV, orV, notV, chainM, nilA, consA, dvs, dv, ownAt, fzs, lstM, tupM, callM, callP, permL, fzv, seqS, skipS, ifS, setS, asg, freeAt, retS, retV, dropS, frz, frzS, asgS, nilG, consG, tupG, subG, listAt, methM, augS, augSubS, forS, seqM, treeV, startD, endV, bodyF, bodyI, startI, ioAt, slM, partM, bors, callL, callI, callO, DL.flatV, DL.flat, List.filterMap_cons, List.filterMap_nil, List.map_cons, List.map_nil, List.getElem?_cons_zero, List.getElem?_cons_succ, List.getElem?_nil, List.set_cons_zero, List.set_cons_succ, List.cons_append, List.nil_append, List.length_cons, List.length_nil, Option.bind_some, Option.bind_none, Option.map_some, Option.map_none, Nat.reduceSub, Nat.reduceAdd, List.replicate_succ, List.replicate_zero, Bool.not_true, Bool.not_false, if_true, if_false, Bool.false_eq_true, reduceIte, decide_true, decide_false, Nat.reduceLT, Nat.reduceLeDiff, reduceCtorEq, Option.some.injEq, Prod.mk.injEq, itemsOf]
  · have := fdivD_big (i := z) f0 fb
    simp only [mb, mr, mo, nameM, conM, binM, unM, boolM, ifM, DL.andM, DL.orM, DL.notM, andV, orV, notV, chainM, nilA, consA, dvs, dv, ownAt, fzs, lstM, tupM, callM, callP, permL, fzv, seqS, skipS, ifS, setS, asg, freeAt, retS, retV, dropS, frz, frzS, asgS, nilG, consG, tupG, subG, listAt, methM, augS, augSubS, forS, seqM, treeV, startD, endV, bodyF, bodyI, startI, ioAt, slM, partM, bors, callL, callI, callO, DL.flatV, DL.flat, List.filterMap_cons, List.filterMap_nil, List.map_cons, List.map_nil, List.getElem?_cons_zero, List.getElem?_cons_succ, List.getElem?_nil, List.set_cons_zero, List.set_cons_succ, List.cons_append, List.nil_append, List.length_cons, List.length_nil, Option.bind_some, Option.bind_none, Option.map_some, Option.map_none, Nat.reduceSub, Nat.reduceAdd, List.replicate_succ, List.replicate_zero, Bool.not_true, Bool.not_false, if_true, if_false, Bool.false_eq_true, reduceIte, decide_true, decide_false, Nat.reduceLT, Nat.reduceLeDiff, reduceCtorEq, Option.some.injEq, Prod.mk.injEq, this]
/-- all of a division -/
theorem r_parted2 {A B : Nat} {p o : List Int} (np : Nz p) (no : Nz o) (o0 : o ≠ []) (ha : Bd A p) (hb : Bd B o) (hp : p.length ≤ 400) (ho : o.length ≤ 400) (A1 : 1 ≤ A) (hbig : A * (2 * B) ^ (p.length + 1 - o.length) < 2 ^ 8000) :
    ∃ n k r, m_parted [IL p, IL o] = some (.fz (.tuple [.int n, IL k, IL r])) ∧ Qt p o n k r ∧ Bd (A * (2 * B) ^ (p.length + 1 - o.length)) r ∧ k.length ≤ p.length + 1 ∧ (∀ y ∈ n :: (k ++ r), y.natAbs < 2 ^ 8000) ∧ n.natAbs ≤ (2 * B) ^ (p.length + 1 - o.length) := by
  have hB : 1 ≤ B := by
    have h1 := PL.bd_la hb
    have h2 := la_ne no o0
    omega
  have op := List.length_pos_iff.mpr o0
  have mono : ∀ t, t ≤ p.length + 1 - o.length → A * (2 * B) ^ t < 2 ^ 8000 := fun t ht => Nat.lt_of_le_of_lt (Nat.mul_le_mul_left _ (Nat.pow_le_pow_right (by omega) ht)) hbig
  have hbig2 : (2 * B) ^ (p.length + 1 - o.length) < 2 ^ 8000 := Nat.lt_of_le_of_lt (Nat.le_mul_of_pos_left _ A1) hbig
  have fin : ∀ (n : Int) (k r : List Int) (t : Nat) (b : Bool) (s4 x y w : Sl), t ≤ p.length + 1 - o.length → n ≠ 0 → Nz k → Nz r → r.length < o.length → PL.S p = PL.S p → SR.con n * PL.S p = PL.S k * PL.S o + PL.S r → Bd (A * (2 * B) ^ t) r → Bd (A * (2 * B) ^ t) k → n.natAbs ≤ (2 * B) ^ t → k.length ≤ p.length + 1 → (s4 = .own false (IL k) ∨ s4 = .dat (IL k)) →
      seqS g_parted_s1 (seqS g_parted_s2 g_parted_w1) [.dat (IL p), .dat (IL o), .un, .un, .un, .un, .un, .un, .un, .un] = some (.nx, [.dat (IL p), .dat (IL o), .dat (.int n), bl b (IL r), s4, x, y, w, .un, .un]) →
      ∃ n k r, m_parted [IL p, IL o] = some (.fz (.tuple [.int n, IL k, IL r])) ∧ Qt p o n k r ∧ Bd (A * (2 * B) ^ (p.length + 1 - o.length)) r ∧ k.length ≤ p.length + 1 ∧ (∀ y ∈ n :: (k ++ r), y.natAbs < 2 ^ 8000) ∧ n.natAbs ≤ (2 * B) ^ (p.length + 1 - o.length) := by
    intro n k r t b s4 x y w ht n0 nk nr lt _ eq br bk bn kl h4 hw
    have hall : ∀ y ∈ n :: (k ++ r), y.natAbs < 2 ^ 8000 := fun y hy => by
      rcases List.mem_cons.mp hy with h | hy
      · rw [h]
        exact Nat.lt_of_le_of_lt (Nat.le_trans bn (Nat.pow_le_pow_right (by omega) (by omega))) hbig2
      · rcases List.mem_append.mp hy with h | h
        · exact lt_big (mono _ (by omega)) bk y h
        · exact lt_big (mono _ (by omega)) br y h
    have f0 := PL.df_ne n0 k r
    have fb : (df n k r).natAbs < 2 ^ 8000 := by
      rw [PL.df_abs]
      have h1 := gl_dvd (a := n :: (k ++ r)) List.mem_cons_self
      exact Nat.lt_of_le_of_lt (Nat.le_of_dvd (Int.natAbs_pos.mpr n0) h1) (hall n List.mem_cons_self)
    obtain ⟨c2, c1⟩ := par_c (p := IL p) (o := IL o) (n := n) (k := k) (r := r) (x := x) (y := y) (w := w) f0 fb (by omega) (by omega)
    have q1 := addD_IL [n] k (by rw [List.length_singleton]; omega)
    have q2 := addD_IL ([n] ++ k) r (by rw [List.length_append, List.length_singleton]; omega)
    have hg := r_greatest (d := IL ([n] ++ k ++ r)) (a := [n] ++ k ++ r) rfl (fun y hy => hall y (by simpa using hy))
    have hgl : gl ([n] ++ k ++ r) = gl (n :: (k ++ r)) := by simp
    rw [hgl] at hg
    refine ⟨_, _, _, par_all hw (par_end q1 q2 hg rfl (fdivD_big f0 fb) c2 c1 h4), PL.qt_of n0 nk nr lt eq, fun i => ?_, by rw [List.length_map]; exact kl, fun y hy => ?_, Nat.le_trans (Int.natAbs_fdiv_le_natAbs _ _) (Nat.le_trans bn (Nat.pow_le_pow_right (by omega) ht))⟩
    · have e : cf (r.map fun x => x.fdiv (df n k r)) i = (cf r i).fdiv (df n k r) := PL.cf_map (by simp) r i
      rw [e]
      have h1 := br i
      have h2 : ((cf r i).fdiv (df n k r)).natAbs ≤ (cf r i).natAbs := by
        by_cases hi : i < r.length
        · have hm : cf r i ∈ n :: (k ++ r) := by
            refine List.mem_cons_of_mem _ (List.mem_append_right _ ?_)
            rw [PL.cf_get, List.getD_eq_getElem?_getD, List.getElem?_eq_getElem hi]
            exact List.getElem_mem hi
          obtain ⟨c, hc⟩ := PL.df_dvd hm
          rw [hc, Int.mul_fdiv_cancel_left _ f0, Int.natAbs_mul]
          exact Nat.le_mul_of_pos_left _ (Int.natAbs_pos.mpr f0)
        · rw [PL.cf_beyond (a := r) (by omega)]
          simp
      exact Nat.le_trans h2 (Nat.le_trans h1 (Nat.mul_le_mul_left _ (Nat.pow_le_pow_right (by omega) ht)))
    · obtain ⟨z, hz, rfl⟩ : ∃ z ∈ n :: (k ++ r), z.fdiv (df n k r) = y := by
        have hy : y ∈ (n :: (k ++ r)).map (fun x => x.fdiv (df n k r)) := by
          rw [List.map_cons, List.map_append]
          exact hy
        exact List.mem_map.mp hy
      obtain ⟨c, hc⟩ := PL.df_dvd hz
      have h5 := hall z hz
      rw [hc, Int.natAbs_mul] at h5
      rw [hc, Int.mul_fdiv_cancel_left _ f0]
      exact Nat.lt_of_le_of_lt (Nat.le_mul_of_pos_left _ (Int.natAbs_pos.mpr f0)) h5
  by_cases hl : o.length ≤ p.length
  · obtain ⟨n, k, r, b, x, y, w, h1, h2, h3⟩ := par_w np no o0 ha hb hl hp hbig hbig2 A1
    have hs := par_start (p := IL p) (o := IL o) rfl (len_ints rfl) (len_ints rfl) (show ((o.length : Nat) : Int) ≤ (p.length : Nat) by omega) rfl (z := IL (List.replicate (p.length - o.length + 1) 0)) (by
      rw [show ((p.length : Nat) : Int) - (o.length : Nat) + 1 = ((p.length - o.length + 1 : Nat) : Int) by omega]
      exact rep_zeros _ (by omega))
    have ht := (h2.top.resolve_left fun z => by
      rw [z.1] at h3
      omega).2
    refine fin n k r _ b (.own false (IL k)) (rw' x) (rw' y) (rw' w) (Nat.min_le_right _ _) h2.n0 (PL.nz_iff.mpr (.inr (by rw [h2.kl, Nat.add_sub_cancel]; exact ht))) h2.nz h3 rfl h2.eq h2.bd h2.bk h2.bn (by rw [h2.kl]; omega) (.inl rfl) ?_
    rw [seq_as, seq_ok hs]
    exact h1
  · have hs := par_start0 (p := IL p) (o := IL o) rfl (len_ints rfl) (len_ints rfl) (show ¬ ((o.length : Nat) : Int) ≤ (p.length : Nat) by omega)
    refine fin 1 [] p 0 false (.dat (.list [])) .un .un .un (Nat.zero_le _) (by decide) PL.nz_nil np (by omega) rfl (by rw [PL.S_nil, PL.con_one]; grind) (by rw [Nat.pow_zero, Nat.mul_one]; exact ha) (fun n => by rw [PL.cf_nil]; exact Nat.zero_le _) (by rw [Nat.pow_zero]; decide) (by simp) (.inr rfl) hs
theorem r_parted {A B : Nat} {p o : List Int} (np : Nz p) (no : Nz o) (o0 : o ≠ []) (ha : Bd A p) (hb : Bd B o) (hp : p.length ≤ 400) (ho : o.length ≤ 400) (A1 : 1 ≤ A) (hbig : A * (2 * B) ^ (p.length + 1 - o.length) < 2 ^ 8000) :
    ∃ n k r, m_parted [IL p, IL o] = some (.fz (.tuple [.int n, IL k, IL r])) ∧ Qt p o n k r ∧ Bd (A * (2 * B) ^ (p.length + 1 - o.length)) r ∧ k.length ≤ p.length + 1 ∧ ∀ y ∈ n :: (k ++ r), y.natAbs < 2 ^ 8000 := by
  obtain ⟨n, k, r, h1, h2, h3, h4, h5, -⟩ := r_parted2 np no o0 ha hb hp ho A1 hbig
  exact ⟨n, k, r, h1, h2, h3, h4, h5⟩
end K13
end
section
set_option maxRecDepth 100000
set_option exponentiation.threshold 100000
set_option exponentiation.threshold 100000
set_option maxHeartbeats 4000000
namespace K13
open PySem PySem.Spec L2 DL
open PL (cf Nz Bd Dvs Rem pst Ch Sf Eu)
/-! ### common parts -/
theorem big_of {A : Nat} (h : A < 2 ^ 8000) {a : List Int} (hb : Bd A a) : ∀ y ∈ a, y.natAbs < 2 ^ 8000 := fun y hy => Nat.lt_of_le_of_lt (PL.mem_bd hb y hy) h
theorem com_b1 {a b n f r r' : D} {u k : D} (h1 : m_parted [n, f] = some (.fz (.tuple [u, k, r]))) (h2 : m_plain_of [r] = some (.ow r')) : g_common_of_b1 [.dat a, .dat b, .dat n, .dat f] = some (.nx, [.dat a, .dat b, .dat f, .dat r']) := by
  have hx : ixD (.tuple [u, k, r]) (.int 2) = some (.fz r) := rfl
  simp only [g_common_of_b1, parS, mb, mr, mo, nameM, conM, binM, unM, boolM, ifM, DL.andM, DL.orM, DL.notM, andV, orV, notV, chainM, nilA, consA, dvs, dv, ownAt, fzs, lstM, tupM, callM, callP, permL, fzv, seqS, skipS, ifS, setS, asg, fr_z_un, fr_z_dat, fr_z_rw, fr_z_own, fr_s, turnF, retS, retV, dropS, frz, frzS, asgS, nilG, consG, tupG, subG, listAt, methM, augS, augSubS, forS, seqM, treeV, startD, endV, bodyF, bodyI, startI, ioAt, slM, partM, bors, callL, callI, callO, DL.flatV, DL.flat, List.filterMap_cons, List.filterMap_nil, List.map_cons, List.map_nil, List.getElem?_cons_zero, List.getElem?_cons_succ, List.getElem?_nil, List.set_cons_zero, List.set_cons_succ, List.cons_append, List.nil_append, List.length_cons, List.length_nil, Option.bind_some, Option.bind_none, Option.map_some, Option.map_none, Nat.reduceSub, Nat.reduceAdd, List.replicate_succ, List.replicate_zero, Bool.not_true, Bool.not_false, if_true, if_false, Bool.false_eq_true, reduceIte, decide_true, decide_false, Nat.reduceLT, Nat.reduceLeDiff, reduceCtorEq, Option.some.injEq, Prod.mk.injEq, h1, hx, h2]
theorem com_t1 {a b n f : D} {k : Int} (h : lenD [f] = some (.fz (.int k))) : g_common_of_t1 [.dat a, .dat b, .dat n, .dat f] = some (decide (0 < k), [.dat a, .dat b, .dat n, .dat f]) := by
  simp only [g_common_of_t1, mb, mr, mo, nameM, conM, binM, unM, boolM, ifM, DL.andM, DL.orM, DL.notM, andV, orV, notV, chainM, nilA, consA, dvs, dv, ownAt, fzs, lstM, tupM, callM, callP, permL, fzv, seqS, skipS, ifS, setS, asg, fr_z_un, fr_z_dat, fr_z_rw, fr_z_own, fr_s, turnF, retS, retV, dropS, frz, frzS, asgS, nilG, consG, tupG, subG, listAt, methM, augS, augSubS, forS, seqM, treeV, startD, endV, bodyF, bodyI, startI, ioAt, slM, partM, bors, callL, callI, callO, DL.flatV, DL.flat, List.filterMap_cons, List.filterMap_nil, List.map_cons, List.map_nil, List.getElem?_cons_zero, List.getElem?_cons_succ, List.getElem?_nil, List.set_cons_zero, List.set_cons_succ, List.cons_append, List.nil_append, List.length_cons, List.length_nil, Option.bind_some, Option.bind_none, Option.map_some, Option.map_none, Nat.reduceSub, Nat.reduceAdd, List.replicate_succ, List.replicate_zero, Bool.not_true, Bool.not_false, if_true, if_false, Bool.false_eq_true, reduceIte, decide_true, decide_false, Nat.reduceLT, Nat.reduceLeDiff, reduceCtorEq, Option.some.injEq, Prod.mk.injEq, h, gtI, intB]
theorem com_w {s p0 q0 near far : List Int} {a b : D} (hs : Sf s) (h : Ch s p0 q0 near far) (hf : far.length ≤ 400) : ∃ g, g_common_of_w1 [.dat a, .dat b, .dat (IL near), .dat (IL far)] = some (.nx, [.dat a, .dat b, .dat (IL (pln (PL.ml g s))), .dat (IL [])]) ∧ Eu p0 q0 g := by
  have key : ∀ (n : Nat) (near far : List Int), far.length < n → far.length ≤ 400 → Ch s p0 q0 near far → ∀ m, n ≤ m → ∃ g, whileN g_common_of_t1 g_common_of_b1 m [.dat a, .dat b, .dat (IL near), .dat (IL far)] = some (.nx, [.dat a, .dat b, .dat (IL (pln (PL.ml g s))), .dat (IL [])]) ∧ Eu p0 q0 g := by
    intro n
    induction n with
    | zero => intro near far h; omega
    | succ n ih =>
      intro near far hn hl hc m hm
      obtain ⟨m, rfl⟩ : ∃ k, m = k + 1 := ⟨m - 1, by omega⟩
      have ht := com_t1 (a := a) (b := b) (n := IL near) (len_ints (d := IL far) rfl)
      by_cases f0 : far = []
      · subst f0
        obtain ⟨g, hg, e⟩ := hc.fin hs rfl
        rw [e] at ht ⊢
        refine ⟨g, ?_, hg⟩
        have ht : g_common_of_t1 [.dat a, .dat b, .dat (IL (pln (PL.ml g s))), .dat (IL [])] = some (false, [.dat a, .dat b, .dat (IL (pln (PL.ml g s))), .dat (IL [])]) := ht
        unfold whileN
        rw [ht]
      · obtain ⟨n1, n2, l1, l2, ⟨A, A1, A2, b1, b2, hbig⟩, hgo⟩ := hc.go hs f0
        obtain ⟨u, k, R, hp, hq, hr, -, -⟩ := r_parted n1 n2 f0 b1 b2 l1 l2 A1 hbig
        have lf := List.length_pos_iff.mpr f0
        have hlt := hq.lt
        have hpl := r_plain (d := IL R) rfl hq.nr (big_of hbig hr) (by omega)
        have hb := com_b1 (a := a) (b := b) hp hpl
        obtain ⟨g, e, hg⟩ := ih far (pln R) (by rw [pln_len]; omega) (by rw [pln_len]; omega) (hgo R hq.rem) m (by omega)
        refine ⟨g, ?_, hg⟩
        have ht : g_common_of_t1 [.dat a, .dat b, .dat (IL near), .dat (IL far)] = some (true, [.dat a, .dat b, .dat (IL near), .dat (IL far)]) := by rw [ht, decide_eq_true (by omega)]
        rw [whileN, ht]
        simp only [hb]
        exact e
  exact key (far.length + 1) near far (by omega) hf h fuel (by unfold fuel; omega)
theorem com_end {a b n f g z : D} (h1 : m_plain_of [a] = some (.ow n)) (h2 : m_plain_of [b] = some (.ow f)) (hw : g_common_of_w1 [.dat a, .dat b, .dat n, .dat f] = some (.nx, [.dat a, .dat b, .dat g, .dat z])) : m_common_of [a, b] = some (.fz g) := by
  simp only [m_common_of, g_common_of, g_common_of_s1, g_common_of_s2, parS, mb, mr, mo, nameM, conM, binM, unM, boolM, ifM, DL.andM, DL.orM, DL.notM, andV, orV, notV, chainM, nilA, consA, dvs, dv, ownAt, fzs, lstM, tupM, callM, callP, permL, fzv, seqS, skipS, ifS, setS, asg, fr_z_un, fr_z_dat, fr_z_rw, fr_z_own, fr_s, turnF, retS, retV, dropS, frz, frzS, asgS, nilG, consG, tupG, subG, listAt, methM, augS, augSubS, forS, seqM, treeV, startD, endV, bodyF, bodyI, startI, ioAt, slM, partM, bors, callL, callI, callO, DL.flatV, DL.flat, List.filterMap_cons, List.filterMap_nil, List.map_cons, List.map_nil, List.getElem?_cons_zero, List.getElem?_cons_succ, List.getElem?_nil, List.set_cons_zero, List.set_cons_succ, List.cons_append, List.nil_append, List.length_cons, List.length_nil, Option.bind_some, Option.bind_none, Option.map_some, Option.map_none, Nat.reduceSub, Nat.reduceAdd, List.replicate_succ, List.replicate_zero, Bool.not_true, Bool.not_false, if_true, if_false, Bool.false_eq_true, reduceIte, decide_true, decide_false, Nat.reduceLT, Nat.reduceLeDiff, reduceCtorEq, Option.some.injEq, Prod.mk.injEq, h1, h2, hw]
theorem r_common {s p0 q0 a b : List Int} (hs : Sf s) (na : Nz a) (nb : Nz b) (ha : ∀ y ∈ a, y.natAbs < 2 ^ 8000) (hb : ∀ y ∈ b, y.natAbs < 2 ^ 8000) (la : a.length ≤ 400) (lb : b.length ≤ 400) (h : Ch s p0 q0 (pln a) (pln b)) : ∃ g, m_common_of [IL a, IL b] = some (.fz (IL (pln (PL.ml g s)))) ∧ Eu p0 q0 g := by
  obtain ⟨g, e, hg⟩ := com_w (a := IL a) (b := IL b) hs h (by rw [pln_len]; exact lb)
  exact ⟨g, com_end (r_plain rfl na ha (by omega)) (r_plain rfl nb hb (by omega)) e, hg⟩
/-! the law's own -/
end K13
end
section
set_option maxRecDepth 100000
set_option exponentiation.threshold 100000
set_option maxHeartbeats 4000000
namespace K13
open PySem PySem.Spec L2 DL
open PL (cf Nz Bd Rem Qt vl rs)
/-! powers -/
theorem pow_abs (x : Int) : ∀ k : Nat, (x ^ k).natAbs = x.natAbs ^ k
  | 0 => by simp
  | k + 1 => by rw [Int.pow_succ, Int.natAbs_mul, pow_abs x k, Nat.pow_succ]
theorem pow_le {x : Int} (h : x ≠ 0) {i k : Nat} (hi : i ≤ k) : (x ^ i).natAbs ≤ (x ^ k).natAbs := by
  rw [pow_abs, pow_abs]
  exact Nat.pow_le_pow_right (Int.natAbs_pos.mpr h) hi
theorem pow_gen {b : Ss} {x : Int} {k : Nat} (hb : ∀ (v p : Int) (r : Option D), mulD (.int v) (.int x) = some (.fz (.int p)) → b [.dat (.int x), .dat (.int (k : Nat)), .dat (.int v), rw' r] = some (.nx, [.dat (.int x), .dat (.int (k : Nat)), .dat (.int p), rw' r])) (h0 : x ≠ 0) (hx : x.natAbs < 2 ^ 8000) (hk : (x ^ k).natAbs < 2 ^ 8000) (hk2 : k < 1000) :
    ∃ r : Option D, forS (rngM1 (consA (nameM 1) nilA)) (asg 3) b [.dat (.int x), .dat (.int (k : Nat)), .dat (.int 1), rw' none] = some (.nx, [.dat (.int x), .dat (.int (k : Nat)), .dat (.int (x ^ k)), rw' r]) := by
  obtain ⟨s, r, e, p⟩ := for_ex (fi := rngM1 (consA (nameM 1) nilA)) (gt := asg 3) (body := b) (δ0 := [.dat (.int x), .dat (.int (k : Nat)), .dat (.int 1), rw' none]) (fun i : Nat => .int ((0 : Int) + (i : Nat))) (fun (s : Int) (r : Option D) => [.dat (.int x), .dat (.int (k : Nat)), .dat (.int s), rw' r]) (fun i s => s = x ^ i) (List.range (((k : Nat) : Int)).toNat) (s0 := 1) (r0 := none) rfl (rng_1 (by
    generalize ((k : Nat) : Int) = j
    simp only [mb, mr, mo, nameM, conM, binM, unM, boolM, ifM, DL.andM, DL.orM, DL.notM, andV, orV, notV, chainM, nilA, consA, dvs, dv, ownAt, fzs, lstM, tupM, callM, callP, permL, fzv, seqS, skipS, ifS, setS, asg, fr_z_un, fr_z_dat, fr_z_rw, fr_z_own, fr_s, turnF, retS, retV, dropS, frz, frzS, asgS, nilG, consG, tupG, subG, listAt, methM, augS, augSubS, forS, seqM, treeV, startD, endV, bodyF, bodyI, startI, ioAt, slM, partM, bors, callL, callI, callO, DL.flatV, DL.flat, List.filterMap_cons, List.filterMap_nil, List.map_cons, List.map_nil, List.getElem?_cons_zero, List.getElem?_cons_succ, List.getElem?_nil, List.set_cons_zero, List.set_cons_succ, List.cons_append, List.nil_append, List.length_cons, List.length_nil, Option.bind_some, Option.bind_none, Option.map_some, Option.map_none, Nat.reduceSub, Nat.reduceAdd, List.replicate_succ, List.replicate_zero, Bool.not_true, Bool.not_false, if_true, if_false, Bool.false_eq_true, reduceIte, decide_true, decide_false, Nat.reduceLT, Nat.reduceLeDiff, reduceCtorEq, Option.some.injEq, Prod.mk.injEq, rw']) ⟨by omega, by omega⟩) (Int.pow_zero x).symm (fun i a s r hi p => by
    have hkl : i < (((k : Nat) : Int)).toNat := by simpa using (List.getElem?_eq_some_iff.mp hi).1
    rw [Int.toNat_natCast] at hkl
    refine ⟨s * x, some (.int ((0 : Int) + (a : Nat))), ?_, by rw [p, Int.pow_succ]⟩
    have hm := mulD_big (i := s) (j := x) (by rw [p]; exact Nat.lt_of_le_of_lt (pow_le h0 (by omega)) hk) hx
    have e := hb s (s * x) (some (.int ((0 : Int) + (a : Nat)))) hm
    generalize (0 : Int) + (a : Nat) = j at e ⊢
    generalize s * x = y at e ⊢
    generalize ((k : Nat) : Int) = kk at e ⊢
    unfold rw' at e
    simp only [mb, mr, mo, nameM, conM, binM, unM, boolM, ifM, DL.andM, DL.orM, DL.notM, andV, orV, notV, chainM, nilA, consA, dvs, dv, ownAt, fzs, lstM, tupM, callM, callP, permL, fzv, seqS, skipS, ifS, setS, asg, fr_z_un, fr_z_dat, fr_z_rw, fr_z_own, fr_s, turnF, retS, retV, dropS, frz, frzS, asgS, nilG, consG, tupG, subG, listAt, methM, augS, augSubS, forS, seqM, treeV, startD, endV, bodyF, bodyI, startI, ioAt, slM, partM, bors, callL, callI, callO, DL.flatV, DL.flat, List.filterMap_cons, List.filterMap_nil, List.map_cons, List.map_nil, List.getElem?_cons_zero, List.getElem?_cons_succ, List.getElem?_nil, List.set_cons_zero, List.set_cons_succ, List.cons_append, List.nil_append, List.length_cons, List.length_nil, Option.bind_some, Option.bind_none, Option.map_some, Option.map_none, Nat.reduceSub, Nat.reduceAdd, List.replicate_succ, List.replicate_zero, Bool.not_true, Bool.not_false, if_true, if_false, Bool.false_eq_true, reduceIte, decide_true, decide_false, Nat.reduceLT, Nat.reduceLeDiff, reduceCtorEq, Option.some.injEq, Prod.mk.injEq, e]
    rfl)
  rw [List.length_range, Int.toNat_natCast] at p
  exact ⟨r, by rw [e, p]⟩
theorem pow_ev {x j v : Int} {r : Option D} (h : g_power_by_f1 [.dat (.int x), .dat (.int j), .dat (.int 1), .un] = some (.nx, [.dat (.int x), .dat (.int j), .dat (.int v), rw' r])) : m_power_by [.int x, .int j] = some (.fz (.int v)) := by
  simp only [m_power_by, g_power_by, g_power_by_s1, g_power_by_s2, mb, mr, mo, nameM, conM, binM, unM, boolM, ifM, DL.andM, DL.orM, DL.notM, andV, orV, notV, chainM, nilA, consA, dvs, dv, ownAt, fzs, lstM, tupM, callM, callP, permL, fzv, seqS, skipS, ifS, setS, asg, freeAt, retS, retV, dropS, frz, frzS, asgS, nilG, consG, tupG, subG, listAt, methM, augS, augSubS, forS, seqM, treeV, startD, endV, bodyF, bodyI, startI, ioAt, slM, partM, bors, callL, callI, callO, DL.flatV, DL.flat, List.filterMap_cons, List.filterMap_nil, List.map_cons, List.map_nil, List.getElem?_cons_zero, List.getElem?_cons_succ, List.getElem?_nil, List.set_cons_zero, List.set_cons_succ, List.cons_append, List.nil_append, List.length_cons, List.length_nil, Option.bind_some, Option.bind_none, Option.map_some, Option.map_none, Nat.reduceSub, Nat.reduceAdd, List.replicate_succ, List.replicate_zero, Bool.not_true, Bool.not_false, if_true, if_false, Bool.false_eq_true, reduceIte, decide_true, decide_false, Nat.reduceLT, Nat.reduceLeDiff, reduceCtorEq, Option.some.injEq, Prod.mk.injEq, h]
theorem pow_ev2 {x j v : Int} {r : Option D} (h : g__law_power_f1 [.dat (.int x), .dat (.int j), .dat (.int 1), .un] = some (.nx, [.dat (.int x), .dat (.int j), .dat (.int v), rw' r])) : m__law_power [.int x, .int j] = some (.fz (.int v)) := by
  simp only [m__law_power, g__law_power, g__law_power_s1, g__law_power_s2, mb, mr, mo, nameM, conM, binM, unM, boolM, ifM, DL.andM, DL.orM, DL.notM, andV, orV, notV, chainM, nilA, consA, dvs, dv, ownAt, fzs, lstM, tupM, callM, callP, permL, fzv, seqS, skipS, ifS, setS, asg, freeAt, retS, retV, dropS, frz, frzS, asgS, nilG, consG, tupG, subG, listAt, methM, augS, augSubS, forS, seqM, treeV, startD, endV, bodyF, bodyI, startI, ioAt, slM, partM, bors, callL, callI, callO, DL.flatV, DL.flat, List.filterMap_cons, List.filterMap_nil, List.map_cons, List.map_nil, List.getElem?_cons_zero, List.getElem?_cons_succ, List.getElem?_nil, List.set_cons_zero, List.set_cons_succ, List.cons_append, List.nil_append, List.length_cons, List.length_nil, Option.bind_some, Option.bind_none, Option.map_some, Option.map_none, Nat.reduceSub, Nat.reduceAdd, List.replicate_succ, List.replicate_zero, Bool.not_true, Bool.not_false, if_true, if_false, Bool.false_eq_true, reduceIte, decide_true, decide_false, Nat.reduceLT, Nat.reduceLeDiff, reduceCtorEq, Option.some.injEq, Prod.mk.injEq, h]
theorem pow_b {v x p j : Int} {r : Option D} (hm : mulD (.int v) (.int x) = some (.fz (.int p))) : g_power_by_b1 [.dat (.int x), .dat (.int j), .dat (.int v), rw' r] = some (.nx, [.dat (.int x), .dat (.int j), .dat (.int p), rw' r]) := by
  cases r <;> simp only [g_power_by_b1, rw', mb, mr, mo, nameM, conM, binM, unM, boolM, ifM, DL.andM, DL.orM, DL.notM, andV, orV, notV, chainM, nilA, consA, dvs, dv, ownAt, fzs, lstM, tupM, callM, callP, permL, fzv, seqS, skipS, ifS, setS, asg, fr_z_un, fr_z_dat, fr_z_rw, fr_z_own, fr_s, turnF, retS, retV, dropS, frz, frzS, asgS, nilG, consG, tupG, subG, listAt, methM, augS, augSubS, forS, seqM, treeV, startD, endV, bodyF, bodyI, startI, ioAt, slM, partM, bors, callL, callI, callO, DL.flatV, DL.flat, List.filterMap_cons, List.filterMap_nil, List.map_cons, List.map_nil, List.getElem?_cons_zero, List.getElem?_cons_succ, List.getElem?_nil, List.set_cons_zero, List.set_cons_succ, List.cons_append, List.nil_append, List.length_cons, List.length_nil, Option.bind_some, Option.bind_none, Option.map_some, Option.map_none, Nat.reduceSub, Nat.reduceAdd, List.replicate_succ, List.replicate_zero, Bool.not_true, Bool.not_false, if_true, if_false, Bool.false_eq_true, reduceIte, decide_true, decide_false, Nat.reduceLT, Nat.reduceLeDiff, reduceCtorEq, Option.some.injEq, Prod.mk.injEq, hm]
theorem pow_b2 {v x p j : Int} {r : Option D} (hm : mulD (.int v) (.int x) = some (.fz (.int p))) : g__law_power_b1 [.dat (.int x), .dat (.int j), .dat (.int v), rw' r] = some (.nx, [.dat (.int x), .dat (.int j), .dat (.int p), rw' r]) := by
  cases r <;> simp only [g__law_power_b1, rw', mb, mr, mo, nameM, conM, binM, unM, boolM, ifM, DL.andM, DL.orM, DL.notM, andV, orV, notV, chainM, nilA, consA, dvs, dv, ownAt, fzs, lstM, tupM, callM, callP, permL, fzv, seqS, skipS, ifS, setS, asg, fr_z_un, fr_z_dat, fr_z_rw, fr_z_own, fr_s, turnF, retS, retV, dropS, frz, frzS, asgS, nilG, consG, tupG, subG, listAt, methM, augS, augSubS, forS, seqM, treeV, startD, endV, bodyF, bodyI, startI, ioAt, slM, partM, bors, callL, callI, callO, DL.flatV, DL.flat, List.filterMap_cons, List.filterMap_nil, List.map_cons, List.map_nil, List.getElem?_cons_zero, List.getElem?_cons_succ, List.getElem?_nil, List.set_cons_zero, List.set_cons_succ, List.cons_append, List.nil_append, List.length_cons, List.length_nil, Option.bind_some, Option.bind_none, Option.map_some, Option.map_none, Nat.reduceSub, Nat.reduceAdd, List.replicate_succ, List.replicate_zero, Bool.not_true, Bool.not_false, if_true, if_false, Bool.false_eq_true, reduceIte, decide_true, decide_false, Nat.reduceLT, Nat.reduceLeDiff, reduceCtorEq, Option.some.injEq, Prod.mk.injEq, hm]
theorem r_power {x : Int} {k : Nat} (h0 : x ≠ 0) (hx : x.natAbs < 2 ^ 8000) (hk : (x ^ k).natAbs < 2 ^ 8000) (hk2 : k < 1000) : m_power_by [.int x, .int (k : Nat)] = some (.fz (.int (x ^ k))) := by
  obtain ⟨r, e⟩ := pow_gen (b := g_power_by_b1) (x := x) (k := k) (fun v p r hm => pow_b hm) h0 hx hk hk2
  exact pow_ev e
theorem r_law_power {x : Int} {k : Nat} (h0 : x ≠ 0) (hx : x.natAbs < 2 ^ 8000) (hk : (x ^ k).natAbs < 2 ^ 8000) (hk2 : k < 1000) : m__law_power [.int x, .int (k : Nat)] = some (.fz (.int (x ^ k))) := by
  obtain ⟨r, e⟩ := pow_gen (b := g__law_power_b1) (x := x) (k := k) (fun v p r hm => pow_b2 hm) h0 hx hk hk2
  exact pow_ev2 e
/-! Euclid's walk -/
abbrev fr (a b near far : D) (t u : Int) (x y z : Option D) : DS := [.dat a, .dat b, .dat near, .dat far, .dat (.int t), .dat (.int u), rw' x, rw' y, rw' z]
theorem res_t {a b near far : D} {t u k : Int} {x y z : Option D} (h : lenD [far] = some (.fz (.int k))) : g_resultant_of_t1 (fr a b near far t u x y z) = some (decide (1 < k), fr a b near far t u x y z) := by
  simp only [g_resultant_of_t1, fr, mb, mr, mo, nameM, conM, binM, unM, boolM, ifM, DL.andM, DL.orM, DL.notM, andV, orV, notV, chainM, nilA, consA, dvs, dv, ownAt, fzs, lstM, tupM, callM, callP, permL, fzv, seqS, skipS, ifS, setS, asg, fr_z_un, fr_z_dat, fr_z_rw, fr_z_own, fr_s, turnF, retS, retV, dropS, frz, frzS, asgS, nilG, consG, tupG, subG, listAt, methM, augS, augSubS, forS, seqM, treeV, startD, endV, bodyF, bodyI, startI, ioAt, slM, partM, bors, callL, callI, callO, DL.flatV, DL.flat, List.filterMap_cons, List.filterMap_nil, List.map_cons, List.map_nil, List.getElem?_cons_zero, List.getElem?_cons_succ, List.getElem?_nil, List.set_cons_zero, List.set_cons_succ, List.cons_append, List.nil_append, List.length_cons, List.length_nil, Option.bind_some, Option.bind_none, Option.map_some, Option.map_none, Nat.reduceSub, Nat.reduceAdd, List.replicate_succ, List.replicate_zero, Bool.not_true, Bool.not_false, if_true, if_false, Bool.false_eq_true, reduceIte, decide_true, decide_false, Nat.reduceLT, Nat.reduceLeDiff, reduceCtorEq, Option.some.injEq, Prod.mk.injEq, h, gtI, intB]
theorem res_b0 {a b near far q r : D} {t u n : Int} {x y z : Option D} (h : m_parted [near, far] = some (.fz (.tuple [.int n, q, r]))) (hl : lenD [r] = some (.fz (.int 0))) : g_resultant_of_b1 (fr a b near far t u x y z) = some (.rt (.fz (.int 0)), fr a b near far t u (some (.int n)) (some q) (some r)) := by
  simp only [g_resultant_of_b1, fr, mb, mr, mo, nameM, conM, binM, unM, boolM, ifM, DL.andM, DL.orM, DL.notM, andV, orV, notV, chainM, nilA, consA, dvs, dv, ownAt, fzs, lstM, tupM, callM, callP, permL, fzv, seqS, skipS, ifS, setS, asg, fr_z_un, fr_z_dat, fr_z_rw, fr_z_own, fr_s, turnF, retS, retV, dropS, frz, frzS, asgS, nilG, consG, tupG, subG, listAt, methM, augS, augSubS, forS, seqM, treeV, startD, endV, bodyF, bodyI, startI, ioAt, slM, partM, bors, callL, callI, callO, DL.flatV, DL.flat, List.filterMap_cons, List.filterMap_nil, List.map_cons, List.map_nil, List.getElem?_cons_zero, List.getElem?_cons_succ, List.getElem?_nil, List.set_cons_zero, List.set_cons_succ, List.cons_append, List.nil_append, List.length_cons, List.length_nil, Option.bind_some, Option.bind_none, Option.map_some, Option.map_none, Nat.reduceSub, Nat.reduceAdd, List.replicate_succ, List.replicate_zero, Bool.not_true, Bool.not_false, if_true, if_false, Bool.false_eq_true, reduceIte, decide_true, decide_false, Nat.reduceLT, Nat.reduceLeDiff, reduceCtorEq, Option.some.injEq, Prod.mk.injEq, h, itemsOf, hl, eqD_int]
  exact ⟨trivial, rfl⟩
theorem res_b1 {a b near far q r : D} {t t1 u u1 n lf mn hm h2 p1 p2 kn kf kr dn df dr : Int} {x y z : Option D} (h : m_parted [near, far] = some (.fz (.tuple [.int n, q, r]))) (hl : lenD [r] = some (.fz (.int kr))) (r0 : kr ≠ 0) (hn : lenD [near] = some (.fz (.int kn))) (hf : lenD [far] = some (.fz (.int kf)))
    (e1 : kn - 1 = dn) (e2 : kf - 1 = df) (e3 : mulD (.int dn) (.int df) = some (.fz (.int mn))) (e4 : fdivD (.int mn) (.int 2) = some (.fz (.int hm))) (e5 : mulD (.int hm) (.int 2) = some (.fz (.int h2))) (hlf : ixD far (.int (-1)) = some (.fz (.int lf))) (e6 : kn - kr = dr)
    (hp1 : m_power_by [.int lf, .int dr] = some (.fz (.int p1))) (hp2 : m_power_by [.int n, .int df] = some (.fz (.int p2))) (ht : (if mn - h2 = 1 then mulD (.int (0 - t)) (.int p1) else mulD (.int t) (.int p1)) = some (.fz (.int t1))) (hu : mulD (.int u) (.int p2) = some (.fz (.int u1))) :
    g_resultant_of_b1 (fr a b near far t u x y z) = some (.nx, fr a b far r t1 u1 (some (.int n)) (some q) (some r)) := by
  by_cases hs : mn - h2 = 1
  · rw [if_pos hs] at ht
    simp only [g_resultant_of_b1, fr, parS, parO, mb, mr, mo, nameM, conM, binM, unM, boolM, ifM, DL.andM, DL.orM, DL.notM, andV, orV, notV, chainM, nilA, consA, dvs, dv, ownAt, fzs, lstM, tupM, callM, callP, permL, fzv, seqS, skipS, ifS, setS, asg, fr_z_un, fr_z_dat, fr_z_rw, fr_z_own, fr_s, turnF, retS, retV, dropS, frz, frzS, asgS, nilG, consG, tupG, subG, listAt, methM, augS, augSubS, forS, seqM, treeV, startD, endV, bodyF, bodyI, startI, ioAt, slM, partM, bors, callL, callI, callO, DL.flatV, DL.flat, List.filterMap_cons, List.filterMap_nil, List.map_cons, List.map_nil, List.getElem?_cons_zero, List.getElem?_cons_succ, List.getElem?_nil, List.set_cons_zero, List.set_cons_succ, List.cons_append, List.nil_append, List.length_cons, List.length_nil, Option.bind_some, Option.bind_none, Option.map_some, Option.map_none, Nat.reduceSub, Nat.reduceAdd, List.replicate_succ, List.replicate_zero, Bool.not_true, Bool.not_false, if_true, if_false, Bool.false_eq_true, reduceIte, decide_true, decide_false, Nat.reduceLT, Nat.reduceLeDiff, reduceCtorEq, Option.some.injEq, Prod.mk.injEq, h, itemsOf, hl, eqD_int, decide_eq_false r0, hn, hf, subI, intB, e1, e2, e3, e4, e5, decide_eq_true hs, negI, hlf, e6, hp1, ht, hp2, hu]
    exact ⟨trivial, rfl⟩
  · rw [if_neg hs] at ht
    simp only [g_resultant_of_b1, fr, parS, parO, mb, mr, mo, nameM, conM, binM, unM, boolM, ifM, DL.andM, DL.orM, DL.notM, andV, orV, notV, chainM, nilA, consA, dvs, dv, ownAt, fzs, lstM, tupM, callM, callP, permL, fzv, seqS, skipS, ifS, setS, asg, fr_z_un, fr_z_dat, fr_z_rw, fr_z_own, fr_s, turnF, retS, retV, dropS, frz, frzS, asgS, nilG, consG, tupG, subG, listAt, methM, augS, augSubS, forS, seqM, treeV, startD, endV, bodyF, bodyI, startI, ioAt, slM, partM, bors, callL, callI, callO, DL.flatV, DL.flat, List.filterMap_cons, List.filterMap_nil, List.map_cons, List.map_nil, List.getElem?_cons_zero, List.getElem?_cons_succ, List.getElem?_nil, List.set_cons_zero, List.set_cons_succ, List.cons_append, List.nil_append, List.length_cons, List.length_nil, Option.bind_some, Option.bind_none, Option.map_some, Option.map_none, Nat.reduceSub, Nat.reduceAdd, List.replicate_succ, List.replicate_zero, Bool.not_true, Bool.not_false, if_true, if_false, Bool.false_eq_true, reduceIte, decide_true, decide_false, Nat.reduceLT, Nat.reduceLeDiff, reduceCtorEq, Option.some.injEq, Prod.mk.injEq, h, itemsOf, hl, eqD_int, decide_eq_false r0, hn, hf, subI, intB, e1, e2, e3, e4, e5, decide_eq_false hs, negI, hlf, e6, hp1, ht, hp2, hu]
    exact ⟨trivial, rfl⟩
theorem res_end {a b near far : D} {t u f0 kn dn p v w : Int} {x y z : Option D} (h1 : g_resultant_of_w1 (fr a b a b 1 1 none none none) = some (.nx, fr a b near far t u x y z)) (hf : ixD far (.int 0) = some (.fz (.int f0))) (hn : lenD [near] = some (.fz (.int kn))) (e1 : kn - 1 = dn) (hp : m_power_by [.int f0, .int dn] = some (.fz (.int p))) (hm : mulD (.int t) (.int p) = some (.fz (.int v))) (hd : fdivD (.int v) (.int u) = some (.fz (.int w))) :
    m_resultant_of [a, b] = some (.fz (.int w)) := by
  unfold fr rw' at h1
  have z4 := szOkL (show 4 ≤ 16777216 by decide)
  simp only [m_resultant_of, g_resultant_of, g_resultant_of_s1, g_resultant_of_s2, mb, mr, mo, nameM, conM, binM, unM, boolM, ifM, DL.andM, DL.orM, DL.notM, andV, orV, notV, chainM, nilA, consA, dvs, dv, ownAt, fzs, lstM, tupM, callM, callP, permL, fzv, seqS, skipS, ifS, setS, asg, fr_z_un, fr_z_dat, fr_z_rw, fr_z_own, fr_s, turnF, retS, retV, dropS, frz, frzS, asgS, nilG, consG, tupG, subG, listAt, methM, augS, augSubS, forS, seqM, treeV, startD, endV, bodyF, bodyI, startI, ioAt, slM, partM, bors, callL, callI, callO, DL.flatV, DL.flat, List.filterMap_cons, List.filterMap_nil, List.map_cons, List.map_nil, List.getElem?_cons_zero, List.getElem?_cons_succ, List.getElem?_nil, List.set_cons_zero, List.set_cons_succ, List.cons_append, List.nil_append, List.length_cons, List.length_nil, Option.bind_some, Option.bind_none, Option.map_some, Option.map_none, Nat.reduceSub, Nat.reduceAdd, List.replicate_succ, List.replicate_zero, Bool.not_true, Bool.not_false, if_true, if_false, Bool.false_eq_true, reduceIte, decide_true, decide_false, Nat.reduceLT, Nat.reduceLeDiff, reduceCtorEq, Option.some.injEq, Prod.mk.injEq, itemsOf, z4, h1]
  cases x <;> cases y <;> cases z <;> simp only [mb, mr, mo, nameM, conM, binM, unM, boolM, ifM, DL.andM, DL.orM, DL.notM, andV, orV, notV, chainM, nilA, consA, dvs, dv, ownAt, fzs, lstM, tupM, callM, callP, permL, fzv, seqS, skipS, ifS, setS, asg, fr_z_un, fr_z_dat, fr_z_rw, fr_z_own, fr_s, turnF, retS, retV, dropS, frz, frzS, asgS, nilG, consG, tupG, subG, listAt, methM, augS, augSubS, forS, seqM, treeV, startD, endV, bodyF, bodyI, startI, ioAt, slM, partM, bors, callL, callI, callO, DL.flatV, DL.flat, List.filterMap_cons, List.filterMap_nil, List.map_cons, List.map_nil, List.getElem?_cons_zero, List.getElem?_cons_succ, List.getElem?_nil, List.set_cons_zero, List.set_cons_succ, List.cons_append, List.nil_append, List.length_cons, List.length_nil, Option.bind_some, Option.bind_none, Option.map_some, Option.map_none, Nat.reduceSub, Nat.reduceAdd, List.replicate_succ, List.replicate_zero, Bool.not_true, Bool.not_false, if_true, if_false, Bool.false_eq_true, reduceIte, decide_true, decide_false, Nat.reduceLT, Nat.reduceLeDiff, reduceCtorEq, Option.some.injEq, Prod.mk.injEq, hf, hn, subI, intB, e1, hp, hm, hd]
theorem res_none {a b : D} {δ : DS} (h1 : g_resultant_of_w1 (fr a b a b 1 1 none none none) = some (.rt (.fz (.int 0)), δ)) : m_resultant_of [a, b] = some (.fz (.int 0)) := by
  unfold fr rw' at h1
  have z4 := szOkL (show 4 ≤ 16777216 by decide)
  simp only [m_resultant_of, g_resultant_of, g_resultant_of_s1, g_resultant_of_s2, mb, mr, mo, nameM, conM, binM, unM, boolM, ifM, DL.andM, DL.orM, DL.notM, andV, orV, notV, chainM, nilA, consA, dvs, dv, ownAt, fzs, lstM, tupM, callM, callP, permL, fzv, seqS, skipS, ifS, setS, asg, fr_z_un, fr_z_dat, fr_z_rw, fr_z_own, fr_s, turnF, retS, retV, dropS, frz, frzS, asgS, nilG, consG, tupG, subG, listAt, methM, augS, augSubS, forS, seqM, treeV, startD, endV, bodyF, bodyI, startI, ioAt, slM, partM, bors, callL, callI, callO, DL.flatV, DL.flat, List.filterMap_cons, List.filterMap_nil, List.map_cons, List.map_nil, List.getElem?_cons_zero, List.getElem?_cons_succ, List.getElem?_nil, List.set_cons_zero, List.set_cons_succ, List.cons_append, List.nil_append, List.length_cons, List.length_nil, Option.bind_some, Option.bind_none, Option.map_some, Option.map_none, Nat.reduceSub, Nat.reduceAdd, List.replicate_succ, List.replicate_zero, Bool.not_true, Bool.not_false, if_true, if_false, Bool.false_eq_true, reduceIte, decide_true, decide_false, Nat.reduceLT, Nat.reduceLeDiff, reduceCtorEq, Option.some.injEq, Prod.mk.injEq, itemsOf, z4, h1]
end K13
end
section
set_option maxRecDepth 100000
set_option exponentiation.threshold 100000
set_option maxHeartbeats 4000000
namespace K13
open PySem PySem.Spec L2 DL
open PL (cf Nz Bd Rem Qt vl rs)
/-- all numbers of a walk from degrees m, n, bits x, y stay below 8000 bits -/
def okc : Nat → Nat → Nat → Nat → Nat → Nat → Nat → Bool
  | 0, _, _, _, _, _, _ => false
  | f + 1, m, n, x, y, t, b => decide (m < 400) && decide (n < 400) && decide (x < 8000) && decide (y < 8000) && decide (t < 8000) && decide (b < 8000) && decide (m * y < 8000) && (decide (n = 0) || (decide (x + (m + 1 - n) * (y + 1) < 8000) && decide (n * ((m + 1 - n) * (y + 1)) < 8000) &&
      (List.range n).all fun l => !decide (l ≤ m) || okc f n l y (x + (m + 1 - n) * (y + 1)) (t + (m - l) * y) (b + n * ((m + 1 - n) * (y + 1)))))
theorem okc_all : ∀ m, m < 8 → ∀ n, n < 6 → okc 10 m n 9 6 0 0 = true := by decide +kernel
theorem bits {e : Nat} (h : e < 8000) : (2 : Nat) ^ e < 2 ^ 8000 := Nat.pow_lt_pow_right (by decide) h
theorem sgn_pow (k : Nat) : ((-1 : Int)) ^ k = if k % 2 = 1 then -1 else 1 := by
  induction k with
  | zero => rfl
  | succ k ih =>
    rw [Int.pow_succ, ih]
    by_cases h : k % 2 = 1
    · rw [if_pos h, if_neg (by omega)]; rfl
    · rw [if_neg h, if_pos (by omega)]; rfl
theorem odd_int (k : Nat) : (((k : Nat) : Int) - ((k : Nat) : Int).fdiv 2 * 2 = 1) ↔ k % 2 = 1 := by
  rw [Int.fdiv_eq_ediv_of_nonneg _ (by decide)]
  omega
/-- the outcome of the walk -/
structure Out (Rv : Int) (near far : List Int) (t u : Int) : Prop where
  u0 : u ≠ 0
  ub : u.natAbs < 2 ^ 8000
  tb : t.natAbs < 2 ^ 8000
  nl : near.length < 401
  n0 : near ≠ []
  fl : far.length = 1
  f0 : cf far 0 ≠ 0
  fb : (cf far 0).natAbs < 2 ^ 8000
  pb : (cf far 0 ^ (near.length - 1)).natAbs < 2 ^ 8000
  eq : Rv * u = t * cf far 0 ^ (near.length - 1)
theorem chain (a b : D) (Rv : Int) : ∀ (f m n x y t u : Nat), okc f m n x y t u = true → ∀ (near far : List Int) (tp bt : Int) (X Y Z : Option D), near.length = m + 1 → far.length = n + 1 → Nz near → Nz far → Bd (2 ^ x) near → Bd (2 ^ y) far → tp.natAbs ≤ 2 ^ t → bt.natAbs ≤ 2 ^ u → bt ≠ 0 → Rv * bt = tp * rs near far → ∀ N, n < N →
    (∃ δ, whileN g_resultant_of_t1 g_resultant_of_b1 N (fr a b (IL near) (IL far) tp bt X Y Z) = some (.rt (.fz (.int 0)), δ) ∧ Rv = 0) ∨
    (∃ near' far' tp' bt' X' Y' Z', whileN g_resultant_of_t1 g_resultant_of_b1 N (fr a b (IL near) (IL far) tp bt X Y Z) = some (.nx, fr a b (IL near') (IL far') tp' bt' X' Y' Z') ∧ Out Rv near' far' tp' bt')
  | 0, m, n, x, y, t, u, h => by cases h
  | f + 1, m, n, x, y, t, u, h => by
    intro near far tp bt X Y Z ln lf nn nf bn bf htp hbt b0 heq N hN
    simp only [okc, Bool.and_eq_true, decide_eq_true_eq, Bool.or_eq_true] at h
    obtain ⟨⟨⟨⟨⟨⟨⟨hm, hn4⟩, hx⟩, hy⟩, ht⟩, hu⟩, hmy⟩, hrest⟩ := h
    have f0 : far ≠ [] := fun z => by rw [z] at lf; simp at lf
    have lafb : (la far).natAbs ≤ 2 ^ y := PL.bd_la bf
    have la0 := la_ne nf f0
    obtain ⟨N, rfl⟩ : ∃ N', N = N' + 1 := ⟨N - 1, by omega⟩
    by_cases n0 : n = 0
    · subst n0
      have e0 : la far = cf far 0 := by unfold la; rw [lf]
      refine .inr ⟨near, far, tp, bt, X, Y, Z, ?_, b0, Nat.lt_of_le_of_lt hbt (bits hu), Nat.lt_of_le_of_lt htp (bits ht), by omega, fun z => by rw [z] at ln; simp at ln, by rw [lf], by rw [← e0]; exact la0, by rw [← e0]; exact Nat.lt_of_le_of_lt lafb (bits hy), ?_, ?_⟩
      · have hl : lenD [IL far] = some (.fz (.int (1 : Int))) := by rw [len_ints rfl, lf]; rfl
        simp only [whileN, res_t hl, show decide ((1 : Int) < 1) = false from rfl]
      · rw [← e0, pow_abs, ln, Nat.add_sub_cancel]
        refine Nat.lt_of_le_of_lt (Nat.pow_le_pow_left lafb m) ?_
        rw [← Nat.pow_mul]
        exact bits (by rw [Nat.mul_comm]; exact hmy)
      · rw [heq, PL.rs_con (by rw [lf])]
    · obtain ⟨⟨h1, h2⟩, h3⟩ := hrest.resolve_left n0
      have ct : g_resultant_of_t1 (fr a b (IL near) (IL far) tp bt X Y Z) = some (true, fr a b (IL near) (IL far) tp bt X Y Z) := by
        rw [res_t (len_ints rfl), lf, decide_eq_true (by omega)]
      have hex : near.length + 1 - far.length = m + 1 - n := by omega
      have hpw : 2 ^ x * (2 * 2 ^ y) ^ (m + 1 - n) = 2 ^ (x + (m + 1 - n) * (y + 1)) := by
        rw [show 2 * 2 ^ y = 2 ^ (y + 1) by rw [Nat.pow_succ, Nat.mul_comm], ← Nat.pow_mul, ← Nat.pow_add, Nat.mul_comm (y + 1)]
      obtain ⟨c, k, r, e1, hq, hbr, -, hall, hc⟩ := r_parted2 nn nf f0 bn bf (by omega) (by omega) (Nat.one_le_two_pow) (by rw [hex, hpw]; exact bits h1)
      rw [hex] at hbr hc
      rw [hpw] at hbr
      have c0 : c ≠ 0 := by have := hq.pos; omega
      by_cases r0 : r = []
      · subst r0
        left
        have := res_b0 (a := a) (b := b) (t := tp) (u := bt) (x := X) (y := Y) (z := Z) e1 rfl
        refine ⟨fr a b (IL near) (IL far) tp bt (some (.int c)) (some (IL k)) (some (IL [])), by simp only [whileN, ct, this], ?_⟩
        have he := hq.eq
        rw [PL.S_nil] at he
        rw [PL.rs_none nf hq.nk c0 (by omega) (by rw [he]; grind), Int.mul_zero] at heq
        exact (Int.mul_eq_zero.mp heq).resolve_right b0
      · have rp := List.length_pos_iff.mpr r0
        have hlt := hq.lt
        have hle := PL.rest_le nn hq.nr c0 nf hq.nk f0 hq.lt hq.eq
        obtain ⟨l, hl⟩ : ∃ l, r.length = l + 1 := ⟨r.length - 1, by omega⟩
        have hnext := List.all_eq_true.mp h3 l (List.mem_range.mpr (by omega))
        rw [decide_eq_true (show l ≤ m by omega), Bool.not_true, Bool.false_or] at hnext
        have hst := PL.rs_step nn nf hq.nk hq.nr c0 f0 r0 hq.lt hq.eq
        rw [ln, lf, hl, Nat.add_sub_cancel, Nat.add_sub_cancel, show m + 1 - (l + 1) = m - l by omega] at hst
        -- the powers
        have hp1 : (la far ^ (m - l)).natAbs ≤ 2 ^ ((m - l) * y) := by
          rw [pow_abs, Nat.mul_comm, Nat.pow_mul]
          exact Nat.pow_le_pow_left lafb _
        have hml : (m - l) * y ≤ m * y := Nat.mul_le_mul_right _ (by omega)
        have hcb : c.natAbs ≤ 2 ^ ((m + 1 - n) * (y + 1)) := by
          refine Nat.le_trans hc ?_
          rw [show 2 * 2 ^ y = 2 ^ (y + 1) by rw [Nat.pow_succ, Nat.mul_comm], ← Nat.pow_mul, Nat.mul_comm (y + 1)]
          exact Nat.le_refl _
        have hp2 : (c ^ n).natAbs ≤ 2 ^ (n * ((m + 1 - n) * (y + 1))) := by
          rw [pow_abs, Nat.mul_comm n, Nat.pow_mul]
          exact Nat.pow_le_pow_left hcb _
        have q1 := r_power (x := la far) (k := m - l) la0 (Nat.lt_of_le_of_lt lafb (bits hy)) (Nat.lt_of_le_of_lt hp1 (bits (by omega))) (by omega)
        have q2 := r_power (x := c) (k := n) c0 (hall c List.mem_cons_self) (Nat.lt_of_le_of_lt hp2 (bits h2)) (by omega)
        have q3 : mulD (.int (m : Nat)) (.int (n : Nat)) = some (.fz (.int ((m * n : Nat) : Int))) := by
          rw [mulD_lt (by rw [Int.natAbs_natCast]; exact Nat.lt_of_lt_of_le hm (by decide)) (by rw [Int.natAbs_natCast]; exact Nat.lt_of_lt_of_le hn4 (by decide)), Int.natCast_mul]
        have hmn : m * n ≤ 160000 := Nat.mul_le_mul (show m ≤ 400 by omega) (show n ≤ 400 by omega)
        have q4 : fdivD (.int ((m * n : Nat) : Int)) (.int 2) = some (.fz (.int (((m * n : Nat) : Int).fdiv 2))) := fdivD_big (by decide) (by decide)
        have q5 : mulD (.int (((m * n : Nat) : Int).fdiv 2)) (.int 2) = some (.fz (.int (((m * n : Nat) : Int).fdiv 2 * 2))) := by
          have := Int.natAbs_fdiv_le_natAbs ((m * n : Nat) : Int) 2
          rw [Int.natAbs_natCast] at this
          exact mulD_lt (Nat.lt_of_le_of_lt (Nat.le_trans this hmn) (by decide)) (by decide)
        have htop : ∃ t1 : Int, (if ((m * n : Nat) : Int) - ((m * n : Nat) : Int).fdiv 2 * 2 = 1 then mulD (.int (0 - tp)) (.int (la far ^ (m - l))) else mulD (.int tp) (.int (la far ^ (m - l)))) = some (.fz (.int t1)) ∧ t1 = tp * ((-1) ^ (m * n) * la far ^ (m - l)) := by
          by_cases ho : (m * n) % 2 = 1
          · rw [if_pos ((odd_int _).mpr ho), sgn_pow, if_pos ho]
            refine ⟨_, mulD_big (Nat.lt_of_le_of_lt (by omega) (bits ht)) (Nat.lt_of_le_of_lt hp1 (bits (by omega))), ?_⟩
            rw [Int.zero_sub, Int.neg_mul, Int.neg_one_mul, Int.mul_neg]
          · rw [if_neg (fun z => ho ((odd_int _).mp z)), sgn_pow, if_neg ho]
            refine ⟨_, mulD_big (Nat.lt_of_le_of_lt htp (bits ht)) (Nat.lt_of_le_of_lt hp1 (bits (by omega))), ?_⟩
            rw [Int.one_mul]
        obtain ⟨t1, ht1, et1⟩ := htop
        have hu1 : mulD (.int bt) (.int (c ^ n)) = some (.fz (.int (bt * c ^ n))) := mulD_big (Nat.lt_of_le_of_lt hbt (bits hu)) (Nat.lt_of_le_of_lt hp2 (bits h2))
        have hb1 := res_b1 (a := a) (b := b) (x := X) (y := Y) (z := Z) (lf := la far) (dn := (m : Nat)) (df := (n : Nat)) (dr := ((m - l : Nat) : Int)) e1 (len_ints rfl) (by omega) (len_ints rfl) (len_ints rfl) (by omega) (by omega) q3 q4 q5 (ix_neg1 rfl f0) (by omega) q1 q2 ht1 hu1
        have ab1 : t1.natAbs ≤ 2 ^ (t + (m - l) * y) := by
          rw [et1, Int.natAbs_mul, Int.natAbs_mul, pow_abs (-1), show (-1 : Int).natAbs = 1 from rfl, Nat.one_pow, Nat.one_mul, Nat.pow_add]
          exact Nat.mul_le_mul htp hp1
        have ab2 : (bt * c ^ n).natAbs ≤ 2 ^ (u + n * ((m + 1 - n) * (y + 1))) := by
          rw [Int.natAbs_mul, Nat.pow_add]
          exact Nat.mul_le_mul hbt hp2
        have heq2 : Rv * (bt * c ^ n) = t1 * rs far r := by
          rw [et1, Int.mul_assoc tp, ← hst, ← Int.mul_assoc Rv, heq]
          simp only [Int.mul_assoc, Int.mul_comm, Int.mul_left_comm]
        have ih := chain a b Rv f n l y _ _ _ hnext far r t1 (bt * c ^ n) (some (.int c)) (some (IL k)) (some (IL r)) lf hl nf hq.nr bf hbr ab1 ab2 (Int.mul_ne_zero b0 (PL.pow_ne c c0 n)) heq2 N (by omega)
        have hw : whileN g_resultant_of_t1 g_resultant_of_b1 (N + 1) (fr a b (IL near) (IL far) tp bt X Y Z) = whileN g_resultant_of_t1 g_resultant_of_b1 N (fr a b (IL far) (IL r) t1 (bt * c ^ n) (some (.int c)) (some (IL k)) (some (IL r))) := by
          simp only [whileN, ct, hb1]
        rw [hw]
        exact ih
/-- the resultant is told -/
theorem r_resultant_of {p q : List Int} (np : Nz p) (nq : Nz q) (p0 : p ≠ []) (q0 : q ≠ []) (bp : Bd (2 ^ 9) p) (bq : Bd (2 ^ 6) q) (lp : p.length ≤ 8) (lq : q.length ≤ 6) : m_resultant_of [IL p, IL q] = some (.fz (.int (rs p q))) := by
  have pp := List.length_pos_iff.mpr p0
  have qp := List.length_pos_iff.mpr q0
  have h := chain (IL p) (IL q) (rs p q) 10 (p.length - 1) (q.length - 1) 9 6 0 0 (okc_all _ (by omega) _ (by omega)) p q 1 1 none none none (by omega) (by omega) np nq bp bq (by decide) (by decide) (by decide) (by omega) fuel (by show _ < 1000000000; omega)
  rcases h with ⟨δ, h1, h2⟩ | ⟨near, far, tp, bt, X, Y, Z, h1, o⟩
  · rw [h2]
    exact res_none h1
  · have np := List.length_pos_iff.mpr o.n0
    have nl := o.nl
    have hx : ixD (IL far) (.int 0) = some (.fz (.int (cf far 0))) := ix_ints (k := 0) rfl (by rw [o.fl]; decide)
    have hp := r_power (x := cf far 0) (k := near.length - 1) o.f0 o.fb o.pb (by omega)
    have hm := mulD_big o.tb o.pb
    have hd := fdivD_big (i := tp * cf far 0 ^ (near.length - 1)) o.u0 o.ub
    rw [← o.eq, Int.mul_fdiv_cancel _ o.u0, o.eq] at hd
    exact res_end h1 hx (len_ints rfl) (by omega) hp hm hd
end K13
end
section
set_option maxRecDepth 100000
set_option exponentiation.threshold 100000
set_option maxHeartbeats 4000000
namespace K13
open PySem PySem.Spec L2 DL
open PL (cf Nz Bd Rem Qt vl rs Rw row shs px)
/-! the resultant of two lines, however handed -/
theorem st_ev {d e a b : D} {ka kb : Int} (h : m_two_lines [d, e] = some (.fz (.tuple [a, b]))) (h1 : lenD [a] = some (.fz (.int ka))) (h2 : lenD [b] = some (.fz (.int kb))) (a0 : ka ≠ 0) (b0 : kb ≠ 0) : m_two_standing [d, e] = some (.fz (.tuple [a, b])) := by
  simp only [m_two_standing, g_two_standing, g_two_standing_s1, g_two_standing_s2, g_two_standing_s3, mb, mr, mo, nameM, conM, binM, unM, boolM, ifM, DL.andM, DL.orM, DL.notM, andV, orV, notV, chainM, nilA, consA, dvs, dv, ownAt, fzs, lstM, tupM, callM, callP, permL, fzv, seqS, skipS, ifS, setS, asg, freeAt, retS, retV, dropS, frz, frzS, asgS, nilG, consG, tupG, subG, listAt, methM, augS, augSubS, forS, seqM, treeV, startD, endV, bodyF, bodyI, startI, ioAt, slM, partM, bors, callL, callI, callO, DL.flatV, DL.flat, List.filterMap_cons, List.filterMap_nil, List.map_cons, List.map_nil, List.getElem?_cons_zero, List.getElem?_cons_succ, List.getElem?_nil, List.set_cons_zero, List.set_cons_succ, List.cons_append, List.nil_append, List.length_cons, List.length_nil, Option.bind_some, Option.bind_none, Option.map_some, Option.map_none, Nat.reduceSub, Nat.reduceAdd, List.replicate_succ, List.replicate_zero, Bool.not_true, Bool.not_false, if_true, if_false, Bool.false_eq_true, reduceIte, decide_true, decide_false, Nat.reduceLT, Nat.reduceLeDiff, reduceCtorEq, Option.some.injEq, Prod.mk.injEq, h, itemsOf, h1, h2, eqD_int, decide_eq_false a0, decide_eq_false b0, szOk2]
theorem res_ev {d e a b : D} {v : Int} (h : m_two_standing [d, e] = some (.fz (.tuple [a, b]))) (h2 : m_resultant_of [a, b] = some (.fz (.int v))) : m_resultant [d, e] = some (.fz (.int v)) := by
  simp only [m_resultant, g_resultant, g_resultant_s1, g_resultant_s2, mb, mr, mo, nameM, conM, binM, unM, boolM, ifM, DL.andM, DL.orM, DL.notM, andV, orV, notV, chainM, nilA, consA, dvs, dv, ownAt, fzs, lstM, tupM, callM, callP, permL, fzv, seqS, skipS, ifS, setS, asg, freeAt, retS, retV, dropS, frz, frzS, asgS, nilG, consG, tupG, subG, listAt, methM, augS, augSubS, forS, seqM, treeV, startD, endV, bodyF, bodyI, startI, ioAt, slM, partM, bors, callL, callI, callO, DL.flatV, DL.flat, List.filterMap_cons, List.filterMap_nil, List.map_cons, List.map_nil, List.getElem?_cons_zero, List.getElem?_cons_succ, List.getElem?_nil, List.set_cons_zero, List.set_cons_succ, List.cons_append, List.nil_append, List.length_cons, List.length_nil, Option.bind_some, Option.bind_none, Option.map_some, Option.map_none, Nat.reduceSub, Nat.reduceAdd, List.replicate_succ, List.replicate_zero, Bool.not_true, Bool.not_false, if_true, if_false, Bool.false_eq_true, reduceIte, decide_true, decide_false, Nat.reduceLT, Nat.reduceLeDiff, reduceCtorEq, Option.some.injEq, Prod.mk.injEq, h, itemsOf, h2]
/-- a line that may stand first, of n numbers within 2 ^ k -/
structure Sq (n k : Nat) (a : List Int) : Prop where
  nz : Nz a
  ne : a ≠ []
  len : a.length ≤ n
  bd : Bd (2 ^ k) a
theorem r_resultant {d e : D} {p q : List Int} (hl : Ln d p) (kl : Ln e q) (hp : Sq 8 9 p) (hq : Sq 6 6 q) : m_resultant [d, e] = some (.fz (.int (rs p q))) := by
  have pp := List.length_pos_iff.mpr hp.ne
  have qp := List.length_pos_iff.mpr hq.ne
  have h8 := hp.len
  have h6 := hq.len
  exact res_ev (st_ev (r_two_lines hl (by omega) hp.nz kl (by omega) hq.nz) (len_ints rfl) (len_ints rfl) (by omega) (by omega)) (r_resultant_of hp.nz hq.nz hp.ne hq.ne hp.bd hq.bd h8 h6)
/-! the table -/
def zs (n : Nat) : List Int := List.replicate n 0
/-- the rows of a, n times -/
def tb (a : List Int) (n : Nat) : List (List Int) := (List.range n).map fun t => zs t ++ a.reverse ++ zs (n - 1 - t)
theorem cf_zs (n k : Nat) : cf (zs n) k = 0 := PL.cf_zeros n k
theorem cf_rev {a : List Int} {k : Nat} (h : k < a.length) : cf a.reverse k = cf a (a.length - 1 - k) := by
  rw [PL.cf_get, PL.cf_get, List.getD_eq_getElem?_getD, List.getD_eq_getElem?_getD, List.getElem?_reverse h]
theorem tb_row {a : List Int} {n t : Nat} (a0 : a ≠ []) (ht : t < n) : cf (zs t ++ a.reverse ++ zs (n - 1 - t)) = row (a.length - 1 + n) (px (n - 1 - t) * PL.S a) := by
  have ap := List.length_pos_iff.mpr a0
  funext j
  unfold row
  have lz : (zs t).length = t := List.length_replicate
  have lr : (zs t ++ a.reverse).length = t + a.length := by rw [List.length_append, lz, List.length_reverse]
  by_cases h1 : j < t
  · rw [List.append_assoc, PL.cf_append_left (by omega), cf_zs, if_pos (by omega), PL.px_c, if_pos (by omega), PL.S_dg _ (by omega)]
  · by_cases h2 : j < t + a.length
    · rw [PL.cf_append_left (by omega), PL.cf_append_right (by omega), lz, cf_rev (by omega), if_pos (by omega), PL.px_c, if_pos (by omega), PL.S_c]
      congr 1
      omega
    · rw [PL.cf_append_right (by omega), cf_zs]
      by_cases h3 : j < a.length - 1 + n
      · rw [if_pos h3, PL.px_c, if_neg (by omega)]
      · rw [if_neg h3]
theorem tb_shs {a : List Int} {n : Nat} (a0 : a ≠ []) : ∀ k, k ≤ n → ((List.range k).map fun i => cf (zs (n - k + i) ++ a.reverse ++ zs (n - 1 - (n - k + i)))) = shs (a.length - 1 + n) (PL.S a) k
  | 0, _ => rfl
  | k + 1, h => by
    rw [List.range_succ_eq_map, List.map_cons, List.map_map, shs, tb_row a0 (by omega), show n - 1 - (n - (k + 1) + 0) = k by omega, ← tb_shs a0 k (by omega)]
    congr 1
    apply PL.map_eq
    intro i _
    show cf (zs (n - (k + 1) + (i + 1)) ++ a.reverse ++ zs (n - 1 - (n - (k + 1) + (i + 1)))) = _
    rw [show n - (k + 1) + (i + 1) = n - k + i by omega]
theorem tb_cf {a : List Int} {n : Nat} (a0 : a ≠ []) : (tb a n).map cf = shs (a.length - 1 + n) (PL.S a) n := by
  rw [← tb_shs a0 n (Nat.le_refl n)]
  unfold tb
  rw [List.map_map]
  apply PL.map_eq
  intro i _
  show cf (zs i ++ a.reverse ++ zs (n - 1 - i)) = _
  rw [show n - n + i = i by omega]
/-- the determinant of the table is the resultant -/
theorem tb_det {a b : List Int} (a0 : a ≠ []) (b0 : b ≠ []) : PL.det (a.length - 1 + (b.length - 1)) ((tb a (b.length - 1) ++ tb b (a.length - 1)).map cf) = rs a b := by
  rw [List.map_append, tb_cf a0, tb_cf b0, Nat.add_comm (b.length - 1) (a.length - 1)]
  rfl
end K13
end
section
set_option maxRecDepth 100000
set_option exponentiation.threshold 100000
set_option maxHeartbeats 4000000
namespace K13
open PySem PySem.Spec L2 DL
open PL (cf Nz Bd Rem Qt vl rs)
theorem tbc1_fe {o p near far v1 v2 v3 z1 : D} {s4 : Sl} {i k c c2 : Int} (h1 : mulD (.list [.int 0]) (.int i) = some (.ow z1)) (h2 : addD z1 near = some (.ow v1)) (hl : lenD [far] = some (.fz (.int k))) (hk : k - 2 = c) (hc : c - i = c2) (h3 : mulD (.list [.int 0]) (.int c2) = some (.ow v2)) (h4 : addD v1 v2 = some (.ow v3)) :
    binM addD (binM addD (binM mulD (lstM (consA (conM (.int 0)) nilA)) (nameM 5)) (nameM 2)) (binM mulD (lstM (consA (conM (.int 0)) nilA)) (binM subI (binM subI (callM lenD (consA (nameM 3) nilA)) (conM (.int 2))) (nameM 5))) [.dat o, .dat p, .dat near, .dat far, s4, .dat (.int i)] = some (.ow v3, [.dat o, .dat p, .dat near, .dat far, s4, .dat (.int i)]) := by
  simp only [mb, mr, mo, nameM, conM, binM, unM, boolM, ifM, DL.andM, DL.orM, DL.notM, andV, orV, notV, chainM, nilA, consA, dvs, dv, ownAt, fzs, lstM, tupM, callM, callP, permL, fzv, seqS, skipS, ifS, setS, asg, fr_z_un, fr_z_dat, fr_z_rw, fr_z_own, fr_s, turnF, retS, retV, dropS, frz, frzS, asgS, nilG, consG, tupG, subG, listAt, methM, augS, augSubS, forS, seqM, treeV, startD, endV, bodyF, bodyI, startI, ioAt, slM, partM, bors, callL, callI, callO, DL.flatV, DL.flat, List.filterMap_cons, List.filterMap_nil, List.map_cons, List.map_nil, List.getElem?_cons_zero, List.getElem?_cons_succ, List.getElem?_nil, List.set_cons_zero, List.set_cons_succ, List.cons_append, List.nil_append, List.length_cons, List.length_nil, Option.bind_some, Option.bind_none, Option.map_some, Option.map_none, Nat.reduceSub, Nat.reduceAdd, List.replicate_succ, List.replicate_zero, Bool.not_true, Bool.not_false, if_true, if_false, Bool.false_eq_true, reduceIte, decide_true, decide_false, Nat.reduceLT, Nat.reduceLeDiff, reduceCtorEq, Option.some.injEq, Prod.mk.injEq, szOk1, h1, h2, hl, subI, intB, hk, hc, h3, h4]
theorem tbc2_fe {o p near far v1 v2 v3 z1 : D} {s4 : Sl} {i k c c2 : Int} (h1 : mulD (.list [.int 0]) (.int i) = some (.ow z1)) (h2 : addD z1 far = some (.ow v1)) (hl : lenD [near] = some (.fz (.int k))) (hk : k - 2 = c) (hc : c - i = c2) (h3 : mulD (.list [.int 0]) (.int c2) = some (.ow v2)) (h4 : addD v1 v2 = some (.ow v3)) :
    binM addD (binM addD (binM mulD (lstM (consA (conM (.int 0)) nilA)) (nameM 5)) (nameM 3)) (binM mulD (lstM (consA (conM (.int 0)) nilA)) (binM subI (binM subI (callM lenD (consA (nameM 2) nilA)) (conM (.int 2))) (nameM 5))) [.dat o, .dat p, .dat near, .dat far, s4, .dat (.int i)] = some (.ow v3, [.dat o, .dat p, .dat near, .dat far, s4, .dat (.int i)]) := by
  simp only [mb, mr, mo, nameM, conM, binM, unM, boolM, ifM, DL.andM, DL.orM, DL.notM, andV, orV, notV, chainM, nilA, consA, dvs, dv, ownAt, fzs, lstM, tupM, callM, callP, permL, fzv, seqS, skipS, ifS, setS, asg, fr_z_un, fr_z_dat, fr_z_rw, fr_z_own, fr_s, turnF, retS, retV, dropS, frz, frzS, asgS, nilG, consG, tupG, subG, listAt, methM, augS, augSubS, forS, seqM, treeV, startD, endV, bodyF, bodyI, startI, ioAt, slM, partM, bors, callL, callI, callO, DL.flatV, DL.flat, List.filterMap_cons, List.filterMap_nil, List.map_cons, List.map_nil, List.getElem?_cons_zero, List.getElem?_cons_succ, List.getElem?_nil, List.set_cons_zero, List.set_cons_succ, List.cons_append, List.nil_append, List.length_cons, List.length_nil, Option.bind_some, Option.bind_none, Option.map_some, Option.map_none, Nat.reduceSub, Nat.reduceAdd, List.replicate_succ, List.replicate_zero, Bool.not_true, Bool.not_false, if_true, if_false, Bool.false_eq_true, reduceIte, decide_true, decide_false, Nat.reduceLT, Nat.reduceLeDiff, reduceCtorEq, Option.some.injEq, Prod.mk.injEq, szOk1, h1, h2, hl, subI, intB, hk, hc, h3, h4]
theorem tb_item {a b : List Int} (b0 : b ≠ []) (ha : a.length ≤ 400) (hb : b.length ≤ 400) {i : Nat} (hi : i < b.length - 1) :
    mulD (.list [.int 0]) (.int ((0 : Int) + (i : Nat))) = some (.ow (IL (zs i))) ∧ addD (IL (zs i)) (IL a.reverse) = some (.ow (IL (zs i ++ a.reverse))) ∧ mulD (.list [.int 0]) (.int (((b.reverse.length : Nat) : Int) - 2 - ((0 : Int) + (i : Nat)))) = some (.ow (IL (zs (b.length - 1 - 1 - i)))) ∧ addD (IL (zs i ++ a.reverse)) (IL (zs (b.length - 1 - 1 - i))) = some (.ow (IL (zs i ++ a.reverse ++ zs (b.length - 1 - 1 - i)))) := by
  have bp := List.length_pos_iff.mpr b0
  have lz : ∀ n, (zs n).length = n := fun n => List.length_replicate
  refine ⟨?_, addD_IL _ _ (by rw [lz, List.length_reverse]; omega), ?_, addD_IL _ _ (by rw [List.length_append, lz, lz, List.length_reverse]; omega)⟩
  · rw [Int.zero_add]
    exact rep_zeros i (by omega)
  · rw [List.length_reverse, show ((b.length : Nat) : Int) - 2 - ((0 : Int) + (i : Nat)) = ((b.length - 1 - 1 - i : Nat) : Int) by omega]
    exact rep_zeros _ (by omega)
theorem tb_c1 {o p : D} {a b : List Int} {s4 : Sl} (b0 : b ≠ []) (ha : a.length ≤ 400) (hb : b.length ≤ 400) : g__law_table_c1 [.dat o, .dat p, .dat (IL a.reverse), .dat (IL b.reverse), s4, .un] = some (.ow (.list ((tb a (b.length - 1)).map IL)), [.dat o, .dat p, .dat (IL a.reverse), .dat (IL b.reverse), s4, .un]) := by
  unfold g__law_table_c1
  have bp := List.length_pos_iff.mpr b0
  have hl : lenD [IL b.reverse] = some (.fz (.int ((b.length : Nat) : Int))) := by rw [len_ints rfl, List.length_reverse]
  have hl2 : lenD [IL b.reverse] = some (.fz (.int ((b.reverse.length : Nat) : Int))) := len_ints rfl
  have hr := rng_1 (fa := consA (binM subI (callM lenD (consA (nameM 3) nilA)) (conM (.int 1))) nilA) (δ := [.dat o, .dat p, .dat (IL a.reverse), .dat (IL b.reverse), s4, .un]) (δ' := [.dat o, .dat p, .dat (IL a.reverse), .dat (IL b.reverse), s4, .un]) (j := ((b.length - 1 : Nat) : Int)) (by
    generalize hk : ((b.length : Nat) : Int) = k at hl
    rw [show ((b.length - 1 : Nat) : Int) = k - 1 by omega]
    generalize IL b.reverse = f at hl ⊢
    simp only [mb, mr, mo, nameM, conM, binM, unM, boolM, ifM, DL.andM, DL.orM, DL.notM, andV, orV, notV, chainM, nilA, consA, dvs, dv, ownAt, fzs, lstM, tupM, callM, callP, permL, fzv, seqS, skipS, ifS, setS, asg, fr_z_un, fr_z_dat, fr_z_rw, fr_z_own, fr_s, turnF, retS, retV, dropS, frz, frzS, asgS, nilG, consG, tupG, subG, listAt, methM, augS, augSubS, forS, seqM, treeV, startD, endV, bodyF, bodyI, startI, ioAt, slM, partM, bors, callL, callI, callO, DL.flatV, DL.flat, List.filterMap_cons, List.filterMap_nil, List.map_cons, List.map_nil, List.getElem?_cons_zero, List.getElem?_cons_succ, List.getElem?_nil, List.set_cons_zero, List.set_cons_succ, List.cons_append, List.nil_append, List.length_cons, List.length_nil, Option.bind_some, Option.bind_none, Option.map_some, Option.map_none, Nat.reduceSub, Nat.reduceAdd, List.replicate_succ, List.replicate_zero, Bool.not_true, Bool.not_false, if_true, if_false, Bool.false_eq_true, reduceIte, decide_true, decide_false, Nat.reduceLT, Nat.reduceLeDiff, reduceCtorEq, Option.some.injEq, Prod.mk.injEq, hl, subI, intB]) ⟨by omega, by omega⟩
  rw [Int.toNat_natCast] at hr
  have := comp_one (t := 5) (fe := binM addD (binM addD (binM mulD (lstM (consA (conM (.int 0)) nilA)) (nameM 5)) (nameM 2)) (binM mulD (lstM (consA (conM (.int 0)) nilA)) (binM subI (binM subI (callM lenD (consA (nameM 3) nilA)) (conM (.int 2))) (nameM 5)))) (List.range (b.length - 1)) (fun i : Nat => .int ((0 : Int) + (i : Nat))) (fun i => IL (zs i ++ a.reverse ++ zs (b.length - 1 - 1 - i))) hr rfl (by rw [List.length_range]; omega) (fun i hi => by
    obtain ⟨h1, h2, h3, h4⟩ := tb_item (a := a) b0 ha hb (List.mem_range.mp hi)
    have e := tbc1_fe (o := o) (p := p) (s4 := s4) (i := (0 : Int) + (i : Nat)) (k := ((b.reverse.length : Nat) : Int)) (c := ((b.reverse.length : Nat) : Int) - 2) (c2 := ((b.reverse.length : Nat) : Int) - 2 - ((0 : Int) + (i : Nat))) h1 h2 hl2 (Eq.refl _) (Eq.refl _) h3 h4
    clear h1 h2 h3 h4
    generalize (0 : Int) + (i : Nat) = j at e ⊢
    exact ⟨_, e, rfl⟩)
  rw [this]
  unfold tb
  rw [List.map_map]
  rfl
theorem tb_c2 {o p : D} {a b : List Int} {s4 : Sl} (a0 : a ≠ []) (ha : a.length ≤ 400) (hb : b.length ≤ 400) : g__law_table_c2 [.dat o, .dat p, .dat (IL a.reverse), .dat (IL b.reverse), s4, .un] = some (.ow (.list ((tb b (a.length - 1)).map IL)), [.dat o, .dat p, .dat (IL a.reverse), .dat (IL b.reverse), s4, .un]) := by
  unfold g__law_table_c2
  have ap := List.length_pos_iff.mpr a0
  have hl : lenD [IL a.reverse] = some (.fz (.int ((a.length : Nat) : Int))) := by rw [len_ints rfl, List.length_reverse]
  have hl2 : lenD [IL a.reverse] = some (.fz (.int ((a.reverse.length : Nat) : Int))) := len_ints rfl
  have hr := rng_1 (fa := consA (binM subI (callM lenD (consA (nameM 2) nilA)) (conM (.int 1))) nilA) (δ := [.dat o, .dat p, .dat (IL a.reverse), .dat (IL b.reverse), s4, .un]) (δ' := [.dat o, .dat p, .dat (IL a.reverse), .dat (IL b.reverse), s4, .un]) (j := ((a.length - 1 : Nat) : Int)) (by
    generalize hk : ((a.length : Nat) : Int) = k at hl
    rw [show ((a.length - 1 : Nat) : Int) = k - 1 by omega]
    generalize IL a.reverse = f at hl ⊢
    simp only [mb, mr, mo, nameM, conM, binM, unM, boolM, ifM, DL.andM, DL.orM, DL.notM, andV, orV, notV, chainM, nilA, consA, dvs, dv, ownAt, fzs, lstM, tupM, callM, callP, permL, fzv, seqS, skipS, ifS, setS, asg, fr_z_un, fr_z_dat, fr_z_rw, fr_z_own, fr_s, turnF, retS, retV, dropS, frz, frzS, asgS, nilG, consG, tupG, subG, listAt, methM, augS, augSubS, forS, seqM, treeV, startD, endV, bodyF, bodyI, startI, ioAt, slM, partM, bors, callL, callI, callO, DL.flatV, DL.flat, List.filterMap_cons, List.filterMap_nil, List.map_cons, List.map_nil, List.getElem?_cons_zero, List.getElem?_cons_succ, List.getElem?_nil, List.set_cons_zero, List.set_cons_succ, List.cons_append, List.nil_append, List.length_cons, List.length_nil, Option.bind_some, Option.bind_none, Option.map_some, Option.map_none, Nat.reduceSub, Nat.reduceAdd, List.replicate_succ, List.replicate_zero, Bool.not_true, Bool.not_false, if_true, if_false, Bool.false_eq_true, reduceIte, decide_true, decide_false, Nat.reduceLT, Nat.reduceLeDiff, reduceCtorEq, Option.some.injEq, Prod.mk.injEq, hl, subI, intB]) ⟨by omega, by omega⟩
  rw [Int.toNat_natCast] at hr
  have := comp_one (t := 5) (fe := binM addD (binM addD (binM mulD (lstM (consA (conM (.int 0)) nilA)) (nameM 5)) (nameM 3)) (binM mulD (lstM (consA (conM (.int 0)) nilA)) (binM subI (binM subI (callM lenD (consA (nameM 2) nilA)) (conM (.int 2))) (nameM 5)))) (List.range (a.length - 1)) (fun i : Nat => .int ((0 : Int) + (i : Nat))) (fun i => IL (zs i ++ b.reverse ++ zs (a.length - 1 - 1 - i))) hr rfl (by rw [List.length_range]; omega) (fun i hi => by
    obtain ⟨h1, h2, h3, h4⟩ := tb_item (a := b) a0 hb ha (List.mem_range.mp hi)
    have e := tbc2_fe (o := o) (p := p) (s4 := s4) (i := (0 : Int) + (i : Nat)) (k := ((a.reverse.length : Nat) : Int)) (c := ((a.reverse.length : Nat) : Int) - 2) (c2 := ((a.reverse.length : Nat) : Int) - 2 - ((0 : Int) + (i : Nat))) h1 h2 hl2 (Eq.refl _) (Eq.refl _) h3 h4
    clear h1 h2 h3 h4
    generalize (0 : Int) + (i : Nat) = j at e ⊢
    exact ⟨_, e, rfl⟩)
  rw [this]
  unfold tb
  rw [List.map_map]
  rfl
theorem tb_ev {o p near far r1 r2 r : D} (h1 : revD o = some (.ow near)) (h2 : revD p = some (.ow far)) (c1 : g__law_table_c1 [.dat o, .dat p, .dat near, .dat far, .un, .un] = some (.ow r1, [.dat o, .dat p, .dat near, .dat far, .un, .un])) (c2 : g__law_table_c2 [.dat o, .dat p, .dat near, .dat far, .own false r1, .un] = some (.ow r2, [.dat o, .dat p, .dat near, .dat far, .own false r1, .un])) (ha : addD r1 r2 = some (.ow r)) : m__law_table [o, p] = some (.ow r) := by
  simp only [m__law_table, g__law_table, g__law_table_s1, g__law_table_s2, g__law_table_s3, mb, mr, mo, nameM, conM, binM, unM, boolM, ifM, DL.andM, DL.orM, DL.notM, andV, orV, notV, chainM, nilA, consA, dvs, dv, ownAt, fzs, lstM, tupM, callM, callP, permL, fzv, seqS, skipS, ifS, setS, asg, freeAt, retS, retV, dropS, frz, frzS, asgS, nilG, consG, tupG, subG, listAt, methM, augS, augSubS, forS, seqM, treeV, startD, endV, bodyF, bodyI, startI, ioAt, slM, partM, bors, callL, callI, callO, DL.flatV, DL.flat, List.filterMap_cons, List.filterMap_nil, List.map_cons, List.map_nil, List.getElem?_cons_zero, List.getElem?_cons_succ, List.getElem?_nil, List.set_cons_zero, List.set_cons_succ, List.cons_append, List.nil_append, List.length_cons, List.length_nil, Option.bind_some, Option.bind_none, Option.map_some, Option.map_none, Nat.reduceSub, Nat.reduceAdd, List.replicate_succ, List.replicate_zero, Bool.not_true, Bool.not_false, if_true, if_false, Bool.false_eq_true, reduceIte, decide_true, decide_false, Nat.reduceLT, Nat.reduceLeDiff, reduceCtorEq, Option.some.injEq, Prod.mk.injEq, h1, h2, szOk2, itemsOf, c1, c2, ha]
theorem r_table {a b : List Int} (a0 : a ≠ []) (b0 : b ≠ []) (ha : a.length ≤ 400) (hb : b.length ≤ 400) : m__law_table [IL a, IL b] = some (.ow (.list ((tb a (b.length - 1) ++ tb b (a.length - 1)).map IL))) := by
  have h1 : revD (IL a) = some (.ow (IL a.reverse)) := by show some (Val.ow (.list (a.map PyData.int).reverse)) = _; rw [← List.map_reverse]
  have h2 : revD (IL b) = some (.ow (IL b.reverse)) := by show some (Val.ow (.list (b.map PyData.int).reverse)) = _; rw [← List.map_reverse]
  refine tb_ev h1 h2 (tb_c1 b0 ha hb) (tb_c2 a0 ha hb) ?_
  rw [List.map_append]
  refine addD_list _ _ ?_
  unfold tb
  simp only [List.length_map, List.length_range]
  omega
end K13
end
section
set_option maxRecDepth 100000
set_option exponentiation.threshold 100000
set_option maxHeartbeats 4000000
namespace K13
open PySem PySem.Spec L2 DL
open PL (cf Nz Bd Rem Qt vl rs)
/-! the law's own determinant: the pieces of a step -/
/-- a list of one's own, or unset -/
def ow' : Option (List Int) → Sl
  | none => .un
  | some l => .own false (IL l)
/-- where the first numbers are not nought -/
def idx (L : List (List Int)) : List Int := (L.zipIdx.filter fun p => !decide (cf p.1 0 = 0)).map fun p => ((p.2 : Nat) : Int)
theorem ix_0 {r : List Int} (h : r ≠ []) : ixD (IL r) (.int 0) = some (.fz (.int (cf r 0))) := ix_ints (k := 0) rfl (List.length_pos_iff.mpr h)
theorem c2_ft {R L : D} {past sg : D} {s5 s8 : Sl} {x7 : Option D} {r : D} {i h : Int} (hr : ixD r (.int 0) = some (.fz (.int h))) : boolM (binM neD (binM ixD (nameM 4) (conM (.int 0))) (conM (.int 0))) [.dat R, .dat L, .dat past, .dat sg, .dat r, s5, .dat (.int i), rw' x7, s8, .un, .un] = some (!decide (h = 0), [.dat R, .dat L, .dat past, .dat sg, .dat r, s5, .dat (.int i), rw' x7, s8, .un, .un]) := by
  simp only [mb, mr, mo, nameM, conM, binM, unM, boolM, ifM, DL.andM, DL.orM, DL.notM, andV, orV, notV, chainM, nilA, consA, dvs, dv, ownAt, fzs, lstM, tupM, callM, callP, permL, fzv, seqS, skipS, ifS, setS, asg, fr_z_un, fr_z_dat, fr_z_rw, fr_z_own, fr_s, turnF, retS, retV, dropS, frz, frzS, asgS, nilG, consG, tupG, subG, listAt, methM, augS, augSubS, forS, seqM, treeV, startD, endV, bodyF, bodyI, startI, ioAt, slM, partM, bors, callL, callI, callO, DL.flatV, DL.flat, List.filterMap_cons, List.filterMap_nil, List.map_cons, List.map_nil, List.getElem?_cons_zero, List.getElem?_cons_succ, List.getElem?_nil, List.set_cons_zero, List.set_cons_succ, List.cons_append, List.nil_append, List.length_cons, List.length_nil, Option.bind_some, Option.bind_none, Option.map_some, Option.map_none, Nat.reduceSub, Nat.reduceAdd, List.replicate_succ, List.replicate_zero, Bool.not_true, Bool.not_false, if_true, if_false, Bool.false_eq_true, reduceIte, decide_true, decide_false, Nat.reduceLT, Nat.reduceLeDiff, reduceCtorEq, Option.some.injEq, Prod.mk.injEq, hr, neD_int]
theorem c2_ev {R : D} {past sg : D} {L : List (List Int)} {s5 s8 : Sl} {x4 x7 : Option D} (hL : ∀ r ∈ L, r ≠ []) (hz : L.length ≤ 400) :
    g__law_determinant_c2 [.dat R, .dat (.list (L.map IL)), .dat past, .dat sg, rw' x4, s5, .un, rw' x7, s8, .un, .un] = some (.ow (IL (idx L)), [.dat R, .dat (.list (L.map IL)), .dat past, .dat sg, rw' x4, s5, .un, rw' x7, s8, .un, .un]) := by
  unfold g__law_determinant_c2
  have e := comp_filt (fi := enumA (consA (nameM 1) nilA)) (gt := tupG 2 (consG (asg 6) (consG (asg 4) nilG))) (ft := boolM (binM neD (binM ixD (nameM 4) (conM (.int 0))) (conM (.int 0)))) (fe := nameM 6) (vs := [6, 4]) (δ := [.dat R, .dat (.list (L.map IL)), .dat past, .dat sg, rw' x4, s5, .un, rw' x7, s8, .un, .un])
    L.zipIdx (fun p => .tuple [.int (p.2 : Nat), IL p.1]) (fun p => .int (p.2 : Nat)) (fun p => !decide (cf p.1 0 = 0)) (fun p => [.dat R, .dat (.list (L.map IL)), .dat past, .dat sg, .dat (IL p.1), s5, .dat (.int (p.2 : Nat)), rw' x7, s8, .un, .un]) ?_ (by cases x4 <;> rfl) (by cases x4 <;> rfl) (by rw [List.length_zipIdx]; omega) (fun p hp => ⟨?_, ?_, fun _ => ⟨.fz (.int (p.2 : Nat)), ?_, rfl⟩, by cases x4 <;> rfl⟩)
  · rw [e]
    unfold idx IL
    rw [List.map_map]
    rfl
  · have : enumD (L.map IL) = L.zipIdx.map fun p => .tuple [.int (p.2 : Nat), IL p.1] := by
      unfold enumD
      rw [List.zipIdx_map, List.map_map]
      rfl
    simp only [enumA, mb, mr, mo, nameM, conM, binM, unM, boolM, ifM, DL.andM, DL.orM, DL.notM, andV, orV, notV, chainM, nilA, consA, dvs, dv, ownAt, fzs, lstM, tupM, callM, callP, permL, fzv, seqS, skipS, ifS, setS, asg, fr_z_un, fr_z_dat, fr_z_rw, fr_z_own, fr_s, turnF, retS, retV, dropS, frz, frzS, asgS, nilG, consG, tupG, subG, listAt, methM, augS, augSubS, forS, seqM, treeV, startD, endV, bodyF, bodyI, startI, ioAt, slM, partM, bors, callL, callI, callO, DL.flatV, DL.flat, List.filterMap_cons, List.filterMap_nil, List.map_cons, List.map_nil, List.getElem?_cons_zero, List.getElem?_cons_succ, List.getElem?_nil, List.set_cons_zero, List.set_cons_succ, List.cons_append, List.nil_append, List.length_cons, List.length_nil, Option.bind_some, Option.bind_none, Option.map_some, Option.map_none, Nat.reduceSub, Nat.reduceAdd, List.replicate_succ, List.replicate_zero, Bool.not_true, Bool.not_false, if_true, if_false, Bool.false_eq_true, reduceIte, decide_true, decide_false, Nat.reduceLT, Nat.reduceLeDiff, reduceCtorEq, Option.some.injEq, Prod.mk.injEq, this]
  · generalize IL p.1 = r
    generalize ((p.2 : Nat) : Int) = i
    cases x4 <;> simp only [wipeD, mb, mr, mo, nameM, conM, binM, unM, boolM, ifM, DL.andM, DL.orM, DL.notM, andV, orV, notV, chainM, nilA, consA, dvs, dv, ownAt, fzs, lstM, tupM, callM, callP, permL, fzv, seqS, skipS, ifS, setS, asg, fr_z_un, fr_z_dat, fr_z_rw, fr_z_own, fr_s, turnF, retS, retV, dropS, frz, frzS, asgS, nilG, consG, tupG, subG, listAt, methM, augS, augSubS, forS, seqM, treeV, startD, endV, bodyF, bodyI, startI, ioAt, slM, partM, bors, callL, callI, callO, DL.flatV, DL.flat, List.filterMap_cons, List.filterMap_nil, List.map_cons, List.map_nil, List.getElem?_cons_zero, List.getElem?_cons_succ, List.getElem?_nil, List.set_cons_zero, List.set_cons_succ, List.cons_append, List.nil_append, List.length_cons, List.length_nil, Option.bind_some, Option.bind_none, Option.map_some, Option.map_none, Nat.reduceSub, Nat.reduceAdd, List.replicate_succ, List.replicate_zero, Bool.not_true, Bool.not_false, if_true, if_false, Bool.false_eq_true, reduceIte, decide_true, decide_false, Nat.reduceLT, Nat.reduceLeDiff, reduceCtorEq, Option.some.injEq, Prod.mk.injEq, rw']
  · have hr : p.1 ∈ L := by
      have := List.mem_zipIdx hp
      rw [this.2.2]
      exact List.getElem_mem _
    exact c2_ft (ix_0 (hL _ hr))
  · generalize IL p.1 = r
    generalize ((p.2 : Nat) : Int) = i
    simp only [mb, mr, mo, nameM, conM, binM, unM, boolM, ifM, DL.andM, DL.orM, DL.notM, andV, orV, notV, chainM, nilA, consA, dvs, dv, ownAt, fzs, lstM, tupM, callM, callP, permL, fzv, seqS, skipS, ifS, setS, asg, fr_z_un, fr_z_dat, fr_z_rw, fr_z_own, fr_s, turnF, retS, retV, dropS, frz, frzS, asgS, nilG, consG, tupG, subG, listAt, methM, augS, augSubS, forS, seqM, treeV, startD, endV, bodyF, bodyI, startI, ioAt, slM, partM, bors, callL, callI, callO, DL.flatV, DL.flat, List.filterMap_cons, List.filterMap_nil, List.map_cons, List.map_nil, List.getElem?_cons_zero, List.getElem?_cons_succ, List.getElem?_nil, List.set_cons_zero, List.set_cons_succ, List.cons_append, List.nil_append, List.length_cons, List.length_nil, Option.bind_some, Option.bind_none, Option.map_some, Option.map_none, Nat.reduceSub, Nat.reduceAdd, List.replicate_succ, List.replicate_zero, Bool.not_true, Bool.not_false, if_true, if_false, Bool.false_eq_true, reduceIte, decide_true, decide_false, Nat.reduceLT, Nat.reduceLeDiff, reduceCtorEq, Option.some.injEq, Prod.mk.injEq]
theorem lend_ev {j : Nat} {f : Me Val} {δ δ1 : DS} {d : D} {v : Val} (h0 : δ[j]? = some (.own false d)) (hf : frz j δ = δ1) (h : f δ1 = some (v, δ1)) (hw : flatW v = true) (ho : othersFlat j δ = true) : lendM j f δ = some (v, δ) := by
  unfold lendM
  rw [h0]
  simp only [hf, h]
  rw [if_pos ⟨trivial, hw, ho⟩]
theorem flat_ints (l : List Int) : (l.map PyData.int).all flat = true := by
  rw [List.all_map, List.all_eq_true]
  intro x _
  rfl
theorem c2_lend {R : D} {past sg : D} {L : List (List Int)} {l5 : Option (List Int)} {x4 x7 : Option D} (hL : ∀ r ∈ L, r ≠ []) (hz : L.length ≤ 400) :
    lendM 1 g__law_determinant_c2 [.dat R, .own false (.list (L.map IL)), .dat past, .dat sg, rw' x4, ow' l5, .un, rw' x7, .un, .un, .un] = some (.ow (IL (idx L)), [.dat R, .own false (.list (L.map IL)), .dat past, .dat sg, rw' x4, ow' l5, .un, rw' x7, .un, .un, .un]) := by
  refine lend_ev rfl rfl (c2_ev hL hz) (flat_ints _) ?_
  unfold othersFlat
  cases x4 <;> cases l5 <;> cases x7 <;> simp [List.range_succ, ow', rw', flat_ints] <;> exact fun _ _ => rfl
/-- the step's head: which row goes first -/
theorem det_nil {R past sg L : D} {l5 : Option (List Int)} {x4 x7 : Option D} (h : lendM 1 g__law_determinant_c2 [.dat R, .own false L, .dat past, .dat sg, rw' x4, ow' l5, .un, rw' x7, .un, .un, .un] = some (.ow (IL []), [.dat R, .own false L, .dat past, .dat sg, rw' x4, ow' l5, .un, rw' x7, .un, .un, .un])) :
    ∃ δ, g__law_determinant_b2 [.dat R, .own false L, .dat past, .dat sg, rw' x4, ow' l5, .un, rw' x7, .un, .un, .un] = some (.rt (.fz (.int 0)), δ) := by
  have e : eqD (IL []) (.list []) = some (.fz (.bool true)) := eqD_nil (shaped_IL [])
  generalize hx : IL ([] : List Int) = il at *
  cases x4 <;> cases l5 <;> cases x7 <;> simp only [ow', rw'] at h ⊢ <;> exact ⟨_, by simp only [g__law_determinant_b2, mb, mr, mo, nameM, conM, binM, unM, boolM, ifM, DL.andM, DL.orM, DL.notM, andV, orV, notV, chainM, nilA, consA, dvs, dv, ownAt, fzs, lstM, tupM, callM, callP, permL, fzv, seqS, skipS, ifS, setS, asg, fr_z_un, fr_z_dat, fr_z_rw, fr_z_own, fr_s, turnF, retS, retV, dropS, frz, frzS, asgS, nilG, consG, tupG, subG, listAt, methM, augS, augSubS, forS, seqM, treeV, startD, endV, bodyF, bodyI, startI, ioAt, slM, partM, bors, callL, callI, callO, DL.flatV, DL.flat, List.filterMap_cons, List.filterMap_nil, List.map_cons, List.map_nil, List.getElem?_cons_zero, List.getElem?_cons_succ, List.getElem?_nil, List.set_cons_zero, List.set_cons_succ, List.cons_append, List.nil_append, List.length_cons, List.length_nil, Option.bind_some, Option.bind_none, Option.map_some, Option.map_none, Nat.reduceSub, Nat.reduceAdd, List.replicate_succ, List.replicate_zero, Bool.not_true, Bool.not_false, if_true, if_false, Bool.false_eq_true, reduceIte, decide_true, decide_false, Nat.reduceLT, Nat.reduceLeDiff, reduceCtorEq, Option.some.injEq, Prod.mk.injEq, h, szOk0, e]; exact ⟨trivial, rfl⟩⟩
/-! a row of the table behind a step -/
def lowL (past : Int) (f u : List Int) : List Int := (u.tail.zip f.tail).map fun p => (cf f 0 * p.1 - cf u 0 * p.2).fdiv past
theorem cf_tail (u : List Int) (j : Nat) : cf u.tail j = cf u (j + 1) := by
  cases u with
  | nil => rw [List.tail_nil, PL.cf_nil, PL.cf_nil]
  | cons x u => rfl
theorem cf_zipmap (g : Int → Int → Int) (g0 : g 0 0 = 0) : ∀ (a b : List Int), a.length = b.length → ∀ j, cf ((a.zip b).map fun p => g p.1 p.2) j = g (cf a j) (cf b j)
  | [], [], _, j => by rw [List.zip_nil_left, List.map_nil, PL.cf_nil, g0]
  | [], _ :: _, h, _ => by simp at h
  | _ :: _, [], h, _ => by simp at h
  | x :: a, y :: b, h, 0 => rfl
  | x :: a, y :: b, h, j + 1 => cf_zipmap g g0 a b (by simpa using h) j
theorem cf_low {past : Int} {f u : List Int} (h : u.length = f.length) : cf (lowL past f u) = PL.low2 past (cf f) (cf u) := by
  funext j
  unfold lowL
  rw [cf_zipmap (fun x y => (cf f 0 * x - cf u 0 * y).fdiv past) (by simp) _ _ (by rw [List.length_tail, List.length_tail, h]) j, cf_tail, cf_tail]
  rfl
theorem c3_fe {l4 l7 : D} {s0 s1 s3 s5 s6 s8 : Sl} {past x y u f p q : Int} (h7 : ixD l7 (.int 0) = some (.fz (.int f))) (h4 : ixD l4 (.int 0) = some (.fz (.int u))) (m1 : mulD (.int f) (.int x) = some (.fz (.int p))) (m2 : mulD (.int u) (.int y) = some (.fz (.int q))) {w : Int} (hd : fdivD (.int (p - q)) (.int past) = some (.fz (.int w))) :
    binM fdivD (binM subI (binM mulD (binM ixD (nameM 7) (conM (.int 0))) (nameM 9)) (binM mulD (binM ixD (nameM 4) (conM (.int 0))) (nameM 10))) (nameM 2) [s0, s1, .dat (.int past), s3, .dat l4, s5, s6, .dat l7, s8, .dat (.int x), .dat (.int y)] = some (.fz (.int w), [s0, s1, .dat (.int past), s3, .dat l4, s5, s6, .dat l7, s8, .dat (.int x), .dat (.int y)]) := by
  simp only [mb, mr, mo, nameM, conM, binM, unM, boolM, ifM, DL.andM, DL.orM, DL.notM, andV, orV, notV, chainM, nilA, consA, dvs, dv, ownAt, fzs, lstM, tupM, callM, callP, permL, fzv, seqS, skipS, ifS, setS, asg, fr_z_un, fr_z_dat, fr_z_rw, fr_z_own, fr_s, turnF, retS, retV, dropS, frz, frzS, asgS, nilG, consG, tupG, subG, listAt, methM, augS, augSubS, forS, seqM, treeV, startD, endV, bodyF, bodyI, startI, ioAt, slM, partM, bors, callL, callI, callO, DL.flatV, DL.flat, List.filterMap_cons, List.filterMap_nil, List.map_cons, List.map_nil, List.getElem?_cons_zero, List.getElem?_cons_succ, List.getElem?_nil, List.set_cons_zero, List.set_cons_succ, List.cons_append, List.nil_append, List.length_cons, List.length_nil, Option.bind_some, Option.bind_none, Option.map_some, Option.map_none, Nat.reduceSub, Nat.reduceAdd, List.replicate_succ, List.replicate_zero, Bool.not_true, Bool.not_false, if_true, if_false, Bool.false_eq_true, reduceIte, decide_true, decide_false, Nat.reduceLT, Nat.reduceLeDiff, reduceCtorEq, Option.some.injEq, Prod.mk.injEq, h7, h4, m1, m2, subI, intB, hd]
theorem sl1 (u : List Int) (hu : u ≠ []) : slD (IL u) (some 1) none = some (.ow (IL u.tail)) := by
  have := slD_from u (k := 1) (List.length_pos_iff.mpr hu)
  rw [List.drop_one] at this
  exact this
end K13
end
section
set_option maxRecDepth 100000
set_option exponentiation.threshold 100000
set_option maxHeartbeats 4000000
namespace K13
open PySem PySem.Spec L2 DL
open PL (cf Nz Bd Rem Qt vl rs)
theorem c3_ev {R L sg : D} {past : Int} {f u : List Int} {s5 s6 s8 : Sl} (p0 : past ≠ 0) (pb : past.natAbs < 2 ^ 8000) (f0 : f ≠ []) (u0 : u ≠ []) (hz : f.length ≤ 400) (hf : ∀ y ∈ f, y.natAbs < 2 ^ 8000) (hu : ∀ y ∈ u, y.natAbs < 2 ^ 8000) :
    g__law_determinant_c3 [.dat R, .dat L, .dat (.int past), .dat sg, .dat (IL u), s5, s6, .dat (IL f), s8, .un, .un] = some (.ow (IL (lowL past f u)), [.dat R, .dat L, .dat (.int past), .dat sg, .dat (IL u), s5, s6, .dat (IL f), s8, .un, .un]) := by
  unfold g__law_determinant_c3
  have hz2 := sl1 u u0
  have hz1 := sl1 f f0
  have mem0 : ∀ {l : List Int}, l ≠ [] → cf l 0 ∈ l := fun {l} h => by
    cases l with
    | nil => exact absurd rfl h
    | cons x l => exact List.mem_cons_self
  have zi := zip_ints u.tail f.tail
  have e := comp_map (fi := zipM (consA (slM (nameM 4) (partM (conM (.int 1))) (mr none)) (consA (slM (nameM 7) (partM (conM (.int 1))) (mr none)) nilA))) (gt := tupG 2 (consG (asg 9) (consG (asg 10) nilG))) (fe := binM fdivD (binM subI (binM mulD (binM ixD (nameM 7) (conM (.int 0))) (nameM 9)) (binM mulD (binM ixD (nameM 4) (conM (.int 0))) (nameM 10))) (nameM 2)) (vs := [9, 10]) (δ := [.dat R, .dat L, .dat (.int past), .dat sg, .dat (IL u), s5, s6, .dat (IL f), s8, .un, .un])
    (u.tail.zip f.tail) (fun p => .tuple [.int p.1, .int p.2]) (fun p => .int ((cf f 0 * p.1 - cf u 0 * p.2).fdiv past)) (fun p => [.dat R, .dat L, .dat (.int past), .dat sg, .dat (IL u), s5, s6, .dat (IL f), s8, .dat (.int p.1), .dat (.int p.2)]) ?_ rfl rfl (by rw [List.length_zip, List.length_tail, List.length_tail]; omega) (fun p hp => ⟨?_, ⟨.fz (.int ((cf f 0 * p.1 - cf u 0 * p.2).fdiv past)), ?_, rfl⟩, rfl⟩)
  · rw [e]
    unfold lowL IL
    rw [List.map_map]
    rfl
  · rw [← zi]
    generalize IL u = iu at *
    generalize IL f = jf at *
    simp only [zipM, mb, mr, mo, nameM, conM, binM, unM, boolM, ifM, DL.andM, DL.orM, DL.notM, andV, orV, notV, chainM, nilA, consA, dvs, dv, ownAt, fzs, lstM, tupM, callM, callP, permL, fzv, seqS, skipS, ifS, setS, asg, fr_z_un, fr_z_dat, fr_z_rw, fr_z_own, fr_s, turnF, retS, retV, dropS, frz, frzS, asgS, nilG, consG, tupG, subG, listAt, methM, augS, augSubS, forS, seqM, treeV, startD, endV, bodyF, bodyI, startI, ioAt, slM, partM, bors, callL, callI, callO, DL.flatV, DL.flat, List.filterMap_cons, List.filterMap_nil, List.map_cons, List.map_nil, List.getElem?_cons_zero, List.getElem?_cons_succ, List.getElem?_nil, List.set_cons_zero, List.set_cons_succ, List.cons_append, List.nil_append, List.length_cons, List.length_nil, Option.bind_some, Option.bind_none, Option.map_some, Option.map_none, Nat.reduceSub, Nat.reduceAdd, List.replicate_succ, List.replicate_zero, Bool.not_true, Bool.not_false, if_true, if_false, Bool.false_eq_true, reduceIte, decide_true, decide_false, Nat.reduceLT, Nat.reduceLeDiff, reduceCtorEq, Option.some.injEq, Prod.mk.injEq, partM, hz1, hz2]
  · generalize p.1 = x
    generalize p.2 = y
    simp only [wipeD, mb, mr, mo, nameM, conM, binM, unM, boolM, ifM, DL.andM, DL.orM, DL.notM, andV, orV, notV, chainM, nilA, consA, dvs, dv, ownAt, fzs, lstM, tupM, callM, callP, permL, fzv, seqS, skipS, ifS, setS, asg, fr_z_un, fr_z_dat, fr_z_rw, fr_z_own, fr_s, turnF, retS, retV, dropS, frz, frzS, asgS, nilG, consG, tupG, subG, listAt, methM, augS, augSubS, forS, seqM, treeV, startD, endV, bodyF, bodyI, startI, ioAt, slM, partM, bors, callL, callI, callO, DL.flatV, DL.flat, List.filterMap_cons, List.filterMap_nil, List.map_cons, List.map_nil, List.getElem?_cons_zero, List.getElem?_cons_succ, List.getElem?_nil, List.set_cons_zero, List.set_cons_succ, List.cons_append, List.nil_append, List.length_cons, List.length_nil, Option.bind_some, Option.bind_none, Option.map_some, Option.map_none, Nat.reduceSub, Nat.reduceAdd, List.replicate_succ, List.replicate_zero, Bool.not_true, Bool.not_false, if_true, if_false, Bool.false_eq_true, reduceIte, decide_true, decide_false, Nat.reduceLT, Nat.reduceLeDiff, reduceCtorEq, Option.some.injEq, Prod.mk.injEq]
  · have h12 := List.of_mem_zip hp
    exact c3_fe (ix_0 f0) (ix_0 u0) (mulD_big (hf _ (mem0 f0)) (hu _ (List.mem_of_mem_tail h12.1))) (mulD_big (hu _ (mem0 u0)) (hf _ (List.mem_of_mem_tail h12.2))) (fdivD_big p0 pb)
theorem b1_ev {R L sg : D} {past : D} {u w : D} {xs : List D} {f : D} {s5 s6 : Sl} (hc : g__law_determinant_c3 [.dat R, .dat L, .dat past, .dat sg, .dat u, s5, s6, .dat f, .own false (.list xs), .un, .un] = some (.ow w, [.dat R, .dat L, .dat past, .dat sg, .dat u, s5, s6, .dat f, .own false (.list xs), .un, .un])) (ha : appendL xs [w] = some (.none, xs ++ [w])) :
    g__law_determinant_b1 [.dat R, .dat L, .dat past, .dat sg, .dat u, s5, s6, .dat f, .own false (.list xs), .un, .un] = some (.nx, [.dat R, .dat L, .dat past, .dat sg, .dat u, s5, s6, .dat f, .own false (.list (xs ++ [w])), .un, .un]) := by
  simp only [g__law_determinant_b1, mb, mr, mo, nameM, conM, binM, unM, boolM, ifM, DL.andM, DL.orM, DL.notM, andV, orV, notV, chainM, nilA, consA, dvs, dv, ownAt, fzs, lstM, tupM, callM, callP, permL, fzv, seqS, skipS, ifS, setS, asg, fr_z_un, fr_z_dat, fr_z_rw, fr_z_own, fr_s, turnF, retS, retV, dropS, frz, frzS, asgS, nilG, consG, tupG, subG, listAt, methM, augS, augSubS, forS, seqM, treeV, startD, endV, bodyF, bodyI, startI, ioAt, slM, partM, bors, callL, callI, callO, DL.flatV, DL.flat, List.filterMap_cons, List.filterMap_nil, List.map_cons, List.map_nil, List.getElem?_cons_zero, List.getElem?_cons_succ, List.getElem?_nil, List.set_cons_zero, List.set_cons_succ, List.cons_append, List.nil_append, List.length_cons, List.length_nil, Option.bind_some, Option.bind_none, Option.map_some, Option.map_none, Nat.reduceSub, Nat.reduceAdd, List.replicate_succ, List.replicate_zero, Bool.not_true, Bool.not_false, if_true, if_false, Bool.false_eq_true, reduceIte, decide_true, decide_false, Nat.reduceLT, Nat.reduceLeDiff, reduceCtorEq, Option.some.injEq, Prod.mk.injEq, hc, ha]
theorem f1_ev {R sg : D} {past : Int} {f : List Int} {M : List (List Int)} {x4 : Option D} {s5 s6 : Sl} (p0 : past ≠ 0) (pb : past.natAbs < 2 ^ 8000) (f0 : f ≠ []) (hz : f.length ≤ 400) (hf : ∀ y ∈ f, y.natAbs < 2 ^ 8000) (hM : ∀ u ∈ M, u ≠ [] ∧ ∀ y ∈ u, y.natAbs < 2 ^ 8000) (hm : M.length ≤ 400) :
    ∃ x4' : Option D, g__law_determinant_f1 [.dat R, .dat (.list (M.map IL)), .dat (.int past), .dat sg, rw' x4, s5, s6, .dat (IL f), .own false (.list []), .un, .un] = some (.nx, [.dat R, .dat (.list (M.map IL)), .dat (.int past), .dat sg, rw' x4', s5, s6, .dat (IL f), .own false (.list ((M.map (lowL past f)).map IL)), .un, .un]) := by
  unfold g__law_determinant_f1
  obtain ⟨s, r, e, q⟩ := for_ex (fi := seqM (nameM 1)) (gt := asg 4) (body := g__law_determinant_b1) (δ0 := [.dat R, .dat (.list (M.map IL)), .dat (.int past), .dat sg, rw' x4, s5, s6, .dat (IL f), .own false (.list []), .un, .un]) IL (fun (xs : List (List Int)) (r : Option D) => [.dat R, .dat (.list (M.map IL)), .dat (.int past), .dat sg, rw' r, s5, s6, .dat (IL f), .own false (.list (xs.map IL)), .un, .un]) (fun k xs => xs = (M.take k).map (lowL past f)) M (s0 := []) (r0 := x4) rfl (by
    cases x4 <;> simp only [mb, mr, mo, nameM, conM, binM, unM, boolM, ifM, DL.andM, DL.orM, DL.notM, andV, orV, notV, chainM, nilA, consA, dvs, dv, ownAt, fzs, lstM, tupM, callM, callP, permL, fzv, seqS, skipS, ifS, setS, asg, fr_z_un, fr_z_dat, fr_z_rw, fr_z_own, fr_s, turnF, retS, retV, dropS, frz, frzS, asgS, nilG, consG, tupG, subG, listAt, methM, augS, augSubS, forS, seqM, treeV, startD, endV, bodyF, bodyI, startI, ioAt, slM, partM, bors, callL, callI, callO, DL.flatV, DL.flat, List.filterMap_cons, List.filterMap_nil, List.map_cons, List.map_nil, List.getElem?_cons_zero, List.getElem?_cons_succ, List.getElem?_nil, List.set_cons_zero, List.set_cons_succ, List.cons_append, List.nil_append, List.length_cons, List.length_nil, Option.bind_some, Option.bind_none, Option.map_some, Option.map_none, Nat.reduceSub, Nat.reduceAdd, List.replicate_succ, List.replicate_zero, Bool.not_true, Bool.not_false, if_true, if_false, Bool.false_eq_true, reduceIte, decide_true, decide_false, Nat.reduceLT, Nat.reduceLeDiff, reduceCtorEq, Option.some.injEq, Prod.mk.injEq, rw', itemsOf]) (by simp) (fun k u xs r hk hp => by
    have hu : u ∈ M := List.mem_of_getElem? hk
    have hkl : k < M.length := (List.getElem?_eq_some_iff.mp hk).1
    have hxl : xs.length ≤ 400 := by rw [hp, List.length_map, List.length_take]; omega
    refine ⟨xs ++ [lowL past f u], some (IL u), ?_, ?_⟩
    · have hc := c3_ev (R := R) (L := .list (M.map IL)) (sg := sg) (s5 := s5) (s6 := s6) (s8 := .own false (.list (xs.map IL))) p0 pb f0 (hM u hu).1 hz hf (hM u hu).2
      have e := b1_ev hc (show appendL (xs.map IL) [IL (lowL past f u)] = some (.none, xs.map IL ++ [IL (lowL past f u)]) from by
        unfold appendL
        simp only [szOkL (show (xs.map IL).length + 1 ≤ 16777216 by rw [List.length_map]; omega), if_true])
      rw [List.map_append, List.map_singleton]
      generalize IL (lowL past f u) = lw at e ⊢
      generalize xs.map IL = ys at e ⊢
      generalize IL u = iu at e ⊢
      cases r <;> simp only [rw', mb, mr, mo, nameM, conM, binM, unM, boolM, ifM, DL.andM, DL.orM, DL.notM, andV, orV, notV, chainM, nilA, consA, dvs, dv, ownAt, fzs, lstM, tupM, callM, callP, permL, fzv, seqS, skipS, ifS, setS, asg, fr_z_un, fr_z_dat, fr_z_rw, fr_z_own, fr_s, turnF, retS, retV, dropS, frz, frzS, asgS, nilG, consG, tupG, subG, listAt, methM, augS, augSubS, forS, seqM, treeV, startD, endV, bodyF, bodyI, startI, ioAt, slM, partM, bors, callL, callI, callO, DL.flatV, DL.flat, List.filterMap_cons, List.filterMap_nil, List.map_cons, List.map_nil, List.getElem?_cons_zero, List.getElem?_cons_succ, List.getElem?_nil, List.set_cons_zero, List.set_cons_succ, List.cons_append, List.nil_append, List.length_cons, List.length_nil, Option.bind_some, Option.bind_none, Option.map_some, Option.map_none, Nat.reduceSub, Nat.reduceAdd, List.replicate_succ, List.replicate_zero, Bool.not_true, Bool.not_false, if_true, if_false, Bool.false_eq_true, reduceIte, decide_true, decide_false, Nat.reduceLT, Nat.reduceLeDiff, reduceCtorEq, Option.some.injEq, Prod.mk.injEq, e]
    · rw [hp, List.take_succ, hk, List.map_append]
      rfl)
  rw [List.take_of_length_le (Nat.le_refl _)] at q
  exact ⟨r, by rw [e, q]⟩
end K13
end
section
set_option maxRecDepth 100000
set_option exponentiation.threshold 100000
set_option maxHeartbeats 4000000
namespace K13
open PySem PySem.Spec L2 DL
open PL (cf Nz Bd Rem Qt vl rs)
/-- a step of the walk -/
theorem b2_ev {R il fd lowd : D} {Ls rest : List D} {past sg sg' k h k2 p : Int} {l5 : Option (List Int)} {x4 x4' x7 : Option D} (hl : lendM 1 g__law_determinant_c2 [.dat R, .own false (.list Ls), .dat (.int past), .dat (.int sg), rw' x4, ow' l5, .un, rw' x7, .un, .un, .un] = some (.ow il, [.dat R, .own false (.list Ls), .dat (.int past), .dat (.int sg), rw' x4, ow' l5, .un, rw' x7, .un, .un, .un]))
    (n1 : eqD il (.list []) = some (.fz (.bool false))) (i0 : ixD il (.int 0) = some (.fz (.int k))) (hp : popAtL Ls [.int k] = some (fd, rest)) (e3 : fdivD (.int k) (.int 2) = some (.fz (.int h))) (e4 : mulD (.int h) (.int 2) = some (.fz (.int k2))) (hs : (if k2 = k then sg else 0 - sg) = sg')
    (hf : g__law_determinant_f1 [.dat R, .dat (.list rest), .dat (.int past), .dat (.int sg'), rw' x4, .own false il, .un, .dat fd, .own false (.list []), .un, .un] = some (.nx, [.dat R, .dat (.list rest), .dat (.int past), .dat (.int sg'), rw' x4', .own false il, .un, .dat fd, .own false lowd, .un, .un])) (i7 : ixD fd (.int 0) = some (.fz (.int p))) :
    g__law_determinant_b2 [.dat R, .own false (.list Ls), .dat (.int past), .dat (.int sg), rw' x4, ow' l5, .un, rw' x7, .un, .un, .un] = some (.nx, [.dat R, .own false lowd, .dat (.int p), .dat (.int sg'), rw' x4', .own false il, .un, .dat fd, .un, .un, .un]) := by
  by_cases hk : k2 = k
  · rw [if_pos hk] at hs
    subst hs
    cases x4 <;> cases l5 <;> cases x7 <;> cases x4' <;> simp only [ow', rw'] at hl hf ⊢ <;> simp only [g__law_determinant_b2, movP, mb, mr, mo, nameM, conM, binM, unM, boolM, ifM, DL.andM, DL.orM, DL.notM, andV, orV, notV, chainM, nilA, consA, dvs, dv, ownAt, fzs, lstM, tupM, callM, callP, permL, fzv, seqS, skipS, ifS, setS, asg, fr_z_un, fr_z_dat, fr_z_rw, fr_z_own, fr_s, turnF, retS, retV, dropS, frz, frzS, asgS, nilG, consG, tupG, subG, listAt, methM, augS, augSubS, forS, seqM, treeV, startD, endV, bodyF, bodyI, startI, ioAt, slM, partM, bors, callL, callI, callO, DL.flatV, DL.flat, List.filterMap_cons, List.filterMap_nil, List.map_cons, List.map_nil, List.getElem?_cons_zero, List.getElem?_cons_succ, List.getElem?_nil, List.set_cons_zero, List.set_cons_succ, List.cons_append, List.nil_append, List.length_cons, List.length_nil, Option.bind_some, Option.bind_none, Option.map_some, Option.map_none, Nat.reduceSub, Nat.reduceAdd, List.replicate_succ, List.replicate_zero, Bool.not_true, Bool.not_false, if_true, if_false, Bool.false_eq_true, reduceIte, decide_true, decide_false, Nat.reduceLT, Nat.reduceLeDiff, reduceCtorEq, Option.some.injEq, Prod.mk.injEq, hl, szOk0, n1, i0, hp, e3, e4, eqD_int, decide_eq_true hk, hf, i7]
  · rw [if_neg hk] at hs
    subst hs
    cases x4 <;> cases l5 <;> cases x7 <;> cases x4' <;> simp only [ow', rw'] at hl hf ⊢ <;> simp only [g__law_determinant_b2, movP, mb, mr, mo, nameM, conM, binM, unM, boolM, ifM, DL.andM, DL.orM, DL.notM, andV, orV, notV, chainM, nilA, consA, dvs, dv, ownAt, fzs, lstM, tupM, callM, callP, permL, fzv, seqS, skipS, ifS, setS, asg, fr_z_un, fr_z_dat, fr_z_rw, fr_z_own, fr_s, turnF, retS, retV, dropS, frz, frzS, asgS, nilG, consG, tupG, subG, listAt, methM, augS, augSubS, forS, seqM, treeV, startD, endV, bodyF, bodyI, startI, ioAt, slM, partM, bors, callL, callI, callO, DL.flatV, DL.flat, List.filterMap_cons, List.filterMap_nil, List.map_cons, List.map_nil, List.getElem?_cons_zero, List.getElem?_cons_succ, List.getElem?_nil, List.set_cons_zero, List.set_cons_succ, List.cons_append, List.nil_append, List.length_cons, List.length_nil, Option.bind_some, Option.bind_none, Option.map_some, Option.map_none, Nat.reduceSub, Nat.reduceAdd, List.replicate_succ, List.replicate_zero, Bool.not_true, Bool.not_false, if_true, if_false, Bool.false_eq_true, reduceIte, decide_true, decide_false, Nat.reduceLT, Nat.reduceLeDiff, reduceCtorEq, Option.some.injEq, Prod.mk.injEq, hl, szOk0, n1, i0, hp, e3, e4, eqD_int, decide_eq_false hk, hf, i7, subI, intB]
end K13
end
section
set_option maxRecDepth 100000
set_option exponentiation.threshold 100000
set_option maxHeartbeats 4000000
namespace K13
open PySem PySem.Spec L2 DL
open PL (cf Nz Bd Rem Qt vl rs)
theorem split_head : ∀ L : List (List Int), (∀ r ∈ L, cf r 0 = 0) ∨ ∃ q f s, L = q ++ f :: s ∧ (∀ r ∈ q, cf r 0 = 0) ∧ cf f 0 ≠ 0
  | [] => .inl (by simp)
  | r :: L => by
    by_cases h : cf r 0 = 0
    · rcases split_head L with h2 | ⟨q, f, s, rfl, h3, h4⟩
      · left
        intro x hx
        rcases List.mem_cons.mp hx with rfl | hx
        · exact h
        · exact h2 x hx
      · refine .inr ⟨r :: q, f, s, rfl, fun x hx => ?_, h4⟩
        rcases List.mem_cons.mp hx with rfl | hx
        · exact h
        · exact h3 x hx
    · exact .inr ⟨[], r, L, rfl, by simp, h⟩
theorem filt_none {k : Nat} : ∀ {L : List (List Int)}, (∀ r ∈ L, cf r 0 = 0) → (L.zipIdx k).filter (fun p => !decide (cf p.1 0 = 0)) = [] := fun {L} h => by
  rw [List.filter_eq_nil_iff]
  intro p hp
  have := List.mem_zipIdx hp
  have : p.1 ∈ L := by rw [this.2.2]; exact List.getElem_mem _
  simp [h p.1 this]
theorem idx_none {L : List (List Int)} (h : ∀ r ∈ L, cf r 0 = 0) : idx L = [] := by
  unfold idx
  rw [filt_none h]
  rfl
theorem idx_some {q s : List (List Int)} {f : List Int} (h : ∀ r ∈ q, cf r 0 = 0) (hf : cf f 0 ≠ 0) : ∃ rest, idx (q ++ f :: s) = ((q.length : Nat) : Int) :: rest := by
  unfold idx
  rw [List.zipIdx_append, List.filter_append, filt_none h, List.nil_append, List.zipIdx_cons, List.filter_cons_of_pos (by simp [hf]), List.map_cons, Nat.zero_add]
  exact ⟨_, rfl⟩
theorem pop_at {q s : List D} {f : D} (hz : q.length ≤ 400) : popAtL (q ++ f :: s) [.int (q.length : Nat)] = some (f, q ++ s) := by
  have h1 : ixOk ((q.length : Nat) : Int) = true := by unfold ixOk; simp; omega
  have h2 : seqIndex? ((q.length : Nat) : Int) (q ++ f :: s).length = some q.length := by
    unfold seqIndex?
    simp
    omega
  unfold popAtL
  simp only [h1, if_true, h2, Option.bind_some, List.getElem?_append_right (Nat.le_refl _), Nat.sub_self, List.getElem?_cons_zero]
  rw [List.eraseIdx_append_of_length_le (Nat.le_refl _), Nat.sub_self]
  rfl
end K13
end
section
set_option maxRecDepth 100000
set_option exponentiation.threshold 100000
set_option maxHeartbeats 4000000
namespace K13
open PySem PySem.Spec L2 DL
open PL (cf Nz Bd Rem Qt vl rs Bar Bnd)
abbrev frd (R L : D) (past sg : Int) (x4 : Option D) (l5 : Option (List Int)) (x7 : Option D) : DS := [.dat R, .own false L, .dat (.int past), .dat (.int sg), rw' x4, ow' l5, .un, rw' x7, .un, .un, .un]
theorem dt_t {R : D} {Ls : List D} {past sg k : Int} {x4 x7 : Option D} {l5 : Option (List Int)} (h : lenD [.list Ls] = some (.fz (.int k))) : g__law_determinant_t1 (frd R (.list Ls) past sg x4 l5 x7) = some (decide (0 < k), frd R (.list Ls) past sg x4 l5 x7) := by
  simp only [g__law_determinant_t1, frd, mb, mr, mo, nameM, conM, binM, unM, boolM, ifM, DL.andM, DL.orM, DL.notM, andV, orV, notV, chainM, nilA, consA, dvs, dv, ownAt, fzs, lstM, tupM, callM, callP, permL, fzv, seqS, skipS, ifS, setS, asg, fr_z_un, fr_z_dat, fr_z_rw, fr_z_own, fr_s, turnF, retS, retV, dropS, frz, frzS, asgS, nilG, consG, tupG, subG, listAt, methM, augS, augSubS, forS, seqM, treeV, startD, endV, bodyF, bodyI, startI, ioAt, slM, partM, bors, callL, callI, callO, DL.flatV, DL.flat, List.filterMap_cons, List.filterMap_nil, List.map_cons, List.map_nil, List.getElem?_cons_zero, List.getElem?_cons_succ, List.getElem?_nil, List.set_cons_zero, List.set_cons_succ, List.cons_append, List.nil_append, List.length_cons, List.length_nil, Option.bind_some, Option.bind_none, Option.map_some, Option.map_none, Nat.reduceSub, Nat.reduceAdd, List.replicate_succ, List.replicate_zero, Bool.not_true, Bool.not_false, if_true, if_false, Bool.false_eq_true, reduceIte, decide_true, decide_false, Nat.reduceLT, Nat.reduceLeDiff, reduceCtorEq, Option.some.injEq, Prod.mk.injEq, h, gtI, intB]
theorem low_len {past : Int} {f u : List Int} {n : Nat} (hf : f.length = n + 1) (hu : u.length = n + 1) : (lowL past f u).length = n := by
  unfold lowL
  rw [List.length_map, List.length_zip, List.length_tail, List.length_tail, hf, hu]
  omega
theorem det_w (R : D) (d0 : Int) {W : Nat} (hW : W < 2 ^ 8000) (hW1 : 1 ≤ W) : ∀ (n : Nat) (L : List (List Int)) (past sg : Int) (x4 x7 : Option D) (l5 : Option (List Int)), n ≤ 400 → L.length = n → (∀ r ∈ L, r.length = n) → Bar d0 (L.map cf) past sg → Bnd n W (L.map cf) past → past.natAbs ≤ W → sg.natAbs ≤ 1 → ∀ N, n < N →
    (∃ δ, whileN g__law_determinant_t1 g__law_determinant_b2 N (frd R (.list (L.map IL)) past sg x4 l5 x7) = some (.rt (.fz (.int 0)), δ) ∧ d0 = 0) ∨
    (∃ past' sg' y4 y7 m5, whileN g__law_determinant_t1 g__law_determinant_b2 N (frd R (.list (L.map IL)) past sg x4 l5 x7) = some (.nx, frd R (.list []) past' sg' y4 m5 y7) ∧ sg' * past' = d0 ∧ past'.natAbs ≤ W ∧ sg'.natAbs ≤ 1)
  | 0, L, past, sg, x4, x7, l5, _, hl, _, hb, _, hp, hs, N, hN => by
    obtain ⟨N, rfl⟩ : ∃ N', N = N' + 1 := ⟨N - 1, by omega⟩
    have : L = [] := List.length_eq_zero_iff.mp hl
    subst this
    have ht := dt_t (R := R) (Ls := []) (past := past) (sg := sg) (x4 := x4) (x7 := x7) (l5 := l5) (k := 0) rfl
    exact .inr ⟨past, sg, x4, x7, l5, by simp only [List.map_nil, whileN, ht, show decide ((0 : Int) < 0) = false from rfl], hb.now rfl, hp, hs⟩
  | n + 1, L, past, sg, x4, x7, l5, h4, hl, hr, hb, hbd, hp, hs, N, hN => by
    obtain ⟨N, rfl⟩ : ∃ N', N = N' + 1 := ⟨N - 1, by omega⟩
    have ht : g__law_determinant_t1 (frd R (.list (L.map IL)) past sg x4 l5 x7) = some (true, frd R (.list (L.map IL)) past sg x4 l5 x7) := by
      rw [dt_t (k := ((n + 1 : Nat) : Int)) (by show some (Val.fz (.int ((L.map IL).length : Nat))) = _; rw [List.length_map, hl]), decide_eq_true (by omega)]
    have hne : ∀ r ∈ L, r ≠ [] := fun r hr' z => by
      have := hr r hr'
      rw [z] at this
      simp at this
    have hlend := c2_lend (R := R) (past := .int past) (sg := .int sg) (L := L) (l5 := l5) (x4 := x4) (x7 := x7) hne (by omega)
    rcases split_head L with h0 | ⟨q, f, s, rfl, hq, hf⟩
    · rw [idx_none h0] at hlend
      obtain ⟨δ, e⟩ := det_nil hlend
      refine .inl ⟨δ, by simp only [whileN, ht, e], ?_⟩
      exact hb.none (fun z => by
        have := congrArg List.length z
        rw [List.length_map, hl] at this
        simp at this) (fun u hu => by
        obtain ⟨r, hr', rfl⟩ := List.mem_map.mp hu
        exact h0 r hr')
    · obtain ⟨rest, hi⟩ := idx_some (s := s) hq hf
      rw [hi] at hlend
      have fm : f ∈ q ++ f :: s := by simp
      have hMm : ∀ u ∈ q ++ s, u ∈ q ++ f :: s := fun u hu => by
        rcases List.mem_append.mp hu with hu | hu <;> simp [hu]
      have lq : q.length + s.length = n := by simp at hl; omega
      have item : ∀ u ∈ q ++ f :: s, ∀ y ∈ u, y.natAbs < 2 ^ 8000 := fun u hu y hy => by
        obtain ⟨j, hj, rfl⟩ := List.getElem_of_mem hy
        have := hbd.item (List.mem_map_of_mem hu) j
        rw [PL.cf_get, List.getD_eq_getElem?_getD, List.getElem?_eq_getElem hj] at this
        exact Nat.lt_of_le_of_lt this hW
      have n1 : eqD (IL (((q.length : Nat) : Int) :: rest)) (.list []) = some (.fz (.bool false)) := eqD_nil (shaped_IL _)
      have i0 : ixD (IL (((q.length : Nat) : Int) :: rest)) (.int 0) = some (.fz (.int (q.length : Nat))) := ix_0 (by simp)
      have hpop : popAtL ((q ++ f :: s).map IL) [.int (q.length : Nat)] = some (IL f, (q ++ s).map IL) := by
        rw [List.map_append, List.map_cons, List.map_append]
        have := pop_at (q := q.map IL) (s := s.map IL) (f := IL f) (by rw [List.length_map]; omega)
        rwa [List.length_map] at this
      have e3 : fdivD (.int ((q.length : Nat) : Int)) (.int 2) = some (.fz (.int (((q.length : Nat) : Int).fdiv 2))) := fdivD_big (by decide) (by decide)
      have e4 : mulD (.int (((q.length : Nat) : Int).fdiv 2)) (.int 2) = some (.fz (.int (((q.length : Nat) : Int).fdiv 2 * 2))) := by
        have := Int.natAbs_fdiv_le_natAbs ((q.length : Nat) : Int) 2
        rw [Int.natAbs_natCast] at this
        exact mulD_lt (Nat.lt_of_le_of_lt (Nat.le_trans this (show q.length ≤ 400 by omega)) (by decide)) (by decide)
      obtain ⟨y4, hf1⟩ := f1_ev (R := R) (sg := .int (if ((q.length : Nat) : Int).fdiv 2 * 2 = (q.length : Nat) then sg else 0 - sg)) (past := past) (f := f) (M := q ++ s) (x4 := x4) (s5 := .own false (IL (((q.length : Nat) : Int) :: rest))) (s6 := .un) hb.ne (Nat.lt_of_le_of_lt hp hW) (hne f fm) (by rw [hr f fm]; omega) (item f fm) (fun u hu => ⟨hne u (hMm u hu), item u (hMm u hu)⟩) (by rw [List.length_append]; omega)
      have hb2 := b2_ev hlend n1 i0 hpop e3 e4 rfl hf1 (ix_0 (hne f fm))
      have hsg : (if ((q.length : Nat) : Int).fdiv 2 * 2 = (q.length : Nat) then sg else 0 - sg) = sg * (-1) ^ q.length := by
        rw [sgn_pow]
        have := odd_int q.length
        by_cases ho : q.length % 2 = 1
        · rw [if_pos ho, if_neg (fun z => by have := this.mpr ho; omega)]
          omega
        · rw [if_neg ho, if_pos ?_]
          · omega
          · rw [Int.fdiv_eq_ediv_of_nonneg _ (by decide)]
            omega
      have hcf : ((q ++ s).map (lowL past f)).map cf = ((q ++ s).map cf).map (PL.low2 past (cf f)) := by
        rw [List.map_map, List.map_map]
        apply PL.map_eq
        intro u hu
        exact cf_low (by rw [hr u (hMm u hu), hr f fm])
      have hcm : (q ++ f :: s).map cf = q.map cf ++ cf f :: s.map cf := by rw [List.map_append, List.map_cons]
      have hB : Bar d0 (((q ++ s).map (lowL past f)).map cf) (cf f 0) (sg * (-1) ^ q.length) := by
        rw [hcf, List.map_append]
        rw [hcm] at hb
        have := hb.step hf
        rwa [List.length_map] at this
      have hBd : Bnd n W (((q ++ s).map (lowL past f)).map cf) (cf f 0) := by
        rw [hcf]
        exact Bnd.step hb.ne hb.dv hbd (List.mem_map_of_mem fm) hf (fun u hu => by
          obtain ⟨r, hr', rfl⟩ := List.mem_map.mp hu
          exact List.mem_map_of_mem (hMm r hr'))
      rw [hsg] at hb2
      have ih := det_w R d0 hW hW1 n ((q ++ s).map (lowL past f)) (cf f 0) (sg * (-1) ^ q.length) y4 (some (IL f)) (some (((q.length : Nat) : Int) :: rest)) (by omega) (by rw [List.length_map, List.length_append]; omega) (fun r hr' => by
        obtain ⟨u, hu, rfl⟩ := List.mem_map.mp hr'
        exact low_len (hr f fm) (hr u (hMm u hu))) hB hBd (hbd.item (List.mem_map_of_mem fm) 0) (by rw [Int.natAbs_mul, pow_abs, show (-1 : Int).natAbs = 1 from rfl, Nat.one_pow, Nat.mul_one]; exact hs) N (by omega)
      have hw : whileN g__law_determinant_t1 g__law_determinant_b2 (N + 1) (frd R (.list ((q ++ f :: s).map IL)) past sg x4 l5 x7) = whileN g__law_determinant_t1 g__law_determinant_b2 N (frd R (.list (((q ++ s).map (lowL past f)).map IL)) (cf f 0) (sg * (-1) ^ q.length) y4 (some (((q.length : Nat) : Int) :: rest)) (some (IL f))) := by
        have hb2 : g__law_determinant_b2 (frd R (.list ((q ++ f :: s).map IL)) past sg x4 l5 x7) = some (.nx, frd R (.list (((q ++ s).map (lowL past f)).map IL)) (cf f 0) (sg * (-1) ^ q.length) y4 (some (((q.length : Nat) : Int) :: rest)) (some (IL f))) := hb2
        simp only [whileN, ht, hb2]
      rw [hw]
      exact ih
end K13
end
section
set_option maxRecDepth 100000
set_option exponentiation.threshold 100000
set_option maxHeartbeats 4000000
namespace K13
open PySem PySem.Spec L2 DL
open PL (cf Nz Bd Rem Qt vl rs Bar Bnd)
theorem dn_c1 {L : List (List Int)} (hz : L.length ≤ 400) : g__law_determinant_c1 [.dat (.list (L.map IL)), .un, .un, .un, .un, .un, .un, .un, .un, .un, .un] = some (.ow (.list (L.map IL)), [.dat (.list (L.map IL)), .un, .un, .un, .un, .un, .un, .un, .un, .un, .un]) := by
  unfold g__law_determinant_c1
  refine comp_one (t := 4) L IL IL (by simp only [mb, mr, mo, nameM, conM, binM, unM, boolM, ifM, DL.andM, DL.orM, DL.notM, andV, orV, notV, chainM, nilA, consA, dvs, dv, ownAt, fzs, lstM, tupM, callM, callP, permL, fzv, seqS, skipS, ifS, setS, asg, fr_z_un, fr_z_dat, fr_z_rw, fr_z_own, fr_s, turnF, retS, retV, dropS, frz, frzS, asgS, nilG, consG, tupG, subG, listAt, methM, augS, augSubS, forS, seqM, treeV, startD, endV, bodyF, bodyI, startI, ioAt, slM, partM, bors, callL, callI, callO, DL.flatV, DL.flat, List.filterMap_cons, List.filterMap_nil, List.map_cons, List.map_nil, List.getElem?_cons_zero, List.getElem?_cons_succ, List.getElem?_nil, List.set_cons_zero, List.set_cons_succ, List.cons_append, List.nil_append, List.length_cons, List.length_nil, Option.bind_some, Option.bind_none, Option.map_some, Option.map_none, Nat.reduceSub, Nat.reduceAdd, List.replicate_succ, List.replicate_zero, Bool.not_true, Bool.not_false, if_true, if_false, Bool.false_eq_true, reduceIte, decide_true, decide_false, Nat.reduceLT, Nat.reduceLeDiff, reduceCtorEq, Option.some.injEq, Prod.mk.injEq, itemsOf]) rfl (by omega) fun u hu => ⟨.ow (IL u), ?_, rfl⟩
  have h : listD [IL u] = some (.ow (IL u)) := listD_seq rfl
  generalize IL u = iu at h ⊢
  simp only [mb, mr, mo, nameM, conM, binM, unM, boolM, ifM, DL.andM, DL.orM, DL.notM, andV, orV, notV, chainM, nilA, consA, dvs, dv, ownAt, fzs, lstM, tupM, callM, callP, permL, fzv, seqS, skipS, ifS, setS, asg, fr_z_un, fr_z_dat, fr_z_rw, fr_z_own, fr_s, turnF, retS, retV, dropS, frz, frzS, asgS, nilG, consG, tupG, subG, listAt, methM, augS, augSubS, forS, seqM, treeV, startD, endV, bodyF, bodyI, startI, ioAt, slM, partM, bors, callL, callI, callO, DL.flatV, DL.flat, List.filterMap_cons, List.filterMap_nil, List.map_cons, List.map_nil, List.getElem?_cons_zero, List.getElem?_cons_succ, List.getElem?_nil, List.set_cons_zero, List.set_cons_succ, List.cons_append, List.nil_append, List.length_cons, List.length_nil, Option.bind_some, Option.bind_none, Option.map_some, Option.map_none, Nat.reduceSub, Nat.reduceAdd, List.replicate_succ, List.replicate_zero, Bool.not_true, Bool.not_false, if_true, if_false, Bool.false_eq_true, reduceIte, decide_true, decide_false, Nat.reduceLT, Nat.reduceLeDiff, reduceCtorEq, Option.some.injEq, Prod.mk.injEq, h]
theorem dn_ev0 {R L : D} {δ : DS} (c : g__law_determinant_c1 [.dat R, .un, .un, .un, .un, .un, .un, .un, .un, .un, .un] = some (.ow L, [.dat R, .un, .un, .un, .un, .un, .un, .un, .un, .un, .un])) (hw : g__law_determinant_w1 (frd R L 1 1 none none none) = some (.rt (.fz (.int 0)), δ)) : m__law_determinant [R] = some (.fz (.int 0)) := by
  simp only [frd, rw', ow'] at hw
  simp only [m__law_determinant, g__law_determinant, g__law_determinant_s1, g__law_determinant_s2, par3C, mb, mr, mo, nameM, conM, binM, unM, boolM, ifM, DL.andM, DL.orM, DL.notM, andV, orV, notV, chainM, nilA, consA, dvs, dv, ownAt, fzs, lstM, tupM, callM, callP, permL, fzv, seqS, skipS, ifS, setS, asg, freeAt, retS, retV, dropS, frz, frzS, asgS, nilG, consG, tupG, subG, listAt, methM, augS, augSubS, forS, seqM, treeV, startD, endV, bodyF, bodyI, startI, ioAt, slM, partM, bors, callL, callI, callO, DL.flatV, DL.flat, List.filterMap_cons, List.filterMap_nil, List.map_cons, List.map_nil, List.getElem?_cons_zero, List.getElem?_cons_succ, List.getElem?_nil, List.set_cons_zero, List.set_cons_succ, List.cons_append, List.nil_append, List.length_cons, List.length_nil, Option.bind_some, Option.bind_none, Option.map_some, Option.map_none, Nat.reduceSub, Nat.reduceAdd, List.replicate_succ, List.replicate_zero, Bool.not_true, Bool.not_false, if_true, if_false, Bool.false_eq_true, reduceIte, decide_true, decide_false, Nat.reduceLT, Nat.reduceLeDiff, reduceCtorEq, Option.some.injEq, Prod.mk.injEq, c, hw]
theorem dn_ev1 {R L Le : D} {p s v : Int} {y4 y7 : Option D} {m5 : Option (List Int)} (c : g__law_determinant_c1 [.dat R, .un, .un, .un, .un, .un, .un, .un, .un, .un, .un] = some (.ow L, [.dat R, .un, .un, .un, .un, .un, .un, .un, .un, .un, .un])) (hw : g__law_determinant_w1 (frd R L 1 1 none none none) = some (.nx, frd R Le p s y4 m5 y7)) (hm : mulD (.int s) (.int p) = some (.fz (.int v))) : m__law_determinant [R] = some (.fz (.int v)) := by
  simp only [frd, rw', ow'] at hw
  simp only [m__law_determinant, g__law_determinant, g__law_determinant_s1, g__law_determinant_s2, par3C, mb, mr, mo, nameM, conM, binM, unM, boolM, ifM, DL.andM, DL.orM, DL.notM, andV, orV, notV, chainM, nilA, consA, dvs, dv, ownAt, fzs, lstM, tupM, callM, callP, permL, fzv, seqS, skipS, ifS, setS, asg, freeAt, retS, retV, dropS, frz, frzS, asgS, nilG, consG, tupG, subG, listAt, methM, augS, augSubS, forS, seqM, treeV, startD, endV, bodyF, bodyI, startI, ioAt, slM, partM, bors, callL, callI, callO, DL.flatV, DL.flat, List.filterMap_cons, List.filterMap_nil, List.map_cons, List.map_nil, List.getElem?_cons_zero, List.getElem?_cons_succ, List.getElem?_nil, List.set_cons_zero, List.set_cons_succ, List.cons_append, List.nil_append, List.length_cons, List.length_nil, Option.bind_some, Option.bind_none, Option.map_some, Option.map_none, Nat.reduceSub, Nat.reduceAdd, List.replicate_succ, List.replicate_zero, Bool.not_true, Bool.not_false, if_true, if_false, Bool.false_eq_true, reduceIte, decide_true, decide_false, Nat.reduceLT, Nat.reduceLeDiff, reduceCtorEq, Option.some.injEq, Prod.mk.injEq, c, hw, hm]
/-- the law's own determinant -/
theorem r_det {L : List (List Int)} {M : Nat} (hM : 1 ≤ M) (hz : L.length ≤ 400) (hr : ∀ r ∈ L, r.length = L.length) (hb : ∀ r ∈ L, ∀ y ∈ r, y.natAbs ≤ M) (hW : PL.fact L.length * M ^ L.length < 2 ^ 8000) : m__law_determinant [.list (L.map IL)] = some (.fz (.int (PL.det L.length (L.map cf)))) := by
  have hW1 : 1 ≤ PL.fact L.length * M ^ L.length := Nat.mul_pos (PL.fact_pos _) (Nat.pow_pos hM)
  have bar := Bar.start (L.map cf)
  rw [List.length_map] at bar
  have bnd := Bnd.one (K := L.length) hM (R := L.map cf) (fun u hu j => by
    obtain ⟨r, hr', rfl⟩ := List.mem_map.mp hu
    exact PL.bd_mem (hb r hr') j)
  have h := det_w (.list (L.map IL)) _ hW hW1 L.length L 1 1 none none none hz rfl hr bar bnd hW1 (by decide) fuel (by show _ < 1000000000; omega)
  rcases h with ⟨δ, h1, h2⟩ | ⟨p, s, y4, y7, m5, h1, h2, h3, h4⟩
  · rw [h2]
    exact dn_ev0 (dn_c1 hz) h1
  · rw [← h2]
    exact dn_ev1 (dn_c1 hz) h1 (mulD_big (Nat.lt_of_le_of_lt h4 (by decide)) (Nat.lt_of_le_of_lt h3 hW))
end K13
end
section
set_option maxRecDepth 100000
set_option exponentiation.threshold 100000
set_option maxHeartbeats 4000000
namespace K13
open PySem PySem.Spec L2 DL
open PL (cf Nz Bd Rem Qt vl rs Ch Sf Eu ml Gc Dv)
theorem dv_due {g p s : List Int} (np : Nz p) (ng : Nz g) (ns : Nz s) (h : Dv g (pln p)) : Dv (pln (ml g s)) (ml p s) := by
  obtain ⟨n, n0, k, nk, e⟩ := h
  obtain ⟨c, c0, ec⟩ := PL.S_pln np
  obtain ⟨d, d0, ed⟩ := PL.S_pln (PL.nz_ml ng ns)
  refine ⟨n, n0, k.map (c * d * ·), PL.nz_sc (Int.mul_ne_zero c0 d0) nk, ?_⟩
  rw [PL.S_ml] at ed
  rw [PL.S_ml, PL.S_sc, SR.con_times]
  grind
theorem gc_of {p q s g : List Int} (np : Nz p) (nq : Nz q) (ns : Nz s) (p0 : p ≠ []) (s0 : s ≠ []) (h : Eu (pln p) (pln q) g) : Gc (ml p s) (ml q s) (pln (ml g s)) := by
  have ng := h.nz (DL.pln_nz np)
  have hd := h.dv
  have g0 : g ≠ [] := fun z => by
    obtain ⟨n, n0, k, nk, e⟩ := hd.1
    rw [z, PL.S_nil] at e
    have : (pln p).map (n * ·) = [] := PL.S_inj (PL.nz_sc n0 (DL.pln_nz np)) PL.nz_nil (by rw [PL.S_sc, e, PL.S_nil]; grind)
    exact DL.pln_ne p0 (List.map_eq_nil_iff.mp this)
  obtain ⟨n, n0, u, v, nu, nv, e⟩ := h.bez
  obtain ⟨c, c0, ec⟩ := PL.S_pln np
  obtain ⟨c', c0', ec'⟩ := PL.S_pln nq
  obtain ⟨d, d0, ed⟩ := PL.S_pln (PL.nz_ml ng ns)
  refine ⟨DL.pln_nz (PL.nz_ml ng ns), DL.pln_ne (PL.ml_ne g0 s0), dv_due np ng ns hd.1, dv_due nq ng ns hd.2, n * d * c * c', Int.mul_ne_zero (Int.mul_ne_zero (Int.mul_ne_zero n0 d0) c0) c0', u.map (c' * ·), v.map (c * ·), PL.nz_sc c0' nu, PL.nz_sc c0 nv, ?_⟩
  rw [PL.S_ml] at ed
  rw [PL.S_ml, PL.S_ml, PL.S_sc, PL.S_sc, SR.con_times, SR.con_times, SR.con_times]
  have e3 : SR.con n * PL.S g * PL.S s = (PL.S u * PL.S (pln p) + PL.S v * PL.S (pln q)) * PL.S s := by rw [e]
  grind
end K13
end
section
set_option maxRecDepth 100000
set_option exponentiation.threshold 100000
set_option maxHeartbeats 4000000
namespace K13
open PySem PySem.Spec L2 DL
open PL (cf Nz Bd Rem Qt vl rs Ch Sf Eu ml Gc Dv)
theorem ev_common {d e a b g : D} (h : m_two_lines [d, e] = some (.fz (.tuple [a, b]))) (h2 : m_common_of [a, b] = some (.fz g)) : m_line_common [d, e] = some (.fz g) := by
  simp only [m_line_common, g_line_common, g_line_common_s1, g_line_common_s2, mb, mr, mo, nameM, conM, binM, unM, boolM, ifM, DL.andM, DL.orM, DL.notM, andV, orV, notV, chainM, nilA, consA, dvs, dv, ownAt, fzs, lstM, tupM, callM, callP, permL, fzv, seqS, skipS, ifS, setS, asg, freeAt, retS, retV, dropS, frz, frzS, asgS, nilG, consG, tupG, subG, listAt, methM, augS, augSubS, forS, seqM, treeV, startD, endV, bodyF, bodyI, startI, ioAt, slM, partM, bors, callL, callI, callO, DL.flatV, DL.flat, List.filterMap_cons, List.filterMap_nil, List.map_cons, List.map_nil, List.getElem?_cons_zero, List.getElem?_cons_succ, List.getElem?_nil, List.set_cons_zero, List.set_cons_succ, List.cons_append, List.nil_append, List.length_cons, List.length_nil, Option.bind_some, Option.bind_none, Option.map_some, Option.map_none, Nat.reduceSub, Nat.reduceAdd, List.replicate_succ, List.replicate_zero, Bool.not_true, Bool.not_false, if_true, if_false, Bool.false_eq_true, reduceIte, decide_true, decide_false, Nat.reduceLT, Nat.reduceLeDiff, reduceCtorEq, Option.some.injEq, Prod.mk.injEq, h, itemsOf, h2]
theorem pr_ev {a b tb ta g : D} {v w ka kb da db k h k2 kg : Int} (h1 : m_resultant [a, b] = some (.fz (.int v))) (h2 : m__law_table [a, b] = some (.ow tb)) (h3 : m__law_determinant [tb] = some (.fz (.int v))) (h4 : tupleD [b] = some (.fz ta)) (h5 : m_resultant [a, ta] = some (.fz (.int v))) (la : lenD [a] = some (.fz (.int ka))) (lb : lenD [b] = some (.fz (.int kb)))
    (e1 : ka - 1 = da) (e2 : kb - 1 = db) (e3 : mulD (.int da) (.int db) = some (.fz (.int k))) (e4 : fdivD (.int k) (.int 2) = some (.fz (.int h))) (e5 : mulD (.int h) (.int 2) = some (.fz (.int k2))) (e6 : (if k2 = k then v else 0 - v) = w) (h6 : m_resultant [b, a] = some (.fz (.int w))) (h7 : m_line_common [a, b] = some (.fz g)) (lg : lenD [g] = some (.fz (.int kg))) (hq : eqD (.bool (decide (v = 0))) (.bool (decide (1 < kg))) = some (.fz (.bool true))) :
    m__law_pair_right [a, b] = some (.fz (.bool true)) := by
  by_cases hk : k2 = k
  · rw [if_pos hk] at e6
    subst e6
    simp only [m__law_pair_right, g__law_pair_right, g__law_pair_right_s1, g__law_pair_right_s2, g__law_pair_right_s3, g__law_pair_right_s4, g__law_pair_right_s5, mb, mr, mo, nameM, conM, binM, unM, boolM, ifM, DL.andM, DL.orM, DL.notM, andV, orV, notV, chainM, nilA, consA, dvs, dv, ownAt, fzs, lstM, tupM, callM, callP, permL, fzv, seqS, skipS, ifS, setS, asg, freeAt, retS, retV, dropS, frz, frzS, asgS, nilG, consG, tupG, subG, listAt, methM, augS, augSubS, forS, seqM, treeV, startD, endV, bodyF, bodyI, startI, ioAt, slM, partM, bors, callL, callI, callO, DL.flatV, DL.flat, List.filterMap_cons, List.filterMap_nil, List.map_cons, List.map_nil, List.getElem?_cons_zero, List.getElem?_cons_succ, List.getElem?_nil, List.set_cons_zero, List.set_cons_succ, List.cons_append, List.nil_append, List.length_cons, List.length_nil, Option.bind_some, Option.bind_none, Option.map_some, Option.map_none, Nat.reduceSub, Nat.reduceAdd, List.replicate_succ, List.replicate_zero, Bool.not_true, Bool.not_false, if_true, if_false, Bool.false_eq_true, reduceIte, decide_true, decide_false, Nat.reduceLT, Nat.reduceLeDiff, reduceCtorEq, Option.some.injEq, Prod.mk.injEq, h1, h2, h3, neD_int, h4, h5, la, lb, subI, intB, e1, e2, e3, e4, e5, eqD_int, decide_eq_true hk, h6, h7, lg, gtI, hq]
  · rw [if_neg hk] at e6
    subst e6
    simp only [m__law_pair_right, g__law_pair_right, g__law_pair_right_s1, g__law_pair_right_s2, g__law_pair_right_s3, g__law_pair_right_s4, g__law_pair_right_s5, mb, mr, mo, nameM, conM, binM, unM, boolM, ifM, DL.andM, DL.orM, DL.notM, andV, orV, notV, chainM, nilA, consA, dvs, dv, ownAt, fzs, lstM, tupM, callM, callP, permL, fzv, seqS, skipS, ifS, setS, asg, freeAt, retS, retV, dropS, frz, frzS, asgS, nilG, consG, tupG, subG, listAt, methM, augS, augSubS, forS, seqM, treeV, startD, endV, bodyF, bodyI, startI, ioAt, slM, partM, bors, callL, callI, callO, DL.flatV, DL.flat, List.filterMap_cons, List.filterMap_nil, List.map_cons, List.map_nil, List.getElem?_cons_zero, List.getElem?_cons_succ, List.getElem?_nil, List.set_cons_zero, List.set_cons_succ, List.cons_append, List.nil_append, List.length_cons, List.length_nil, Option.bind_some, Option.bind_none, Option.map_some, Option.map_none, Nat.reduceSub, Nat.reduceAdd, List.replicate_succ, List.replicate_zero, Bool.not_true, Bool.not_false, if_true, if_false, Bool.false_eq_true, reduceIte, decide_true, decide_false, Nat.reduceLT, Nat.reduceLeDiff, reduceCtorEq, Option.some.injEq, Prod.mk.injEq, h1, h2, h3, neD_int, h4, h5, la, lb, subI, intB, e1, e2, e3, e4, e5, eqD_int, decide_eq_false hk, h6, h7, lg, gtI, hq]
end K13
end
section
set_option maxRecDepth 100000
set_option exponentiation.threshold 100000
set_option maxHeartbeats 4000000
namespace K13
open PySem PySem.Spec L2 DL
open PL (cf Nz Bd Rem Qt vl rs Ch Sf Eu ml Gc Dv)
theorem Sq.up {a : List Int} (h : Sq 6 6 a) : Sq 8 9 a := ⟨h.nz, h.ne, Nat.le_trans h.len (by decide), PL.bd_le (by decide) h.bd⟩
/-- two lines with a told common factor -/
structure Pp (a b : List Int) : Prop where
  qa : Sq 6 6 a
  qb : Sq 6 6 b
  ex : ∃ p q s, Sf s ∧ Nz p ∧ Nz q ∧ p ≠ [] ∧ q ≠ [] ∧ Bd (2 ^ 3) p ∧ Bd (2 ^ 3) q ∧ p.length ≤ 5 ∧ q.length ≤ 5 ∧ a = ml p s ∧ b = ml q s
theorem tb_len (a : List Int) (n : Nat) : (tb a n).length = n := by unfold tb; rw [List.length_map, List.length_range]
theorem tb_mem {a r : List Int} {n : Nat} (h : r ∈ tb a n) (a0 : a ≠ []) : r.length = a.length - 1 + n ∧ ∀ y ∈ r, y = 0 ∨ y ∈ a := by
  unfold tb at h
  obtain ⟨t, ht, rfl⟩ := List.mem_map.mp h
  have ht := List.mem_range.mp ht
  have ap := List.length_pos_iff.mpr a0
  have lz : ∀ n, (zs n).length = n := fun n => List.length_replicate
  have zm : ∀ {n : Nat} {y : Int}, y ∈ zs n → y = 0 := fun h => (List.mem_replicate.mp h).2
  refine ⟨by rw [List.length_append, List.length_append, lz, lz, List.length_reverse]; omega, fun y hy => ?_⟩
  rcases List.mem_append.mp hy with hy | hy
  · rcases List.mem_append.mp hy with hy | hy
    · exact .inl (zm hy)
    · exact .inr (List.mem_reverse.mp hy)
  · exact .inl (zm hy)
theorem fact_bd : ∀ n, n < 11 → PL.fact n * (2 ^ 6) ^ n < 2 ^ 8000 := by
  intro n hn
  have h1 := PL.fact_le (n := n) (m := 10) (by omega)
  have h2 : (2 ^ 6) ^ n ≤ (2 ^ 6) ^ 10 := Nat.pow_le_pow_right (by decide) (by omega)
  have h3 := Nat.mul_le_mul h1 h2
  have h4 : PL.fact 10 * (2 ^ 6) ^ 10 < 2 ^ 100 := by decide
  exact Nat.lt_of_le_of_lt h3 (Nat.lt_trans h4 (Nat.pow_lt_pow_right (by decide) (by decide)))
theorem r_tdet {a b : List Int} (qa : Sq 6 6 a) (qb : Sq 6 6 b) : m__law_determinant [.list ((tb a (b.length - 1) ++ tb b (a.length - 1)).map IL)] = some (.fz (.int (rs a b))) := by
  have ap := List.length_pos_iff.mpr qa.ne
  have bp := List.length_pos_iff.mpr qb.ne
  have la := qa.len
  have lb := qb.len
  have hl : (tb a (b.length - 1) ++ tb b (a.length - 1)).length = a.length - 1 + (b.length - 1) := by rw [List.length_append, tb_len, tb_len]; omega
  have h := r_det (L := tb a (b.length - 1) ++ tb b (a.length - 1)) (M := 2 ^ 6) (by decide) (by omega) (fun r hr => by
    rw [hl]
    rcases List.mem_append.mp hr with hr | hr
    · exact (tb_mem hr qa.ne).1
    · rw [(tb_mem hr qb.ne).1]; omega) (fun r hr y hy => by
    rcases List.mem_append.mp hr with hr | hr
    · rcases (tb_mem hr qa.ne).2 y hy with rfl | h
      · exact Nat.zero_le _
      · exact PL.mem_bd qa.bd y h
    · rcases (tb_mem hr qb.ne).2 y hy with rfl | h
      · exact Nat.zero_le _
      · exact PL.mem_bd qb.bd y h) (fact_bd _ (by omega))
  rw [hl, tb_det qa.ne qb.ne] at h
  exact h
theorem r_pair {a b : List Int} (h : Pp a b) : m__law_pair_right [IL a, IL b] = some (.fz (.bool true)) := by
  obtain ⟨qa, qb, p, q, s, hs, np, nq, p0, q0, bp, bq, lp, lq, ea, eb⟩ := h
  have ap := List.length_pos_iff.mpr qa.ne
  have bpos := List.length_pos_iff.mpr qb.ne
  have la := qa.len
  have lb := qb.len
  have bg : ∀ {x : List Int}, Sq 6 6 x → ∀ y ∈ x, y.natAbs < 2 ^ 8000 := fun hx y hy => Nat.lt_of_le_of_lt (PL.mem_bd hx.bd y hy) (Nat.pow_lt_pow_right (by decide) (by decide))
  obtain ⟨g, hg, eu⟩ := r_common (s := s) (p0 := pln p) (q0 := pln q) (a := a) (b := b) hs qa.nz qb.nz (bg qa) (bg qb) (by omega) (by omega) (by rw [ea, eb]; exact Ch.start hs np nq bp bq lp lq)
  have gc := gc_of np nq hs.nz p0 hs.s0 eu
  rw [← ea, ← eb] at gc
  have hiff := gc.iff qa.nz qb.nz qa.ne qb.ne
  have hc := ev_common (r_two_lines (ln_IL a) (by omega) qa.nz (ln_IL b) (by omega) qb.nz) hg
  have e4 : fdivD (.int (((a.length - 1) * (b.length - 1) : Nat) : Int)) (.int 2) = some (.fz (.int ((((a.length - 1) * (b.length - 1) : Nat) : Int).fdiv 2))) := fdivD_big (by decide) (by decide)
  have hmn : (a.length - 1) * (b.length - 1) ≤ 5 * 5 := Nat.mul_le_mul (by omega) (by omega)
  have e5 : mulD (.int ((((a.length - 1) * (b.length - 1) : Nat) : Int).fdiv 2)) (.int 2) = some (.fz (.int ((((a.length - 1) * (b.length - 1) : Nat) : Int).fdiv 2 * 2))) := by
    have := Int.natAbs_fdiv_le_natAbs (((a.length - 1) * (b.length - 1) : Nat) : Int) 2
    rw [Int.natAbs_natCast] at this
    exact mulD_lt (Nat.lt_of_le_of_lt (Nat.le_trans this hmn) (by decide)) (by decide)
  have e3 : mulD (.int ((a.length - 1 : Nat) : Int)) (.int ((b.length - 1 : Nat) : Int)) = some (.fz (.int (((a.length - 1) * (b.length - 1) : Nat) : Int))) := by
    rw [mulD_lt (by rw [Int.natAbs_natCast]; exact Nat.lt_of_le_of_lt (show a.length - 1 ≤ 5 by omega) (by decide)) (by rw [Int.natAbs_natCast]; exact Nat.lt_of_le_of_lt (show b.length - 1 ≤ 5 by omega) (by decide)), Int.natCast_mul]
  have hback : (if (((a.length - 1) * (b.length - 1) : Nat) : Int).fdiv 2 * 2 = (((a.length - 1) * (b.length - 1) : Nat) : Int) then rs a b else 0 - rs a b) = rs b a := by
    rw [PL.rs_comm b a, Nat.mul_comm (b.length - 1), sgn_pow]
    generalize (a.length - 1) * (b.length - 1) = k
    rw [Int.fdiv_eq_ediv_of_nonneg _ (by decide)]
    by_cases ho : k % 2 = 1
    · rw [if_pos ho, if_neg (by omega)]
      omega
    · rw [if_neg ho, if_pos (by omega)]
      omega
  refine pr_ev (r_resultant (ln_IL a) (ln_IL b) qa.up qb) (r_table qa.ne qb.ne (by omega) (by omega)) (r_tdet qa qb) (tupleD_seq (x := IL b) rfl) (r_resultant (ln_IL a) (show Ln (.tuple (b.map .int)) b from rfl) qa.up qb) (len_ints rfl) (len_ints rfl) (da := ((a.length - 1 : Nat) : Int)) (db := ((b.length - 1 : Nat) : Int)) (by omega) (by omega) e3 e4 e5 hback (r_resultant (ln_IL b) (ln_IL a) qb.up qa) hc (len_ints rfl) ?_
  have hd : decide (rs a b = 0) = decide ((1 : Int) < ((pln (ml g s)).length : Nat)) := by
    rw [Bool.eq_iff_iff, decide_eq_true_eq, decide_eq_true_eq, hiff]
    omega
  rw [hd]
  generalize decide ((1 : Int) < ((pln (ml g s)).length : Nat)) = x
  refine eqD_refl ?_
  cases x <;> decide +kernel
end K13
end
section
set_option maxRecDepth 100000
set_option exponentiation.threshold 100000
set_option maxHeartbeats 4000000
namespace K13
open PySem PySem.Spec L2 DL
open PL (cf Nz Bd Rem Qt vl rs Ch Sf Eu ml Gc Dv sm)
/-! ### values: Horner's fold, the program's and the law's own are one -/
theorem vl_bound (x : Int) (hx : x.natAbs ≤ 7) {B : Nat} : ∀ {a : List Int}, (∀ y ∈ a, y.natAbs ≤ B) → (vl a x).natAbs ≤ B * 8 ^ a.length
  | [], _ => by simp [vl]
  | c :: a, h => by
    have ih := vl_bound x hx (B := B) (a := a) fun y hy => h y (List.mem_cons_of_mem _ hy)
    have hc := h c List.mem_cons_self
    show (vl a x * x + c).natAbs ≤ B * 8 ^ (a.length + 1)
    have h1 : (vl a x * x).natAbs ≤ B * 8 ^ a.length * 7 := by
      rw [Int.natAbs_mul]
      exact Nat.mul_le_mul ih hx
    have h2 : B ≤ B * 8 ^ a.length := Nat.le_mul_of_pos_right _ (Nat.pow_pos (by decide))
    have h3 : B * 8 ^ (a.length + 1) = B * 8 ^ a.length * 8 := by rw [Nat.pow_succ, Nat.mul_assoc]
    have := Int.natAbs_add_le (vl a x * x) c
    omega
theorem vl_drop (a : List Int) (x : Int) {k : Nat} (h : k < a.length) : vl (a.drop k) x = vl (a.drop (k + 1)) x * x + cf a k := by
  rw [List.drop_eq_getElem_cons h, PL.cf_get, List.getD_eq_getElem?_getD, List.getElem?_eq_getElem h]
  rfl
theorem value_f1 (gb : Ss) (a : List Int) (x : Int) (hx : x.natAbs ≤ 7) (hB : ∀ y ∈ a, y.natAbs ≤ 2 ^ 60) (hz : a.length ≤ 40) (hg : ∀ (v y : Int) , v.natAbs < 2 ^ 200 → gb [.dat (IL a), .dat (.int x), .dat (.int v), .dat (.int y)] = some (.nx, [.dat (IL a), .dat (.int x), .dat (.int (v * x + y)), .dat (.int y)])) :
    ∃ s, forS (seqM (unM revD (nameM 0))) (asg 3) gb [.dat (IL a), .dat (.int x), .dat (.int 0), .un] = some (.nx, [.dat (IL a), .dat (.int x), .dat (.int (vl a x)), s]) := by
  have hi : seqM (unM revD (nameM 0)) [.dat (IL a), .dat (.int x), .dat (.int 0), .un] = some ((a.map PyData.int).reverse, [.dat (IL a), .dat (.int x), .dat (.int 0), .un]) := by
    have : revD (IL a) = some (.ow (.list (a.map PyData.int).reverse)) := rfl
    simp only [mb, mr, mo, nameM, conM, binM, unM, boolM, ifM, DL.andM, DL.orM, DL.notM, andV, orV, notV, chainM, nilA, consA, dvs, dv, ownAt, fzs, lstM, tupM, callM, callP, permL, fzv, seqS, skipS, ifS, setS, asg, freeAt, retS, retV, dropS, frz, frzS, asgS, nilG, consG, tupG, subG, listAt, methM, augS, augSubS, forS, seqM, treeV, startD, endV, bodyF, bodyI, startI, ioAt, slM, partM, bors, callL, callI, callO, DL.flatV, DL.flat, List.filterMap_cons, List.filterMap_nil, List.map_cons, List.map_nil, List.getElem?_cons_zero, List.getElem?_cons_succ, List.getElem?_nil, List.set_cons_zero, List.set_cons_succ, List.cons_append, List.nil_append, List.length_cons, List.length_nil, Option.bind_some, Option.bind_none, Option.map_some, Option.map_none, Nat.reduceSub, Nat.reduceAdd, List.replicate_succ, List.replicate_zero, Bool.not_true, Bool.not_false, if_true, if_false, Bool.false_eq_true, reduceIte, decide_true, decide_false, Nat.reduceLT, Nat.reduceLeDiff, reduceCtorEq, Option.some.injEq, Prod.mk.injEq, this, itemsOf]
  obtain ⟨δ1, h1, s, rfl, -⟩ := for_at (gt := asg 3) (body := gb) _ (fun k δ => ∃ s, δ = [.dat (IL a), .dat (.int x), .dat (.int (vl (a.drop (a.length - k)) x)), s] ∧ plainS s) hi ⟨.un, by simp [vl], .inl rfl⟩ (by
    rintro k d δ hk ⟨s, rfl, hs⟩
    have hkl : k < a.length := by
      have := (List.getElem?_eq_some_iff.mp hk).1
      simpa using this
    have hd : d = .int (cf a (a.length - 1 - k)) := by
      rw [List.getElem?_reverse (by simpa using hkl), List.length_map, getD_ix (by omega)] at hk
      exact (Option.some.inj hk).symm
    subst hd
    have hv : (vl (a.drop (a.length - k)) x).natAbs < 2 ^ 200 := by
      have := vl_bound x hx (a := a.drop (a.length - k)) fun y hy => hB y (List.mem_of_mem_drop hy)
      refine Nat.lt_of_le_of_lt this (Nat.lt_of_le_of_lt (Nat.mul_le_mul_left _ (Nat.pow_le_pow_right (by decide) (show (a.drop (a.length - k)).length ≤ 40 by simp; omega))) (by decide))
    refine ⟨_, _, ?_, .inl (hg _ (cf a (a.length - 1 - k)) hv), .dat (.int (cf a (a.length - 1 - k))), ?_, .inr ⟨_, rfl⟩⟩
    · rcases hs with rfl | ⟨y, rfl⟩ <;> simp only [mb, mr, mo, nameM, conM, binM, unM, boolM, ifM, DL.andM, DL.orM, DL.notM, andV, orV, notV, chainM, nilA, consA, dvs, dv, ownAt, fzs, lstM, tupM, callM, callP, permL, fzv, seqS, skipS, ifS, setS, asg, freeAt, retS, retV, dropS, frz, frzS, asgS, nilG, consG, tupG, subG, listAt, methM, augS, augSubS, forS, seqM, treeV, startD, endV, bodyF, bodyI, startI, ioAt, slM, partM, bors, callL, callI, callO, DL.flatV, DL.flat, List.filterMap_cons, List.filterMap_nil, List.map_cons, List.map_nil, List.getElem?_cons_zero, List.getElem?_cons_succ, List.getElem?_nil, List.set_cons_zero, List.set_cons_succ, List.cons_append, List.nil_append, List.length_cons, List.length_nil, Option.bind_some, Option.bind_none, Option.map_some, Option.map_none, Nat.reduceSub, Nat.reduceAdd, List.replicate_succ, List.replicate_zero, Bool.not_true, Bool.not_false, if_true, if_false, Bool.false_eq_true, reduceIte, decide_true, decide_false, Nat.reduceLT, Nat.reduceLeDiff, reduceCtorEq, Option.some.injEq, Prod.mk.injEq]
    · have := vl_drop a x (k := a.length - 1 - k) (by omega)
      rw [show a.length - (k + 1) = a.length - 1 - k by omega, this, show a.length - 1 - k + 1 = a.length - k by omega])
  refine ⟨s, ?_⟩
  rw [h1, List.length_reverse, List.length_map, Nat.sub_self]
  rfl
theorem r_law_value (a : List Int) (x : Int) (hx : x.natAbs ≤ 7) (hB : ∀ y ∈ a, y.natAbs ≤ 2 ^ 60) (hz : a.length ≤ 40) : m__law_value [IL a, .int x] = some (.fz (.int (vl a x))) := by
  obtain ⟨s, h⟩ := value_f1 g__law_value_b1 a x hx hB hz fun v y hv => by
    have hm := mulD_lt hv (show x.natAbs < 2 ^ 200 from Nat.lt_of_le_of_lt hx (by decide))
    simp only [g__law_value_b1, mb, mr, mo, nameM, conM, binM, unM, boolM, ifM, DL.andM, DL.orM, DL.notM, andV, orV, notV, chainM, nilA, consA, dvs, dv, ownAt, fzs, lstM, tupM, callM, callP, permL, fzv, seqS, skipS, ifS, setS, asg, freeAt, retS, retV, dropS, frz, frzS, asgS, nilG, consG, tupG, subG, listAt, methM, augS, augSubS, forS, seqM, treeV, startD, endV, bodyF, bodyI, startI, ioAt, slM, partM, bors, callL, callI, callO, DL.flatV, DL.flat, List.filterMap_cons, List.filterMap_nil, List.map_cons, List.map_nil, List.getElem?_cons_zero, List.getElem?_cons_succ, List.getElem?_nil, List.set_cons_zero, List.set_cons_succ, List.cons_append, List.nil_append, List.length_cons, List.length_nil, Option.bind_some, Option.bind_none, Option.map_some, Option.map_none, Nat.reduceSub, Nat.reduceAdd, List.replicate_succ, List.replicate_zero, Bool.not_true, Bool.not_false, if_true, if_false, Bool.false_eq_true, reduceIte, decide_true, decide_false, Nat.reduceLT, Nat.reduceLeDiff, reduceCtorEq, Option.some.injEq, Prod.mk.injEq, hm, addD]
  have h : g__law_value_f1 [.dat (IL a), .dat (.int x), .dat (.int 0), .un] = _ := h
  simp only [m__law_value, g__law_value, g__law_value_s1, g__law_value_s2, mb, mr, mo, nameM, conM, binM, unM, boolM, ifM, DL.andM, DL.orM, DL.notM, andV, orV, notV, chainM, nilA, consA, dvs, dv, ownAt, fzs, lstM, tupM, callM, callP, permL, fzv, seqS, skipS, ifS, setS, asg, freeAt, retS, retV, dropS, frz, frzS, asgS, nilG, consG, tupG, subG, listAt, methM, augS, augSubS, forS, seqM, treeV, startD, endV, bodyF, bodyI, startI, ioAt, slM, partM, bors, callL, callI, callO, DL.flatV, DL.flat, List.filterMap_cons, List.filterMap_nil, List.map_cons, List.map_nil, List.getElem?_cons_zero, List.getElem?_cons_succ, List.getElem?_nil, List.set_cons_zero, List.set_cons_succ, List.cons_append, List.nil_append, List.length_cons, List.length_nil, Option.bind_some, Option.bind_none, Option.map_some, Option.map_none, Nat.reduceSub, Nat.reduceAdd, List.replicate_succ, List.replicate_zero, Bool.not_true, Bool.not_false, if_true, if_false, Bool.false_eq_true, reduceIte, decide_true, decide_false, Nat.reduceLT, Nat.reduceLeDiff, reduceCtorEq, Option.some.injEq, Prod.mk.injEq, h]
end K13
end
section
set_option maxRecDepth 100000
set_option exponentiation.threshold 100000
set_option maxHeartbeats 4000000
namespace K13
open PySem PySem.Spec L2 DL
open PL (cf Nz Bd Rem Qt vl rs Ch Sf Eu ml Gc Dv)
/-! the law by its statements -/
theorem ri_s1 {p p1 p2 p3 p4 p5 p6 a b s : D} {k1 k2 k3 : Int} (h1 : m__law_draw p [.int 4] = some (.fz (.int k1), p1)) (h2 : m__law_line p1 [.int k1, .int 4] = some (.ow a, p2)) (h3 : m__law_draw p2 [.int 4] = some (.fz (.int k2), p3)) (h4 : m__law_line p3 [.int k2, .int 4] = some (.ow b, p4)) (h5 : m__law_draw p4 [.int 3] = some (.fz (.int k3), p5)) (h6 : m__law_line p5 [.int k3, .int 3] = some (.ow s, p6)) :
    g__law_right_s1 [.own true p, .un, .un, .un, .un, .un, .un, .un, .un, .un] = some (.nx, [.own true p6, .dat a, .dat b, .dat s, .un, .un, .un, .un, .un, .un]) := by
  simp only [g__law_right_s1, par3S, mb, mr, mo, nameM, conM, binM, unM, boolM, ifM, DL.andM, DL.orM, DL.notM, andV, orV, notV, chainM, nilA, consA, dvs, dv, ownAt, fzs, lstM, tupM, callM, callP, permL, fzv, seqS, skipS, ifS, setS, asg, fr_z_un, fr_z_dat, fr_z_rw, fr_z_own, fr_s, turnF, retS, retV, dropS, frz, frzS, asgS, nilG, consG, tupG, subG, listAt, methM, augS, augSubS, forS, seqM, treeV, startD, endV, bodyF, bodyI, startI, ioAt, slM, partM, bors, callL, callI, callO, DL.flatV, DL.flat, List.filterMap_cons, List.filterMap_nil, List.map_cons, List.map_nil, List.getElem?_cons_zero, List.getElem?_cons_succ, List.getElem?_nil, List.set_cons_zero, List.set_cons_succ, List.cons_append, List.nil_append, List.length_cons, List.length_nil, Option.bind_some, Option.bind_none, Option.map_some, Option.map_none, Nat.reduceSub, Nat.reduceAdd, List.replicate_succ, List.replicate_zero, Bool.not_true, Bool.not_false, if_true, if_false, Bool.false_eq_true, reduceIte, decide_true, decide_false, Nat.reduceLT, Nat.reduceLeDiff, reduceCtorEq, Option.some.injEq, Prod.mk.injEq, h1, h2, h3, h4, h5, h6]
theorem ri_s2 {p p' a b s a' b' : D} {k : Int} (h : m__law_draw p [.int 3] = some (.fz (.int k), p')) (h1 : m_line_times [a, s] = some (.ow a')) (h2 : m_line_times [s, b] = some (.ow b')) :
    g__law_right_s2 [.own true p, .dat a, .dat b, .dat s, .un, .un, .un, .un, .un, .un] = some (.nx, if k = 0 then [.own true p', .dat a', .dat b', .dat s, .un, .un, .un, .un, .un, .un] else [.own true p', .dat a, .dat b, .dat s, .un, .un, .un, .un, .un, .un]) := by
  by_cases hk : k = 0
  · simp only [g__law_right_s2, parS, parO, mb, mr, mo, nameM, conM, binM, unM, boolM, ifM, DL.andM, DL.orM, DL.notM, andV, orV, notV, chainM, nilA, consA, dvs, dv, ownAt, fzs, lstM, tupM, callM, callP, permL, fzv, seqS, skipS, ifS, setS, asg, fr_z_un, fr_z_dat, fr_z_rw, fr_z_own, fr_s, turnF, retS, retV, dropS, frz, frzS, asgS, nilG, consG, tupG, subG, listAt, methM, augS, augSubS, forS, seqM, treeV, startD, endV, bodyF, bodyI, startI, ioAt, slM, partM, bors, callL, callI, callO, DL.flatV, DL.flat, List.filterMap_cons, List.filterMap_nil, List.map_cons, List.map_nil, List.getElem?_cons_zero, List.getElem?_cons_succ, List.getElem?_nil, List.set_cons_zero, List.set_cons_succ, List.cons_append, List.nil_append, List.length_cons, List.length_nil, Option.bind_some, Option.bind_none, Option.map_some, Option.map_none, Nat.reduceSub, Nat.reduceAdd, List.replicate_succ, List.replicate_zero, Bool.not_true, Bool.not_false, if_true, if_false, Bool.false_eq_true, reduceIte, decide_true, decide_false, Nat.reduceLT, Nat.reduceLeDiff, reduceCtorEq, Option.some.injEq, Prod.mk.injEq, h, eqD_int, decide_eq_true hk, h1, h2, if_pos hk]
  · simp only [g__law_right_s2, mb, mr, mo, nameM, conM, binM, unM, boolM, ifM, DL.andM, DL.orM, DL.notM, andV, orV, notV, chainM, nilA, consA, dvs, dv, ownAt, fzs, lstM, tupM, callM, callP, permL, fzv, seqS, skipS, ifS, setS, asg, fr_z_un, fr_z_dat, fr_z_rw, fr_z_own, fr_s, turnF, retS, retV, dropS, frz, frzS, asgS, nilG, consG, tupG, subG, listAt, methM, augS, augSubS, forS, seqM, treeV, startD, endV, bodyF, bodyI, startI, ioAt, slM, partM, bors, callL, callI, callO, DL.flatV, DL.flat, List.filterMap_cons, List.filterMap_nil, List.map_cons, List.map_nil, List.getElem?_cons_zero, List.getElem?_cons_succ, List.getElem?_nil, List.set_cons_zero, List.set_cons_succ, List.cons_append, List.nil_append, List.length_cons, List.length_nil, Option.bind_some, Option.bind_none, Option.map_some, Option.map_none, Nat.reduceSub, Nat.reduceAdd, List.replicate_succ, List.replicate_zero, Bool.not_true, Bool.not_false, if_true, if_false, Bool.false_eq_true, reduceIte, decide_true, decide_false, Nat.reduceLT, Nat.reduceLeDiff, reduceCtorEq, Option.some.injEq, Prod.mk.injEq, h, eqD_int, decide_eq_false hk, if_neg hk]
theorem fwb (b : Bool) : flatW (.fz (.bool b)) = true := rfl
theorem fwi (i : Int) : flatW (.fz (.int i)) = true := rfl
theorem ri_s3 {p a b s : D} (h1 : m__law_pair_right [a, b] = some (.fz (.bool true))) (h2 : m__law_pair_right [b, s] = some (.fz (.bool true))) : g__law_right_s3 [.own true p, .dat a, .dat b, .dat s, .un, .un, .un, .un, .un, .un] = some (.nx, [.own true p, .dat a, .dat b, .dat s, .un, .un, .un, .un, .un, .un]) := by
  simp only [g__law_right_s3, mb, mr, mo, nameM, conM, binM, unM, boolM, ifM, DL.andM, DL.orM, DL.notM, andV, orV, notV, chainM, nilA, consA, dvs, dv, ownAt, fzs, lstM, tupM, callM, callP, permL, fzv, seqS, skipS, ifS, setS, asg, fr_z_un, fr_z_dat, fr_z_rw, fr_z_own, fr_s, turnF, retS, retV, dropS, frz, frzS, asgS, nilG, consG, tupG, subG, listAt, methM, augS, augSubS, forS, seqM, treeV, startD, endV, bodyF, bodyI, startI, ioAt, slM, partM, bors, callL, callI, callO, DL.flatV, DL.flat, List.filterMap_cons, List.filterMap_nil, List.map_cons, List.map_nil, List.getElem?_cons_zero, List.getElem?_cons_succ, List.getElem?_nil, List.set_cons_zero, List.set_cons_succ, List.cons_append, List.nil_append, List.length_cons, List.length_nil, Option.bind_some, Option.bind_none, Option.map_some, Option.map_none, Nat.reduceSub, Nat.reduceAdd, List.replicate_succ, List.replicate_zero, Bool.not_true, Bool.not_false, if_true, if_false, Bool.false_eq_true, reduceIte, decide_true, decide_false, Nat.reduceLT, Nat.reduceLeDiff, reduceCtorEq, Option.some.injEq, Prod.mk.injEq, h1, h2, fwb]
theorem ri_s4 {p a b s t : D} {u v w : Int} (h1 : m__law_times [a, s] = some (.ow t)) (h2 : m_resultant [t, b] = some (.fz (.int u))) (h3 : m_resultant [a, b] = some (.fz (.int v))) (h4 : m_resultant [s, b] = some (.fz (.int w))) (h5 : mulD (.int v) (.int w) = some (.fz (.int u))) : g__law_right_s4 [.own true p, .dat a, .dat b, .dat s, .un, .un, .un, .un, .un, .un] = some (.nx, [.own true p, .dat a, .dat b, .dat s, .un, .un, .un, .un, .un, .un]) := by
  simp only [g__law_right_s4, mb, mr, mo, nameM, conM, binM, unM, boolM, ifM, DL.andM, DL.orM, DL.notM, andV, orV, notV, chainM, nilA, consA, dvs, dv, ownAt, fzs, lstM, tupM, callM, callP, permL, fzv, seqS, skipS, ifS, setS, asg, fr_z_un, fr_z_dat, fr_z_rw, fr_z_own, fr_s, turnF, retS, retV, dropS, frz, frzS, asgS, nilG, consG, tupG, subG, listAt, methM, augS, augSubS, forS, seqM, treeV, startD, endV, bodyF, bodyI, startI, ioAt, slM, partM, bors, callL, callI, callO, DL.flatV, DL.flat, List.filterMap_cons, List.filterMap_nil, List.map_cons, List.map_nil, List.getElem?_cons_zero, List.getElem?_cons_succ, List.getElem?_nil, List.set_cons_zero, List.set_cons_succ, List.cons_append, List.nil_append, List.length_cons, List.length_nil, Option.bind_some, Option.bind_none, Option.map_some, Option.map_none, Nat.reduceSub, Nat.reduceAdd, List.replicate_succ, List.replicate_zero, Bool.not_true, Bool.not_false, if_true, if_false, Bool.false_eq_true, reduceIte, decide_true, decide_false, Nat.reduceLT, Nat.reduceLeDiff, reduceCtorEq, Option.some.injEq, Prod.mk.injEq, h1, h2, h3, h4, h5, fwi, neD_int]
theorem ri_s567 {p p' a b s : D} {c : Int} (h : m__law_pick p [.list [.int 1, .int (-2), .int 3]] = some (.fz (.int c), p')) : seqS g__law_right_s5 (seqS g__law_right_s6 g__law_right_s7) [.own true p, .dat a, .dat b, .dat s, .un, .un, .un, .un, .un, .un] = some (.nx, [.own true p', .dat a, .dat b, .dat s, .dat (IL [c]), .dat (.int c), .dat (.int 1), .own false (.list []), .un, .un]) := by
  have hx : ixD (.list [.int c]) (.int 0) = some (.fz (.int c)) := rfl
  simp only [g__law_right_s5, g__law_right_s6, g__law_right_s7, par3S, mb, mr, mo, nameM, conM, binM, unM, boolM, ifM, DL.andM, DL.orM, DL.notM, andV, orV, notV, chainM, nilA, consA, dvs, dv, ownAt, fzs, lstM, tupM, callM, callP, permL, fzv, seqS, skipS, ifS, setS, asg, fr_z_un, fr_z_dat, fr_z_rw, fr_z_own, fr_s, turnF, retS, retV, dropS, frz, frzS, asgS, nilG, consG, tupG, subG, listAt, methM, augS, augSubS, forS, seqM, treeV, startD, endV, bodyF, bodyI, startI, ioAt, slM, partM, bors, callL, callI, callO, DL.flatV, DL.flat, List.filterMap_cons, List.filterMap_nil, List.map_cons, List.map_nil, List.getElem?_cons_zero, List.getElem?_cons_succ, List.getElem?_nil, List.set_cons_zero, List.set_cons_succ, List.cons_append, List.nil_append, List.length_cons, List.length_nil, Option.bind_some, Option.bind_none, Option.map_some, Option.map_none, Nat.reduceSub, Nat.reduceAdd, List.replicate_succ, List.replicate_zero, Bool.not_true, Bool.not_false, if_true, if_false, Bool.false_eq_true, reduceIte, decide_true, decide_false, Nat.reduceLT, Nat.reduceLeDiff, reduceCtorEq, Option.some.injEq, Prod.mk.injEq, negI, szOkL (show 3 ≤ 16777216 by decide), h, szOk1, hx, szOk0]
  exact ⟨trivial, rfl⟩
end K13
end
section
set_option maxRecDepth 100000
set_option exponentiation.threshold 100000
set_option maxHeartbeats 4000000
namespace K13
open PySem PySem.Spec L2 DL
open PL (cf Nz Bd Rem Qt vl rs Ch Sf Eu ml Gc Dv)
theorem ri_b1 {p p' a b s ln ln' l0 d0 : D} {io : Bool} {xs : List D} {k y z : Int} {r : Option D} (h : m__law_draw p [.int 9] = some (.fz (.int k), p')) (hy : k - 4 = y) (ha : appendL xs [.int y] = some (.none, xs ++ [.int y])) (hx : ixD (.list (xs ++ [.int y])) (.int (-1)) = some (.fz (.int y))) (hz : 0 - y = z) (ht : m__law_times [ln, .list [.int z, .int 1]] = some (.ow ln')) :
    g__law_right_b1 [.own true p, .dat a, .dat b, .dat s, bl io ln, .dat l0, .dat d0, .own false (.list xs), rw' r, .un] = some (.nx, [.own true p', .dat a, .dat b, .dat s, bl true ln', .dat l0, .dat d0, .own false (.list (xs ++ [.int y])), rw' r, .un]) := by
  cases io <;> cases r <;> simp only [bl_t, bl_f, rw', g__law_right_b1, mb, mr, mo, nameM, conM, binM, unM, boolM, ifM, DL.andM, DL.orM, DL.notM, andV, orV, notV, chainM, nilA, consA, dvs, dv, ownAt, fzs, lstM, tupM, callM, callP, permL, fzv, seqS, skipS, ifS, setS, asg, fr_z_un, fr_z_dat, fr_z_rw, fr_z_own, fr_s, turnF, retS, retV, dropS, frz, frzS, asgS, nilG, consG, tupG, subG, listAt, methM, augS, augSubS, forS, seqM, treeV, startD, endV, bodyF, bodyI, startI, ioAt, slM, partM, bors, callL, callI, callO, DL.flatV, DL.flat, List.filterMap_cons, List.filterMap_nil, List.map_cons, List.map_nil, List.getElem?_cons_zero, List.getElem?_cons_succ, List.getElem?_nil, List.set_cons_zero, List.set_cons_succ, List.cons_append, List.nil_append, List.length_cons, List.length_nil, Option.bind_some, Option.bind_none, Option.map_some, Option.map_none, Nat.reduceSub, Nat.reduceAdd, List.replicate_succ, List.replicate_zero, Bool.not_true, Bool.not_false, if_true, if_false, Bool.false_eq_true, reduceIte, decide_true, decide_false, Nat.reduceLT, Nat.reduceLeDiff, reduceCtorEq, Option.some.injEq, Prod.mk.injEq, h, subI, intB, hy, ha, hx, negI, hz, szOk2, ht]
theorem ri_b2 {p a b s ln l0 : D} {rts : D} {io : Bool} {x u v w : Int} {r8 : Option D} (hv : m__law_value [b, .int x] = some (.fz (.int v))) (hm : mulD (.int u) (.int v) = some (.fz (.int w))) :
    g__law_right_b2 [.own true p, .dat a, .dat b, .dat s, bl io ln, .dat l0, .dat (.int u), .dat rts, rw' r8, .dat (.int x)] = some (.nx, [.own true p, .dat a, .dat b, .dat s, bl io ln, .dat l0, .dat (.int w), .dat rts, rw' r8, .dat (.int x)]) := by
  cases io <;> cases r8 <;> simp only [bl_t, bl_f, rw', g__law_right_b2, mb, mr, mo, nameM, conM, binM, unM, boolM, ifM, DL.andM, DL.orM, DL.notM, andV, orV, notV, chainM, nilA, consA, dvs, dv, ownAt, fzs, lstM, tupM, callM, callP, permL, fzv, seqS, skipS, ifS, setS, asg, fr_z_un, fr_z_dat, fr_z_rw, fr_z_own, fr_s, turnF, retS, retV, dropS, frz, frzS, asgS, nilG, consG, tupG, subG, listAt, methM, augS, augSubS, forS, seqM, treeV, startD, endV, bodyF, bodyI, startI, ioAt, slM, partM, bors, callL, callI, callO, DL.flatV, DL.flat, List.filterMap_cons, List.filterMap_nil, List.map_cons, List.map_nil, List.getElem?_cons_zero, List.getElem?_cons_succ, List.getElem?_nil, List.set_cons_zero, List.set_cons_succ, List.cons_append, List.nil_append, List.length_cons, List.length_nil, Option.bind_some, Option.bind_none, Option.map_some, Option.map_none, Nat.reduceSub, Nat.reduceAdd, List.replicate_succ, List.replicate_zero, Bool.not_true, Bool.not_false, if_true, if_false, Bool.false_eq_true, reduceIte, decide_true, decide_false, Nat.reduceLT, Nat.reduceLeDiff, reduceCtorEq, Option.some.injEq, Prod.mk.injEq, hv, fwi, hm]
theorem ri_s8 {p a b s ln l0 : D} {rts : List D} {io : Bool} {k d u v : Int} {d0 : D} {r8 : Option D} (hl : lenD [b] = some (.fz (.int k))) (hd : k - 1 = d) (hp : m__law_power [.int u, .int d] = some (.fz (.int v))) :
    g__law_right_s8 [.own true p, .dat a, .dat b, .dat s, bl io ln, .dat (.int u), .dat d0, .own false (.list rts), rw' r8, .un] = some (.nx, [.own true p, .dat a, .dat b, .dat s, bl io ln, .dat (.int u), .dat (.int v), .own false (.list rts), rw' r8, .un]) := by
  cases io <;> cases r8 <;> simp only [bl_t, bl_f, rw', g__law_right_s8, mb, mr, mo, nameM, conM, binM, unM, boolM, ifM, DL.andM, DL.orM, DL.notM, andV, orV, notV, chainM, nilA, consA, dvs, dv, ownAt, fzs, lstM, tupM, callM, callP, permL, fzv, seqS, skipS, ifS, setS, asg, fr_z_un, fr_z_dat, fr_z_rw, fr_z_own, fr_s, turnF, retS, retV, dropS, frz, frzS, asgS, nilG, consG, tupG, subG, listAt, methM, augS, augSubS, forS, seqM, treeV, startD, endV, bodyF, bodyI, startI, ioAt, slM, partM, bors, callL, callI, callO, DL.flatV, DL.flat, List.filterMap_cons, List.filterMap_nil, List.map_cons, List.map_nil, List.getElem?_cons_zero, List.getElem?_cons_succ, List.getElem?_nil, List.set_cons_zero, List.set_cons_succ, List.cons_append, List.nil_append, List.length_cons, List.length_nil, Option.bind_some, Option.bind_none, Option.map_some, Option.map_none, Nat.reduceSub, Nat.reduceAdd, List.replicate_succ, List.replicate_zero, Bool.not_true, Bool.not_false, if_true, if_false, Bool.false_eq_true, reduceIte, decide_true, decide_false, Nat.reduceLT, Nat.reduceLeDiff, reduceCtorEq, Option.some.injEq, Prod.mk.injEq, hl, subI, intB, hd, hp, fwi]
theorem ri_s10 {p a b s ln l0 rts : D} {io : Bool} {u : Int} {r8 r9 : Option D} (h : m_resultant [ln, b] = some (.fz (.int u))) :
    g__law_right_s10 [.own true p, .dat a, .dat b, .dat s, bl io ln, .dat l0, .dat (.int u), .dat rts, rw' r8, rw' r9] = some (.nx, [.own true p, .dat a, .dat b, .dat s, bl io ln, .dat l0, .dat (.int u), .dat rts, rw' r8, rw' r9]) := by
  cases io <;> cases r8 <;> cases r9 <;> simp only [bl_t, bl_f, rw', g__law_right_s10, bors, mb, mr, mo, nameM, conM, binM, unM, boolM, ifM, DL.andM, DL.orM, DL.notM, andV, orV, notV, chainM, nilA, consA, dvs, dv, ownAt, fzs, lstM, tupM, callM, callP, permL, fzv, seqS, skipS, ifS, setS, asg, fr_z_un, fr_z_dat, fr_z_rw, fr_z_own, fr_s, turnF, retS, retV, dropS, frz, frzS, asgS, nilG, consG, tupG, subG, listAt, methM, augS, augSubS, forS, seqM, treeV, startD, endV, bodyF, bodyI, startI, ioAt, slM, partM, bors, callL, callI, callO, DL.flatV, DL.flat, List.filterMap_cons, List.filterMap_nil, List.map_cons, List.map_nil, List.getElem?_cons_zero, List.getElem?_cons_succ, List.getElem?_nil, List.set_cons_zero, List.set_cons_succ, List.cons_append, List.nil_append, List.length_cons, List.length_nil, Option.bind_some, Option.bind_none, Option.map_some, Option.map_none, Nat.reduceSub, Nat.reduceAdd, List.replicate_succ, List.replicate_zero, Bool.not_true, Bool.not_false, if_true, if_false, Bool.false_eq_true, reduceIte, decide_true, decide_false, Nat.reduceLT, Nat.reduceLeDiff, reduceCtorEq, Option.some.injEq, Prod.mk.injEq, h, fwi, neD_int]
end K13
end
section
set_option maxRecDepth 100000
set_option exponentiation.threshold 100000
set_option maxHeartbeats 4000000
namespace K13
open PySem PySem.Spec L2 DL
open PL (cf Nz Bd Rem Qt vl rs Ch Sf Eu ml Gc Dv)
theorem sqi {a : List Int} (h1 : a ≠ []) (h2 : Nz a) (h3 : a.length ≤ 6) (h4 : ∀ y ∈ a, y.natAbs ≤ 2 ^ 6) : Sq 6 6 a := ⟨h2, h1, h3, PL.bd_mem h4⟩
theorem nz1 (a : List Int) {x : Int} (h : x ≠ 0) : Nz (a ++ [x]) := PL.nz_last h
theorem q2 : Sq 6 6 [2] := sqi (by decide) (nz1 [] (by decide)) (by decide) (by decide)
theorem q5 : Sq 6 6 [5] := sqi (by decide) (nz1 [] (by decide)) (by decide) (by decide)
theorem q7 : Sq 6 6 [7] := sqi (by decide) (nz1 [] (by decide)) (by decide) (by decide)
theorem q103 : Sq 6 6 [1, 0, 3] := sqi (by decide) (nz1 [1, 0] (by decide)) (by decide) (by decide)
theorem q51 : Sq 6 6 [-5, 1] := sqi (by decide) (nz1 [-5] (by decide)) (by decide) (by decide)
theorem q31 : Sq 6 6 [-3, 1] := sqi (by decide) (nz1 [-3] (by decide)) (by decide) (by decide)
theorem four : rs [2] [1, 0, 3] = 4 ∧ rs [1, 0, 3] [2] = 4 ∧ rs [5] [7] = 1 ∧ rs [-5, 1] [-3, 1] = 2 := by
  refine ⟨?_, ?_, ?_, ?_⟩
  · rw [PL.rs_comm, PL.rs_con (b := [2]) rfl]; rfl
  · rw [PL.rs_con (b := [2]) rfl]; rfl
  · rw [PL.rs_con (b := [7]) rfl]; rfl
  · rw [PL.rs_lin 5 (by decide)]; rfl
theorem ri_s11 {δ : DS} (h1 : m_resultant [.list [.int 2], .list [.int 1, .int 0, .int 3]] = some (.fz (.int 4))) (h2 : m_resultant [.list [.int 1, .int 0, .int 3], .list [.int 2]] = some (.fz (.int 4))) (h3 : m_resultant [.list [.int 5], .list [.int 7]] = some (.fz (.int 1))) (h4 : m_resultant [.list [.int (-5), .int 1], .list [.int (-3), .int 1]] = some (.fz (.int 2))) :
    g__law_right_s11 δ = some (.rt (.fz (.bool true)), δ) := by
  have z4 := szOkL (show 4 ≤ 16777216 by decide)
  have z3 := szOkL (show 3 ≤ 16777216 by decide)
  have e : eqD (.list [.int 4, .int 4, .int 1, .int 2]) (.list [.int 4, .int 4, .int 1, .int 2]) = some (.fz (.bool true)) := eqD_refl (shaped_IL [4, 4, 1, 2])
  simp only [g__law_right_s11, mb, mr, mo, nameM, conM, binM, unM, boolM, ifM, DL.andM, DL.orM, DL.notM, andV, orV, notV, chainM, nilA, consA, dvs, dv, ownAt, fzs, lstM, tupM, callM, callP, permL, fzv, seqS, skipS, ifS, setS, asg, fr_z_un, fr_z_dat, fr_z_rw, fr_z_own, fr_s, turnF, retS, retV, dropS, frz, frzS, asgS, nilG, consG, tupG, subG, listAt, methM, augS, augSubS, forS, seqM, treeV, startD, endV, bodyF, bodyI, startI, ioAt, slM, partM, bors, callL, callI, callO, DL.flatV, DL.flat, List.filterMap_cons, List.filterMap_nil, List.map_cons, List.map_nil, List.getElem?_cons_zero, List.getElem?_cons_succ, List.getElem?_nil, List.set_cons_zero, List.set_cons_succ, List.cons_append, List.nil_append, List.length_cons, List.length_nil, Option.bind_some, Option.bind_none, Option.map_some, Option.map_none, Nat.reduceSub, Nat.reduceAdd, List.replicate_succ, List.replicate_zero, Bool.not_true, Bool.not_false, if_true, if_false, Bool.false_eq_true, reduceIte, decide_true, decide_false, Nat.reduceLT, Nat.reduceLeDiff, reduceCtorEq, Option.some.injEq, Prod.mk.injEq, szOk1, szOk2, z3, z4, negI, h1, h2, h3, h4, e]
theorem r_s11 (δ : DS) : g__law_right_s11 δ = some (.rt (.fz (.bool true)), δ) := by
  obtain ⟨f1, f2, f3, f4⟩ := four
  refine ri_s11 ?_ ?_ ?_ ?_
  · rw [← f1]; exact r_resultant (ln_IL [2]) (ln_IL [1, 0, 3]) q2.up q103
  · rw [← f2]; exact r_resultant (ln_IL [1, 0, 3]) (ln_IL [2]) q103.up q2
  · rw [← f3]; exact r_resultant (ln_IL [5]) (ln_IL [7]) q5.up q7
  · rw [← f4]; exact r_resultant (ln_IL [-5, 1]) (ln_IL [-3, 1]) q51.up q31
end K13
end
section
set_option maxRecDepth 100000
set_option exponentiation.threshold 100000
set_option maxHeartbeats 4000000
namespace K13
open PySem PySem.Spec L2 DL
open PL (cf Nz Bd Rem Qt vl rs Ch Sf Eu ml Gc Dv)
/-- a for whose iterable changes the frame -/
theorem for_ex2 {α S ρ : Type} {fi : Me (List D)} {gt : Tg} {body : Ss} (e : α → D) (fr : S → ρ → DS) (P : Nat → S → Prop) (l : List α) {s0 : S} {r0 : ρ} {δ0 δ1 : DS} (h0 : δ1 = fr s0 r0) (hi : fi δ0 = some (l.map e, δ1)) (p0 : P 0 s0)
    (h : ∀ k a s r, l[k]? = some a → P k s → ∃ s' r', turnF gt body (e a) (fr s r) = some (fr s' r') ∧ P (k + 1) s') :
    ∃ s' r', forS fi gt body δ0 = some (.nx, fr s' r') ∧ P l.length s' := by
  obtain ⟨s', r', e1, e2⟩ := forL_ex e fr P l h l.length 0 s0 r0 (by omega) p0
  refine ⟨s', r', ?_, e2⟩
  unfold forS
  rw [hi, h0]
  exact e1
end K13
end
section
set_option maxRecDepth 100000
set_option exponentiation.threshold 100000
set_option maxHeartbeats 4000000
namespace K13
open PySem PySem.Spec L2 DL
open PL (cf Nz Bd Rem Qt vl rs Ch Sf Eu ml Gc Dv sm cv)
/-! sharper bounds of products -/
theorem sm_few {f : Nat → Int} {C N : Nat} (h : ∀ i, (f i).natAbs ≤ C) (hz : ∀ i, N ≤ i → f i = 0) : ∀ n, (sm f n).natAbs ≤ min n N * C
  | 0 => by simp [sm]
  | n + 1 => by
    have ih := sm_few h hz n
    rw [sm]
    by_cases hn : N ≤ n
    · rw [hz n hn, Int.add_zero, show min (n + 1) N = min n N by omega]
      exact ih
    · rw [show min (n + 1) N = n + 1 by omega, Nat.succ_mul]
      rw [show min n N = n by omega] at ih
      have := h n
      have := Int.natAbs_add_le (sm f n) (f n)
      omega
theorem bd_few {a b : List Int} {A B N : Nat} (ha : Bd A a) (hb : Bd B b) (hN : b.length ≤ N) : Bd (N * (B * A)) (ml a b) := fun n => by
  rw [PL.cf_ml, PL.cv_comm]
  refine Nat.le_trans (sm_few (C := B * A) (N := N) (fun i => ?_) (fun i hi => ?_) _) (Nat.mul_le_mul_right _ (Nat.min_le_right _ _))
  · rw [Int.natAbs_mul]
    exact Nat.mul_le_mul (hb i) (ha _)
  · rw [PL.cf_beyond (by omega), Int.zero_mul]
theorem bd_lin {a : List Int} {A : Nat} {y : Int} (ha : Bd A a) (hy : y.natAbs ≤ 4) : Bd (5 * A) (ml a [y, 1]) := fun n => by
  rw [PL.cf_ml, PL.cv_comm]
  have key : ∀ m, (sm (fun i => cf [y, 1] i * cf a (n - i)) m).natAbs ≤ 5 * A := by
    intro m
    have h0 : (y * cf a n).natAbs ≤ 4 * A := by rw [Int.natAbs_mul]; exact Nat.mul_le_mul hy (ha n)
    have h1 := ha (n - 1)
    have e : ∀ m, sm (fun i => cf [y, 1] i * cf a (n - i)) (m + 2) = y * cf a n + cf a (n - 1) := by
      intro m
      induction m with
      | zero =>
        show 0 + y * cf a (n - 0) + 1 * cf a (n - 1) = _
        rw [Nat.sub_zero, Int.zero_add, Int.one_mul]
      | succ m ih =>
        have z : cf [y, 1] (m + 2) = 0 := PL.cf_beyond (a := [y, 1]) (n := m + 2) (by show 2 ≤ m + 2; omega)
        rw [show m + 1 + 2 = m + 2 + 1 by omega, sm, ih, z, Int.zero_mul, Int.add_zero]
    match m with
    | 0 => simp [sm]
    | 1 =>
      show (0 + y * cf a (n - 0)).natAbs ≤ _
      rw [Nat.sub_zero, Int.zero_add]
      omega
    | m + 2 =>
      rw [e]
      have := Int.natAbs_add_le (y * cf a n) (cf a (n - 1))
      omega
  exact key _
theorem rs_lt {a b : List Int} (a0 : a ≠ []) (b0 : b ≠ []) (ba : Bd (2 ^ 9) a) (bb : Bd (2 ^ 9) b) (la : a.length ≤ 8) (lb : b.length ≤ 6) : (rs a b).natAbs < 2 ^ 200 := by
  have ap := List.length_pos_iff.mpr a0
  have bp := List.length_pos_iff.mpr b0
  have h := PL.det_bd (2 ^ 9) (a.length - 1 + (b.length - 1)) ((tb a (b.length - 1) ++ tb b (a.length - 1)).map cf) (by rw [List.length_map, List.length_append, tb_len, tb_len]; omega) (fun u hu j => by
    obtain ⟨r, hr, rfl⟩ := List.mem_map.mp hu
    have hm : ∀ y ∈ r, y.natAbs ≤ 2 ^ 9 := fun y hy => by
      rcases List.mem_append.mp hr with hr | hr
      · rcases (tb_mem hr a0).2 y hy with rfl | h
        · exact Nat.zero_le _
        · exact PL.mem_bd ba y h
      · rcases (tb_mem hr b0).2 y hy with rfl | h
        · exact Nat.zero_le _
        · exact PL.mem_bd bb y h
    exact PL.bd_mem hm j)
  rw [tb_det a0 b0] at h
  have h1 := PL.fact_le (n := a.length - 1 + (b.length - 1)) (m := 12) (by omega)
  have h2 : (2 ^ 9) ^ (a.length - 1 + (b.length - 1)) ≤ (2 ^ 9) ^ 12 := Nat.pow_le_pow_right (by decide) (by omega)
  exact Nat.lt_of_le_of_lt (Nat.le_trans h (Nat.mul_le_mul h1 h2)) (by decide)
/-! a drawn line, its numbers' bound by its width -/
theorem r_law_lineB {d : D} {m w : Int} (hd : Pot d) (h0 : 0 ≤ m) (h1 : m ≤ 6) (w0 : 3 ≤ w) (w1 : w ≤ 5) : ∃ a d', m__law_line d [.int m, .int w] = some (.ow (IL a), d') ∧ Pot d' ∧ Dr m.toNat a ∧ Bd w.toNat a := by
  obtain ⟨s, r, e, p⟩ := for_ex (δ0 := [.own true d, .dat (.int m), .dat (.int w), .own false (IL []), rw' none]) (fi := rngM1 (consA (nameM 1) nilA)) (gt := asg 4) (body := g__law_line_b1) (fun i : Nat => .int ((0 : Int) + (i : Nat))) (fun (s : D × List Int) (r : Option D) => [.own true s.1, .dat (.int m), .dat (.int w), .own false (IL s.2), rw' r]) (fun k s => Pot s.1 ∧ s.2.length = k ∧ ∀ y ∈ s.2, y.natAbs ≤ w.toNat) (List.range m.toNat) (s0 := (d, [])) (r0 := none) rfl (rng_1 (by simp only [mb, mr, mo, nameM, conM, binM, unM, boolM, ifM, DL.andM, DL.orM, DL.notM, andV, orV, notV, chainM, nilA, consA, dvs, dv, ownAt, fzs, lstM, tupM, callM, callP, permL, fzv, seqS, skipS, ifS, setS, asg, fr_z_un, fr_z_dat, fr_z_rw, fr_z_own, fr_s, turnF, retS, retV, dropS, frz, frzS, asgS, nilG, consG, tupG, subG, listAt, methM, augS, augSubS, forS, seqM, treeV, startD, endV, bodyF, bodyI, startI, ioAt, slM, partM, bors, callL, callI, callO, DL.flatV, DL.flat, List.filterMap_cons, List.filterMap_nil, List.map_cons, List.map_nil, List.getElem?_cons_zero, List.getElem?_cons_succ, List.getElem?_nil, List.set_cons_zero, List.set_cons_succ, List.cons_append, List.nil_append, List.length_cons, List.length_nil, Option.bind_some, Option.bind_none, Option.map_some, Option.map_none, Nat.reduceSub, Nat.reduceAdd, List.replicate_succ, List.replicate_zero, Bool.not_true, Bool.not_false, if_true, if_false, Bool.false_eq_true, reduceIte, decide_true, decide_false, Nat.reduceLT, Nat.reduceLeDiff, reduceCtorEq, Option.some.injEq, Prod.mk.injEq]) ⟨h0, by omega⟩) ⟨hd, rfl, by intro y hy; cases hy⟩ (fun k i s r hk p => by
    have hkl : k < m.toNat := by simpa using (List.getElem?_eq_some_iff.mp hk).1
    obtain ⟨x, d', hx, hd', x0, x1⟩ := draw_ok p.1 (n := 2 * w + 1) (by omega) (by omega)
    refine ⟨(d', s.2 ++ [x - w]), some (.int ((0 : Int) + (i : Nat))), ?_, hd', by simp [p.2.1], fun y hy => ?_⟩
    · have e := line_b1 (m := m) (r := some (.int ((0 : Int) + (i : Nat)))) (mulD_big (by decide) (by omega)) rfl hx rfl (append_IL (by omega : s.2.length ≤ 900))
      generalize (0 : Int) + (i : Nat) = j at e ⊢
      generalize s.2 ++ [x - w] = ys at e ⊢
      unfold rw' at e
      simp only [mb, mr, mo, nameM, conM, binM, unM, boolM, ifM, DL.andM, DL.orM, DL.notM, andV, orV, notV, chainM, nilA, consA, dvs, dv, ownAt, fzs, lstM, tupM, callM, callP, permL, fzv, seqS, skipS, ifS, setS, asg, fr_z_un, fr_z_dat, fr_z_rw, fr_z_own, fr_s, turnF, retS, retV, dropS, frz, frzS, asgS, nilG, consG, tupG, subG, listAt, methM, augS, augSubS, forS, seqM, treeV, startD, endV, bodyF, bodyI, startI, ioAt, slM, partM, bors, callL, callI, callO, DL.flatV, DL.flat, List.filterMap_cons, List.filterMap_nil, List.map_cons, List.map_nil, List.getElem?_cons_zero, List.getElem?_cons_succ, List.getElem?_nil, List.set_cons_zero, List.set_cons_succ, List.cons_append, List.nil_append, List.length_cons, List.length_nil, Option.bind_some, Option.bind_none, Option.map_some, Option.map_none, Nat.reduceSub, Nat.reduceAdd, List.replicate_succ, List.replicate_zero, Bool.not_true, Bool.not_false, if_true, if_false, Bool.false_eq_true, reduceIte, decide_true, decide_false, Nat.reduceLT, Nat.reduceLeDiff, reduceCtorEq, Option.some.injEq, Prod.mk.injEq, e]
      rfl
    · rcases List.mem_append.mp hy with h | h
      · exact p.2.2 y h
      · rw [List.mem_singleton.mp h]
        omega)
  rw [List.length_range] at p
  obtain ⟨x, hx, d', hp, hd'⟩ := pick_ok (xs := [.int 1, .int (-1), .int 2, .int 3, .int (1 - w)]) p.1 (by simp) (by show 5 < _; decide)
  obtain ⟨y, rfl, y0, y1⟩ : ∃ y : Int, x = .int y ∧ y ≠ 0 ∧ y.natAbs ≤ w.toNat := by
    simp only [List.mem_cons, List.not_mem_nil, or_false] at hx
    rcases hx with rfl | rfl | rfl | rfl | rfl <;> exact ⟨_, rfl, by omega, by omega⟩
  have hb : Bd w.toNat (s.2 ++ [y]) := PL.bd_mem fun z hz => by
    rcases List.mem_append.mp hz with h | h
    · exact p.2.2 z h
    · rw [List.mem_singleton.mp h]
      exact y1
  exact ⟨s.2 ++ [y], d', line_end e rfl hp (addD_IL s.2 [y] (by simp; omega)), hd', ⟨by simp; omega, PL.nz_last y0, PL.bd_le (by omega) hb⟩, hb⟩
/-! lines of told roots -/
def Lr (l : List Int) (rts : List Int) : List Int := rts.foldl (fun l y => ml l [0 - y, 1]) l
theorem Lr_snoc (l rts : List Int) (y : Int) : Lr l (rts ++ [y]) = ml (Lr l rts) [0 - y, 1] := by
  unfold Lr
  rw [List.foldl_append]
  rfl
theorem nz_one (y : Int) : Nz [y, 1] := nz1 [y] (by decide)
theorem rs_Lr {b : List Int} (b0 : b ≠ []) : ∀ (rts : List Int) {l : List Int}, Nz l → l ≠ [] → rs (Lr l rts) b = rts.foldl (fun u y => u * vl b y) (rs l b)
  | [], _, _, _ => rfl
  | y :: rts, l, nl, l0 => by
    have e : rs (ml l [0 - y, 1]) b = rs l b * vl b y := by
      rw [PL.rs_ml nl l0 (List.cons_ne_nil _ _), show (0 - y) = -y by omega, PL.rs_lin y b0]
    show rs (Lr (ml l [0 - y, 1]) rts) b = rts.foldl _ (rs l b * vl b y)
    rw [rs_Lr b0 rts (PL.nz_ml nl (nz_one _)) (PL.ml_ne l0 (List.cons_ne_nil _ _)), e]
theorem rs_one (c : Int) (b : List Int) : rs [c] b = c ^ (b.length - 1) := by
  rw [PL.rs_comm, PL.rs_con (b := [c]) rfl]
  show (-1) ^ (0 * (b.length - 1)) * _ = _
  rw [Nat.zero_mul, Int.pow_zero, Int.one_mul]
  rfl
structure Sp (c : Int) (k : Nat) (rts : List Int) : Prop where
  len : rts.length = k
  bd : ∀ y ∈ rts, y.natAbs ≤ 4
theorem snocRec {P : List Int → Prop} (h0 : P []) (h1 : ∀ l y, P l → P (l ++ [y])) (l : List Int) : P l := by
  have key : ∀ m : List Int, P m.reverse := by
    intro m
    induction m with
    | nil => exact h0
    | cons y m ih => rw [List.reverse_cons]; exact h1 _ _ ih
  have := key l.reverse
  rwa [List.reverse_reverse] at this
theorem Lr_ok {c : Int} (c0 : c ≠ 0) (c3 : c.natAbs ≤ 3) : ∀ {rts : List Int}, (∀ y ∈ rts, y.natAbs ≤ 4) → Nz (Lr [c] rts) ∧ (Lr [c] rts).length = rts.length + 1 ∧ Bd (3 * 5 ^ rts.length) (Lr [c] rts) := by
  intro rts
  refine snocRec (P := fun rts => (∀ y ∈ rts, y.natAbs ≤ 4) → Nz (Lr [c] rts) ∧ (Lr [c] rts).length = rts.length + 1 ∧ Bd (3 * 5 ^ rts.length) (Lr [c] rts)) ?_ ?_ rts
  · exact fun _ => ⟨nz1 [] c0, rfl, PL.bd_mem (by intro y hy; rw [List.mem_singleton.mp hy]; exact c3)⟩
  · intro l y ih
    intro h
    obtain ⟨i1, i2, i3⟩ := ih fun z hz => h z (List.mem_append_left _ hz)
    have hy := h y (by simp)
    rw [Lr_snoc]
    refine ⟨PL.nz_ml i1 (nz_one _), ?_, ?_⟩
    · rw [PL.ml_len (fun z => by rw [z] at i2; simp at i2) (List.cons_ne_nil _ _), i2]
      simp
    · have := bd_lin (y := 0 - y) i3 (by omega)
      rw [List.length_append, List.length_singleton, Nat.pow_succ, show 3 * (5 ^ l.length * 5) = 5 * (3 * 5 ^ l.length) by rw [Nat.mul_comm (5 ^ l.length) 5, ← Nat.mul_assoc, ← Nat.mul_assoc]]
      exact this
end K13
end
section
set_option maxRecDepth 100000
set_option exponentiation.threshold 100000
set_option maxHeartbeats 4000000
namespace K13
open PySem PySem.Spec L2 DL
open PL (cf Nz Bd Rem Qt vl rs Ch Sf Eu ml Gc Dv sm cv)
abbrev fR (a b s : List Int) (c : Int) (p : D) (io : Bool) (ln rts : List Int) (r : Option D) : DS := [.own true p, .dat (IL a), .dat (IL b), .dat (IL s), bl io (IL ln), .dat (.int c), .dat (.int 1), .own false (IL rts), rw' r, .un]
theorem seqS_bl {io : Bool} {d : D} : (bl io d) = .dat d ∨ bl io d = .own false d := by cases io <;> simp [bl]
theorem ri_it {a b s : List Int} {c k : Int} {p p' : D} (h : m__law_draw p [.int 4] = some (.fz (.int k), p')) (hk : 0 ≤ k ∧ k < 1000) :
    rngM1 (consA (callI m__law_draw (consA (nameM 0) (consA (conM (.int 4)) nilA))) nilA) [.own true p, .dat (IL a), .dat (IL b), .dat (IL s), .dat (IL [c]), .dat (.int c), .dat (.int 1), .own false (.list []), .un, .un] = some ((List.range k.toNat).map fun i => .int ((0 : Int) + (i : Nat)), fR a b s c p' false [c] [] none) := by
  refine rng_1 ?_ hk
  simp only [mb, mr, mo, nameM, conM, binM, unM, boolM, ifM, DL.andM, DL.orM, DL.notM, andV, orV, notV, chainM, nilA, consA, dvs, dv, ownAt, fzs, lstM, tupM, callM, callP, permL, fzv, seqS, skipS, ifS, setS, asg, fr_z_un, fr_z_dat, fr_z_rw, fr_z_own, fr_s, turnF, retS, retV, dropS, frz, frzS, asgS, nilG, consG, tupG, subG, listAt, methM, augS, augSubS, forS, seqM, treeV, startD, endV, bodyF, bodyI, startI, ioAt, slM, partM, bors, callL, callI, callO, DL.flatV, DL.flat, List.filterMap_cons, List.filterMap_nil, List.map_cons, List.map_nil, List.getElem?_cons_zero, List.getElem?_cons_succ, List.getElem?_nil, List.set_cons_zero, List.set_cons_succ, List.cons_append, List.nil_append, List.length_cons, List.length_nil, Option.bind_some, Option.bind_none, Option.map_some, Option.map_none, Nat.reduceSub, Nat.reduceAdd, List.replicate_succ, List.replicate_zero, Bool.not_true, Bool.not_false, if_true, if_false, Bool.false_eq_true, reduceIte, decide_true, decide_false, Nat.reduceLT, Nat.reduceLeDiff, reduceCtorEq, Option.some.injEq, Prod.mk.injEq, h]
  exact ⟨trivial, rfl⟩
theorem ri_f1 {a b s : List Int} {c : Int} {p : D} (hp : Pot p) (c0 : c ≠ 0) (c3 : c.natAbs ≤ 3) :
    ∃ p' io rts r, g__law_right_f1 [.own true p, .dat (IL a), .dat (IL b), .dat (IL s), .dat (IL [c]), .dat (.int c), .dat (.int 1), .own false (.list []), .un, .un] = some (.nx, fR a b s c p' io (Lr [c] rts) rts r) ∧ Pot p' ∧ rts.length ≤ 3 ∧ ∀ y ∈ rts, y.natAbs ≤ 4 := by
  obtain ⟨k, p1, h1, hp1, k0, k1⟩ := draw_ok hp (n := 4) (by decide) (by decide)
  obtain ⟨st, r, e, q⟩ := for_ex2 (δ1 := fR a b s c p1 false [c] [] none) (gt := asg 8) (body := g__law_right_b1) (fun i : Nat => .int ((0 : Int) + (i : Nat))) (fun (st : D × Bool × List Int) (r : Option D) => fR a b s c st.1 st.2.1 (Lr [c] st.2.2) st.2.2 r)
    (fun k st => Pot st.1 ∧ st.2.2.length = k ∧ ∀ y ∈ st.2.2, y.natAbs ≤ 4) (List.range k.toNat) (s0 := (p1, false, [])) (r0 := none) rfl (ri_it h1 ⟨k0, by omega⟩) ⟨hp1, rfl, by intro y hy; cases hy⟩ (fun j i st r hj q => by
    obtain ⟨pp, io, rts⟩ := st
    have hjl : j < k.toNat := by simpa using (List.getElem?_eq_some_iff.mp hj).1
    obtain ⟨q1, q2, q3⟩ := q
    obtain ⟨x, p', hx, hp', x0, x1⟩ := draw_ok q1 (n := 9) (by decide) (by decide)
    have q2 : rts.length = j := q2
    obtain ⟨l1, l2, l3⟩ := Lr_ok (rts := rts) c0 c3 q3
    have hy : (x - 4).natAbs ≤ 4 := by omega
    have bl9 : Bd (2 ^ 9) (Lr [c] rts) := PL.bd_le (Nat.le_trans (Nat.mul_le_mul_left 3 (Nat.pow_le_pow_right (by decide) (show rts.length ≤ 3 by omega))) (by decide)) l3
    have ht := r_law_times (a := Lr [c] rts) (b := [0 - (x - 4), 1]) (fun y hy => Nat.lt_of_le_of_lt (PL.mem_bd bl9 y hy) (by decide)) (fun y hy => by
      simp only [List.mem_cons, List.not_mem_nil, or_false] at hy
      rcases hy with rfl | rfl
      · exact Nat.lt_of_le_of_lt (show (0 - (x - 4)).natAbs ≤ 4 by omega) (by decide)
      · decide) l1 (nz_one _) (by omega) (by simp)
    have hxs : ixD (.list (rts.map .int ++ [.int (x - 4)])) (.int (-1)) = some (.fz (.int (x - 4))) := ix_last rfl
    have ha : appendL (rts.map .int) [.int (x - 4)] = some (.none, rts.map .int ++ [.int (x - 4)]) := by
      have := append_IL (xs := rts) (y := x - 4) (by omega)
      rwa [List.map_append] at this
    refine ⟨(p', true, rts ++ [x - 4]), some (.int ((0 : Int) + (i : Nat))), ?_, hp', by simp [q2], fun y hy' => ?_⟩
    · have e := ri_b1 (a := IL a) (b := IL b) (s := IL s) (l0 := .int c) (d0 := .int 1) (io := io) (r := some (.int ((0 : Int) + (i : Nat)))) hx rfl ha hxs rfl ht
      rw [← Lr_snoc] at e
      show turnF (asg 8) g__law_right_b1 _ (fR a b s c pp io (Lr [c] rts) rts r) = some (fR a b s c p' true (Lr [c] (rts ++ [x - 4])) (rts ++ [x - 4]) _)
      have e2 : IL (rts ++ [x - 4]) = .list (rts.map .int ++ [.int (x - 4)]) := by unfold IL; rw [List.map_append]; rfl
      unfold fR
      rw [e2]
      generalize IL (Lr [c] (rts ++ [x - 4])) = L2 at e ⊢
      generalize IL (Lr [c] rts) = L1 at e ⊢
      have e : g__law_right_b1 [.own true pp, .dat (IL a), .dat (IL b), .dat (IL s), bl io L1, .dat (.int c), .dat (.int 1), .own false (IL rts), rw' (some (.int ((0 : Int) + (i : Nat)))), .un] = _ := e
      unfold turnF
      have g : asg 8 (.fz (.int ((0 : Int) + (i : Nat)))) [.own true pp, .dat (IL a), .dat (IL b), .dat (IL s), bl io L1, .dat (.int c), .dat (.int 1), .own false (IL rts), rw' r, .un] = some [.own true pp, .dat (IL a), .dat (IL b), .dat (IL s), bl io L1, .dat (.int c), .dat (.int 1), .own false (IL rts), rw' (some (.int ((0 : Int) + (i : Nat)))), .un] := by
        cases r <;> rfl
      rw [g]
      simp only [e]
    · rcases List.mem_append.mp hy' with h | h
      · exact q3 y h
      · rw [List.mem_singleton.mp h]
        exact hy)
  obtain ⟨pp, io, rts⟩ := st
  obtain ⟨q1, q2, q3⟩ := q
  rw [List.length_range] at q2
  have q2 : rts.length = k.toNat := q2
  exact ⟨pp, io, rts, r, e, q1, by omega, q3⟩
abbrev fV (a b s : List Int) (c : Int) (p : D) (io : Bool) (ln rts : List Int) (r8 : Option D) (u : Int) (r9 : Option D) : DS := [.own true p, .dat (IL a), .dat (IL b), .dat (IL s), bl io (IL ln), .dat (.int c), .dat (.int u), .dat (IL rts), rw' r8, rw' r9]
theorem fold_bd {b : List Int} (hb : ∀ x : Int, x.natAbs ≤ 7 → (vl b x).natAbs ≤ 2 ^ 30) {u x : Int} {k : Nat} (hu : u.natAbs ≤ 2 ^ 20 * 2 ^ (30 * k)) (hx : x.natAbs ≤ 7) : (u * vl b x).natAbs ≤ 2 ^ 20 * 2 ^ (30 * (k + 1)) := by
  rw [Int.natAbs_mul, Nat.mul_add, Nat.mul_one, Nat.pow_add, ← Nat.mul_assoc]
  exact Nat.mul_le_mul hu (hb x hx)
theorem ri_s9 {a b s : List Int} {c u0 : Int} {p : D} {io : Bool} {ln rts : List Int} {r8 : Option D} (hb : ∀ y ∈ b, y.natAbs ≤ 2 ^ 6) (lb : b.length ≤ 6) (hu : u0.natAbs ≤ 2 ^ 20) (hr : ∀ y ∈ rts, y.natAbs ≤ 4) (lr : rts.length ≤ 3) :
    ∃ r9, g__law_right_s9 [.own true p, .dat (IL a), .dat (IL b), .dat (IL s), bl io (IL ln), .dat (.int c), .dat (.int u0), .own false (IL rts), rw' r8, .un] = some (.nx, fV a b s c p io ln rts r8 (rts.foldl (fun u y => u * vl b y) u0) r9) ∧ (rts.foldl (fun u y => u * vl b y) u0).natAbs < 2 ^ 200 := by
  have hv : ∀ x : Int, x.natAbs ≤ 7 → (vl b x).natAbs ≤ 2 ^ 30 := fun x hx => by
    refine Nat.le_trans (vl_bound x hx hb) (Nat.le_trans (Nat.mul_le_mul_left _ (Nat.pow_le_pow_right (by decide) lb)) (by decide))
  obtain ⟨r', e, q⟩ := for_fold (fi := seqM (nameM 7)) (gt := asg 9) (body := g__law_right_b2) (δ0 := fV a b s c p io ln rts r8 u0 none) (fun x : Int => .int x) (fun (u : Int) (r : Option D) => fV a b s c p io ln rts r8 u r) (fun u y => u * vl b y) (fun k u => u.natAbs ≤ 2 ^ 20 * 2 ^ (30 * k)) rts (s0 := u0) (r0 := none) rfl
    (by cases io <;> cases r8 <;> simp only [fV, bl_t, bl_f, rw', mb, mr, mo, nameM, conM, binM, unM, boolM, ifM, DL.andM, DL.orM, DL.notM, andV, orV, notV, chainM, nilA, consA, dvs, dv, ownAt, fzs, lstM, tupM, callM, callP, permL, fzv, seqS, skipS, ifS, setS, asg, fr_z_un, fr_z_dat, fr_z_rw, fr_z_own, fr_s, turnF, retS, retV, dropS, frz, frzS, asgS, nilG, consG, tupG, subG, listAt, methM, augS, augSubS, forS, seqM, treeV, startD, endV, bodyF, bodyI, startI, ioAt, slM, partM, bors, callL, callI, callO, DL.flatV, DL.flat, List.filterMap_cons, List.filterMap_nil, List.map_cons, List.map_nil, List.getElem?_cons_zero, List.getElem?_cons_succ, List.getElem?_nil, List.set_cons_zero, List.set_cons_succ, List.cons_append, List.nil_append, List.length_cons, List.length_nil, Option.bind_some, Option.bind_none, Option.map_some, Option.map_none, Nat.reduceSub, Nat.reduceAdd, List.replicate_succ, List.replicate_zero, Bool.not_true, Bool.not_false, if_true, if_false, Bool.false_eq_true, reduceIte, decide_true, decide_false, Nat.reduceLT, Nat.reduceLeDiff, reduceCtorEq, Option.some.injEq, Prod.mk.injEq, itemsOf]) (by simpa using hu) (fun k y u r hk q => by
    have hkl : k < rts.length := (List.getElem?_eq_some_iff.mp hk).1
    have hy := hr y (List.mem_of_getElem? hk)
    have q' : u.natAbs ≤ 2 ^ 20 * 2 ^ (30 * 3) := Nat.le_trans q (Nat.mul_le_mul_left _ (Nat.pow_le_pow_right (by decide) (by omega)))
    refine ⟨⟨some (.int y), ?_⟩, fold_bd hv q (by omega)⟩
    have e := ri_b2 (p := p) (a := IL a) (s := IL s) (ln := IL ln) (l0 := .int c) (rts := IL rts) (io := io) (r8 := r8) (r_law_value b y (by omega) (fun z hz => Nat.le_trans (hb z hz) (by decide)) (by omega)) (mulD_lt (i := u) (j := vl b y) (Nat.lt_of_le_of_lt q' (by decide)) (Nat.lt_of_le_of_lt (hv y (by omega)) (by decide)))
    unfold turnF
    have g : asg 9 (.fz (.int y)) (fV a b s c p io ln rts r8 u r) = some [.own true p, .dat (IL a), .dat (IL b), .dat (IL s), bl io (IL ln), .dat (.int c), .dat (.int u), .dat (IL rts), rw' r8, .dat (.int y)] := by
      cases r <;> rfl
    rw [g]
    simp only [e]
    rfl)
  refine ⟨r', ?_, Nat.lt_of_le_of_lt (Nat.le_trans q (Nat.mul_le_mul_left _ (Nat.pow_le_pow_right (by decide) (show 30 * rts.length ≤ 90 by omega)))) (by decide)⟩
  have e : g__law_right_f2 (fV a b s c p io ln rts r8 u0 none) = _ := e
  unfold g__law_right_s9
  generalize fV a b s c p io ln rts r8 (rts.foldl (fun u y => u * vl b y) u0) r' = Z at e ⊢
  have e : g__law_right_f2 [.own true p, .dat (IL a), .dat (IL b), .dat (IL s), bl io (IL ln), .dat (.int c), .dat (.int u0), .dat (IL rts), rw' r8, .un] = some (.nx, Z) := e
  simp only [mb, mr, mo, nameM, conM, binM, unM, boolM, ifM, DL.andM, DL.orM, DL.notM, andV, orV, notV, chainM, nilA, consA, dvs, dv, ownAt, fzs, lstM, tupM, callM, callP, permL, fzv, seqS, skipS, ifS, setS, asg, fr_z_un, fr_z_dat, fr_z_rw, fr_z_own, fr_s, turnF, retS, retV, dropS, frz, frzS, asgS, nilG, consG, tupG, subG, listAt, methM, augS, augSubS, forS, seqM, treeV, startD, endV, bodyF, bodyI, startI, ioAt, slM, partM, bors, callL, callI, callO, DL.flatV, DL.flat, List.filterMap_cons, List.filterMap_nil, List.map_cons, List.map_nil, List.getElem?_cons_zero, List.getElem?_cons_succ, List.getElem?_nil, List.set_cons_zero, List.set_cons_succ, List.cons_append, List.nil_append, List.length_cons, List.length_nil, Option.bind_some, Option.bind_none, Option.map_some, Option.map_none, Nat.reduceSub, Nat.reduceAdd, List.replicate_succ, List.replicate_zero, Bool.not_true, Bool.not_false, if_true, if_false, Bool.false_eq_true, reduceIte, decide_true, decide_false, Nat.reduceLT, Nat.reduceLeDiff, reduceCtorEq, Option.some.injEq, Prod.mk.injEq, e]
theorem sf_one : Sf [1] := ⟨nz1 [] (by decide), by simp, PL.bd_mem (by intro y hy; rw [List.mem_singleton.mp hy]; decide), by simp⟩
theorem ml_one' {a : List Int} (h : Nz a) : ml a [1] = a := PL.S_inj (PL.nz_ml h sf_one.nz) h (by rw [PL.S_ml, PL.S_cons, PL.S_nil, PL.con_one]; grind)
theorem one_ml' {a : List Int} (h : Nz a) : ml [1] a = a := PL.S_inj (PL.nz_ml sf_one.nz h) h (by rw [PL.S_ml, PL.S_cons, PL.S_nil, PL.con_one]; grind)
theorem ml_com {a b : List Int} (ha : Nz a) (hb : Nz b) : ml a b = ml b a := PL.S_inj (PL.nz_ml ha hb) (PL.nz_ml hb ha) (by rw [PL.S_ml, PL.S_ml]; grind)
/-- what the two lines of the law are -/
structure Nd (a b s : List Int) : Prop where
  ab : Pp a b
  bs : Pp b s
  ba : Bd 36 a
  as : Nz s
  s0 : s ≠ []
  bs3 : Bd 3 s
  ls : s.length ≤ 3
theorem right_fin {a b s : List Int} (h : Nd a b s) {p : D} (hp : Pot p) : ∃ p' δ, seqS g__law_right_s3 (seqS g__law_right_s4 (seqS g__law_right_s5 (seqS g__law_right_s6 (seqS g__law_right_s7 (seqS g__law_right_f1 (seqS g__law_right_s8 (seqS g__law_right_s9 (seqS g__law_right_s10 g__law_right_s11)))))))) [.own true p, .dat (IL a), .dat (IL b), .dat (IL s), .un, .un, .un, .un, .un, .un] = some (.rt (.fz (.bool true)), .own true p' :: δ) := by
  have qa := h.ab.qa
  have qb := h.ab.qb
  have qs := h.bs.qb
  have a0 := List.length_pos_iff.mpr qa.ne
  have b0 := List.length_pos_iff.mpr qb.ne
  have la := qa.len
  have lb := qb.len
  have ls := h.ls
  obtain ⟨x, hx, p1, h1, hp1⟩ := pick_ok (xs := [.int 1, .int (-2), .int 3]) hp (by simp) (by show 3 < _; decide)
  obtain ⟨c, rfl, c0, c3⟩ : ∃ y : Int, x = .int y ∧ y ≠ 0 ∧ y.natAbs ≤ 3 := by
    simp only [List.mem_cons, List.not_mem_nil, or_false] at hx
    rcases hx with rfl | rfl | rfl <;> exact ⟨_, rfl, by omega, by omega⟩
  have bg : ∀ {u : List Int}, Sq 6 6 u → ∀ y ∈ u, y.natAbs < 2 ^ 8000 := fun hu y hy => Nat.lt_of_le_of_lt (PL.mem_bd hu.bd y hy) (Nat.pow_lt_pow_right (by decide) (by decide))
  have sas : Sq 8 9 (ml a s) := ⟨PL.nz_ml qa.nz qs.nz, PL.ml_ne qa.ne qs.ne, by rw [PL.ml_len qa.ne qs.ne]; omega, PL.bd_le (by decide) (bd_few h.ba h.bs3 ls)⟩
  have ht := r_law_times (bg qa) (bg qs) qa.nz qs.nz (by omega) (by omega)
  have ea := r_resultant (ln_IL (ml a s)) (ln_IL b) sas qb
  have e2 := r_resultant (ln_IL a) (ln_IL b) qa.up qb
  have e3 := r_resultant (ln_IL s) (ln_IL b) qs.up qb
  have m1 : mulD (.int (rs a b)) (.int (rs s b)) = some (.fz (.int (rs (ml a s) b))) := by
    rw [PL.rs_ml qa.nz qa.ne qs.ne]
    exact mulD_lt (rs_lt qa.ne qb.ne qa.up.bd qb.up.bd (by omega) (by omega)) (rs_lt qs.ne qb.ne qs.up.bd qb.up.bd (by omega) (by omega))
  obtain ⟨p2, io, rts, r8, hf, hp2, lr, hr⟩ := ri_f1 (a := a) (b := b) (s := s) hp1 c0 c3
  obtain ⟨l1, l2, l3⟩ := Lr_ok c0 c3 hr
  have hpw : (c ^ (b.length - 1)).natAbs ≤ 2 ^ 20 := by
    rw [pow_abs]
    exact Nat.le_trans (Nat.pow_le_pow_left c3 _) (Nat.le_trans (Nat.pow_le_pow_right (by decide) (show b.length - 1 ≤ 5 by omega)) (by decide))
  have hpw2 := r_law_power (x := c) (k := b.length - 1) c0 (Nat.lt_of_le_of_lt c3 (by decide)) (Nat.lt_of_le_of_lt hpw (by decide)) (by omega)
  obtain ⟨r9, h9, -⟩ := ri_s9 (a := a) (b := b) (s := s) (c := c) (u0 := c ^ (b.length - 1)) (p := p2) (io := io) (ln := Lr [c] rts) (rts := rts) (r8 := r8) (PL.mem_bd qb.bd) (by omega) hpw hr lr
  have sl : Sq 8 9 (Lr [c] rts) := ⟨l1, fun z => by rw [z] at l2; simp at l2, by omega, PL.bd_le (Nat.le_trans (Nat.mul_le_mul_left 3 (Nat.pow_le_pow_right (by decide) lr)) (by decide)) l3⟩
  have e10 := r_resultant (ln_IL (Lr [c] rts)) (ln_IL b) sl qb
  rw [rs_Lr (l := [c]) qb.ne rts (nz1 [] c0) (List.cons_ne_nil _ _), rs_one] at e10
  have h8 := ri_s8 (p := p2) (a := IL a) (s := IL s) (ln := IL (Lr [c] rts)) (rts := rts.map .int) (io := io) (u := c) (d0 := .int 1) (r8 := r8) (l0 := .int 0) (len_ints (d := IL b) (a := b) rfl) (show ((b.length : Nat) : Int) - 1 = ((b.length - 1 : Nat) : Int) by omega) hpw2
  have h10 := ri_s10 (p := p2) (a := IL a) (b := IL b) (s := IL s) (ln := IL (Lr [c] rts)) (l0 := .int c) (rts := IL rts) (io := io) (r8 := r8) (r9 := r9) e10
  have tr : ∀ (A B C E : Ss) (δ : DS), seqS A (seqS B (seqS C E)) δ = seqS (seqS A (seqS B C)) E δ := fun A B C E δ => by rw [← seq_as A (seqS B C) E, ← seq_as B C E]
  have key : seqS g__law_right_s3 (seqS g__law_right_s4 (seqS g__law_right_s5 (seqS g__law_right_s6 (seqS g__law_right_s7 (seqS g__law_right_f1 (seqS g__law_right_s8 (seqS g__law_right_s9 (seqS g__law_right_s10 g__law_right_s11)))))))) [.own true p, .dat (IL a), .dat (IL b), .dat (IL s), .un, .un, .un, .un, .un, .un] = some (.rt (.fz (.bool true)), fV a b s c p2 io (Lr [c] rts) rts r8 (rts.foldl (fun u y => u * vl b y) (c ^ (b.length - 1))) r9) := by
    rw [seq_ok (ri_s3 (r_pair h.ab) (r_pair h.bs)), seq_ok (ri_s4 ht ea e2 e3 m1), tr, seq_ok (ri_s567 h1), seq_ok hf, seq_ok h8, seq_ok h9, seq_ok h10, r_s11]
  exact ⟨p2, _, key⟩
theorem right_ev {p p' : D} {δ1 δ2 δ3 : DS} (h1 : g__law_right_s1 [.own true p, .un, .un, .un, .un, .un, .un, .un, .un, .un] = some (.nx, δ1)) (h2 : g__law_right_s2 δ1 = some (.nx, δ2)) (h3 : seqS g__law_right_s3 (seqS g__law_right_s4 (seqS g__law_right_s5 (seqS g__law_right_s6 (seqS g__law_right_s7 (seqS g__law_right_f1 (seqS g__law_right_s8 (seqS g__law_right_s9 (seqS g__law_right_s10 g__law_right_s11)))))))) δ2 = some (.rt (.fz (.bool true)), .own true p' :: δ3)) : m__law_right p [] = some (.fz (.bool true), p') := by
  have e : g__law_right [.own true p, .un, .un, .un, .un, .un, .un, .un, .un, .un] = some (.rt (.fz (.bool true)), .own true p' :: δ3) := by
    unfold g__law_right
    rw [seq_ok h1, seq_ok h2, h3]
  simp only [m__law_right, mb, mr, mo, nameM, conM, binM, unM, boolM, ifM, DL.andM, DL.orM, DL.notM, andV, orV, notV, chainM, nilA, consA, dvs, dv, ownAt, fzs, lstM, tupM, callM, callP, permL, fzv, seqS, skipS, ifS, setS, asg, freeAt, retS, retV, dropS, frz, frzS, asgS, nilG, consG, tupG, subG, listAt, methM, augS, augSubS, forS, seqM, treeV, startD, endV, bodyF, bodyI, startI, ioAt, slM, partM, bors, callL, callI, callO, DL.flatV, DL.flat, List.filterMap_cons, List.filterMap_nil, List.map_cons, List.map_nil, List.getElem?_cons_zero, List.getElem?_cons_succ, List.getElem?_nil, List.set_cons_zero, List.set_cons_succ, List.cons_append, List.nil_append, List.length_cons, List.length_nil, Option.bind_some, Option.bind_none, Option.map_some, Option.map_none, Nat.reduceSub, Nat.reduceAdd, List.replicate_succ, List.replicate_zero, Bool.not_true, Bool.not_false, if_true, if_false, Bool.false_eq_true, reduceIte, decide_true, decide_false, Nat.reduceLT, Nat.reduceLeDiff, reduceCtorEq, Option.some.injEq, Prod.mk.injEq, e]
theorem r_right {p : D} (hp : Pot p) : ∃ p', m__law_right p [] = some (.fz (.bool true), p') := by
  obtain ⟨k1, p1, h1, hp1, k10, k11⟩ := draw_ok hp (n := 4) (by decide) (by decide)
  obtain ⟨a, p2, h2, hp2, da, ba⟩ := r_law_lineB (w := 4) hp1 k10 (by omega) (by decide) (by decide)
  obtain ⟨k2, p3, h3, hp3, k20, k21⟩ := draw_ok hp2 (n := 4) (by decide) (by decide)
  obtain ⟨b, p4, h4, hp4, db, bb⟩ := r_law_lineB (w := 4) hp3 k20 (by omega) (by decide) (by decide)
  obtain ⟨k3, p5, h5, hp5, k30, k31⟩ := draw_ok hp4 (n := 3) (by decide) (by decide)
  obtain ⟨s, p6, h6, hp6, ds, bs⟩ := r_law_lineB (w := 3) hp5 k30 (by omega) (by decide) (by decide)
  obtain ⟨k7, p7, h7, hp7, k70, k71⟩ := draw_ok hp6 (n := 3) (by decide) (by decide)
  have la := da.len
  have lb := db.len
  have ls := ds.len
  have a0 : a ≠ [] := fun z => by rw [z] at la; simp at la
  have b0 : b ≠ [] := fun z => by rw [z] at lb; simp at lb
  have s0 : s ≠ [] := fun z => by rw [z] at ls; simp at ls
  have ba : Bd 4 a := ba
  have bb : Bd 4 b := bb
  have bs : Bd 3 s := bs
  have gd : ∀ {u : List Int} {m : Nat}, Dr m u → m ≤ 3 → Gd u := fun du hm => ⟨by have := du.len; omega, du.nz, PL.bd_le (by decide) du.bd⟩
  have sfs : Sf s := ⟨ds.nz, s0, PL.bd_le (by decide) bs, by omega⟩
  have t1 := r_line_times (ln_IL a) (gd da (by omega)) (ln_IL s) (gd ds (by omega)) (fun _ _ => by omega)
  have t2 := r_line_times (ln_IL s) (gd ds (by omega)) (ln_IL b) (gd db (by omega)) (fun _ _ => by omega)
  have e2 := ri_s2 (a := IL a) (b := IL b) (s := IL s) h7 t1 t2
  have qs : Sq 6 6 s := ⟨ds.nz, s0, by omega, PL.bd_le (by decide) bs⟩
  have qb : Sq 6 6 b := ⟨db.nz, b0, by omega, PL.bd_le (by decide) bb⟩
  have qa : Sq 6 6 a := ⟨da.nz, a0, by omega, PL.bd_le (by decide) ba⟩
  have lm := PL.ml_len a0 s0
  have lm2 := PL.ml_len s0 b0
  have b36 : ∀ {u : List Int}, Bd 4 u → Bd 36 (ml u s) := fun hu => PL.bd_le (by decide) (bd_few hu bs (by omega : s.length ≤ 3))
  have bsb : Bd 36 (ml s b) := by rw [ml_com ds.nz db.nz]; exact b36 bb
  have n1 : Nz ([1] : List Int) := sf_one.nz
  have b1 : Bd (2 ^ 3) ([1] : List Int) := sf_one.bd
  have key : ∃ a' b', (if k7 = 0 then ([.own true p7, .dat (IL (ml a s)), .dat (IL (ml s b)), .dat (IL s), .un, .un, .un, .un, .un, .un] : DS) else [.own true p7, .dat (IL a), .dat (IL b), .dat (IL s), .un, .un, .un, .un, .un, .un]) = [.own true p7, .dat (IL a'), .dat (IL b'), .dat (IL s), .un, .un, .un, .un, .un, .un] ∧ Nd a' b' s := by
    by_cases hk : k7 = 0
    · rw [if_pos hk]
      have qas : Sq 6 6 (ml a s) := ⟨PL.nz_ml da.nz ds.nz, PL.ml_ne a0 s0, by omega, PL.bd_le (by decide) (b36 ba)⟩
      have qsb : Sq 6 6 (ml s b) := ⟨PL.nz_ml ds.nz db.nz, PL.ml_ne s0 b0, by omega, PL.bd_le (by decide) bsb⟩
      refine ⟨_, _, rfl, ⟨qas, qsb, a, b, s, sfs, da.nz, db.nz, a0, b0, PL.bd_le (by decide) ba, PL.bd_le (by decide) bb, by omega, by omega, rfl, ml_com ds.nz db.nz⟩, ⟨qsb, qs, b, [1], s, sfs, db.nz, n1, b0, by simp, PL.bd_le (by decide) bb, b1, by omega, by simp, ml_com ds.nz db.nz, (one_ml' ds.nz).symm⟩, b36 ba, ds.nz, s0, bs, by omega⟩
    · rw [if_neg hk]
      refine ⟨_, _, rfl, ⟨qa, qb, a, b, [1], sf_one, da.nz, db.nz, a0, b0, PL.bd_le (by decide) ba, PL.bd_le (by decide) bb, by omega, by omega, (ml_one' da.nz).symm, (ml_one' db.nz).symm⟩, ⟨qb, qs, b, s, [1], sf_one, db.nz, ds.nz, b0, s0, PL.bd_le (by decide) bb, PL.bd_le (by decide) bs, by omega, by omega, (ml_one' db.nz).symm, (ml_one' ds.nz).symm⟩, PL.bd_le (by decide) ba, ds.nz, s0, bs, by omega⟩
  obtain ⟨a', b', ek, nd⟩ := key
  rw [ek] at e2
  obtain ⟨p', δ, e3⟩ := right_fin nd hp7
  exact ⟨p', right_ev (ri_s1 h1 h2 h3 h4 h5 h6) e2 e3⟩
theorem law_ev {s p d' : D} (h1 : m__law_pot [s, .int 0] = some (.ow p)) (h2 : m__law_right p [] = some (.fz (.bool true), d')) : m_law [s] = some (.fz (.bool true)) := by
  simp only [m_law, g_law, g_law_s1, mb, mr, mo, nameM, conM, binM, unM, boolM, ifM, DL.andM, DL.orM, DL.notM, andV, orV, notV, chainM, nilA, consA, dvs, dv, ownAt, fzs, lstM, tupM, callM, callP, permL, fzv, seqS, skipS, ifS, setS, asg, freeAt, retS, retV, dropS, frz, frzS, asgS, nilG, consG, tupG, subG, listAt, methM, augS, augSubS, forS, seqM, treeV, startD, endV, bodyF, bodyI, startI, ioAt, slM, partM, bors, callL, callI, callO, DL.flatV, DL.flat, List.filterMap_cons, List.filterMap_nil, List.map_cons, List.map_nil, List.getElem?_cons_zero, List.getElem?_cons_succ, List.getElem?_nil, List.set_cons_zero, List.set_cons_succ, List.cons_append, List.nil_append, List.length_cons, List.length_nil, Option.bind_some, Option.bind_none, Option.map_some, Option.map_none, Nat.reduceSub, Nat.reduceAdd, List.replicate_succ, List.replicate_zero, Bool.not_true, Bool.not_false, if_true, if_false, Bool.false_eq_true, reduceIte, decide_true, decide_false, Nat.reduceLT, Nat.reduceLeDiff, reduceCtorEq, Option.some.injEq, Prod.mk.injEq, h1, h2]
theorem law_true : ∀ ns : List Int, ns.length ≤ 63 → (∀ z ∈ ns, Builtin.Int.intBits z ≤ 1048576) → m_law [scrD ns] = some (.fz (.bool true)) := fun ns _ _ => by
  obtain ⟨p, h1, hp⟩ := pot_ok ns
  obtain ⟨d', h2⟩ := r_right hp
  exact law_ev h1 h2
end K13
end
open PySem PySem.W PyProof.Rows
set_option maxHeartbeats 0 in
theorem PySem.Challenge.cw_curvepieces_k13_whole_resultants_two_way_holds : PySem.Challenge.rw_curvepieces_k13_whole_resultants_two_way.Holds := by
  w_on; o_law; k_head; (case hw => w_witness2)
  k_fill
  refine DL.walk_ofG (l := PySem.Challenge.rw_curvepieces_k13_whole_resultants_two_way) (n := 63) (k := 9) (x := "_law_script") (F := K13.m_law) rfl (by decide) rfl ⟨rfl, by decide, by decide⟩ (fun w h Y => PySem.W.kIn_of Y) ?F K13.law_true
  case F =>
    intro w mg fa h KX G hmg
    refine' K13.all_mk KX G hmg ?a1 ?l1 ?c1 ?k1 ?a2 ?l2 ?c2 ?k2 ?a3 ?l3 ?c3 ?k3 ?a4 ?l4 ?c4 ?k4 ?a5 ?l5 ?c5 ?k5 ?a6 ?l6 ?c6 ?k6 ?a7 ?l7 ?c7 ?k7 ?a8 ?l8 ?c8 ?k8 ?a9 ?l9 ?c9 ?k9 ?a10 ?l10 ?c10 ?k10 ?a11 ?l11 ?c11 ?k11 ?a12 ?l12 ?c12 ?k12 ?a13 ?l13 ?c13 ?k13 ?a14 ?l14 ?c14 ?k14 ?a15 ?l15 ?c15 ?k15 ?a16 ?l16 ?c16 ?k16 ?a17 ?l17 ?c17 ?k17 ?a18 ?l18 ?c18 ?k18 ?a19 ?l19 ?c19 ?k19 ?a20 ?l20 ?c20 ?k20 ?a21 ?l21 ?c21 ?k21 ?a22 ?l22 ?c22 ?k22 ?a23 ?l23 ?c23 ?k23 ?a24 ?l24 ?c24 ?k24 ?a25 ?l25 ?c25 ?k25 ?a26 ?l26 ?c26 ?k26 ?a27 ?l27 ?c27 ?k27 ?a28 ?l28 ?c28 ?k28 ?a29 ?l29 ?c29 ?k29 ?a30 ?l30 ?c30 ?k30 ?a31 ?l31 ?c31 ?k31 ?a32 ?l32 ?c32 ?k32 ?a33 ?l33 ?c33 ?k33 ?a34 ?l34 ?c34 ?k34 ?a35 ?l35 ?c35 ?k35 ?e_MOST_DEGREE ?z_abs ?z_all ?z_bool ?z_divmod ?z_enumerate ?z_int ?z_isinstance ?z_len ?z_list ?z_max ?z_range ?z_tuple ?z_zip
    (case a1 => k_is); (case l1 => k_is); (case c1 => k_is); (case k1 => k_is); (case a2 => k_is); (case l2 => k_is); (case c2 => k_is); (case k2 => k_is); (case a3 => k_is); (case l3 => k_is); (case c3 => k_is); (case k3 => k_is); (case a4 => k_is); (case l4 => k_is); (case c4 => k_is); (case k4 => k_is); (case a5 => k_is); (case l5 => k_is); (case c5 => k_is); (case k5 => k_is); (case a6 => k_is); (case l6 => k_is); (case c6 => k_is); (case k6 => k_is); (case a7 => k_is); (case l7 => k_is); (case c7 => k_is); (case k7 => k_is); (case a8 => k_is); (case l8 => k_is); (case c8 => k_is); (case k8 => k_is); (case a9 => k_is); (case l9 => k_is); (case c9 => k_is); (case k9 => k_is); (case a10 => k_is); (case l10 => k_is); (case c10 => k_is); (case k10 => k_is); (case a11 => k_is); (case l11 => k_is); (case c11 => k_is); (case k11 => k_is); (case a12 => k_is); (case l12 => k_is); (case c12 => k_is); (case k12 => k_is); (case a13 => k_is); (case l13 => k_is); (case c13 => k_is); (case k13 => k_is); (case a14 => k_is); (case l14 => k_is); (case c14 => k_is); (case k14 => k_is); (case a15 => k_is); (case l15 => k_is); (case c15 => k_is); (case k15 => k_is); (case a16 => k_is); (case l16 => k_is); (case c16 => k_is); (case k16 => k_is); (case a17 => k_is); (case l17 => k_is); (case c17 => k_is); (case k17 => k_is); (case a18 => k_is); (case l18 => k_is); (case c18 => k_is); (case k18 => k_is); (case a19 => k_is); (case l19 => k_is); (case c19 => k_is); (case k19 => k_is); (case a20 => k_is); (case l20 => k_is); (case c20 => k_is); (case k20 => k_is); (case a21 => k_is); (case l21 => k_is); (case c21 => k_is); (case k21 => k_is); (case a22 => k_is); (case l22 => k_is); (case c22 => k_is); (case k22 => k_is); (case a23 => k_is); (case l23 => k_is); (case c23 => k_is); (case k23 => k_is); (case a24 => k_is); (case l24 => k_is); (case c24 => k_is); (case k24 => k_is); (case a25 => k_is); (case l25 => k_is); (case c25 => k_is); (case k25 => k_is); (case a26 => k_is); (case l26 => k_is); (case c26 => k_is); (case k26 => k_is); (case a27 => k_is); (case l27 => k_is); (case c27 => k_is); (case k27 => k_is); (case a28 => k_is); (case l28 => k_is); (case c28 => k_is); (case k28 => k_is); (case a29 => k_is); (case l29 => k_is); (case c29 => k_is); (case k29 => k_is); (case a30 => k_is); (case l30 => k_is); (case c30 => k_is); (case k30 => k_is); (case a31 => k_is); (case l31 => k_is); (case c31 => k_is); (case k31 => k_is); (case a32 => k_is); (case l32 => k_is); (case c32 => k_is); (case k32 => k_is); (case a33 => k_is); (case l33 => k_is); (case c33 => k_is); (case k33 => k_is); (case a34 => k_is); (case l34 => k_is); (case c34 => k_is); (case k34 => k_is); (case a35 => k_is); (case l35 => k_is); (case c35 => k_is); (case k35 => k_is); (case e_MOST_DEGREE => k_is); (case z_abs => k_is); (case z_all => k_is); (case z_bool => k_is); (case z_divmod => k_is); (case z_enumerate => k_is); (case z_int => k_is); (case z_isinstance => k_is); (case z_len => k_is); (case z_list => k_is); (case z_max => k_is); (case z_range => k_is); (case z_tuple => k_is); (case z_zip => k_is)
