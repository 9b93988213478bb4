import PyProof.Rows.All
import Wide.All
import OpenK.AllK
import Wide.FinOn
import HandS.ForMost
import HandS.IsInst
import HandS.Wide
import HandS.WideBits
import HandS.Defaults
import PyProof.ReprRoads
import HandS.TupAny
import HandS.Style
import HandS.Zip
import HandS.EndBits
import KE.GoesMore
import KE.GoesEnum
import HandS.TryOnly
import PySem.Challenge.RW_curvepieces_k16_any_value_as_line_or_pri
set_option Elab.async false
set_option linter.all false
section
set_option maxRecDepth 100000
set_option maxHeartbeats 4000000
/-! data layer: values as trees, frames as lists of slots -/
namespace DL
open PySem PySem.Spec L2
open PyProof.Rows hiding St

abbrev D := PyData
abbrev Fg := PySem.W.Frag

def keyD : Key → D
  | .inl i => .int i
  | .inr x => .str x

mutual
inductive Tr (K : Fg) (H : Hp) : V → D → Prop
  | non : Tr K H .non .none
  | bl (b : Bool) : Tr K H (.bl b) (.bool b)
  | int (i : Int) : Tr K H (.int i) (.int i)
  | str (x : Str) : Tr K H (.str x) (.str x)
  | lst {a : Addr} {xs : List V} {ds : List D} : H a = some (.lst xs) → TrAll K H xs ds → Tr K H (.ref a) (.list ds)
  | tup {a : Addr} {xs : List V} {ds : List D} : SqT K H a xs → TrAll K H xs ds → Tr K H (.ref a) (.tuple ds)
  | dic {a : Addr} {kvs : List (Key × V)} {es : List (D × D)} : H a = some (.dK kvs) → TrKV K H kvs es → Tr K H (.ref a) (.dict es)
  | scr {a : Addr} {ns : List Int} : SqL K H a (ns.map V.int) → Tr K H (.ref a) (.dict [(.none, .list (ns.map .int))])
inductive TrAll (K : Fg) (H : Hp) : List V → List D → Prop
  | nil : TrAll K H [] []
  | cons {v : V} {vs : List V} {d : D} {ds : List D} : Tr K H v d → TrAll K H vs ds → TrAll K H (v :: vs) (d :: ds)
inductive TrKV (K : Fg) (H : Hp) : List (Key × V) → List (D × D) → Prop
  | nil : TrKV K H [] []
  | cons {k : Key} {v : V} {vs : List (Key × V)} {d : D} {ds : List (D × D)} : Tr K H v d → TrKV K H vs ds → TrKV K H ((k, v) :: vs) ((keyD k, d) :: ds)
end

theorem Same.tup {K : Fg} {H H' : Hp} {a : Addr} {xs : List V} (e : Same H H') (h : SqT K H a xs) : SqT K H' a xs := by
  rcases h with (h | ⟨o, h⟩) | h
  · exact .inl (.inl (e _ _ h))
  · exact .inl (.inr ⟨o, e _ _ h⟩)
  · exact .inr h
theorem Same.rd {H H' : Hp} {a : Addr} {u : HO} (e : Same H H') (h : Rd H a u) : Rd H' a u := by
  rcases h with h | ⟨o, h⟩
  · exact .inl (e _ _ h)
  · exact .inr ⟨o, e _ _ h⟩

mutual
theorem Tr.mono {K : Fg} {H H' : Hp} (s : Same H H') : ∀ {v : V} {d : D}, Tr K H v d → Tr K H' v d
  | _, _, .non => .non
  | _, _, .bl b => .bl b
  | _, _, .int i => .int i
  | _, _, .str x => .str x
  | _, _, .lst a b => .lst (s _ _ a) (TrAll.mono s b)
  | _, _, .tup a b => .tup (Same.tup s a) (TrAll.mono s b)
  | _, _, .dic a b => .dic (s _ _ a) (TrKV.mono s b)
  | _, _, .scr a => .scr (s.seq a)
theorem TrAll.mono {K : Fg} {H H' : Hp} (s : Same H H') : ∀ {v : List V} {d : List D}, TrAll K H v d → TrAll K H' v d
  | _, _, .nil => .nil
  | _, _, .cons a b => .cons (Tr.mono s a) (TrAll.mono s b)
theorem TrKV.mono {K : Fg} {H H' : Hp} (s : Same H H') : ∀ {v : List (Key × V)} {d : List (D × D)}, TrKV K H v d → TrKV K H' v d
  | _, _, .nil => .nil
  | _, _, .cons a b => .cons (Tr.mono s a) (TrKV.mono s b)
end

section
variable {K : Fg} {H : Hp}
theorem TrAll.len : ∀ {vs : List V} {ds : List D}, TrAll K H vs ds → vs.length = ds.length
  | _, _, .nil => rfl
  | _, _, .cons _ b => by simp [TrAll.len b]
theorem TrAll.get : ∀ {vs : List V} {ds : List D} {i : Nat} {d : D}, TrAll K H vs ds → ds[i]? = some d → ∃ v, vs[i]? = some v ∧ Tr K H v d
  | _, _, _, _, .nil, h => by simp at h
  | _, _, 0, _, .cons a _, h => by
    simp only [List.getElem?_cons_zero, Option.some.injEq] at h
    subst h
    exact ⟨_, rfl, a⟩
  | _, _, i + 1, _, .cons _ b, h => by
    simp only [List.getElem?_cons_succ] at h
    obtain ⟨v, e, t⟩ := TrAll.get b h
    exact ⟨v, by simpa using e, t⟩
theorem TrAll.getV : ∀ {vs : List V} {ds : List D} {i : Nat} {v : V}, TrAll K H vs ds → vs[i]? = some v → ∃ d, ds[i]? = some d ∧ Tr K H v d
  | _, _, _, _, .nil, h => by simp at h
  | _, _, 0, _, .cons a _, h => by
    simp only [List.getElem?_cons_zero, Option.some.injEq] at h
    subst h
    exact ⟨_, rfl, a⟩
  | _, _, i + 1, _, .cons _ b, h => by
    simp only [List.getElem?_cons_succ] at h
    obtain ⟨v, e, t⟩ := TrAll.getV b h
    exact ⟨v, by simpa using e, t⟩
theorem TrAll.append : ∀ {vs ws : List V} {ds es : List D}, TrAll K H vs ds → TrAll K H ws es → TrAll K H (vs ++ ws) (ds ++ es)
  | _, _, _, _, .nil, h => h
  | _, _, _, _, .cons a b, h => .cons a (TrAll.append b h)
theorem TrAll.take (n : Nat) : ∀ {vs : List V} {ds : List D}, TrAll K H vs ds → TrAll K H (vs.take n) (ds.take n) := by
  induction n with
  | zero => intro _ _ _; exact .nil
  | succ n ih =>
    intro vs ds h
    cases h with
    | nil => exact .nil
    | cons a b => exact .cons a (ih b)
theorem TrAll.drop (n : Nat) : ∀ {vs : List V} {ds : List D}, TrAll K H vs ds → TrAll K H (vs.drop n) (ds.drop n) := by
  induction n with
  | zero => intro _ _ h; exact h
  | succ n ih =>
    intro vs ds h
    cases h with
    | nil => exact .nil
    | cons a b => exact ih b
theorem TrAll.set {v : V} {d : D} (t : Tr K H v d) : ∀ {vs : List V} {ds : List D} (i : Nat), TrAll K H vs ds → TrAll K H (vs.set i v) (ds.set i d)
  | _, _, _, .nil => .nil
  | _, _, 0, .cons _ b => .cons t b
  | _, _, i + 1, .cons a b => .cons a (TrAll.set t i b)
theorem TrAll.reverse : ∀ {vs : List V} {ds : List D}, TrAll K H vs ds → TrAll K H vs.reverse ds.reverse
  | _, _, .nil => .nil
  | _, _, .cons a b => by
    rw [List.reverse_cons, List.reverse_cons]
    exact TrAll.append (TrAll.reverse b) (.cons a .nil)
theorem TrAll.replicate {vs : List V} {ds : List D} (h : TrAll K H vs ds) : ∀ n : Nat, TrAll K H (List.replicate n vs).flatten (List.replicate n ds).flatten
  | 0 => .nil
  | n + 1 => by
    rw [List.replicate_succ, List.replicate_succ, List.flatten_cons, List.flatten_cons]
    exact TrAll.append h (TrAll.replicate h n)
theorem TrAll.ints : ∀ {ns : List Int}, TrAll K H (ns.map V.int) (ns.map PyData.int)
  | [] => .nil
  | n :: r => .cons (.int n) TrAll.ints
end

theorem keyD_ne (k : Key) : keyD k ≠ .none := by cases k <;> exact fun h => nomatch h
theorem TrKV.key {K : Fg} {H : Hp} : ∀ {kvs : List (Key × V)} {es : List (D × D)}, TrKV K H kvs es → ∀ p ∈ es, p.1 ≠ .none
  | _, _, .nil, p, h => by cases h
  | _, _, .cons (k := k) (ds := ds) a b, p, h => by
    rcases List.mem_cons.mp h with h | h
    · rw [h]; exact keyD_ne k
    · exact TrKV.key b p h
/-- the root of a value in H, what hangs on it in G -/
inductive View (K : Fg) (G H : Hp) : V → D → Prop
  | sc {v : V} {d : D} : Tr K G v d → View K G H v d
  | lst {a : Addr} {xs : List V} {ds : List D} : H a = some (.lst xs) → TrAll K G xs ds → View K G H (.ref a) (.list ds)
  | dic {a : Addr} {kvs : List (Key × V)} {es : List (D × D)} : H a = some (.dK kvs) → TrKV K G kvs es → View K G H (.ref a) (.dict es)

section
variable {K : Fg} {G H : Hp}
theorem View.tr (s : Same G H) {v : V} {d : D} (h : View K G H v d) : Tr K H v d := by
  cases h with
  | sc h => exact Tr.mono s h
  | lst a b => exact .lst a (TrAll.mono s b)
  | dic a b => exact .dic a (TrKV.mono s b)
theorem View.list (s : Same G H) {v : V} {ds : List D} (h : View K G H v (.list ds)) : ∃ a xs, v = .ref a ∧ H a = some (.lst xs) ∧ TrAll K G xs ds := by
  cases h with
  | sc h =>
    cases h with
    | lst a b => exact ⟨_, _, rfl, s _ _ a, b⟩
  | lst a b => exact ⟨_, _, rfl, a, b⟩
theorem View.tuple (s : Same G H) {v : V} {ds : List D} (h : View K G H v (.tuple ds)) : ∃ a xs, v = .ref a ∧ SqT K H a xs ∧ TrAll K G xs ds := by
  cases h with
  | sc h =>
    cases h with
    | tup a b => exact ⟨_, _, rfl, Same.tup s a, b⟩
/-- the script: a list of ints that is read alone -/
def scrD (ns : List Int) : D := .dict [(.none, .list (ns.map .int))]
theorem ints_inj : ∀ {a b : List Int}, a.map PyData.int = b.map PyData.int → a = b
  | [], [], _ => rfl
  | [], _ :: _, h => by cases h
  | _ :: _, [], h => by cases h
  | x :: a, y :: b, h => by
    rw [List.map_cons, List.map_cons] at h
    injection h with h1 h2
    injection h1 with h1
    rw [h1, ints_inj h2]
theorem View.scr (s : Same G H) {v : V} {ns : List Int} (h : View K G H v (scrD ns)) : ∃ a, v = .ref a ∧ SqL K H a (ns.map V.int) := by
  unfold scrD at h
  generalize hz : (PyData.dict [(.none, .list (ns.map .int))]) = z at h
  cases h with
  | sc h =>
    cases h with
    | dic a b =>
      injection hz with hz
      subst hz
      exact (TrKV.key b _ List.mem_cons_self rfl).elim
    | scr a =>
      injection hz with hz
      injection hz with hz
      injection hz with _ hz
      injection hz with hz
      rw [ints_inj hz]
      exact ⟨_, rfl, s.seq a⟩
    | _ => cases hz
  | lst a b => cases hz
  | dic a b =>
    injection hz with hz
    subst hz
    exact (TrKV.key b _ List.mem_cons_self rfl).elim
theorem View.tupT {v : V} {ds : List D} (h : View K G H v (.tuple ds)) : Tr K G v (.tuple ds) := by cases h with | sc h => exact h
theorem View.up {H' : Hp} (s : Same H H') {v : V} {d : D} (h : View K G H v d) : View K G H' v d := by
  cases h with
  | sc h => exact .sc h
  | lst a b => exact .lst (s _ _ a) b
  | dic a b => exact .dic (s _ _ a) b
theorem View.int {v : V} {i : Int} (h : View K G H v (.int i)) : v = .int i := by
  cases h with | sc h => cases h; rfl
theorem View.bool {v : V} {b : Bool} (h : View K G H v (.bool b)) : v = .bl b := by
  cases h with | sc h => cases h; rfl
theorem View.str {v : V} {x : Str} (h : View K G H v (.str x)) : v = .str x := by
  cases h with | sc h => cases h; rfl
theorem View.none {v : V} (h : View K G H v .none) : v = .non := by
  cases h with | sc h => cases h; rfl
end

/-- the heap has grown -/
structure Ex (G H G' H' : Hp) : Prop where
  g : Same G G'
  gh : Same G' H'
  h : Same H H'
  nw : ∀ a o, G' a = some o → G a = none → H a = none
theorem Ex.refl {G H : Hp} (s : Same G H) : Ex G H G H := ⟨Same.refl _, s, Same.refl _, fun a o h n => by rw [h] at n; cases n⟩
theorem same_upd {H : Hp} {p : Addr} {o : HO} (free : H p = none) : Same H (upd H p o) := fun b x e => by
  rw [upd_ne (ne_of_none e free)]
  exact e
theorem Ex.push {G H : Hp} (s : Same G H) {p : Addr} (o : HO) (h : H p = none) : Ex G H G (upd H p o) := ⟨Same.refl _, s.trans (same_upd h), same_upd h, fun a o h n => by rw [h] at n; cases n⟩
theorem same_upd2 {G H : Hp} (s : Same G H) {p : Addr} {o : HO} : Same (upd G p o) (upd H p o) := fun b x e => by
  by_cases hb : b = p
  · subst hb
    rw [upd_same] at e ⊢
    exact e
  · rw [upd_ne hb] at e ⊢
    exact s _ _ e
theorem Ex.pushF {G H : Hp} (s : Same G H) {p : Addr} (o : HO) (h : H p = none) : Ex G H (upd G p o) (upd H p o) where
  g := same_upd (s.free h)
  gh := same_upd2 s
  h := same_upd h
  nw := fun a u e n => by
    by_cases hb : a = p
    · rw [hb]; exact h
    · rw [upd_ne hb] at e
      rw [e] at n
      cases n
/-- an object of H is given to G -/
theorem Ex.give {G H : Hp} (s : Same G H) {p : Addr} {o : HO} (h : H p = some o) : Same (upd G p o) H := fun b x e => by
  by_cases hb : b = p
  · subst hb
    rw [upd_same] at e
    rw [h]
    exact e
  · rw [upd_ne hb] at e
    exact s _ _ e

/-- a slot: unset; a tree that stays; a list, a dict of one's own (b: handed in, given back) -/
inductive Sl where
  | un
  | dat (d : D)
  | own (b : Bool) (d : D)
inductive Val where
  | fz (d : D)
  | ow (d : D)
  | sl (i : Nat)
abbrev DS := List Sl
abbrev Me (α : Type) := DS → Option (α × DS)

structure Bs where
  G0 : Hp
  H0 : Hp
  io : List (Nat × Addr)
  lo : Addr → Prop

inductive Root (K : Fg) (G H : Hp) (a : Addr) : D → Prop
  | lst {xs : List V} {ds : List D} : H a = some (.lst xs) → TrAll K G xs ds → Root K G H a (.list ds)
  | dic {kvs : List (Key × V)} {es : List (D × D)} : H a = some (.dK kvs) → TrKV K G kvs es → Root K G H a (.dict es)
theorem Root.mono {K : Fg} {G H G' H' : Hp} (s : Same G G') {a : Addr} (e : ∀ o, H a = some o → H' a = some o) {d : D} (h : Root K G H a d) : Root K G' H' a d := by
  cases h with
  | lst x y => exact .lst (e _ x) (TrAll.mono s y)
  | dic x y => exact .dic (e _ x) (TrKV.mono s y)
theorem Root.ex {K : Fg} {G H : Hp} {a : Addr} {d : D} (h : Root K G H a d) : ∃ o, H a = some o := by
  cases h with
  | lst x y => exact ⟨_, x⟩
  | dic x y => exact ⟨_, x⟩
theorem Root.view {K : Fg} {G H : Hp} {a : Addr} {d : D} (h : Root K G H a d) : View K G H (.ref a) d := by
  cases h with
  | lst x y => exact .lst x y
  | dic x y => exact .dic x y
/-- given to G the root is a tree -/
theorem Root.give {K : Fg} {G H : Hp} {a : Addr} {d : D} (s : Same G H) (n : G a = none) (h : Root K G H a d) : ∃ o, H a = some o ∧ Tr K (upd G a o) (.ref a) d := by
  cases h with
  | lst x y => exact ⟨_, x, .lst upd_same (TrAll.mono (same_upd n) y)⟩
  | dic x y => exact ⟨_, x, .dic upd_same (TrKV.mono (same_upd n) y)⟩

structure RelS (K : Fg) (B : Bs) (G H : Hp) (δ : DS) (σ : L2.St) : Prop where
  len : δ.length = σ.length
  same : Same G H
  g0 : Same B.G0 G
  nw : ∀ a o, G a = some o → B.G0 a = none → (B.H0 a = none ∨ B.lo a)
  frame : ∀ b o, B.H0 b = some o → (∀ p ∈ B.io, p.2 ≠ b) → ¬ B.lo b → H b = some o
  dom : ∀ b o, B.H0 b = some o → ∃ o', H b = some o'
  iod : ∀ p ∈ B.io, ∃ o, B.H0 p.2 = some o
  dat : ∀ (i : Nat) (d : D), δ[i]? = some (.dat d) → ∃ v, σ[i]? = some (some v) ∧ Tr K G v d
  own : ∀ (i : Nat) (b : Bool) (d : D), δ[i]? = some (.own b d) → ∃ a, σ[i]? = some (some (V.ref a)) ∧ G a = none ∧ (if b = true then (i, a) ∈ B.io else (B.H0 a = none ∨ B.lo a)) ∧ Root K G H a d
  inj : ∀ (i j : Nat) (b b' : Bool) (a : Addr) (d d' : D), δ[i]? = some (.own b d) → δ[j]? = some (.own b' d') → σ[i]? = some (some (V.ref a)) → σ[j]? = some (some (V.ref a)) → i = j

section
variable {K : Fg} {B : Bs} {G H G' H' : Hp} {δ δ' : DS} {σ : L2.St}
theorem RelS.none0 (R : RelS K B G H δ σ) {a : Addr} (h : H a = none) : B.H0 a = none := by
  cases e : B.H0 a with
  | none => rfl
  | some o =>
    obtain ⟨o', e'⟩ := R.dom a o e
    rw [h] at e'
    cases e'
theorem RelS.ex (R : RelS K B G H δ σ) (x : Ex G H G' H') : RelS K B G' H' δ σ where
  len := R.len
  same := x.gh
  g0 := R.g0.trans x.g
  nw := fun a o e n => by
    cases q : G a with
    | some u => exact R.nw a u q n
    | none => exact .inl (R.none0 (x.nw a o e q))
  frame := fun b o e n l => x.h _ _ (R.frame b o e n l)
  iod := R.iod
  dom := fun b o e => by
    obtain ⟨o', e'⟩ := R.dom b o e
    exact ⟨o', x.h _ _ e'⟩
  dat := fun i d e => by
    obtain ⟨v, e1, t⟩ := R.dat i d e
    exact ⟨v, e1, Tr.mono x.g t⟩
  own := fun i b d e => by
    obtain ⟨a, e1, n, m, r⟩ := R.own i b d e
    refine ⟨a, e1, ?_, m, Root.mono x.g (fun o q => x.h _ _ q) r⟩
    cases q : G' a with
    | none => rfl
    | some o =>
      obtain ⟨o', e'⟩ := r.ex
      rw [x.nw a o q n] at e'
      cases e'
  inj := R.inj
end

/-- a value's relation -/
def RV (K : Fg) (B : Bs) (G H : Hp) (δ : DS) (σ : L2.St) : V → Val → Prop
  | v, .fz d => Tr K G v d
  | v, .sl i => σ[i]? = some (some v)
  | v, .ow d => ∃ a, v = .ref a ∧ G a = none ∧ (B.H0 a = none ∨ B.lo a) ∧ Root K G H a d ∧ ∀ (i : Nat) (b : Bool) (d' : D), δ[i]? = some (.own b d') → σ[i]? ≠ some (some (V.ref a))

def ownAt (δ : DS) (i : Nat) : Option D := match δ[i]? with
  | some (.own _ d) => some d
  | _ => none
def dv (δ : DS) : Val → Option D
  | .fz d => some d
  | .ow d => some d
  | .sl i => ownAt δ i
def fzv : Val → Val
  | .ow d => .fz d
  | v => v

def tOf (K : Fg) (B : Bs) (f : Me Val) : TE := fun σ H Q => ∃ G δ r δ', RelS K B G H δ σ ∧ f δ = some (r, δ') ∧
  ∀ v G' H', Same G G' → RelS K B G' H' δ' σ → RV K B G' H' δ' σ v r → Q v H'
def ttOf (K : Fg) (B : Bs) (f : Me Bool) : TT := fun σ H Q => ∃ G δ r δ', RelS K B G H δ σ ∧ f δ = some (r, δ') ∧
  ∀ G' H', Same G G' → RelS K B G' H' δ' σ → Q r H'
def RVs (K : Fg) (B : Bs) (G H : Hp) (δ : DS) (σ : L2.St) : List V → List Val → Prop := Paired fun v r => RV K B G H δ σ v (fzv r)
def taOf (K : Fg) (B : Bs) (f : Me (List Val)) : TA := fun σ H Q => ∃ G δ r δ', RelS K B G H δ σ ∧ f δ = some (r, δ') ∧
  ∀ vs G' H', Same G G' → RelS K B G' H' δ' σ → RVs K B G' H' δ' σ vs r → Q vs H'

abbrev DE (X : Cx) (B : Bs) (e : Expr) (f : Me Val) : Prop := PE X e (tOf X.K B f)
abbrev DT (X : Cx) (B : Bs) (e : Expr) (f : Me Bool) : Prop := PT X e (ttOf X.K B f)
abbrev DA (X : Cx) (B : Bs) (es : List Expr) (f : Me (List Val)) : Prop := PA X es (taOf X.K B f)

section
variable {K : Fg} {B : Bs} {G H G' H' : Hp} {δ δ' : DS} {σ : L2.St}
theorem RV.view (R : RelS K B G H δ σ) {v : V} {r : Val} {d : D} (h : RV K B G H δ σ v r) (e : dv δ r = some d) : View K G H v d := by
  cases r with
  | fz c =>
    cases e
    exact .sc h
  | ow c =>
    cases e
    obtain ⟨a, rfl, _, _, r, _⟩ := h
    exact r.view
  | sl i =>
    have e : ownAt δ i = some d := e
    unfold ownAt at e
    cases q : δ[i]? with
    | none => rw [q] at e; cases e
    | some s =>
      rw [q] at e
      cases s with
      | own b c =>
        cases e
        obtain ⟨a, e1, _, _, r⟩ := R.own i b _ q
        have h' : σ[i]? = some (some v) := h
        rw [e1] at h'
        cases h'
        exact r.view
      | un => cases e
      | dat c => cases e
/-- a new root is frozen -/
theorem RV.freeze (R : RelS K B G H δ σ) {v : V} {r : Val} (h : RV K B G H δ σ v r) : ∃ G', Same G G' ∧ RelS K B G' H δ σ ∧ RV K B G' H δ σ v (fzv r) := by
  cases r with
  | fz c => exact ⟨G, Same.refl _, R, h⟩
  | sl i => exact ⟨G, Same.refl _, R, h⟩
  | ow c =>
    obtain ⟨a, rfl, n, n0, r, u⟩ := h
    obtain ⟨o, e, t⟩ := r.give R.same n
    refine ⟨upd G a o, same_upd n, ⟨R.len, Ex.give R.same e, R.g0.trans (same_upd n), fun b p q m => ?_, R.frame, R.dom, R.iod, fun i d q => ?_, fun i b d q => ?_, R.inj⟩, t⟩
    · by_cases hb : b = a
      · rw [hb]; exact n0
      · rw [upd_ne hb] at q
        exact R.nw b p q m
    · obtain ⟨v, e1, t⟩ := R.dat i d q
      exact ⟨v, e1, Tr.mono (same_upd n) t⟩
    · obtain ⟨c, e1, m, k, r'⟩ := R.own i b d q
      have hc : c ≠ a := fun z => u i b d q (z ▸ e1)
      exact ⟨c, e1, by rw [upd_ne hc]; exact m, k, Root.mono (same_upd n) (fun _ z => z) r'⟩
theorem dv_fzv (δ : DS) (r : Val) : dv δ (fzv r) = dv δ r := by cases r <;> rfl
/-- what stays of a value that is no new root -/
theorem RV.stay {r : Val} {v : V} (s : Same G G') (h : RV K B G H δ σ v (fzv r)) : RV K B G' H' δ' σ v (fzv r) := by
  cases r with
  | fz c => exact Tr.mono s h
  | ow c => exact Tr.mono s h
  | sl i => exact h
end
end DL
end
section
set_option maxRecDepth 100000
set_option maxHeartbeats 4000000
namespace DL
open PySem PySem.Spec L2
open PyProof.Rows hiding St

def mr {α : Type} (a : α) : Me α := fun δ => some (a, δ)
def mb {α β : Type} (f : Me α) (g : α → Me β) : Me β := fun δ => match f δ with
  | some (a, δ') => g a δ'
  | none => none
theorem mb_some {α β : Type} {f : Me α} {g : α → Me β} {δ δ' : DS} {b : β} (h : mb f g δ = some (b, δ')) : ∃ a δ1, f δ = some (a, δ1) ∧ g a δ1 = some (b, δ') := by
  unfold mb at h
  cases q : f δ with
  | none => rw [q] at h; cases h
  | some p =>
    obtain ⟨a, δ1⟩ := p
    rw [q] at h
    exact ⟨a, δ1, rfl, h⟩
/-- a value reckoned of others, the frame as it is -/
def mo {α : Type} (f : DS → Option α) : Me α := fun δ => match f δ with
  | some a => some (a, δ)
  | none => none
theorem mo_some {α : Type} {f : DS → Option α} {δ δ' : DS} {b : α} (h : mo f δ = some (b, δ')) : f δ = some b ∧ δ' = δ := by
  unfold mo at h
  cases q : f δ with
  | none => rw [q] at h; cases h
  | some p => rw [q] at h; cases h; exact ⟨rfl, rfl⟩

theorem ite_some {α : Type} {c : Bool} {a r : α} (h : (if c = true then some a else none) = some r) : c = true ∧ a = r := by
  cases c with
  | true => rw [if_pos rfl] at h; exact ⟨rfl, Option.some.inj h⟩
  | false => rw [if_neg Bool.false_ne_true] at h; cases h
theorem PE.weak {X : Cx} {e : Expr} {t t' : TE} (h : PE X e t) (i : ∀ σ H Q, t' σ H Q → t σ H Q) : PE X e t' := ⟨fun pins s σ H Q I w => h.run pins s σ H Q I (i _ _ _ w)⟩
theorem PT.weak {X : Cx} {e : Expr} {t t' : TT} (h : PT X e t) (i : ∀ σ H Q, t' σ H Q → t σ H Q) : PT X e t' := ⟨fun pins s σ H Q I w => h.run pins s σ H Q I (i _ _ _ w)⟩
theorem PW.weak {X : Cx} {e : Expr} {t t' : TT} (h : PW X e t) (i : ∀ σ H Q, t' σ H Q → t σ H Q) : PW X e t' := ⟨fun wh pins s σ H Q I w => h.run wh pins s σ H Q I (i _ _ _ w)⟩
theorem PA.weak {X : Cx} {e : List Expr} {t t' : TA} (h : PA X e t) (i : ∀ σ H Q, t' σ H Q → t σ H Q) : PA X e t' := ⟨fun p pins s σ H Q I w => h.run p pins s σ H Q I (i _ _ _ w)⟩
theorem PS.weak {X : Cx} {e : Stmt} {t t' : TS} (h : PS X e t) (i : ∀ D σ H, t' D σ H → t D σ H) : PS X e t' := ⟨fun pins s σ H D I w => h.run pins s σ H D I (i _ _ _ w)⟩
theorem PSs.weak {X : Cx} {e : List Stmt} {t t' : TS} (h : PSs X e t) (i : ∀ D σ H, t' D σ H → t D σ H) : PSs X e t' := ⟨fun pins s σ H D I w => h.run pins s σ H D I (i _ _ _ w)⟩

section
variable {X : Cx} {B : Bs} {pos : Pos}

/-! ### names, constants -/
def nameM (i : Nat) : Me Val := fun δ => match δ[i]? with
  | some (.dat d) => some (.fz d, δ)
  | some (.own _ _) => some (.sl i, δ)
  | _ => none
theorem de_name (i : Nat) {x : Str} (hN : X.N[i]? = some x := by rfl) (hv : Vis X.env.scope x := by first | exact Or.inl rfl | exact Or.inr (Or.inl rfl) | exact Or.inr (Or.inr rfl)) (hd : (x == ("__debug__" : Str)) = false := by decide)
    (hcd : (x == ("__classdict__" : Str)) = false := by decide) : DE X B (.Name x pos) (nameM i) := by
  refine PE.weak (pe_var hN hv hd hcd) fun σ H Q h => ?_
  obtain ⟨G, δ, r, δ', R, e, k⟩ := h
  unfold nameM at e
  split at e
  · rename_i d q
    cases e
    obtain ⟨v, e1, t⟩ := R.dat i d q
    exact ⟨v, e1, k v G H (Same.refl _) R t⟩
  · rename_i b d q
    cases e
    obtain ⟨a, e1, _⟩ := R.own i b d q
    exact ⟨_, e1, k _ G H (Same.refl _) R e1⟩
  · cases e
def conM (d : D) : Me Val := fun δ => some (.fz d, δ)
theorem de_con {e : Expr} {v : V} {d : D} (h : PE X e (tC v)) (t : ∀ G : Hp, Tr X.K G v d) : DE X B e (conM d) := by
  refine PE.weak h fun σ H Q h => ?_
  obtain ⟨G, δ, r, δ', R, e, k⟩ := h
  cases e
  exact k v G H (Same.refl _) R (t G)
theorem de_int {i j} : DE X B (.Constant (.int i) j pos) (conM (.int i)) := de_con pe_int fun _ => .int i
theorem de_bl {i j} : DE X B (.Constant (.bool i) j pos) (conM (.bool i)) := de_con pe_bl fun _ => .bl i
theorem de_str {i j} : DE X B (.Constant (.str i) j pos) (conM (.str i)) := de_con pe_str fun _ => .str i
theorem de_non {j} : DE X B (.Constant .none j pos) (conM .none) := de_con pe_non fun _ => .non
/-- a module's int, text -/
theorem de_gint {x : Str} {n : Int} {u : Value} (hg : Gl X x) (hm : X.mg x = some u) (r : ∃ t, u = .int n t) (hd : (x == ("__debug__" : Str)) = false := by decide) : DE X B (.Name x pos) (conM (.int n)) := de_con (pe_glob (v := .int n) hg hm r hd) fun _ => .int n
theorem de_gstr {x : Str} {n : Str} {u : Value} (hg : Gl X x) (hm : X.mg x = some u) (r : ∃ t, u = .str n t) (hd : (x == ("__debug__" : Str)) = false := by decide) : DE X B (.Name x pos) (conM (.str n)) := de_con (pe_glob (v := .str n) hg hm r hd) fun _ => .str n

/-! ### operators -/
/-- a result: what a rule hands back -/
def RO (K : Fg) (G' H H' : Hp) (v : V) : Val → Prop
  | .fz d => Tr K G' v d
  | .ow d => ∃ a, v = .ref a ∧ H a = none ∧ G' a = none ∧ Root K G' H' a d
  | .sl _ => False
theorem RO.rv {K : Fg} {G H G' H' : Hp} {δ : DS} {σ : L2.St} (R : RelS K B G H δ σ) {v : V} {r : Val} (h : RO K G' H H' v r) : RV K B G' H' δ σ v r := by
  cases r with
  | fz d => exact h
  | sl i => exact h.elim
  | ow d =>
    obtain ⟨a, rfl, n, n', r⟩ := h
    refine ⟨a, rfl, n', .inl (R.none0 n), r, fun i b d' q z => ?_⟩
    obtain ⟨c, e1, _, _, r'⟩ := R.own i b d' q
    rw [e1] at z
    cases z
    obtain ⟨o, e⟩ := r'.ex
    rw [n] at e
    cases e
/-- flat: no address -/
def flat : D → Bool
  | .none => true
  | .bool _ => true
  | .int _ => true
  | .str _ => true
  | _ => false
theorem Tr.flat {K : Fg} {H H' : Hp} {v : V} {d : D} (h : Tr K H v d) (f : DL.flat d = true) : Tr K H' v d := by
  cases h with
  | non => exact .non
  | bl b => exact .bl b
  | int i => exact .int i
  | str x => exact .str x
  | lst _ _ => cases f
  | tup _ _ => cases f
  | dic _ _ => cases f
  | scr _ => cases f

def OpD (K : Fg) (r : R2) (h : D → D → Option Val) : Prop := ∀ (G H : Hp) (x y : V) (d e : D) (res : Val) (Q : VK), Same G H → View K G H x d → View K G H y e → h d e = some res →
  (∀ v G' H', Ex G H G' H' → RO K G' H H' v res → Q v H') → r x y H Q
def binM (h : D → D → Option Val) (f g : Me Val) : Me Val := mb f fun x => mb g fun y => mo fun δ => (dv δ x).bind fun a => (dv δ y).bind fun b => h a b
theorem tOp_of {K : Fg} {r : R2} {h : D → D → Option Val} {f g : Me Val} (hd : OpD K r h) : ∀ σ H Q, tOf K B (binM h f g) σ H Q → tOp r (tOf K B f) (tOf K B g) σ H Q := by
  intro σ H Q hq
  obtain ⟨G, δ, res, δ', R, e, k⟩ := hq
  obtain ⟨x, δ1, e1, e⟩ := mb_some e
  obtain ⟨y, δ2, e2, e⟩ := mb_some e
  obtain ⟨e3, rfl⟩ := mo_some e
  obtain ⟨a, ea, e3⟩ := Option.bind_eq_some_iff.mp e3
  obtain ⟨b, eb, e3⟩ := Option.bind_eq_some_iff.mp e3
  refine ⟨G, δ, x, δ1, R, e1, fun v G1 H1 s1 R1 v1 => ?_⟩
  obtain ⟨G1', s1', R1', v1'⟩ := v1.freeze R1
  refine ⟨G1', δ1, y, δ', R1', e2, fun w G2 H2 s2 R2 v2 => ?_⟩
  have v1'' := RV.stay (B := B) (G' := G2) (H' := H2) (δ' := δ') s2 v1'
  refine hd G2 H2 v w a b res Q R2.same (v1''.view R2 (by rw [dv_fzv]; exact ea)) (v2.view R2 eb) e3 fun u G' H' x ro => ?_
  exact k u G' H' (((s1.trans s1').trans s2).trans x.g) (R2.ex x) (ro.rv R2)
theorem de_op {a b : Expr} {op : Operator} {r : R2} {h : D → D → Option Val} {f g : Me Val} (ho : OpR X (binaryOp op) r) (hd : OpD X.K r h) (ha : DE X B a f) (hb : DE X B b g) : DE X B (.BinOp a op b pos) (binM h f g) :=
  PE.weak (pe_op ho ha hb) (tOp_of hd)
theorem de_cmp {a b : Expr} {op : CmpOp} {r : R2} {h : D → D → Option Val} {f g : Me Val} (ho : OpR X (compareOp op) r) (hd : OpD X.K r h) (ha : DE X B a f) (hb : DE X B b g) (hm : behindInMarks op b = false := by first | exact nomark _ | rfl) :
    DE X B (.Compare a [op] [b] pos) (binM h f g) := PE.weak (pe_cmpR ho ha hb hm) (tOp_of hd)
/-- a test's bool -/
def boolM (f : Me Val) : Me Bool := fun δ => match f δ with
  | some (.fz (.bool b), δ') => some (b, δ')
  | _ => none
theorem boolM_some {f : Me Val} {δ δ' : DS} {b : Bool} (h : boolM f δ = some (b, δ')) : f δ = some (.fz (.bool b), δ') := by
  unfold boolM at h
  split at h
  · rename_i b' δ1 q
    cases h
    exact q
  · cases h
theorem tTest_of {K : Fg} {f : Me Val} : ∀ σ H Q, ttOf K B (boolM f) σ H Q → tOf K B f σ H fun x H' => ∃ k, x = .bl k ∧ Q k H' := by
  intro σ H Q h
  obtain ⟨G, δ, r, δ', R, e, k⟩ := h
  refine ⟨G, δ, _, δ', R, boolM_some e, fun v G' H' s R' t => ?_⟩
  have t : Tr K G' v (.bool r) := t
  cases t
  exact ⟨r, rfl, k G' H' s R'⟩
theorem dt_cmp {a b : Expr} {op : CmpOp} {r : R2} {h : D → D → Option Val} {f g : Me Val} (ho : OpR X (compareOp op) r) (hd : OpD X.K r h) (ha : DE X B a f) (hb : DE X B b g) (hm : behindInMarks op b = false := by first | exact nomark _ | rfl) :
    DT X B (.Compare a [op] [b] pos) (boolM (binM h f g)) := PT.weak (pt_cmpR ho ha hb hm) fun σ H Q q => tOp_of hd σ H _ (tTest_of σ H Q q)
theorem dt_val {e : Expr} {f : Me Val} (h : DE X B e f) (he : ∀ whole, isTrue e X.env whole = (do let v ← whole; standAt e.pos; holding [v] (truthy v)) := by intro _; rfl) : DT X B e (boolM f) :=
  PT.weak (pt_val h he) fun σ H Q q => tTest_of σ H Q q
/-- unary -/
def UnD (K : Fg) (r : V → Hp → VK → Prop) (h : D → Option Val) : Prop := ∀ (G H : Hp) (x : V) (d : D) (res : Val) (Q : VK), Same G H → View K G H x d → h d = some res →
  (∀ v G' H', Ex G H G' H' → RO K G' H H' v res → Q v H') → r x H Q
def unM (h : D → Option Val) (f : Me Val) : Me Val := mb f fun x => mo fun δ => (dv δ x).bind h
theorem tUn_of {K : Fg} {r : V → Hp → VK → Prop} {h : D → Option Val} {f : Me Val} (hd : UnD K r h) : ∀ σ H Q, tOf K B (unM h f) σ H Q → tUn r (tOf K B f) σ H Q := by
  intro σ H Q hq
  obtain ⟨G, δ, res, δ', R, e, k⟩ := hq
  obtain ⟨x, δ1, e1, e⟩ := mb_some e
  obtain ⟨e3, rfl⟩ := mo_some e
  obtain ⟨a, ea, e3⟩ := Option.bind_eq_some_iff.mp e3
  refine ⟨G, δ, x, _, R, e1, fun v G1 H1 s1 R1 v1 => ?_⟩
  refine hd G1 H1 v a res Q R1.same (v1.view R1 ea) e3 fun u G' H' x ro => ?_
  exact k u G' H' (s1.trans x.g) (R1.ex x) (ro.rv R1)
theorem de_un {a : Expr} {op : UnaryOp} {r : V → Hp → VK → Prop} {h : D → Option Val} {f : Me Val} (ho : UnR X (unaryOp op) r) (hd : UnD X.K r h) (ha : DE X B a f) : DE X B (.UnaryOp op a pos) (unM h f) :=
  PE.weak (pe_un ho ha) (tUn_of hd)

/-! ### the operators by kinds -/
def intB (g : Int → Int → Option D) : D → D → Option Val
  | .int i, .int j => (g i j).map .fz
  | _, _ => none
theorem opd_int {K : Fg} {C : Int → Int → Prop} {g : Int → Int → V} {h : Int → Int → Option D} (hh : ∀ i j d, h i j = some d → C i j ∧ ∀ G, Tr K G (g i j) d) : OpD K (rI C g) (intB h) := by
  intro G H x y d e res Q s vx vy hr k
  cases d with
  | int i =>
    cases e with
    | int j =>
      obtain ⟨z, hz, rfl⟩ := Option.map_eq_some_iff.mp hr
      obtain ⟨c, t⟩ := hh i j z hz
      exact ⟨i, j, vx.int, vy.int, c, k _ G H (Ex.refl s) (t G)⟩
    | _ => cases hr
  | _ => cases hr
theorem opd_int0 {K : Fg} {g : Int → Int → V} {h : Int → Int → Option D} (hh : ∀ i j d, h i j = some d → ∀ G, Tr K G (g i j) d) : OpD K (rI0 g) (intB h) := by
  intro G H x y d e res Q s vx vy hr k
  cases d with
  | int i =>
    cases e with
    | int j =>
      obtain ⟨z, hz, rfl⟩ := Option.map_eq_some_iff.mp hr
      exact ⟨i, j, vx.int, vy.int, k _ G H (Ex.refl s) (hh i j z hz G)⟩
    | _ => cases hr
  | _ => cases hr
def addI : D → D → Option Val := intB fun i j => some (.int (i + j))
def subI : D → D → Option Val := intB fun i j => some (.int (i - j))
/-- both together below a million bits -/
def mulOk (i j : Int) : Bool := decide (i.natAbs.log2 + j.natAbs.log2 < 1000000)
def mulI : D → D → Option Val := intB fun i j => if mulOk i j then some (.int (i * j)) else none
def divOk (j : Int) : Bool := decide (0 < j) && decide (j.natAbs.log2 < 9000)
def fdivI : D → D → Option Val := intB fun i j => if divOk j then some (.int (i / j)) else none
def modI : D → D → Option Val := intB fun i j => if decide (0 < j) then some (.int (i % j)) else none
def ltI : D → D → Option Val := intB fun i j => some (.bool (decide (i < j)))
def leI : D → D → Option Val := intB fun i j => some (.bool (decide (i ≤ j)))
def gtI : D → D → Option Val := intB fun i j => some (.bool (decide (j < i)))
def geI : D → D → Option Val := intB fun i j => some (.bool (decide (j ≤ i)))
theorem od_add {K : Fg} : OpD K (rI0 fun i j => .int (i + j)) addI := opd_int0 fun i j d h G => by cases h; exact .int _
theorem od_sub {K : Fg} : OpD K (rI0 fun i j => .int (i - j)) subI := opd_int0 fun i j d h G => by cases h; exact .int _
theorem od_mul {K : Fg} : OpD K (rI CMulW fun i j => .int (i * j)) mulI := opd_int fun i j d h => by
  split at h
  · rename_i c
    cases h
    have c2 : i.natAbs.log2 + j.natAbs.log2 < 1000000 := of_decide_eq_true c
    exact ⟨c2, fun _ => .int _⟩
  · cases h
theorem od_fdiv {K : Fg} : OpD K (rI CDivW fun i j => .int (i / j)) fdivI := opd_int fun i j d h => by
  split at h
  · rename_i c
    cases h
    unfold divOk at c
    rw [Bool.and_eq_true] at c
    exact ⟨⟨of_decide_eq_true c.1, of_decide_eq_true c.2⟩, fun _ => .int _⟩
  · cases h
theorem od_mod {K : Fg} : OpD K (rI (fun _ j => 0 < j) fun i j => .int (i % j)) modI := opd_int fun i j d h => by
  split at h
  · rename_i c
    cases h
    exact ⟨of_decide_eq_true c, fun _ => .int _⟩
  · cases h
theorem od_lt {K : Fg} : OpD K (rI0 fun i j => .bl (decide (i < j))) ltI := opd_int0 fun i j d h G => by cases h; exact .bl _
theorem od_le {K : Fg} : OpD K (rI0 fun i j => .bl (decide (i ≤ j))) leI := opd_int0 fun i j d h G => by cases h; exact .bl _
theorem od_gt {K : Fg} : OpD K (rI0 fun i j => .bl (decide (j < i))) gtI := opd_int0 fun i j d h G => by cases h; exact .bl _
theorem od_ge {K : Fg} : OpD K (rI0 fun i j => .bl (decide (j ≤ i))) geI := opd_int0 fun i j d h G => by cases h; exact .bl _
def negI : D → Option Val
  | .int i => some (.fz (.int (-i)))
  | _ => none
theorem ud_neg {K : Fg} : UnD K (rU fun i => .int (-i)) negI := by
  intro G H x d res Q s vx hr k
  cases d with
  | int i =>
    cases hr
    exact ⟨i, vx.int, k _ G H (Ex.refl s) (.int _)⟩
  | _ => cases hr
def szOk (n : Nat) : Bool := decide (n ≤ 16777216)
theorem szOk_le {n : Nat} (h : szOk n = true) : n ≤ sizeLine := by
  rw [sizeLine_eq]
  exact of_decide_eq_true h
end

/-! ### either of two rules -/
def orD (h h' : D → D → Option Val) : D → D → Option Val := fun a b => match h a b with
  | some r => some r
  | none => h' a b
theorem OpD.or {K : Fg} {r r' : R2} {h h' : D → D → Option Val} (a : OpD K r h) (b : OpD K r' h') : OpD K (fun x y H Q => r x y H Q ∨ r' x y H Q) (orD h h') := by
  intro G H x y d e res Q s vx vy hr k
  unfold orD at hr
  split at hr
  · rename_i z q
    cases hr
    exact .inl (a G H x y d e _ Q s vx vy q k)
  · exact .inr (b G H x y d e _ Q s vx vy hr k)
theorem OpD.eq {K : Fg} {r : R2} {h h' : D → D → Option Val} (a : OpD K r h) (e : ∀ x y z, h' x y = some z → h x y = some z) : OpD K r h' :=
  fun G H x y d e' res Q s vx vy hr k => a G H x y d e' res Q s vx vy (e _ _ _ hr) k
/-- a new list, a new tuple of trees -/
theorem RO.newL {K : Fg} {G H : Hp} (s : Same G H) {xs : List V} {ds : List D} (t : TrAll K G xs ds) {p : Addr} (n : H p = none) : RO K G H (upd H p (.lst xs)) (.ref p) (.ow (.list ds)) := ⟨p, rfl, n, s.free n, .lst upd_same t⟩
theorem RO.newT {K : Fg} {G H : Hp} (s : Same G H) {xs : List V} {ds : List D} (t : TrAll K G xs ds) {p : Addr} (n : H p = none) : RO K (upd G p (.tup xs)) H (upd H p (.tup xs)) (.ref p) (.fz (.tuple ds)) :=
  Tr.tup (.inl (.inl upd_same)) (TrAll.mono (same_upd (s.free n)) t)

def addD : D → D → Option Val
  | .int i, .int j => some (.fz (.int (i + j)))
  | .list a, .list b => if szOk (a.length + b.length) then some (.ow (.list (a ++ b))) else none
  | .tuple a, .tuple b => if szOk (a.length + b.length) then some (.fz (.tuple (a ++ b))) else none
  | .str a, .str b => if szOk (a.length + b.length) then some (.fz (.str (a ++ b))) else none
  | _, _ => none
def rAdd (K : Fg) : R2 := fun x y H Q => rI0 (fun i j => .int (i + j)) x y H Q ∨ rCat x y H Q ∨ rCatA K x y H Q ∨ (∃ i j, x = .str i ∧ y = .str j ∧ i.length + j.length ≤ sizeLine ∧ Q (.str (i ++ j)) H)
theorem op_addA {X : Cx} : OpR X (binaryOp .Add) (rAdd X.K) := op_add.or (op_cat.or (op_catA.or op_add_str))
theorem od_addA {K : Fg} : OpD K (rAdd K) addD := by
  intro G H x y d e res Q s vx vy hr k
  cases d with
  | int i =>
    cases e with
    | int j => cases hr; exact .inl ⟨i, j, vx.int, vy.int, k _ G H (Ex.refl s) (.int _)⟩
    | _ => cases hr
  | list a =>
    cases e with
    | list b =>
      obtain ⟨c, hr⟩ := ite_some hr
      subst hr
      obtain ⟨p, xs, rfl, hx, tx⟩ := vx.list s
      obtain ⟨q, ys, rfl, hy, ty⟩ := vy.list s
      refine .inr (.inl ⟨p, q, xs, ys, rfl, rfl, hx, hy, by rw [tx.len, ty.len]; exact szOk_le c, fun z n => ?_⟩)
      exact k _ G _ (Ex.push s _ n) (RO.newL s (tx.append ty) n)
    | _ => cases hr
  | tuple a =>
    cases e with
    | tuple b =>
      obtain ⟨c, hr⟩ := ite_some hr
      subst hr
      obtain ⟨p, xs, ep, hx, tx⟩ := vx.tuple s
      obtain ⟨q, ys, eq, hy, ty⟩ := vy.tuple s
      have fx : Tr K G x (.tuple a) := by cases vx with | sc h => exact h
      have fy : Tr K G y (.tuple b) := by cases vy with | sc h => exact h
      subst ep eq
      refine .inr (.inr (.inl ⟨p, q, xs, ys, rfl, rfl, hx, hy, by rw [tx.len, ty.len]; exact szOk_le c, fun z => ?_, fun _ z => ?_, fun _ _ z n => ?_⟩))
      · subst z
        cases tx
        exact k _ G H (Ex.refl s) fy
      · subst z
        cases ty
        rw [List.append_nil] at k
        exact k _ G H (Ex.refl s) fx
      · exact k _ _ _ (Ex.pushF s _ n) (RO.newT s (tx.append ty) n)
    | _ => cases hr
  | str a =>
    cases e with
    | str b =>
      obtain ⟨c, hr⟩ := ite_some hr
      subst hr
      exact .inr (.inr (.inr ⟨a, b, vx.str, vy.str, szOk_le c, k _ G H (Ex.refl s) (.str _)⟩))
    | _ => cases hr
  | _ => cases hr
def ixOk (k : Int) : Bool := decide (-(2 ^ 63) ≤ k) && decide (k < 2 ^ 63)
theorem ixOk_le {k : Int} (h : ixOk k = true) : -(2 ^ 63) ≤ k ∧ k < 2 ^ 63 := by
  unfold ixOk at h
  rw [Bool.and_eq_true] at h
  exact ⟨of_decide_eq_true h.1, of_decide_eq_true h.2⟩
def mulD : D → D → Option Val
  | .int i, .int j => if mulOk i j then some (.fz (.int (i * j))) else none
  | .list a, .int k => if ixOk k && szOk (a.length * k.toNat) then some (.ow (.list (List.replicate k.toNat a).flatten)) else none
  | _, _ => none
def rMulA : R2 := fun x y H Q => rI CMulW (fun i j => .int (i * j)) x y H Q ∨ rRep x y H Q
theorem op_mulA {X : Cx} : OpR X (binaryOp .Mult) rMulA := op_mulW.or op_rep
theorem od_mulA {K : Fg} : OpD K rMulA mulD := by
  intro G H x y d e res Q s vx vy hr k
  cases d with
  | int i =>
    cases e with
    | int j =>
      obtain ⟨c, hr⟩ := ite_some hr
      subst hr
      have c2 : i.natAbs.log2 + j.natAbs.log2 < 1000000 := of_decide_eq_true c
      exact .inl ⟨i, j, vx.int, vy.int, c2, k _ G H (Ex.refl s) (.int _)⟩
    | _ => cases hr
  | list a =>
    cases e with
    | int j =>
      obtain ⟨c, hr⟩ := ite_some hr
      subst hr
      rw [Bool.and_eq_true] at c
      obtain ⟨p, xs, rfl, hx, tx⟩ := vx.list s
      have b := ixOk_le c.1
      refine .inr ⟨p, j, xs, rfl, vy.int, hx, b.1, b.2, by rw [tx.len]; exact szOk_le c.2, fun z n => ?_⟩
      exact k _ G _ (Ex.push s _ n) (RO.newL s (tx.replicate _) n)
    | _ => cases hr
  | _ => cases hr
/-- // and % of any signs -/
def CDivZ (_ j : Int) : Prop := j ≠ 0 ∧ j.natAbs.log2 < 9000
theorem op_fdivZ {X : Cx} : OpR X (binaryOp .FloorDiv) (rI CDivZ fun i j => .int (i.fdiv j)) := opI fun i j _ _ _ _ _ hc q => floordiv_int hc.1 q (.inl (PyProof.noPylong_of_log2 hc.2))
def fdivD : D → D → Option Val := intB fun i j => if decide (j ≠ 0) && decide (j.natAbs.log2 < 9000) then some (.int (i.fdiv j)) else none
theorem od_fdivZ {K : Fg} : OpD K (rI CDivZ fun i j => .int (i.fdiv j)) fdivD := opd_int fun i j d h => by
  obtain ⟨c, rfl⟩ := ite_some h
  rw [Bool.and_eq_true] at c
  exact ⟨⟨of_decide_eq_true c.1, of_decide_eq_true c.2⟩, fun _ => .int _⟩
def modD : D → D → Option Val := intB fun i j => if decide (j ≠ 0) then some (.int (i.fmod j)) else none
theorem od_modN {K : Fg} : OpD K (rI (fun _ j => j ≠ 0) fun i j => .int (i.fmod j)) modD := opd_int fun i j d h => by
  obtain ⟨c, rfl⟩ := ite_some h
  exact ⟨of_decide_eq_true c, fun _ => .int _⟩
def powD : D → D → Option Val := intB fun i j => if decide (0 ≤ j) && decide (j ≤ 1000000) && decide (i.natAbs < 2 ^ 64) then some (.int (i ^ j.toNat)) else none
theorem od_pow {K : Fg} : OpD K (rI CPow fun i j => .int (i ^ j.toNat)) powD := opd_int fun i j d h => by
  obtain ⟨c, rfl⟩ := ite_some h
  rw [Bool.and_eq_true, Bool.and_eq_true] at c
  exact ⟨⟨of_decide_eq_true c.1.1, of_decide_eq_true c.1.2, of_decide_eq_true c.2⟩, fun _ => .int _⟩

/-! ### == and != -/
mutual
theorem Tr.dp {K : Fg} {H : Hp} : ∀ {v : V} {d : D}, Tr K H v d → d.canLay0 = true → Dp K H v d
  | _, _, .non, _ => .non
  | _, _, .bl b, _ => .bl b
  | _, _, .int i, _ => .int i
  | _, _, .str x, _ => .str x
  | _, _, .lst a b, h => .lst (.inl (.inl a)) (TrAll.dp b (by simpa [PyData.canLay0] using h))
  | _, _, .tup a b, h => .tup a (TrAll.dp b (by simpa [PyData.canLay0] using h))
  | _, _, .dic _ _, h => by simp [PyData.canLay0] at h
  | _, _, .scr _, h => by simp [PyData.canLay0] at h
theorem TrAll.dp {K : Fg} {H : Hp} : ∀ {v : List V} {d : List D}, TrAll K H v d → PyData.canLayAll0 d = true → DpAll K H v d
  | _, _, .nil, _ => .nil
  | _, _, .cons (d := d) (ds := ds) a b, h => by
    have h' : d.canLay0 = true ∧ PyData.canLayAll0 ds = true := by simpa [PyData.canLayAll0] using h
    exact .cons (Tr.dp a h'.1) (TrAll.dp b h'.2)
end
def eqD : D → D → Option Val := fun d e => if SeqAt.shaped d && SeqAt.shaped e then some (.fz (.bool (PyData.eqv d e))) else none
def neD : D → D → Option Val := fun d e => if SeqAt.shaped d && SeqAt.shaped e then some (.fz (.bool (!PyData.eqv d e))) else none
theorem od_eq {K : Fg} : OpD K (rEqD K) eqD := by
  intro G H x y d e res Q s vx vy hr k
  obtain ⟨c, rfl⟩ := ite_some hr
  rw [Bool.and_eq_true] at c
  exact ⟨d, e, Tr.dp (vx.tr s) (SeqAt.canLay_of_shaped c.1), Tr.dp (vy.tr s) (SeqAt.canLay_of_shaped c.2), c.1, c.2, k _ G H (Ex.refl s) (.bl _)⟩
theorem od_ne {K : Fg} : OpD K (rNeD K) neD := by
  intro G H x y d e res Q s vx vy hr k
  obtain ⟨c, rfl⟩ := ite_some hr
  rw [Bool.and_eq_true] at c
  exact ⟨d, e, Tr.dp (vx.tr s) (SeqAt.canLay_of_shaped c.1), Tr.dp (vy.tr s) (SeqAt.canLay_of_shaped c.2), c.1, c.2, k _ G H (Ex.refl s) (.bl _)⟩
def isNone : D → Bool
  | .none => true
  | _ => false
theorem View.isNone {K : Fg} {G H : Hp} {v : V} {d : D} (h : View K G H v d) : decide (v = .non) = DL.isNone d := by
  cases h with
  | sc h => cases h <;> rfl
  | lst _ _ => rfl
  | dic _ _ => rfl
def isD : D → D → Option Val
  | d, .none => some (.fz (.bool (isNone d)))
  | _, _ => none
def isnotD : D → D → Option Val
  | d, .none => some (.fz (.bool (!isNone d)))
  | _, _ => none
theorem od_is {K : Fg} : OpD K (fun x y H Q => y = .non ∧ Q (.bl (decide (x = .non))) H) isD := by
  intro G H x y d e res Q s vx vy hr k
  cases e with
  | none => cases hr; exact ⟨vy.none, k _ G H (Ex.refl s) (by rw [vx.isNone]; exact .bl _)⟩
  | _ => cases hr
theorem od_isnot {K : Fg} : OpD K (fun x y H Q => y = .non ∧ Q (.bl (!decide (x = .non))) H) isnotD := by
  intro G H x y d e res Q s vx vy hr k
  cases e with
  | none => cases hr; exact ⟨vy.none, k _ G H (Ex.refl s) (by rw [vx.isNone]; exact .bl _)⟩
  | _ => cases hr
end DL
end
section
set_option maxRecDepth 100000
set_option maxHeartbeats 4000000
namespace DL
open PySem PySem.Spec L2
open PyProof.Rows hiding St

section
variable {X : Cx} {B : Bs} {pos : Pos}

/-! ### if, and, or, not -/
def ifM {α : Type} (c : Me Bool) (f g : Me α) : Me α := mb c fun b => if b = true then f else g
theorem de_if {c a b : Expr} {fc : Me Bool} {f g : Me Val} (hc : DT X B c fc) (ha : DE X B a f) (hb : DE X B b g) : DE X B (.IfExp c a b pos) (ifM fc f g) := by
  refine PE.weak (pe_ifExp hc ha hb) fun σ H Q h => ?_
  obtain ⟨G, δ, r, δ', R, e, k⟩ := h
  obtain ⟨x, δ1, e1, e⟩ := mb_some e
  refine ⟨G, δ, x, δ1, R, e1, fun G1 H1 s1 R1 => ?_⟩
  cases x with
  | true => exact ⟨G1, δ1, r, δ', R1, e, fun v G' H' s R' q => k v G' H' (s1.trans s) R' q⟩
  | false => exact ⟨G1, δ1, r, δ', R1, e, fun v G' H' s R' q => k v G' H' (s1.trans s) R' q⟩
def andM (f g : Me Bool) : Me Bool := mb f fun b => if b = true then g else mr false
def orM (f g : Me Bool) : Me Bool := mb f fun b => if b = true then mr true else g
def notM (f : Me Bool) : Me Bool := mb f fun b => mr (!b)
abbrev DW (X : Cx) (B : Bs) (e : Expr) (f : Me Bool) : Prop := PW X e (ttOf X.K B f)
theorem dw_pt {e : Expr} {f : Me Bool} (h : DW X B e f) : DT X B e f := PW.pt h
theorem dw_and1 {a : Expr} {f : Me Bool} (ha : DT X B a f) : DW X B (.BoolOp .And [a] pos) f := pw_and1 ha
theorem dw_or1 {a : Expr} {f : Me Bool} (ha : DT X B a f) : DW X B (.BoolOp .Or [a] pos) f := pw_or1 ha
theorem dw_and {a b : Expr} {rest : List Expr} {f g : Me Bool} (ha : DT X B a f) (hb : DW X B (.BoolOp .And (b :: rest) pos) g) : DW X B (.BoolOp .And (a :: b :: rest) pos) (andM f g) := by
  refine PW.weak (pw_and ha hb) fun σ H Q h => ?_
  obtain ⟨G, δ, r, δ', R, e, k⟩ := h
  obtain ⟨x, δ1, e1, e⟩ := mb_some e
  refine ⟨G, δ, x, δ1, R, e1, fun G1 H1 s1 R1 => ?_⟩
  cases x with
  | true => exact ⟨G1, δ1, r, δ', R1, e, fun G' H' s R' => k G' H' (s1.trans s) R'⟩
  | false =>
    cases e
    exact k G1 H1 s1 R1
theorem dw_or {a b : Expr} {rest : List Expr} {f g : Me Bool} (ha : DT X B a f) (hb : DW X B (.BoolOp .Or (b :: rest) pos) g) : DW X B (.BoolOp .Or (a :: b :: rest) pos) (orM f g) := by
  refine PW.weak (pw_or ha hb) fun σ H Q h => ?_
  obtain ⟨G, δ, r, δ', R, e, k⟩ := h
  obtain ⟨x, δ1, e1, e⟩ := mb_some e
  refine ⟨G, δ, x, δ1, R, e1, fun G1 H1 s1 R1 => ?_⟩
  cases x with
  | false => exact ⟨G1, δ1, r, δ', R1, e, fun G' H' s R' => k G' H' (s1.trans s) R'⟩
  | true =>
    cases e
    exact k G1 H1 s1 R1
theorem dt_not {a : Expr} {f : Me Bool} (ha : DT X B a f) : DT X B (.UnaryOp .Not a pos) (notM f) := by
  refine PT.weak (pt_not ha) fun σ H Q h => ?_
  obtain ⟨G, δ, r, δ', R, e, k⟩ := h
  obtain ⟨x, δ1, e1, e⟩ := mb_some e
  cases e
  exact ⟨G, δ, x, _, R, e1, fun G1 H1 s1 R1 => k G1 H1 s1 R1⟩
/-- a bool as a value -/
def valM (f : Me Bool) : Me Val := mb f fun b => mr (.fz (.bool b))
theorem valM_bool {f : Me Val} : ∀ {δ δ' : DS} {b : Bool}, f δ = some (.fz (.bool b), δ') → boolM f δ = some (b, δ') := fun h => by
  unfold boolM
  rw [h]
theorem tOf_bool {K : Fg} {f : Me Val} {σ : L2.St} {H : Hp} {Q : Bool → Hp → Prop} (h : ttOf K B (boolM f) σ H Q) : tOf K B f σ H fun x H' => ∃ k, x = .bl k ∧ Q k H' := tTest_of σ H Q h
/-- and, or, not as values -/
def andV (f g : Me Val) : Me Val := mb (boolM f) fun b => if b = true then g else mr (.fz (.bool false))
def orV (f g : Me Val) : Me Val := mb (boolM f) fun b => if b = true then mr (.fz (.bool true)) else g
def notV (f : Me Val) : Me Val := mb (boolM f) fun b => mr (.fz (.bool (!b)))
theorem de_one {op : BoolOp} {a : Expr} {f : Me Val} (h : DE X B a f) : DE X B (.BoolOp op [a] pos) f := pe_one h
theorem boolM_of {K : Fg} {f : Me Val} {σ : L2.St} {H : Hp} {δ δ1 : DS} {b : Bool} {G : Hp} {Q : VK} (R : RelS K B G H δ σ) (e1 : boolM f δ = some (b, δ1)) (k : ∀ G' H', Same G G' → RelS K B G' H' δ1 σ → Q (.bl b) H') : tOf K B f σ H Q := by
  refine ⟨G, δ, _, δ1, R, boolM_some e1, fun v G' H' s R' t => ?_⟩
  have t : Tr K G' v (.bool b) := t
  cases t
  exact k G' H' s R'
theorem de_and {a b : Expr} {rest : List Expr} {f g : Me Val} (ha : DE X B a f) (hb : DE X B (.BoolOp .And (b :: rest) pos) g) : DE X B (.BoolOp .And (a :: b :: rest) pos) (andV f g) := by
  refine PE.weak (pe_and ha hb) fun σ H Q h => ?_
  obtain ⟨G, δ, r, δ', R, e, k⟩ := h
  obtain ⟨x, δ1, e1, e⟩ := mb_some e
  refine boolM_of R e1 fun G1 H1 s1 R1 => ⟨x, rfl, ?_⟩
  cases x with
  | true => exact ⟨G1, δ1, r, δ', R1, e, fun v G' H' s R' q => k v G' H' (s1.trans s) R' q⟩
  | false =>
    cases e
    exact k _ G1 H1 s1 R1 (.bl false)
theorem de_or {a b : Expr} {rest : List Expr} {f g : Me Val} (ha : DE X B a f) (hb : DE X B (.BoolOp .Or (b :: rest) pos) g) : DE X B (.BoolOp .Or (a :: b :: rest) pos) (orV f g) := by
  refine PE.weak (pe_or ha hb) fun σ H Q h => ?_
  obtain ⟨G, δ, r, δ', R, e, k⟩ := h
  obtain ⟨x, δ1, e1, e⟩ := mb_some e
  refine boolM_of R e1 fun G1 H1 s1 R1 => ⟨x, rfl, ?_⟩
  cases x with
  | false => exact ⟨G1, δ1, r, δ', R1, e, fun v G' H' s R' q => k v G' H' (s1.trans s) R' q⟩
  | true =>
    cases e
    exact k _ G1 H1 s1 R1 (.bl true)
theorem de_not {a : Expr} {f : Me Val} (ha : DE X B a f) : DE X B (.UnaryOp .Not a pos) (notV f) := by
  refine PE.weak (pe_not ha) fun σ H Q h => ?_
  obtain ⟨G, δ, r, δ', R, e, k⟩ := h
  obtain ⟨x, δ1, e1, e⟩ := mb_some e
  cases e
  exact boolM_of R e1 fun G1 H1 s1 R1 => ⟨x, rfl, k _ G1 H1 s1 R1 (.bl _)⟩
/-- a < b < c -/
def chainM (h h' : D → D → Option Val) (f g m : Me Val) : Me Val := mb f fun x => mb g fun y => mb (boolM (mo fun δ => (dv δ x).bind fun a => (dv δ y).bind fun b => h a b)) fun c =>
  if c = true then mb m fun z => mo fun δ => (dv δ y).bind fun a => (dv δ z).bind fun b => h' a b else mr (.fz (.bool false))
theorem tChain_of {K : Fg} {r r' : R2} {h h' : D → D → Option Val} {f g m : Me Val} (hd : OpD K r h) (hd' : OpD K r' h') : ∀ σ H Q, tOf K B (chainM h h' f g m) σ H Q → tChain r r' (tOf K B f) (tOf K B g) (tOf K B m) σ H Q := by
  intro σ H Q hq
  obtain ⟨G, δ, res, δ', R, e, k⟩ := hq
  obtain ⟨x, δ1, e1, e⟩ := mb_some e
  obtain ⟨y, δ2, e2, e⟩ := mb_some e
  obtain ⟨c, δ3, e3, e⟩ := mb_some e
  obtain ⟨e3, rfl⟩ := mo_some (boolM_some e3)
  obtain ⟨a, ea, e3⟩ := Option.bind_eq_some_iff.mp e3
  obtain ⟨b, eb, e3⟩ := Option.bind_eq_some_iff.mp e3
  refine ⟨G, δ, x, δ1, R, e1, fun v G1 H1 s1 R1 v1 => ?_⟩
  obtain ⟨G1', s1', R1', v1'⟩ := v1.freeze R1
  refine ⟨G1', δ1, y, _, R1', e2, fun w G2 H2 s2 R2 v2 => ?_⟩
  obtain ⟨G2', s2', R2', v2'⟩ := v2.freeze R2
  have v1'' := RV.stay (B := B) (G' := G2') (H' := H2) (δ' := δ3) (s2.trans s2') v1'
  refine hd G2' H2 v w a b _ _ R2'.same (v1''.view R2' (by rw [dv_fzv]; exact ea)) (v2'.view R2' (by rw [dv_fzv]; exact eb)) e3 fun u G3 H3 x3 ro => ?_
  have ro : Tr K G3 u (.bool c) := ro
  cases ro
  refine ⟨c, rfl, ?_⟩
  have R3 := R2'.ex x3
  cases c with
  | false =>
    cases e
    exact k _ G3 H3 ((((s1.trans s1').trans s2).trans s2').trans x3.g) R3 (.bl false)
  | true =>
    obtain ⟨z, δ4, e4, e⟩ := mb_some e
    obtain ⟨e5, rfl⟩ := mo_some e
    obtain ⟨a', ea', e5⟩ := Option.bind_eq_some_iff.mp e5
    obtain ⟨b', eb', e5⟩ := Option.bind_eq_some_iff.mp e5
    refine ⟨G3, δ3, z, _, R3, e4, fun w4 G4 H4 s4 R4 v4 => ?_⟩
    have v2'' := RV.stay (B := B) (G' := G4) (H' := H4) (δ' := δ') (x3.g.trans s4) v2'
    refine hd' G4 H4 w w4 a' b' _ _ R4.same (v2''.view R4 (by rw [dv_fzv]; exact ea')) (v4.view R4 eb') e5 fun u5 G5 H5 x5 ro5 => ?_
    exact k u5 G5 H5 ((((((s1.trans s1').trans s2).trans s2').trans x3.g).trans s4).trans x5.g) (R4.ex x5) (ro5.rv R4)
theorem de_chain {a b c : Expr} {op op' : CmpOp} {r r' : R2} {h h' : D → D → Option Val} {f g m : Me Val} (ho : OpR X (compareOp op) r) (hd : OpD X.K r h) (ho' : OpR X (compareOp op') r') (hd' : OpD X.K r' h') (ha : DE X B a f) (hb : DE X B b g) (hc : DE X B c m)
    (hm : lastMarks [op, op'] [b, c] = false := by with_unfolding_all rfl) : DE X B (.Compare a [op, op'] [b, c] pos) (chainM h h' f g m) := PE.weak (pe_chain ho ho' ha hb hc hm) (tChain_of hd hd')
theorem dt_chain {a b c : Expr} {op op' : CmpOp} {r r' : R2} {h h' : D → D → Option Val} {f g m : Me Val} (ho : OpR X (compareOp op) r) (hd : OpD X.K r h) (ho' : OpR X (compareOp op') r') (hd' : OpD X.K r' h') (ha : DE X B a f) (hb : DE X B b g) (hc : DE X B c m)
    (hm : lastMarks [op, op'] [b, c] = false := by with_unfolding_all rfl) : DT X B (.Compare a [op, op'] [b, c] pos) (boolM (chainM h h' f g m)) := PT.weak (pt_chain ho ho' ha hb hc hm) fun σ H Q q => tChain_of hd hd' σ H _ (tTest_of σ H Q q)

/-! ### argument lists -/
theorem RVs.stay {K : Fg} {G G' H H' : Hp} {δ δ' : DS} {σ : L2.St} (s : Same G G') : ∀ {vs : List V} {rs : List Val}, RVs K B G H δ σ vs rs → RVs K B G' H' δ' σ vs rs
  | _, _, .nil => .nil
  | _, _, .cons a b => .cons (RV.stay s a) (RVs.stay s b)
def nilA : Me (List Val) := mr []
def consA (f : Me Val) (g : Me (List Val)) : Me (List Val) := mb f fun x => mb g fun xs => mr (x :: xs)
theorem da_nil : DA X B [] nilA := by
  refine PA.weak pa_nil fun σ H Q h => ?_
  obtain ⟨G, δ, r, δ', R, e, k⟩ := h
  cases e
  exact k [] G H (Same.refl _) R .nil
theorem da_cons {e : Expr} {es : List Expr} {f : Me Val} {g : Me (List Val)} (ha : DE X B e f) (hr : DA X B es g) (hs : starEach (e :: es) X.env = (false, eval e X.env) :: starEach es X.env := by rfl) : DA X B (e :: es) (consA f g) := by
  refine PA.weak (pa_cons ha hr hs) fun σ H Q h => ?_
  obtain ⟨G, δ, r, δ', R, e, k⟩ := h
  obtain ⟨x, δ1, e1, e⟩ := mb_some e
  obtain ⟨xs, δ2, e2, e⟩ := mb_some e
  cases e
  refine ⟨G, δ, x, δ1, R, e1, fun v G1 H1 s1 R1 v1 => ?_⟩
  obtain ⟨G1', s1', R1', v1'⟩ := v1.freeze R1
  refine ⟨G1', δ1, xs, _, R1', e2, fun vs G2 H2 s2 R2 v2 => ?_⟩
  exact k (v :: vs) G2 H2 ((s1.trans s1').trans s2) R2 (.cons (RV.stay s2 v1') v2)
def dvs (δ : DS) : List Val → Option (List D)
  | [] => some []
  | r :: rs => (dv δ r).bind fun d => (dvs δ rs).bind fun ds => some (d :: ds)
theorem RVs.view {K : Fg} {G H : Hp} {δ : DS} {σ : L2.St} (R : RelS K B G H δ σ) : ∀ {vs : List V} {rs : List Val} {ds : List D}, RVs K B G H δ σ vs rs → dvs δ rs = some ds → Paired (View K G H) vs ds
  | _, _, _, .nil, h => by cases h; exact .nil
  | _, _, _, .cons a b, h => by
    obtain ⟨d, h1, h⟩ := Option.bind_eq_some_iff.mp h
    obtain ⟨es, h2, h⟩ := Option.bind_eq_some_iff.mp h
    cases h
    exact .cons (a.view R (by rw [dv_fzv]; exact h1)) (RVs.view R b h2)
/-- all trees -/
def fzs : List Val → Option (List D)
  | [] => some []
  | .sl _ :: _ => none
  | .fz d :: rs => (fzs rs).bind fun ds => some (d :: ds)
  | .ow d :: rs => (fzs rs).bind fun ds => some (d :: ds)
theorem RVs.trees {K : Fg} {G H : Hp} {δ : DS} {σ : L2.St} : ∀ {vs : List V} {rs : List Val} {ds : List D}, RVs K B G H δ σ vs rs → fzs rs = some ds → TrAll K G vs ds
  | _, _, _, .nil, h => by cases h; exact .nil
  | _, _, _, .cons (b := r) a b, h => by
    cases r with
    | sl i => cases h
    | fz d =>
      obtain ⟨es, h2, h⟩ := Option.bind_eq_some_iff.mp h
      cases h
      exact .cons a (RVs.trees b h2)
    | ow d =>
      obtain ⟨es, h2, h⟩ := Option.bind_eq_some_iff.mp h
      cases h
      exact .cons a (RVs.trees b h2)
/-! ### displays -/
def lstM (fa : Me (List Val)) : Me Val := mb fa fun xs => mo fun _ => (fzs xs).bind fun ds => if szOk ds.length then some (.ow (.list ds)) else none
def tupM (fa : Me (List Val)) : Me Val := mb fa fun xs => mo fun _ => (fzs xs).bind fun ds => if szOk ds.length then some (.fz (.tuple ds)) else none
theorem de_lst {es : List Expr} {fa : Me (List Val)} (h : DA X B es fa) : DE X B (.List es pos) (lstM fa) := by
  refine PE.weak (pe_lst h) fun σ H Q h => ?_
  obtain ⟨G, δ, r, δ', R, e, k⟩ := h
  obtain ⟨xs, δ1, e1, e⟩ := mb_some e
  obtain ⟨e2, rfl⟩ := mo_some e
  obtain ⟨ds, ed, e2⟩ := Option.bind_eq_some_iff.mp e2
  obtain ⟨c, rfl⟩ := ite_some e2
  refine ⟨G, δ, xs, _, R, e1, fun vs G1 H1 s1 R1 v1 => ?_⟩
  have t := v1.trees ed
  refine ⟨by rw [t.len]; exact szOk_le c, fun p n => ?_⟩
  have x := Ex.push R1.same (.lst vs) n
  exact k _ _ _ (s1.trans x.g) (R1.ex x) ((RO.newL R1.same t n).rv R1)
theorem de_tup {es : List Expr} {x1} {fa : Me (List Val)} (h : DA X B es fa) : DE X B (.Tuple es x1 pos) (tupM fa) := by
  refine PE.weak (pe_tup h) fun σ H Q h => ?_
  obtain ⟨G, δ, r, δ', R, e, k⟩ := h
  obtain ⟨xs, δ1, e1, e⟩ := mb_some e
  obtain ⟨e2, rfl⟩ := mo_some e
  obtain ⟨ds, ed, e2⟩ := Option.bind_eq_some_iff.mp e2
  obtain ⟨c, rfl⟩ := ite_some e2
  refine ⟨G, δ, xs, _, R, e1, fun vs G1 H1 s1 R1 v1 => ?_⟩
  have t := v1.trees ed
  refine ⟨by rw [t.len]; exact szOk_le c, fun p n => ?_⟩
  have x := Ex.pushF R1.same (.tup vs) n
  exact k _ _ _ (s1.trans x.g) (R1.ex x) (RO.rv (H := H1) R1 (RO.newT R1.same t n))

/-! ### built-in functions -/
def FnD (K : Fg) (r : List V → Hp → VK → Prop) (h : List D → Option Val) : Prop := ∀ (G H : Hp) (vs : List V) (ds : List D) (res : Val) (Q : VK), Same G H → Paired (View K G H) vs ds → h ds = some res →
  (∀ v G' H', Ex G H G' H' → RO K G' H H' v res → Q v H') → r vs H Q
def callM (h : List D → Option Val) (fa : Me (List Val)) : Me Val := mb fa fun xs => mo fun δ => (dvs δ xs).bind h
theorem tCB_of {K : Fg} {r : List V → Hp → VK → Prop} {h : List D → Option Val} {fa : Me (List Val)} (hd : FnD K r h) : ∀ σ H Q, tOf K B (callM h fa) σ H Q → tCB r (taOf K B fa) σ H Q := by
  intro σ H Q hq
  obtain ⟨G, δ, res, δ', R, e, k⟩ := hq
  obtain ⟨xs, δ1, e1, e⟩ := mb_some e
  obtain ⟨e2, rfl⟩ := mo_some e
  obtain ⟨ds, ed, e2⟩ := Option.bind_eq_some_iff.mp e2
  refine ⟨G, δ, xs, _, R, e1, fun vs G1 H1 s1 R1 v1 => ?_⟩
  refine hd G1 H1 vs ds res Q R1.same (v1.view R1 ed) e2 fun u G' H' x ro => ?_
  exact k u G' H' (s1.trans x.g) (R1.ex x) (ro.rv R1)
theorem de_callB {x : Str} {id : String} {r : List V → Hp → VK → Prop} {h : List D → Option Val} {e : Expr} {es : List Expr} {fa : Me (List Val)} {p : Pos} (hc : CallR X (.builtin id) r) (hd : FnD X.K r h) (hg : Gl X x) (hm : X.mg x = none) (hv : bootBuiltins x = some (.builtin id)) (ha : DA X B (e :: es) fa) (hn : x ≠ "__name__" := by decide) (hdb : (x == ("__debug__" : Str)) = false := by decide)
    (he : starEach (e :: es) X.env = (false, eval e X.env) :: starEach es X.env := by rfl) (hpl : (backTo pos (starEach es X.env)).any (·.1) = false := by rfl) : DE X B (.Call (.Name x p) (e :: es) [] pos) (callM h fa) :=
  PE.weak (pe_callB hc hg hm hv ha hn hdb he hpl) (tCB_of hd)
theorem de_callT {x : Str} {T : String} {r : List V → Hp → VK → Prop} {h : List D → Option Val} {e : Expr} {es : List Expr} {fa : Me (List Val)} {p : Pos} (hc : CallR X (.type T) r) (hd : FnD X.K r h) (hg : Gl X x) (hm : X.mg x = none) (hv : bootBuiltins x = some (.type T)) (ha : DA X B (e :: es) fa) (hn : x ≠ "__name__" := by decide) (hdb : (x == ("__debug__" : Str)) = false := by decide)
    (he : starEach (e :: es) X.env = (false, eval e X.env) :: starEach es X.env := by rfl) (hpl : (backTo pos (starEach es X.env)).any (·.1) = false := by rfl) : DE X B (.Call (.Name x p) (e :: es) [] pos) (callM h fa) :=
  PE.weak (pe_callTy hc hg hm hv ha hn hdb he hpl) (tCB_of hd)
theorem view1 {K : Fg} {G H : Hp} {vs : List V} {d : D} (h : Paired (View K G H) vs [d]) : ∃ v, vs = [v] ∧ View K G H v d := by
  cases h with
  | cons a b => cases b; exact ⟨_, rfl, a⟩
theorem view2 {K : Fg} {G H : Hp} {vs : List V} {d e : D} (h : Paired (View K G H) vs [d, e]) : ∃ v w, vs = [v, w] ∧ View K G H v d ∧ View K G H w e := by
  cases h with
  | cons a b =>
    obtain ⟨w, rfl, c⟩ := view1 b
    exact ⟨_, _, rfl, a, c⟩
/-- len -/
def lenD : List D → Option Val
  | [.list ds] => some (.fz (.int ds.length))
  | [.tuple ds] => some (.fz (.int ds.length))
  | [.str x] => if szOk x.length then some (.fz (.int x.length)) else none
  | [.dict [(.none, .list ds)]] => some (.fz (.int ds.length))
  | _ => none
theorem ints_of : ∀ {ds : List D} {vs : List V} {K : Fg} {H : Hp}, TrAll K H vs ds → ∀ {ns : List Int}, vs = ns.map V.int → ds = ns.map PyData.int
  | _, _, _, _, .nil, [], _ => rfl
  | _, _, _, _, .nil, _ :: _, h => by cases h
  | _, _, _, _, .cons a b, [], h => by cases h
  | _, _, _, _, .cons a b, n :: r, h => by
    rw [List.map_cons] at h
    injection h with h1 h2
    subst h1
    cases a
    rw [List.map_cons, ints_of b h2]
theorem View.scr' {K : Fg} {G H : Hp} (s : Same G H) {v : V} {ds : List D} (h : View K G H v (.dict [(.none, .list ds)])) : ∃ (a : Addr) (ns : List Int), v = .ref a ∧ SqL K H a (ns.map V.int) ∧ ds = ns.map PyData.int := by
  generalize hz : (PyData.dict [(PyData.none, PyData.list ds)]) = z at h
  cases h with
  | sc h =>
    cases h with
    | dic a b =>
      injection hz with hz
      subst hz
      exact (TrKV.key b _ List.mem_cons_self rfl).elim
    | scr a =>
      injection hz with hz
      injection hz with hz
      injection hz with _ hz
      injection hz with hz
      exact ⟨_, _, rfl, s.seq a, hz⟩
    | _ => cases hz
  | lst a b => cases hz
  | dic a b =>
    injection hz with hz
    subst hz
    exact (TrKV.key b _ List.mem_cons_self rfl).elim
theorem fd_len {K : Fg} : FnD K (fun xs H Q => ∃ x n, xs = [x] ∧ LenV K x H n ∧ Q (.int n) H) lenD := by
  intro G H vs ds res Q s vv hr k
  unfold lenD at hr
  split at hr
  · cases hr
    obtain ⟨v, rfl, v1⟩ := view1 vv
    obtain ⟨a, xs, rfl, hx, t⟩ := v1.list s
    exact ⟨_, _, rfl, .inl ⟨xs, .inl (.inl hx), t.len.symm⟩, k _ G H (Ex.refl s) (.int _)⟩
  · cases hr
    obtain ⟨v, rfl, v1⟩ := view1 vv
    obtain ⟨a, xs, rfl, hx, t⟩ := v1.tuple s
    exact ⟨_, _, rfl, .inr ⟨xs, hx, t.len.symm⟩, k _ G H (Ex.refl s) (.int _)⟩
  · obtain ⟨c, rfl⟩ := ite_some hr
    obtain ⟨v, rfl, v1⟩ := view1 vv
    cases v1.str
    exact ⟨_, _, rfl, ⟨szOk_le c, rfl⟩, k _ G H (Ex.refl s) (.int _)⟩
  · cases hr
    obtain ⟨v, rfl, v1⟩ := view1 vv
    obtain ⟨a, ns, rfl, hx, rfl⟩ := v1.scr' s
    refine ⟨_, _, rfl, .inl ⟨_, hx, rfl⟩, ?_⟩
    rw [List.length_map] at k ⊢
    exact k _ G H (Ex.refl s) (.int _)
  · cases hr
/-- list(x), tuple(x) -/
def listD : List D → Option Val
  | [.list ds] => some (.ow (.list ds))
  | [.tuple ds] => some (.ow (.list ds))
  | _ => none
theorem fd_list {K : Fg} : FnD K (fun xs H Q => ∃ p ys, xs = [.ref p] ∧ (SqL K H p ys ∨ SqT K H p ys) ∧ ∀ l, H l = none → Q (.ref l) (upd H l (.lst ys))) listD := by
  intro G H vs ds res Q s vv hr k
  unfold listD at hr
  split at hr
  · cases hr
    obtain ⟨v, rfl, v1⟩ := view1 vv
    obtain ⟨a, xs, rfl, hx, t⟩ := v1.list s
    exact ⟨a, xs, rfl, .inl (.inl (.inl hx)), fun l n => k _ G _ (Ex.push s _ n) (RO.newL s t n)⟩
  · cases hr
    obtain ⟨v, rfl, v1⟩ := view1 vv
    obtain ⟨a, xs, rfl, hx, t⟩ := v1.tuple s
    exact ⟨a, xs, rfl, .inr hx, fun l n => k _ G _ (Ex.push s _ n) (RO.newL s t n)⟩
  · cases hr
def tupleD : List D → Option Val
  | [.list ds] => some (.fz (.tuple ds))
  | [.tuple ds] => some (.fz (.tuple ds))
  | _ => none
theorem fd_tuple {K : Fg} : FnD K (fun xs H Q => ∃ p ys, xs = [.ref p] ∧ ((SqL K H p ys ∧ ∀ l, H l = none → Q (.ref l) (upd H l (.tup ys))) ∨ (SqT K H p ys ∧ Q (.ref p) H))) tupleD := by
  intro G H vs ds res Q s vv hr k
  unfold tupleD at hr
  split at hr
  · cases hr
    obtain ⟨v, rfl, v1⟩ := view1 vv
    obtain ⟨a, xs, rfl, hx, t⟩ := v1.list s
    exact ⟨a, xs, rfl, .inl ⟨.inl (.inl hx), fun l n => k _ _ _ (Ex.pushF s _ n) (RO.newT s t n)⟩⟩
  · cases hr
    obtain ⟨v, rfl, v1⟩ := view1 vv
    have f := v1.tupT
    obtain ⟨a, xs, rfl, hx, t⟩ := v1.tuple s
    exact ⟨a, xs, rfl, .inr ⟨hx, k _ G H (Ex.refl s) f⟩⟩
  · cases hr
/-- int(x), abs(x), max(a, b), min(a, b), divmod(a, b) -/
def intD : List D → Option Val
  | [.int i] => some (.fz (.int i))
  | [.bool b] => some (.fz (.int (if b then 1 else 0)))
  | _ => none
theorem fd_int {K : Fg} : FnD K (fun xs H Q => (∃ i, xs = [.int i] ∧ Q (.int i) H) ∨ ∃ k, xs = [.bl k] ∧ Q (.int (if k then 1 else 0)) H) intD := by
  intro G H vs ds res Q s vv hr k
  unfold intD at hr
  split at hr
  · cases hr
    obtain ⟨v, rfl, v1⟩ := view1 vv
    cases v1.int
    exact .inl ⟨_, rfl, k _ G H (Ex.refl s) (.int _)⟩
  · cases hr
    obtain ⟨v, rfl, v1⟩ := view1 vv
    cases v1.bool
    exact .inr ⟨_, rfl, k _ G H (Ex.refl s) (.int _)⟩
  · cases hr
def absD : List D → Option Val
  | [.int i] => some (.fz (.int (if i < 0 then -i else i)))
  | _ => none
theorem fd_abs {K : Fg} : FnD K (fun xs H Q => ∃ i, xs = [.int i] ∧ Q (.int (if i < 0 then -i else i)) H) absD := by
  intro G H vs ds res Q s vv hr k
  unfold absD at hr
  split at hr
  · cases hr
    obtain ⟨v, rfl, v1⟩ := view1 vv
    cases v1.int
    exact ⟨_, rfl, k _ G H (Ex.refl s) (.int _)⟩
  · cases hr
def max2D : List D → Option Val
  | [.int i, .int j] => some (.fz (.int (if j > i then j else i)))
  | _ => none
theorem fd_max2 {K : Fg} : FnD K (fun xs H Q => ∃ i j, xs = [.int i, .int j] ∧ Q (.int (if j > i then j else i)) H) max2D := by
  intro G H vs ds res Q s vv hr k
  unfold max2D at hr
  split at hr
  · cases hr
    obtain ⟨v, w, rfl, v1, v2⟩ := view2 vv
    cases v1.int
    cases v2.int
    exact ⟨_, _, rfl, k _ G H (Ex.refl s) (.int _)⟩
  · cases hr
def min2D : List D → Option Val
  | [.int i, .int j] => some (.fz (.int (if j < i then j else i)))
  | _ => none
theorem fd_min2 {K : Fg} : FnD K (fun xs H Q => ∃ i j, xs = [.int i, .int j] ∧ Q (.int (if j < i then j else i)) H) min2D := by
  intro G H vs ds res Q s vv hr k
  unfold min2D at hr
  split at hr
  · cases hr
    obtain ⟨v, w, rfl, v1, v2⟩ := view2 vv
    cases v1.int
    cases v2.int
    exact ⟨_, _, rfl, k _ G H (Ex.refl s) (.int _)⟩
  · cases hr
def divmodD : List D → Option Val
  | [.int i, .int j] => if decide (0 < j) && decide (j < 1073741824) then some (.fz (.tuple [.int (i / j), .int (i % j)])) else none
  | _ => none
theorem fd_divmod {K : Fg} : FnD K (fun xs H Q => ∃ i j, xs = [.int i, .int j] ∧ CDiv i j ∧ ∀ p, H p = none → Q (.ref p) (upd H p (.tup [.int (i / j), .int (i % j)]))) divmodD := by
  intro G H vs ds res Q s vv hr k
  unfold divmodD at hr
  split at hr
  · obtain ⟨c, rfl⟩ := ite_some hr
    rw [Bool.and_eq_true] at c
    obtain ⟨v, w, rfl, v1, v2⟩ := view2 vv
    cases v1.int
    cases v2.int
    exact ⟨_, _, rfl, ⟨of_decide_eq_true c.1, of_decide_eq_true c.2⟩, fun p n => k _ _ _ (Ex.pushF s _ n) (RO.newT s (.cons (.int _) (.cons (.int _) .nil)) n)⟩
  · cases hr
/-- lists of ints, of bools -/
def intsOf : List D → Option (List Int)
  | [] => some []
  | .int i :: r => (intsOf r).bind fun l => some (i :: l)
  | _ => none
def boolsOf : List D → Option (List Bool)
  | [] => some []
  | .bool i :: r => (boolsOf r).bind fun l => some (i :: l)
  | _ => none
theorem intsOf_map : ∀ ns : List Int, intsOf (ns.map PyData.int) = some ns
  | [] => rfl
  | n :: r => by rw [List.map_cons]; unfold intsOf; rw [intsOf_map r]; rfl
theorem boolsOf_map : ∀ ns : List Bool, boolsOf (ns.map PyData.bool) = some ns
  | [] => rfl
  | n :: r => by rw [List.map_cons]; unfold boolsOf; rw [boolsOf_map r]; rfl
theorem TrAll.intsOf {K : Fg} {G : Hp} : ∀ {vs : List V} {ds : List D} {ns : List Int}, TrAll K G vs ds → DL.intsOf ds = some ns → vs = ns.map V.int
  | _, _, _, .nil, h => by cases h; rfl
  | _, _, _, .cons a b, h => by
    cases a with
    | int i =>
      obtain ⟨l, h1, h⟩ := Option.bind_eq_some_iff.mp h
      cases h
      rw [TrAll.intsOf b h1]
      rfl
    | _ => cases h
theorem TrAll.boolsOf {K : Fg} {G : Hp} : ∀ {vs : List V} {ds : List D} {ns : List Bool}, TrAll K G vs ds → DL.boolsOf ds = some ns → vs = ns.map V.bl
  | _, _, _, .nil, h => by cases h; rfl
  | _, _, _, .cons a b, h => by
    cases a with
    | bl i =>
      obtain ⟨l, h1, h⟩ := Option.bind_eq_some_iff.mp h
      cases h
      rw [TrAll.boolsOf b h1]
      rfl
    | _ => cases h
def allD : List D → Option Val
  | [.list ds] => (boolsOf ds).bind fun bs => some (.fz (.bool (bs.all id)))
  | _ => none
def anyD : List D → Option Val
  | [.list ds] => (boolsOf ds).bind fun bs => some (.fz (.bool (bs.any id)))
  | _ => none
def sumD : List D → Option Val
  | [.list ds] => (intsOf ds).bind fun bs => some (.fz (.int bs.sum))
  | _ => none
theorem fd_all {K : Fg} : FnD K (rAll K) allD := by
  intro G H vs ds res Q s vv hr k
  unfold allD at hr
  split at hr
  · obtain ⟨bs, hb, hr⟩ := Option.bind_eq_some_iff.mp hr
    cases hr
    obtain ⟨v, rfl, v1⟩ := view1 vv
    obtain ⟨a, xs, rfl, hx, t⟩ := v1.list s
    cases t.boolsOf hb
    exact ⟨a, bs, rfl, .inl (.inl hx), k _ G H (Ex.refl s) (.bl _)⟩
  · cases hr
theorem fd_any {K : Fg} : FnD K (rAny K) anyD := by
  intro G H vs ds res Q s vv hr k
  unfold anyD at hr
  split at hr
  · obtain ⟨bs, hb, hr⟩ := Option.bind_eq_some_iff.mp hr
    cases hr
    obtain ⟨v, rfl, v1⟩ := view1 vv
    obtain ⟨a, xs, rfl, hx, t⟩ := v1.list s
    cases t.boolsOf hb
    exact ⟨a, bs, rfl, .inl (.inl hx), k _ G H (Ex.refl s) (.bl _)⟩
  · cases hr
theorem fd_sum {K : Fg} : FnD K (rSum K) sumD := by
  intro G H vs ds res Q s vv hr k
  unfold sumD at hr
  split at hr
  · obtain ⟨bs, hb, hr⟩ := Option.bind_eq_some_iff.mp hr
    cases hr
    obtain ⟨v, rfl, v1⟩ := view1 vv
    obtain ⟨a, xs, rfl, hx, t⟩ := v1.list s
    cases t.intsOf hb
    exact ⟨a, bs, rfl, .inl (.inl hx), k _ G H (Ex.refl s) (.int _)⟩
  · cases hr
/-- the greatest of a list -/
def maxOf : List Int → Option Int
  | [] => none
  | n :: r => match maxOf r with
    | none => some n
    | some m => some (if n ≤ m then m else n)
theorem maxOf_spec : ∀ {ns : List Int} {m : Int}, maxOf ns = some m → m ∈ ns ∧ ∀ y ∈ ns, y ≤ m
  | [], _, h => by cases h
  | n :: r, m, h => by
    unfold maxOf at h
    cases q : maxOf r with
    | none =>
      rw [q] at h
      cases h
      cases r with
      | nil => exact ⟨List.mem_cons_self, fun y hy => by cases hy with | head => exact Int.le_refl _ | tail _ h => cases h⟩
      | cons a b =>
        unfold maxOf at q
        split at q <;> cases q
    | some k =>
      rw [q] at h
      obtain ⟨h1, h2⟩ := maxOf_spec q
      have h : (if n ≤ k then k else n) = m := Option.some.inj h
      by_cases c : n ≤ k
      · rw [if_pos c] at h
        subst h
        exact ⟨List.mem_cons_of_mem _ h1, fun y hy => by cases hy with | head => exact c | tail _ z => exact h2 y z⟩
      · rw [if_neg c] at h
        subst h
        exact ⟨List.mem_cons_self, fun y hy => by
          cases hy with
          | head => exact Int.le_refl _
          | tail _ z => have := h2 y z; omega⟩
theorem maxOf_eq {ns : List Int} {m k : Int} (h : maxOf ns = some m) (h1 : k ∈ ns) (h2 : ∀ y ∈ ns, y ≤ k) : k = m := by
  obtain ⟨a, b⟩ := maxOf_spec h
  have := h2 m a
  have := b k h1
  omega
def maxLD : List D → Option Val
  | [.list ds] => (intsOf ds).bind fun ns => (maxOf ns).bind fun m => some (.fz (.int m))
  | _ => none
theorem fd_maxL {K : Fg} : FnD K (rMax K) maxLD := by
  intro G H vs ds res Q s vv hr k
  unfold maxLD at hr
  split at hr
  · obtain ⟨ns, hb, hr⟩ := Option.bind_eq_some_iff.mp hr
    obtain ⟨m, hm, hr⟩ := Option.bind_eq_some_iff.mp hr
    cases hr
    obtain ⟨v, rfl, v1⟩ := view1 vv
    obtain ⟨a, xs, rfl, hx, t⟩ := v1.list s
    cases t.intsOf hb
    refine ⟨a, ns, rfl, .inl (.inl hx), ?_, fun j h1 h2 => ?_⟩
    · cases ns with
      | nil => cases hm
      | cons => exact Nat.zero_lt_succ _
    · rw [maxOf_eq hm h1 h2]
      exact k _ G H (Ex.refl s) (.int _)
  · cases hr

/-! ### isinstance -/
def tyName : D → Option String
  | .none => some "NoneType"
  | .bool _ => some "bool"
  | .int _ => some "int"
  | .str _ => some "str"
  | .list _ => some "list"
  | .tuple _ => some "tuple"
  | .dict [] => some "dict"
  | .dict ((.none, _) :: _) => none
  | .dict _ => some "dict"
theorem View.ty {K : Fg} {G H : Hp} (s : Same G H) {v : V} {d : D} {T : String} (h : View K G H v d) (e : tyName d = some T) : TyX K H v (.type T) := by
  cases h with
  | sc h =>
    cases h with
    | non => cases e; exact .base .non
    | bl b => cases e; exact .base (.bl b)
    | int i => cases e; exact .base (.int i)
    | str x => cases e; exact .base (.str x)
    | lst a b => cases e; exact .base (.lst (s _ _ a))
    | tup a b =>
      cases e
      rcases a with (a | ⟨o, a⟩) | ⟨o, its, n, a, c, _⟩
      · exact .base (.tup (s _ _ a))
      · exact .fTuple (s _ _ a)
      · exact .kTuple a c
    | dic a b =>
      cases b with
      | nil => cases e; exact .base (.dK (s _ _ a))
      | @cons q _ _ _ _ t r => cases q <;> (cases e; exact .base (.dK (s _ _ a)))
    | scr a => cases e
  | lst a b => cases e; exact .base (.lst a)
  | dic a b =>
    cases b with
    | nil => cases e; exact .base (.dK a)
    | @cons q _ _ _ _ t r => cases q <;> (cases e; exact .base (.dK a))
def isT (a b : String) : Bool := a == b || (a == "bool" && b == "int")
theorem kit_table : (["NoneType", "bool", "int", "str", "list", "tuple", "dict"].all fun a => ["bool", "int", "str", "list", "tuple", "dict"].all fun b => kitB a b == some (isT a b)) = true := by decide +kernel
theorem kit_isT {a b : String} (ha : a ∈ ["NoneType", "bool", "int", "str", "list", "tuple", "dict"]) (hb : b ∈ ["bool", "int", "str", "list", "tuple", "dict"]) : kitB a b = some (isT a b) := by
  have h := List.all_eq_true.mp (List.all_eq_true.mp kit_table a ha) b hb
  exact eq_of_beq h
theorem tyName_mem {d : D} {T : String} (e : tyName d = some T) : T ∈ ["NoneType", "bool", "int", "str", "list", "tuple", "dict"] := by
  unfold tyName at e
  split at e <;> first | (cases e; simp; done) | cases e
def isiD (T : String) (d : D) : Option Val := (tyName d).bind fun t => some (.fz (.bool (isT t T)))
theorem de_isi {e : Expr} {f : Me Val} {p p2 : Pos} {T : Str} {Ts : String} (hg : Gl X "isinstance") (hm : X.mg "isinstance" = none) (ha : DE X B e f) (hg2 : Gl X T) (hm2 : X.mg T = none) (hv : bootBuiltins T = some (.type Ts)) (hT : Ts ∈ ["bool", "int", "str", "list", "tuple", "dict"] := by decide)
    (hn : T ≠ "__name__" := by decide) (hd : (T == ("__debug__" : Str)) = false := by decide)
    (he : starEach [e, .Name T p2] X.env = (false, eval e X.env) :: starEach [.Name T p2] X.env := by rfl) (he2 : starEach [.Name T p2] X.env = (false, eval (.Name T p2) X.env) :: starEach [] X.env := by rfl) (hpl : (backTo pos (starEach [.Name T p2] X.env)).any (·.1) = false := by rfl) :
    DE X B (.Call (.Name "isinstance" p) [e, .Name T p2] [] pos) (unM (isiD Ts) f) := by
  refine PE.weak (pe_callB call_isi hg hm (by decide +kernel) (pa_cons ha (pa_cons (pe_bltn (v := .ty Ts) hg2 hm2 hv rfl hn hd) pa_nil he2) he) (by decide) (by decide) he hpl) fun σ H Q h => ?_
  obtain ⟨G, δ, res, δ', R, e, k⟩ := h
  obtain ⟨x, δ1, e1, e⟩ := mb_some e
  obtain ⟨e3, rfl⟩ := mo_some e
  obtain ⟨a, ea, e3⟩ := Option.bind_eq_some_iff.mp e3
  obtain ⟨t, et, e3⟩ := Option.bind_eq_some_iff.mp e3
  cases e3
  refine ⟨G, δ, x, _, R, e1, fun v G1 H1 s1 R1 v1 => ?_⟩
  exact ⟨v, .ty Ts, .type t, .type Ts, _, rfl, .ty Ts, (v1.view R1 ea).ty R1.same et, kit_ty (kit_isT (tyName_mem et) hT), k _ G1 H1 s1 R1 (.bl _)⟩
def isiD2 (T U : String) (d : D) : Option Val := (tyName d).bind fun t => some (.fz (.bool (isT t T || isT t U)))
theorem de_isi2 {e : Expr} {f : Me Val} {p p2 p3 pt : Pos} {kt} {T U : Str} {Ts Us : String} (hg : Gl X "isinstance") (hm : X.mg "isinstance" = none) (ha : DE X B e f) (hg2 : Gl X T) (hm2 : X.mg T = none) (hv : bootBuiltins T = some (.type Ts)) (hg3 : Gl X U) (hm3 : X.mg U = none) (hv3 : bootBuiltins U = some (.type Us)) (hT : Ts ∈ ["bool", "int", "str", "list", "tuple", "dict"] := by decide) (hU : Us ∈ ["bool", "int", "str", "list", "tuple", "dict"] := by decide)
    (hn : T ≠ "__name__" := by decide) (hd : (T == ("__debug__" : Str)) = false := by decide) (hn3 : U ≠ "__name__" := by decide) (hd3 : (U == ("__debug__" : Str)) = false := by decide)
    (he : starEach [e, .Tuple [.Name T p2, .Name U p3] kt pt] X.env = (false, eval e X.env) :: starEach [.Tuple [.Name T p2, .Name U p3] kt pt] X.env := by rfl)
    (he2 : starEach [.Tuple [.Name T p2, .Name U p3] kt pt] X.env = (false, eval (.Tuple [.Name T p2, .Name U p3] kt pt) X.env) :: starEach [] X.env := by rfl) (hpl : (backTo pos (starEach [.Tuple [.Name T p2, .Name U p3] kt pt] X.env)).any (·.1) = false := by rfl)
    (he3 : starEach [.Name T p2, .Name U p3] X.env = (false, eval (.Name T p2) X.env) :: starEach [.Name U p3] X.env := by rfl) (he4 : starEach [.Name U p3] X.env = (false, eval (.Name U p3) X.env) :: starEach [] X.env := by rfl) :
    DE X B (.Call (.Name "isinstance" p) [e, .Tuple [.Name T p2, .Name U p3] kt pt] [] pos) (unM (isiD2 Ts Us) f) := by
  refine PE.weak (pe_callB call_isiT hg hm (by decide +kernel) (pa_cons ha (pa_cons (pe_tup (pa_cons (pe_bltn (v := .ty Ts) hg2 hm2 hv rfl hn hd) (pa_cons (pe_bltn (v := .ty Us) hg3 hm3 hv3 rfl hn3 hd3) pa_nil he4) he3)) pa_nil he2) he) (by decide) (by decide) he hpl) fun σ H Q h => ?_
  obtain ⟨G, δ, res, δ', R, e, k⟩ := h
  obtain ⟨x, δ1, e1, e⟩ := mb_some e
  obtain ⟨e3, rfl⟩ := mo_some e
  obtain ⟨a, ea, e3⟩ := Option.bind_eq_some_iff.mp e3
  obtain ⟨t, et, e3⟩ := Option.bind_eq_some_iff.mp e3
  cases e3
  refine ⟨G, δ, x, _, R, e1, fun v G1 H1 s1 R1 v1 => ?_⟩
  refine ⟨by show 2 ≤ sizeLine; decide, fun p n => ?_⟩
  have x := Ex.push R1.same (.tup [.ty Ts, .ty Us]) n
  have ty := ((v1.view R1 ea).ty R1.same et)
  refine ⟨v, p, [.ty Ts, .ty Us], .type t, [.type Ts, .type Us], _, rfl, upd_same, .cons (.ty Ts) (.cons (.ty Us) .nil), ?_, kitAny_cons (b := isT t Ts) (r := isT t Ts || isT t Us) (kit_ty (kit_isT (tyName_mem et) hT)) (fun h => ?_) (fun h => by rw [h]; rfl), k _ G1 _ (s1.trans x.g) (R1.ex x) (.bl _)⟩
  · exact View.ty x.gh ((v1.view R1 ea).up x.h) et
  · rw [h, Bool.false_or]
    refine kitAny_cons (b := isT t Us) (kit_ty (kit_isT (tyName_mem et) hU)) (fun h => by rw [h]; exact kitAny_nil) fun h => h
end
end DL
end
section
set_option maxRecDepth 100000
set_option maxHeartbeats 4000000
namespace DL
open PySem PySem.Spec L2
open PyProof.Rows hiding St

section
variable {X : Cx} {B : Bs} {pos : Pos}

/-! ### items, slices -/
theorem atI_tr {K : Fg} {G : Hp} {xs : List V} {ds : List D} {i : Int} {d : D} (t : TrAll K G xs ds) (h : atI ds i = some d) : ∃ v, atI xs i = some v ∧ Tr K G v d := by
  unfold atI at h ⊢
  rw [t.len]
  obtain ⟨j, e, h⟩ := Option.bind_eq_some_iff.mp h
  obtain ⟨v, e2, t2⟩ := t.get h
  exact ⟨v, by rw [e]; exact e2, t2⟩
def ixD : D → D → Option Val
  | .list ds, .int i => (atI ds i).bind fun d => some (.fz d)
  | .tuple ds, .int i => (atI ds i).bind fun d => some (.fz d)
  | .str x, .int i => if szOk x.length then (atI x.cps.toList i).bind fun c => some (.fz (.str ⟨#[c]⟩)) else none
  | .dict [(.none, .list ds)], .int i => (atI ds i).bind fun d => some (.fz d)
  | _, _ => none
theorem atI_ints {ns : List Int} {i : Int} {d : D} (h : atI (ns.map PyData.int) i = some d) : ∃ n : Int, atI (ns.map V.int) i = some (.int n) ∧ d = .int n := by
  unfold atI at h ⊢
  rw [List.length_map] at h ⊢
  obtain ⟨j, e, h⟩ := Option.bind_eq_some_iff.mp h
  rw [List.getElem?_map] at h
  obtain ⟨n, e2, rfl⟩ := Option.map_eq_some_iff.mp h
  exact ⟨n, by rw [e]; show (ns.map V.int)[j]? = _; rw [List.getElem?_map, e2]; rfl, rfl⟩
theorem od_ix {K : Fg} : OpD K (rIx K) ixD := by
  intro G H x y d e res Q s vx vy hr k
  unfold ixD at hr
  split at hr
  · obtain ⟨c, hc, hr⟩ := Option.bind_eq_some_iff.mp hr
    cases hr
    obtain ⟨a, xs, rfl, hx, t⟩ := vx.list s
    obtain ⟨v, e1, t1⟩ := atI_tr t hc
    exact .inl ⟨a, xs, _, v, rfl, vy.int, .inl (.inl hx), e1, k _ G H (Ex.refl s) t1⟩
  · obtain ⟨c, hc, hr⟩ := Option.bind_eq_some_iff.mp hr
    cases hr
    obtain ⟨a, xs, rfl, hx, t⟩ := vx.tuple s
    obtain ⟨v, e1, t1⟩ := atI_tr t hc
    exact .inr (.inl ⟨a, xs, _, v, rfl, vy.int, hx, e1, k _ G H (Ex.refl s) t1⟩)
  · rename_i z i
    by_cases hz : szOk z.length = true
    · rw [if_pos hz] at hr
      obtain ⟨c, hc, hr⟩ := Option.bind_eq_some_iff.mp hr
      cases hr
      exact .inr (.inr ⟨z, i, c, vx.str, vy.int, szOk_le hz, hc, k _ G H (Ex.refl s) (.str _)⟩)
    · rw [if_neg hz] at hr
      cases hr
  · obtain ⟨c, hc, hr⟩ := Option.bind_eq_some_iff.mp hr
    cases hr
    obtain ⟨a, ns, rfl, hx, rfl⟩ := vx.scr' s
    obtain ⟨n, e1, rfl⟩ := atI_ints hc
    exact .inl ⟨a, _, _, _, rfl, vy.int, hx, e1, k _ G H (Ex.refl s) (.int _)⟩
  · cases hr
theorem de_ix {a b : Expr} {f g : Me Val} (ha : DE X B a f) (hb : DE X B b g) (hs : PlainIx b := by exact fun _ _ => rfl) : DE X B (.Subscript a b pos) (binM ixD f g) := PE.weak (pe_ix ix_seq ha hb hs) (tOp_of od_ix)

/-- a part of a slice -/
def toOf (K : Fg) (B : Bs) (f : Me (Option Int)) : TO := fun σ H Q => ∃ G δ r δ', RelS K B G H δ σ ∧ f δ = some (r, δ') ∧
  ∀ G' H', Same G G' → RelS K B G' H' δ' σ → Q r H'
abbrev DP (X : Cx) (B : Bs) (e : Option Expr) (f : Me (Option Int)) : Prop := PO X e (toOf X.K B f)
theorem PO.weak {X : Cx} {e : Option Expr} {t t' : TO} (h : PO X e t) (i : ∀ σ H Q, t' σ H Q → t σ H Q) : PO X e t' := ⟨fun pins s σ H Q I w => h.run pins s σ H Q I (i _ _ _ w)⟩
def partM (f : Me Val) : Me (Option Int) := fun δ => match f δ with
  | some (.fz (.int i), δ') => some (some i, δ')
  | _ => none
theorem dp_none : DP X B none (mr none) := PO.weak po_none fun σ H Q h => by
  obtain ⟨G, δ, r, δ', R, e, k⟩ := h
  cases e
  exact k G H (Same.refl _) R
theorem dp_some {e : Expr} {f : Me Val} (h : DE X B e f) : DP X B (some e) (partM f) := PO.weak (po_some h) fun σ H Q h => by
  obtain ⟨G, δ, r, δ', R, e, k⟩ := h
  unfold partM at e
  split at e
  · rename_i i δ1 q
    cases e
    refine ⟨G, δ, _, _, R, q, fun v G' H' s R' t => ?_⟩
    have t : Tr X.K G' v (.int i) := t
    cases t
    exact ⟨i, rfl, k G' H' s R'⟩
  · cases e
def cutD (ds : List D) (lo hi : Option Int) : List D := (ds.drop (HT.sIx ds.length 0 lo)).take (HT.sIx ds.length ds.length hi - HT.sIx ds.length 0 lo)
theorem cut_tr {K : Fg} {G : Hp} {xs : List V} {ds : List D} (lo hi : Option Int) (t : TrAll K G xs ds) : TrAll K G (cutV xs lo hi) (cutD ds lo hi) := by
  unfold cutV cutD
  rw [t.len]
  exact (t.drop _).take _
def slD (d : D) (lo hi : Option Int) : Option Val := match d with
  | .list ds => some (.ow (.list (cutD ds lo hi)))
  | .tuple ds => some (.fz (.tuple (cutD ds lo hi)))
  | .str x => if szOk x.length then some (.fz (.str (cutS x lo hi))) else none
  | _ => none
def rSlAll (K : Fg) : V → Option Int → Option Int → Hp → VK → Prop := fun x lo hi H Q => rSlL K x lo hi H Q ∨ rSlA K x lo hi H Q ∨ rSlS x lo hi H Q
theorem sl_all {X : Cx} : SlR X (rSlAll X.K) := sl_list.or (sl_tupA.or sl_str)
theorem cutV_whole {xs : List V} {lo hi : Option Int} (h : HT.sIx xs.length 0 lo = 0 ∧ HT.sIx xs.length xs.length hi = xs.length) : cutV xs lo hi = xs := by
  unfold cutV
  rw [h.1, h.2]
  simp
theorem cutD_whole {xs : List D} {lo hi : Option Int} (h : HT.sIx xs.length 0 lo = 0 ∧ HT.sIx xs.length xs.length hi = xs.length) : cutD xs lo hi = xs := by
  unfold cutD
  rw [h.1, h.2]
  simp
def slM (f : Me Val) (l u : Me (Option Int)) : Me Val := mb f fun x => mb l fun lo => mb u fun hi => mo fun δ => (dv δ x).bind fun d => slD d lo hi
theorem de_slice {e : Expr} {lo hi : Option Expr} {p2 : Pos} {f : Me Val} {l u : Me (Option Int)} (he : DE X B e f) (hl : DP X B lo l) (hu : DP X B hi u) : DE X B (.Subscript e (.Slice lo hi none p2) pos) (slM f l u) := by
  refine PE.weak (pe_slice sl_all he hl hu) fun σ H Q h => ?_
  obtain ⟨G, δ, r, δ', R, e, k⟩ := h
  obtain ⟨x, δ1, e1, e⟩ := mb_some e
  obtain ⟨a, δ2, e2, e⟩ := mb_some e
  obtain ⟨b, δ3, e3, e⟩ := mb_some e
  obtain ⟨e4, rfl⟩ := mo_some e
  obtain ⟨d, ed, e4⟩ := Option.bind_eq_some_iff.mp e4
  refine ⟨G, δ, x, δ1, R, e1, fun v G1 H1 s1 R1 v1 => ?_⟩
  obtain ⟨G1', s1', R1', v1'⟩ := v1.freeze R1
  refine ⟨G1', δ1, a, δ2, R1', e2, fun G2 H2 s2 R2 => ?_⟩
  refine ⟨G2, δ2, b, _, R2, e3, fun G3 H3 s3 R3 => ?_⟩
  have v3 := RV.stay (B := B) (G' := G3) (H' := H3) (δ' := δ') (s2.trans s3) v1'
  have vw := v3.view R3 (by rw [dv_fzv]; exact ed)
  have sg := ((s1.trans s1').trans s2).trans s3
  cases d with
  | list ds =>
    cases e4
    obtain ⟨p, xs, rfl, hx, t⟩ := vw.list R3.same
    refine .inl ⟨p, xs, rfl, .inl (.inl hx), fun q n => ?_⟩
    have x := Ex.push R3.same (.lst (cutV xs a b)) n
    exact k _ _ _ (sg.trans x.g) (R3.ex x) (RO.rv R3 (RO.newL R3.same (cut_tr a b t) n))
  | tuple ds =>
    cases e4
    have ft := vw.tupT
    obtain ⟨p, xs, rfl, hx, t⟩ := vw.tuple R3.same
    refine .inr (.inl ⟨p, xs, rfl, hx, fun z => ?_, fun _ q n => ?_⟩)
    · rw [t.len] at z
      rw [cutD_whole z] at k
      exact k _ G3 H3 sg R3 ft
    · have x := Ex.pushF R3.same (.tup (cutV xs a b)) n
      exact k _ _ _ (sg.trans x.g) (R3.ex x) (RO.rv (H := H3) R3 (RO.newT R3.same (cut_tr a b t) n))
  | str z =>
    obtain ⟨c, rfl⟩ := ite_some e4
    cases vw.str
    exact .inr (.inr ⟨z, rfl, szOk_le c, k _ G3 H3 sg R3 (.str _)⟩)
  | _ => cases e4
/-- xs[::-1] of a list -/
def revD : D → Option Val
  | .list ds => some (.ow (.list ds.reverse))
  | _ => none
theorem de_rev {e : Expr} {kk : Nat} {p1 p2 p3 : Pos} {f : Me Val} (he : DE X B e f) : DE X B (.Subscript e (.Slice none none (some (.UnaryOp .USub (.Constant (.int 1) kk p1) p2)) p3) pos) (unM revD f) := by
  refine PE.weak (pe_revL he) fun σ H Q h => ?_
  obtain ⟨G, δ, res, δ', R, e, k⟩ := h
  obtain ⟨x, δ1, e1, e⟩ := mb_some e
  obtain ⟨e3, rfl⟩ := mo_some e
  obtain ⟨a, ea, e3⟩ := Option.bind_eq_some_iff.mp e3
  refine ⟨G, δ, x, _, R, e1, fun v G1 H1 s1 R1 v1 => ?_⟩
  have vw := v1.view R1 ea
  cases a with
  | list ds =>
    cases e3
    obtain ⟨p, xs, rfl, hx, t⟩ := vw.list R1.same
    refine ⟨p, xs, rfl, .inl (.inl hx), fun q n => ?_⟩
    have x := Ex.push R1.same (.lst xs.reverse) n
    exact k _ _ _ (s1.trans x.g) (R1.ex x) (RO.rv R1 (RO.newL R1.same t.reverse n))
  | _ => cases e3

/-! ### statements -/
inductive Fl where
  | nx
  | bk
  | ct
  | rt (v : Val)
abbrev Ss := DS → Option (Fl × DS)
def FlPost (K : Fg) (B : Bs) (E : Ends) (G H : Hp) (δ : DS) (σ : L2.St) : Fl → Prop
  | .nx => E.nx σ H
  | .bk => E.bk σ H
  | .ct => E.ct σ H
  | .rt r => ∀ v, RV K B G H δ σ v r → E.rt v H
def SOf (K : Fg) (B : Bs) (g : Ss) : TS := fun E σ H => ∃ G δ fl δ', RelS K B G H δ σ ∧ g δ = some (fl, δ') ∧ ∀ σ' G' H', Same G G' → RelS K B G' H' δ' σ' → FlPost K B E G' H' δ' σ' fl
abbrev SS (X : Cx) (B : Bs) (st : Stmt) (g : Ss) : Prop := PS X st (SOf X.K B g)
abbrev SB (X : Cx) (B : Bs) (st : List Stmt) (g : Ss) : Prop := PSs X st (SOf X.K B g)
def skipS : Ss := fun δ => some (.nx, δ)
def seqS (g h : Ss) : Ss := fun δ => match g δ with
  | some (.nx, δ1) => h δ1
  | r => r
theorem SOf.skip {K : Fg} {E : Ends} {σ : L2.St} {H : Hp} {fl : Fl} (h : SOf K B (fun δ => some (fl, δ)) E σ H) : ∃ G δ, RelS K B G H δ σ ∧ FlPost K B E G H δ σ fl := by
  obtain ⟨G, δ, fl', δ', R, e, k⟩ := h
  cases e
  exact ⟨G, δ, R, k σ G H (Same.refl _) R⟩
theorem sb_nil : SB X B [] skipS := PSs.weak pss_nil fun E σ H h => by
  obtain ⟨G, δ, R, k⟩ := SOf.skip h
  exact k
theorem sb_cons {st : Stmt} {rest : List Stmt} {g h : Ss} (h1 : SS X B st g) (h2 : SB X B rest h) : SB X B (st :: rest) (seqS g h) := PSs.weak (pss_cons h1 h2) fun E σ H q => by
  obtain ⟨G, δ, fl, δ', R, e, k⟩ := q
  unfold seqS at e
  cases hg : g δ with
  | none => rw [hg] at e; cases e
  | some p =>
    obtain ⟨f1, δ1⟩ := p
    rw [hg] at e
    refine ⟨G, δ, f1, δ1, R, hg, fun σ' G' H' s R' => ?_⟩
    cases f1 with
    | nx => exact ⟨G', δ1, fl, δ', R', e, fun σ2 G2 H2 s2 R2 => k σ2 G2 H2 (s.trans s2) R2⟩
    | bk =>
      cases e
      exact k σ' G' H' s R'
    | ct =>
      cases e
      exact k σ' G' H' s R'
    | rt v =>
      cases e
      exact k σ' G' H' s R'
theorem sb_one {st : Stmt} {g : Ss} (h : SS X B st g) : SB X B [st] g := pss_one h
theorem ss_pass : SS X B (.Pass pos) skipS := PS.weak ps_pass fun E σ H h => by
  obtain ⟨G, δ, R, k⟩ := SOf.skip h
  exact k
theorem ss_break : SS X B (.Break pos) (fun δ => some (.bk, δ)) := PS.weak ps_break fun E σ H h => by
  obtain ⟨G, δ, R, k⟩ := SOf.skip h
  exact k
theorem ss_continue : SS X B (.Continue pos) (fun δ => some (.ct, δ)) := PS.weak ps_continue fun E σ H h => by
  obtain ⟨G, δ, R, k⟩ := SOf.skip h
  exact k
/-- never come to -/
theorem ss_never {st : Stmt} : SS X B st (fun _ => none) := PS.weak ps_never fun E σ H h => by
  obtain ⟨G, δ, fl, δ', R, e, k⟩ := h
  cases e
theorem sb_never {st : List Stmt} : SB X B st (fun _ => none) := PSs.weak pss_never fun E σ H h => by
  obtain ⟨G, δ, fl, δ', R, e, k⟩ := h
  cases e
def ifS (c : Me Bool) (g h : Ss) : Ss := fun δ => match c δ with
  | some (true, δ1) => g δ1
  | some (false, δ1) => h δ1
  | none => none
theorem ss_if {c : Expr} {a b : List Stmt} {fc : Me Bool} {g h : Ss} (hc : DT X B c fc) (ha : SB X B a g) (hb : SB X B b h) : SS X B (.If c a b pos) (ifS fc g h) := PS.weak (ps_if hc ha hb) fun E σ H q => by
  obtain ⟨G, δ, fl, δ', R, e, k⟩ := q
  unfold ifS at e
  cases hg : fc δ with
  | none => rw [hg] at e; cases e
  | some p =>
    obtain ⟨x, δ1⟩ := p
    rw [hg] at e
    refine ⟨G, δ, x, δ1, R, hg, fun G1 H1 s1 R1 => ?_⟩
    cases x with
    | true => exact ⟨G1, δ1, fl, δ', R1, e, fun σ2 G2 H2 s2 R2 => k σ2 G2 H2 (s1.trans s2) R2⟩
    | false => exact ⟨G1, δ1, fl, δ', R1, e, fun σ2 G2 H2 s2 R2 => k σ2 G2 H2 (s1.trans s2) R2⟩

/-! ### slots stored -/
/-- a slot may be stored: it is no handed-in list -/
def freeAt (δ : DS) (i : Nat) : Bool := match δ[i]? with
  | some (.own true _) => false
  | _ => true
def asg (i : Nat) (v : Val) (δ : DS) : Option DS := if freeAt δ i then (match v with
  | .fz d => some (δ.set i (.dat d))
  | .ow d => some (δ.set i (.own false d))
  | .sl _ => none) else none
theorem RelS.set {K : Fg} {G H : Hp} {δ δ' : DS} {σ : L2.St} {i : Nat} {v : V} {r : Val} (R : RelS K B G H δ σ) (h : RV K B G H δ σ v r) (e : asg i r δ = some δ') : RelS K B G H δ' (σ.set i (some v)) := by
  have other : ∀ {s s' : Sl} {j : Nat}, (δ.set i s)[j]? = some s' → (j = i ∧ s = s') ∨ (j ≠ i ∧ δ[j]? = some s') := fun {s s' j} q => by
    by_cases hj : j = i
    · subst hj
      have hl : j < δ.length := by
        have := (List.getElem?_eq_some_iff.mp q).1
        rwa [List.length_set] at this
      rw [List.getElem?_set_self hl] at q
      exact .inl ⟨rfl, Option.some.inj q⟩
    · rw [List.getElem?_set_ne (Ne.symm hj)] at q
      exact .inr ⟨hj, q⟩
  have hs : ∀ {s : Sl} {j : Nat} {s' : Sl}, (δ.set i s)[j]? = some s' → j = i → (σ.set i (some v))[j]? = some (some v) := fun {s j s'} q hj => by
    subst hj
    have hl : j < δ.length := by
      have := (List.getElem?_eq_some_iff.mp q).1
      rwa [List.length_set] at this
    rw [List.getElem?_set_self (by rw [← R.len]; exact hl)]
  unfold asg at e
  split at e
  · rename_i hfree
    cases r with
    | fz d =>
      cases e
      refine ⟨by rw [List.length_set, List.length_set]; exact R.len, R.same, R.g0, R.nw, R.frame, R.dom, R.iod, fun j d' q => ?_, fun j b d' q => ?_, fun j k b b' a d1 d2 q1 q2 z1 z2 => ?_⟩
      · rcases other q with ⟨hj, hd⟩ | ⟨hj, q'⟩
        · cases hd
          exact ⟨v, hs q hj, h⟩
        · rw [List.getElem?_set_ne (Ne.symm hj)]
          exact R.dat j d' q'
      · rcases other q with ⟨hj, hd⟩ | ⟨hj, q'⟩
        · cases hd
        · rw [List.getElem?_set_ne (Ne.symm hj)]
          exact R.own j b d' q'
      · rcases other q1 with ⟨hj, hd⟩ | ⟨hj, q1'⟩
        · cases hd
        · rcases other q2 with ⟨hk, hd⟩ | ⟨hk, q2'⟩
          · cases hd
          · rw [List.getElem?_set_ne (Ne.symm hj)] at z1
            rw [List.getElem?_set_ne (Ne.symm hk)] at z2
            exact R.inj j k b b' a d1 d2 q1' q2' z1 z2
    | sl j => cases e
    | ow d =>
      cases e
      obtain ⟨a0, rfl, n, n0, rt, u⟩ := h
      refine ⟨by rw [List.length_set, List.length_set]; exact R.len, R.same, R.g0, R.nw, R.frame, R.dom, R.iod, fun j d' q => ?_, fun j b d' q => ?_, fun j k b b' a d1 d2 q1 q2 z1 z2 => ?_⟩
      · rcases other q with ⟨hj, hd⟩ | ⟨hj, q'⟩
        · cases hd
        · rw [List.getElem?_set_ne (Ne.symm hj)]
          exact R.dat j d' q'
      · rcases other q with ⟨hj, hd⟩ | ⟨hj, q'⟩
        · cases hd
          exact ⟨a0, hs q hj, n, n0, rt⟩
        · rw [List.getElem?_set_ne (Ne.symm hj)]
          exact R.own j b d' q'
      · rcases other q1 with ⟨hj, hd⟩ | ⟨hj, q1'⟩
        · rcases other q2 with ⟨hk, hd'⟩ | ⟨hk, q2'⟩
          · rw [hj, hk]
          · have z1' := hs q1 hj
            rw [z1'] at z1
            cases z1
            rw [List.getElem?_set_ne (Ne.symm hk)] at z2
            exact (u k b' d2 q2' z2).elim
        · rcases other q2 with ⟨hk, hd'⟩ | ⟨hk, q2'⟩
          · have z2' := hs q2 hk
            rw [z2'] at z2
            cases z2
            rw [List.getElem?_set_ne (Ne.symm hj)] at z1
            exact (u j b d1 q1' z1).elim
          · rw [List.getElem?_set_ne (Ne.symm hj)] at z1
            rw [List.getElem?_set_ne (Ne.symm hk)] at z2
            exact R.inj j k b b' a d1 d2 q1' q2' z1 z2
  · cases e
/-- a slot is forgotten, or its list given to what stays -/
theorem RelS.drop {K : Fg} {G H : Hp} {δ : DS} {σ : L2.St} (i : Nat) (R : RelS K B G H δ σ) : RelS K B G H (δ.set i .un) σ := by
  have other : ∀ {s' : Sl} {j : Nat}, s' ≠ .un → (δ.set i .un)[j]? = some s' → δ[j]? = some s' := fun {s' j} hn q => by
    by_cases hj : j = i
    · subst hj
      have hl : j < δ.length := by
        have := (List.getElem?_eq_some_iff.mp q).1
        rwa [List.length_set] at this
      rw [List.getElem?_set_self hl] at q
      exact (hn (Option.some.inj q).symm).elim
    · rw [List.getElem?_set_ne (Ne.symm hj)] at q
      exact q
  exact ⟨by rw [List.length_set]; exact R.len, R.same, R.g0, R.nw, R.frame, R.dom, R.iod, fun j d q => R.dat j d (other (fun z => nomatch z) q), fun j b d q => R.own j b d (other (fun z => nomatch z) q), fun j k b b' a d1 d2 q1 q2 => R.inj j k b b' a d1 d2 (other (fun z => nomatch z) q1) (other (fun z => nomatch z) q2)⟩
def setS (i : Nat) (f : Me Val) : Ss := fun δ => match f δ with
  | some (v, δ1) => (asg i v δ1).bind fun δ2 => some (.nx, δ2)
  | none => none
theorem ss_set {i : Nat} {x : Str} {e : Expr} {f : Me Val} {pos' : Pos} (hN : X.N.Nodup) (hi : X.N[i]? = some x) (hx : Loc X.env.scope x) (he : DE X B e f) (hs : swapsWith e (some (.Name x pos')) pos.line X.env = pure false := by rfl) (hf : X.fn x = true ∨ X.env.scope.names.lookup x = some .local := by first | exact .inl rfl | exact .inr rfl | assumption) :
    SS X B (.Assign [.Name x pos'] e pos) (setS i f) := PS.weak (ps_set hN hi hx he hs hf) fun E σ H q => by
  obtain ⟨G, δ, fl, δ', R, e, k⟩ := q
  unfold setS at e
  cases hg : f δ with
  | none => rw [hg] at e; cases e
  | some p =>
    obtain ⟨v, δ1⟩ := p
    rw [hg] at e
    obtain ⟨δ2, e2, e3⟩ := Option.bind_eq_some_iff.mp e
    cases e3
    exact ⟨G, δ, v, δ1, R, hg, fun u G1 H1 s1 R1 v1 => k _ G1 H1 s1 (R1.set v1 e2)⟩
/-- return -/
def retV (v : Val) (δ : DS) : Option (Fl × DS) := match v with
  | .fz d => some (.rt (.fz d), δ)
  | .ow d => some (.rt (.ow d), δ)
  | .sl i => match δ[i]? with
    | some (.own false d) => some (.rt (.ow d), δ.set i .un)
    | _ => none
def retS (f : Me Val) : Ss := fun δ => match f δ with
  | some (v, δ1) => retV v δ1
  | none => none
theorem ss_ret {e : Expr} {f : Me Val} (he : DE X B e f) : SS X B (.Return (some e) pos) (retS f) := PS.weak (ps_ret he) fun E σ H q => by
  obtain ⟨G, δ, fl, δ', R, e, k⟩ := q
  unfold retS at e
  cases hg : f δ with
  | none => rw [hg] at e; cases e
  | some p =>
    obtain ⟨v, δ1⟩ := p
    rw [hg] at e
    refine ⟨G, δ, v, δ1, R, hg, fun u G1 H1 s1 R1 v1 => ?_⟩
    cases v with
    | fz d =>
      cases e
      exact k σ G1 H1 s1 R1 u v1
    | ow d =>
      cases e
      exact k σ G1 H1 s1 R1 u v1
    | sl i =>
      have e : (match δ1[i]? with | some (.own false d) => some (Fl.rt (.ow d), δ1.set i .un) | _ => none) = some (fl, δ') := e
      split at e
      · rename_i d q
        cases e
        have v1 : σ[i]? = some (some u) := v1
        obtain ⟨a, e1, n, m, rt⟩ := R1.own i false d q
        rw [v1] at e1
        cases e1
        refine k σ G1 H1 s1 (R1.drop i) _ ⟨a, rfl, n, m, rt, fun j b d' q' z => ?_⟩
        by_cases hj : j = i
        · subst hj
          have hl : j < δ1.length := (List.getElem?_eq_some_iff.mp q).1
          rw [List.getElem?_set_self hl] at q'
          cases q'
        · rw [List.getElem?_set_ne (Ne.symm hj)] at q'
          exact hj (R1.inj j i b false a d' d q' q z v1)
      · cases e
theorem ss_retN : SS X B (.Return none pos) (fun δ => some (.rt (.fz .none), δ)) := PS.weak ps_retN fun E σ H h => by
  obtain ⟨G, δ, R, k⟩ := SOf.skip h
  exact k .non .non
/-- an expression for its effect -/
def dropS (f : Me Val) : Ss := fun δ => match f δ with
  | some (_, δ1) => some (.nx, δ1)
  | none => none
theorem ss_expr {e : Expr} {f : Me Val} (he : DE X B e f) (hs : swapsWith e none pos.line X.env = pure false := by rfl) : SS X B (.Expr e pos) (dropS f) := PS.weak (ps_expr he hs) fun E σ H q => by
  obtain ⟨G, δ, fl, δ', R, e, k⟩ := q
  unfold dropS at e
  cases hg : f δ with
  | none => rw [hg] at e; cases e
  | some p =>
    obtain ⟨v, δ1⟩ := p
    rw [hg] at e
    cases e
    exact ⟨G, δ, v, _, R, hg, fun u G1 H1 s1 R1 v1 => k σ G1 H1 s1 R1⟩
/-- ahead of a statement a list is given to what stays -/
def frz (i : Nat) (δ : DS) : DS := match δ[i]? with
  | some (.own false d) => δ.set i (.dat d)
  | _ => δ
def frzS (i : Nat) (g : Ss) : Ss := fun δ => g (frz i δ)
theorem RelS.frz {K : Fg} {G H : Hp} {δ : DS} {σ : L2.St} (i : Nat) (R : RelS K B G H δ σ) : ∃ G', Same G G' ∧ RelS K B G' H (frz i δ) σ := by
  unfold DL.frz
  split
  · rename_i d q
    obtain ⟨a, e1, n, m, rt⟩ := R.own i false d q
    have r : RV K B G H (δ.set i .un) σ (.ref a) (.ow d) := ⟨a, rfl, n, m, rt, fun j b d' q' z => by
      by_cases hj : j = i
      · subst hj
        have hl : j < δ.length := (List.getElem?_eq_some_iff.mp q).1
        rw [List.getElem?_set_self hl] at q'
        cases q'
      · rw [List.getElem?_set_ne (Ne.symm hj)] at q'
        exact hj (R.inj j i b false a d' d q' q z e1)⟩
    obtain ⟨G', s, R', t⟩ := r.freeze (R.drop i)
    have hl : i < δ.length := (List.getElem?_eq_some_iff.mp q).1
    have hfree : freeAt (δ.set i .un) i = true := by
      unfold freeAt
      rw [List.getElem?_set_self hl]
    have R2 := R'.set (i := i) (δ' := δ.set i (.dat d)) t (by unfold asg; rw [if_pos hfree]; show some ((δ.set i .un).set i (.dat d)) = _; rw [List.set_set])
    have es : σ.set i (some (.ref a)) = σ := by
      apply List.ext_getElem?
      intro j
      by_cases hj : j = i
      · subst hj
        rw [List.getElem?_set_self (by rw [← R.len]; exact hl), e1]
      · rw [List.getElem?_set_ne (Ne.symm hj)]
    rw [es] at R2
    exact ⟨G', s, R2⟩
  · exact ⟨G, Same.refl _, R⟩
theorem ss_frz {st : Stmt} {g : Ss} (i : Nat) (h : SS X B st g) : SS X B st (frzS i g) := PS.weak h fun E σ H q => by
  obtain ⟨G, δ, fl, δ', R, e, k⟩ := q
  obtain ⟨G', s, R'⟩ := R.frz i
  exact ⟨G', _, fl, δ', R', e, fun σ2 G2 H2 s2 R2 => k σ2 G2 H2 (s.trans s2) R2⟩

/-! ### targets -/
abbrev Tg := Val → DS → Option DS
abbrev Tgs := List D → DS → Option DS
/-- but for the slots ws the frame is as it was -/
def Off (ws : List Nat) (σ σ' : L2.St) : Prop := σ'.length = σ.length ∧ ∀ j, j ∉ ws → σ'[j]? = σ[j]?
theorem Off.refl (ws : List Nat) (σ : L2.St) : Off ws σ σ := ⟨rfl, fun _ _ => rfl⟩
theorem Off.set {i : Nat} {σ : L2.St} {v : Option V} : Off [i] σ (σ.set i v) := ⟨List.length_set, fun j hj => List.getElem?_set_ne (fun h => hj (by simp [h]))⟩
theorem Off.trans {w1 w2 : List Nat} {a b c : L2.St} (h : Off w1 a b) (h' : Off w2 b c) : Off (w1 ++ w2) a c :=
  ⟨h'.1.trans h.1, fun j hj => (h'.2 j fun z => hj (List.mem_append_right _ z)).trans (h.2 j fun z => hj (List.mem_append_left _ z))⟩
def tgOf (K : Fg) (B : Bs) (ws : List Nat) (g : Tg) : TG := fun v σ H Q => ∃ G δ r δ', RelS K B G H δ σ ∧ RV K B G H δ σ v r ∧ g r δ = some δ' ∧ ∀ σ' G' H', Same G G' → RelS K B G' H' δ' σ' → Off ws σ σ' → Q σ' H'
def tgsOf (K : Fg) (B : Bs) (ws : List Nat) (g : Tgs) : TGs := fun vs σ H Q => ∃ G δ ds δ', RelS K B G H δ σ ∧ TrAll K G vs ds ∧ g ds δ = some δ' ∧ ∀ σ' G' H', Same G G' → RelS K B G' H' δ' σ' → Off ws σ σ' → Q σ' H'
abbrev DG (X : Cx) (B : Bs) (ws : List Nat) (e : Expr) (g : Tg) : Prop := PG X e (tgOf X.K B ws g)
abbrev DGs (X : Cx) (B : Bs) (ws : List Nat) (e : List Expr) (g : Tgs) : Prop := PGs X e (tgsOf X.K B ws g)
theorem PG.weak {X : Cx} {e : Expr} {t t' : TG} (h : PG X e t) (i : ∀ v σ H Q, t' v σ H Q → t v σ H Q) : PG X e t' := ⟨fun pins s σ H v u Q I r w => h.run pins s σ H v u Q I r (i _ _ _ _ w)⟩
theorem PGs.weak {X : Cx} {e : List Expr} {t t' : TGs} (h : PGs X e t) (i : ∀ v σ H Q, t' v σ H Q → t v σ H Q) : PGs X e t' := ⟨fun pins s σ H v u Q I r w => h.run pins s σ H v u Q I r (i _ _ _ _ w)⟩
theorem dg_name (i : Nat) {x : Str} (hN : X.N.Nodup) (hi : X.N[i]? = some x) (hx : Loc X.env.scope x) (hf : X.fn x = true ∨ X.env.scope.names.lookup x = some .local := by first | exact .inl rfl | exact .inr rfl | assumption) : DG X B [i] (.Name x pos) (asg i) :=
  PG.weak (pg_name hN hi hx hf) fun v σ H Q q => by
    obtain ⟨G, δ, r, δ', R, rv, e, k⟩ := q
    exact k _ G H (Same.refl _) (R.set rv e) Off.set
def nilG : Tgs := fun ds δ => match ds with
  | [] => some δ
  | _ => none
def consG (g : Tg) (h : Tgs) : Tgs := fun ds δ => match ds with
  | d :: r => (g (.fz d) δ).bind (h r)
  | _ => none
theorem dgs_nil : DGs X B [] [] nilG := PGs.weak pgs_nil fun vs σ H Q q => by
  obtain ⟨G, δ, ds, δ', R, t, e, k⟩ := q
  unfold nilG at e
  split at e
  · cases e
    cases t
    exact ⟨rfl, k σ G H (Same.refl _) R (Off.refl _ _)⟩
  · cases e
theorem dgs_cons {e : Expr} {es : List Expr} {g : Tg} {h : Tgs} {w1 w2 : List Nat} (h1 : DG X B w1 e g) (h2 : DGs X B w2 es h) (hs : (assignEach (e :: es) X.env).map (·.2) = assign e X.env :: (assignEach es X.env).map (·.2) := by rfl) : DGs X B (w1 ++ w2) (e :: es) (consG g h) := PGs.weak (pgs_cons h1 h2 hs) fun vs σ H Q q => by
  obtain ⟨G, δ, ds, δ', R, t, e, k⟩ := q
  unfold consG at e
  split at e
  · rename_i d r
    obtain ⟨δ1, e1, e2⟩ := Option.bind_eq_some_iff.mp e
    cases t with
    | cons a b => exact ⟨_, _, rfl, G, δ, .fz d, δ1, R, a, e1, fun σ1 G1 H1 s1 R1 o1 => ⟨G1, δ1, r, δ', R1, TrAll.mono s1 b, e2, fun σ2 G2 H2 s2 R2 o2 => k σ2 G2 H2 (s1.trans s2) R2 (o1.trans o2)⟩⟩
  · cases e
def tupG (n : Nat) (g : Tgs) : Tg := fun v δ => match v with
  | .fz (.tuple ds) => if ds.length = n then g ds δ else none
  | _ => none
theorem dg_tup {es : List Expr} {kk : Nat} {g : Tgs} {n : Nat} {ws : List Nat} (hc : X.calm = true) (h : DGs X B ws es g) (hn : (assignEach es X.env).length = n := by rfl) (hst : (assignEach es X.env).findIdx? (·.1) = none := by rfl) : DG X B ws (.Tuple es kk pos) (tupG n g) := PG.weak (pg_tup hc h hn hst) fun v σ H Q q => by
  obtain ⟨G, δ, r, δ', R, rv, e, k⟩ := q
  unfold tupG at e
  split at e
  · rename_i ds
    split at e
    · rename_i hl
      have rv : Tr X.K G v (.tuple ds) := rv
      cases rv with
      | @tup a xs _ hx t => exact ⟨a, xs, rfl, Same.tup R.same hx, by rw [t.len]; exact hl, G, δ, ds, δ', R, t, e, k⟩
    · cases e
  · cases e
/-- x[i] = .., x a list of one's own -/
theorem RelS.wr {K : Fg} {G H : Hp} {δ : DS} {σ : L2.St} {j : Nat} {b : Bool} {d d' : D} {a : Addr} {o : HO} (R : RelS K B G H δ σ) (q : δ[j]? = some (.own b d)) (e1 : σ[j]? = some (some (V.ref a))) (n : G a = none) (m : if b = true then (j, a) ∈ B.io else (B.H0 a = none ∨ B.lo a)) (rt : Root K G (upd H a o) a d') :
    RelS K B G (upd H a o) (δ.set j (.own b d')) σ := by
  have hl : j < δ.length := (List.getElem?_eq_some_iff.mp q).1
  have other : ∀ {s' : Sl} {i : Nat}, (δ.set j (.own b d'))[i]? = some s' → (i = j ∧ s' = .own b d') ∨ (i ≠ j ∧ δ[i]? = some s') := fun {s' i} z => by
    by_cases hj : i = j
    · subst hj
      rw [List.getElem?_set_self hl] at z
      exact .inl ⟨rfl, (Option.some.inj z).symm⟩
    · rw [List.getElem?_set_ne (Ne.symm hj)] at z
      exact .inr ⟨hj, z⟩
  have sm : Same G (upd H a o) := fun c x z => by
    have hc : c ≠ a := fun w => by rw [w, n] at z; cases z
    rw [upd_ne hc]
    exact R.same _ _ z
  refine ⟨by rw [List.length_set]; exact R.len, sm, R.g0, R.nw, fun c x z hio hlo => ?_, fun c x z => ?_, R.iod, fun i e z => ?_, fun i b' e z => ?_, fun i k b1 b2 c e e' z1 z2 y1 y2 => ?_⟩
  · have hc : c ≠ a := fun w => by
      subst w
      cases b with
      | true => exact hio (j, c) m rfl
      | false =>
        rcases (show B.H0 c = none ∨ B.lo c from m) with m' | m'
        · rw [m'] at z
          cases z
        · exact hlo m'
    rw [upd_ne hc]
    exact R.frame c x z hio hlo
  · by_cases hc : c = a
    · subst hc
      exact ⟨o, upd_same⟩
    · rw [upd_ne hc]
      exact R.dom c x z
  · rcases other z with ⟨_, w⟩ | ⟨_, z'⟩
    · cases w
    · exact R.dat i e z'
  · rcases other z with ⟨hj, w⟩ | ⟨hj, z'⟩
    · cases w
      rw [hj]
      exact ⟨a, e1, n, m, rt⟩
    · obtain ⟨c, f1, f2, f3, f4⟩ := R.own i b' e z'
      have hc : c ≠ a := fun w => by
        subst w
        exact hj (R.inj i j b' b c e d z' q f1 e1)
      exact ⟨c, f1, f2, f3, Root.mono (Same.refl _) (fun x y => by rw [upd_ne hc]; exact y) f4⟩
  · rcases other z1 with ⟨hi, w⟩ | ⟨hi, z1'⟩
    · rcases other z2 with ⟨hk, w'⟩ | ⟨hk, z2'⟩
      · rw [hi, hk]
      · subst hi
        exact R.inj i k b b2 c d e' q z2' y1 y2
    · rcases other z2 with ⟨hk, w'⟩ | ⟨hk, z2'⟩
      · subst hk
        exact R.inj i k b1 b c e d z1' q y1 y2
      · exact R.inj i k b1 b2 c e e' z1' z2' y1 y2
/-- the own list in a slot -/
def listAt (δ : DS) (j : Nat) : Option (Bool × List D) := match δ[j]? with
  | some (.own b (.list ds)) => some (b, ds)
  | _ => none
theorem listAt_some {δ : DS} {j : Nat} {p : Bool × List D} (h : listAt δ j = some p) : δ[j]? = some (.own p.1 (.list p.2)) := by
  unfold listAt at h
  split at h
  · rename_i b ds q
    cases h
    exact q
  · cases h
def subG (j : Nat) (fi : Me Val) : Tg := fun v δ => match v with
  | .sl _ => none
  | .fz d | .ow d => (listAt δ j).bind fun _ => match fi δ with
    | some (.fz (.int k), δ1) => (listAt δ1 j).bind fun p => (ixN p.2.length k).bind fun m => some (δ1.set j (.own p.1 (.list (p.2.set m d))))
    | _ => none
theorem subG_fz {j : Nat} {fi : Me Val} {v : Val} {δ δ' : DS} (h : subG j fi v δ = some δ') : ∃ p0 d k δ1 p m, listAt δ j = some p0 ∧ fzv v = .fz d ∧ fi δ = some (.fz (.int k), δ1) ∧ listAt δ1 j = some p ∧ ixN p.2.length k = some m ∧ δ' = δ1.set j (.own p.1 (.list (p.2.set m d))) := by
  have go : ∀ d, ((listAt δ j).bind fun _ => match fi δ with
    | some (.fz (.int k), δ1) => (listAt δ1 j).bind fun p => (ixN p.2.length k).bind fun m => some (δ1.set j (.own p.1 (.list (p.2.set m d))))
    | _ => none) = some δ' → ∃ p0 k δ1 p m, listAt δ j = some p0 ∧ fi δ = some (.fz (.int k), δ1) ∧ listAt δ1 j = some p ∧ ixN p.2.length k = some m ∧ δ' = δ1.set j (.own p.1 (.list (p.2.set m d))) := fun d h => by
    obtain ⟨p0, e0, h⟩ := Option.bind_eq_some_iff.mp h
    split at h
    · rename_i k δ1 q
      obtain ⟨p, e1, h⟩ := Option.bind_eq_some_iff.mp h
      obtain ⟨m, e2, h⟩ := Option.bind_eq_some_iff.mp h
      cases h
      exact ⟨p0, k, δ1, p, m, e0, q, e1, e2, rfl⟩
    · cases h
  cases v with
  | sl i => cases h
  | fz d =>
    obtain ⟨p0, k, δ1, p, m, h0, h⟩ := go d h
    exact ⟨p0, d, k, δ1, p, m, h0, rfl, h⟩
  | ow d =>
    obtain ⟨p0, k, δ1, p, m, h0, h⟩ := go d h
    exact ⟨p0, d, k, δ1, p, m, h0, rfl, h⟩
theorem dg_sub (j : Nat) {o i : Expr} {fi : Me Val} (ho : PE X o (tVar j)) (hi : DE X B i fi) (ha : ∀ v, assign (.Subscript o i pos) X.env v = (do
      let z ← holding [v] (eval o X.env)
      let k ← holding [v, z] (eval i X.env)
      standAt pos
      holding [v, z, k] (setItem z k v)
      release [v, z, k] []) := by intro _; rfl) : DG X B [] (.Subscript o i pos) (subG j fi) := PG.weak (pg_sub ho hi set_list ha) fun v σ H Q q => by
  obtain ⟨G, δ, r, δ', R, rv, e, k⟩ := q
  obtain ⟨p0, d, n, δ1, p, m, e0, ev, e1, e2, e3, rfl⟩ := subG_fz e
  obtain ⟨G0, s0, R0, rv0⟩ := rv.freeze R
  rw [ev] at rv0
  obtain ⟨a, hx, _⟩ := R0.own j p0.1 _ (listAt_some e0)
  refine ⟨_, hx, G0, δ, _, δ1, R0, e1, fun u G1 H1 s1 R1 v1 => ?_⟩
  have v1 : Tr X.K G1 u (.int n) := v1
  cases v1
  have q0 := listAt_some e2
  obtain ⟨a', f1, f2, f3, f4⟩ := R1.own j p.1 _ q0
  rw [hx] at f1
  cases f1
  cases f4 with
  | @lst xs ds h1 h2 => exact ⟨a, xs, n, m, rfl, rfl, h1, by rw [h2.len]; exact e3, k σ G1 _ (s0.trans s1) (R1.wr q0 hx f2 f3 (.lst upd_same (TrAll.set (Tr.mono s1 rv0) m h2))) (Off.refl _ _)⟩
def asgS (f : Me Val) (g : Tg) : Ss := fun δ => match f δ with
  | some (v, δ1) => (g v δ1).bind fun δ2 => some (.nx, δ2)
  | none => none
theorem ss_asg {tg e : Expr} {f : Me Val} {g : Tg} {ws : List Nat} (he : DE X B e f) (hg : DG X B ws tg g) (hs : swapsWithSole [tg] e pos.line X.env = pure false := by rfl) (hw : swappedStores [tg] e X.env = pure none := by rfl)
    (h1 : (assignEach [tg] X.env).map (·.2) = [assign tg X.env] := by rfl) : SS X B (.Assign [tg] e pos) (asgS f g) := PS.weak (ps_asg he hg hs hw h1) fun E σ H q => by
  obtain ⟨G, δ, fl, δ', R, e, k⟩ := q
  unfold asgS at e
  cases hg : f δ with
  | none => rw [hg] at e; cases e
  | some p =>
    obtain ⟨v, δ1⟩ := p
    rw [hg] at e
    obtain ⟨δ2, e2, e3⟩ := Option.bind_eq_some_iff.mp e
    cases e3
    exact ⟨G, δ, v, δ1, R, hg, fun u G1 H1 s1 R1 v1 => ⟨G1, δ1, v, _, R1, v1, e2, fun σ2 G2 H2 s2 R2 _ => k σ2 G2 H2 (s1.trans s2) R2⟩⟩
/-- a, b = x, y -/
def parS (i j : Nat) (fa : Me (List Val)) : Ss := fun δ => match fa δ with
  | some ([v, w], δ1) => (asg i (fzv v) δ1).bind fun δ2 => (asg j (fzv w) δ2).bind fun δ3 => some (.nx, δ3)
  | _ => none
theorem ss_par {i j : Nat} {x y : Str} {a b : Expr} {fa : Me (List Val)} {px py pt : Pos} {kt k2 pt2} (hc : X.calm = true) (hN : X.N.Nodup) (hi : X.N[i]? = some x) (hj : X.N[j]? = some y) (hij : i ≠ j)
    (hx : X.env.scope.names.lookup x = some .local) (hy : X.env.scope.names.lookup y = some .local) (ha : DA X B [a, b] fa)
    (hw : swappedStores [.Tuple [.Name x px, .Name y py] kt pt] (.Tuple [a, b] k2 pt2) X.env = pure (some [x, y])) (hs : swapsWithSole [.Tuple [.Name x px, .Name y py] kt pt] (.Tuple [a, b] k2 pt2) pos.line X.env = pure false := by rfl) :
    SS X B (.Assign [.Tuple [.Name x px, .Name y py] kt pt] (.Tuple [a, b] k2 pt2) pos) (parS i j fa) := PS.weak (ps_par hc hN hi hj hij hx hy ha hw hs) fun E σ H q => by
  obtain ⟨G, δ, fl, δ', R, e, k⟩ := q
  unfold parS at e
  split at e
  · rename_i v w δ1 hg
    obtain ⟨δ2, e2, e⟩ := Option.bind_eq_some_iff.mp e
    obtain ⟨δ3, e3, e⟩ := Option.bind_eq_some_iff.mp e
    cases e
    refine ⟨G, δ, _, δ1, R, hg, fun vs G1 H1 s1 R1 v1 => ?_⟩
    cases v1 with
    | cons a1 b1 =>
      cases b1 with
      | cons a2 b2 =>
        cases b2
        refine ⟨_, _, rfl, ?_⟩
        have R2 := R1.set a1 e2
        cases w with
        | fz d => exact k _ G1 H1 s1 (R2.set (r := .fz d) a2 e3)
        | ow d => exact k _ G1 H1 s1 (R2.set (r := .fz d) a2 e3)
        | sl d =>
          unfold asg at e3
          split at e3 <;> cases e3
  · cases e
end
end DL
end
section
set_option maxRecDepth 100000
set_option maxHeartbeats 4000000
namespace DL
open PySem PySem.Spec L2
open PyProof.Rows hiding St

section
variable {X : Cx} {B : Bs} {pos : Pos}

/-! ### methods of a list of one's own -/
def MtD (K : Fg) (r : V → List V → Hp → VK → Prop) (h : List D → List D → Option (D × List D)) : Prop := ∀ (G H : Hp) (a : Addr) (xs : List V) (ds : List D) (vs : List V) (as : List D) (q : D × List D) (Q : VK), Same G H → H a = some (.lst xs) → TrAll K G xs ds → TrAll K G vs as → h ds as = some q →
  (∀ v ys, Tr K G v q.1 → TrAll K G ys q.2 → Q v (upd H a (.lst ys))) → r (.ref a) vs H Q
def methM (j : Nat) (h : List D → List D → Option (D × List D)) (fa : Me (List Val)) : Me Val := fun δ => (listAt δ j).bind fun _ => match fa δ with
  | some (rs, δ1) => (fzs rs).bind fun as => (listAt δ1 j).bind fun p => (h p.2 as).bind fun q => some (.fz q.1, δ1.set j (.own p.1 (.list q.2)))
  | none => none
theorem methM_some {j : Nat} {h : List D → List D → Option (D × List D)} {fa : Me (List Val)} {δ δ' : DS} {r : Val} (e : methM j h fa δ = some (r, δ')) :
    ∃ p0 rs δ1 as p q, listAt δ j = some p0 ∧ fa δ = some (rs, δ1) ∧ fzs rs = some as ∧ listAt δ1 j = some p ∧ h p.2 as = some q ∧ r = .fz q.1 ∧ δ' = δ1.set j (.own p.1 (.list q.2)) := by
  unfold methM at e
  obtain ⟨p0, e0, e⟩ := Option.bind_eq_some_iff.mp e
  split at e
  · rename_i rs δ1 e1
    obtain ⟨as, e2, e⟩ := Option.bind_eq_some_iff.mp e
    obtain ⟨p, e3, e⟩ := Option.bind_eq_some_iff.mp e
    obtain ⟨q, e4, e⟩ := Option.bind_eq_some_iff.mp e
    cases e
    exact ⟨p0, rs, δ1, as, p, q, e0, e1, e2, e3, e4, rfl, rfl⟩
  · cases e
theorem meth_of {K : Fg} {j : Nat} {r : V → List V → Hp → VK → Prop} {h : List D → List D → Option (D × List D)} {fa : Me (List Val)} (hd : MtD K r h) : ∀ σ H Q, tOf K B (methM j h fa) σ H Q → tBM K "list" r (tVar j) (taOf K B fa) σ H Q := by
  intro σ H Q hq
  obtain ⟨G, δ, res, δ', R, e, k⟩ := hq
  obtain ⟨p0, rs, δ1, as, p, q, e0, e1, e2, e3, e4, rfl, rfl⟩ := methM_some e
  obtain ⟨a, hx, _, _, rt⟩ := R.own j p0.1 _ (listAt_some e0)
  refine ⟨_, hx, ?_, G, δ, rs, δ1, R, e1, fun vs G1 H1 s1 R1 v1 => ?_⟩
  · cases rt with
    | lst h1 h2 => exact .inl ⟨rfl, _, .inl (.inl h1)⟩
  · have q0 := listAt_some e3
    obtain ⟨a', f1, f2, f3, f4⟩ := R1.own j p.1 _ q0
    rw [hx] at f1
    cases f1
    cases f4 with
    | @lst xs ds h1 h2 => exact hd G1 H1 a xs p.2 vs as q Q R1.same h1 h2 (v1.trees e2) e4 fun v ys t ty => k v G1 _ s1 (R1.wr q0 hx f2 f3 (.lst upd_same ty)) t
theorem de_meth (j : Nat) {name : Str} {id : String} {apos cpos : Pos} {o e : Expr} {es : List Expr} {fa : Me (List Val)} {r : V → List V → Hp → VK → Prop} {h : List D → List D → Option (D × List D)} (pa : PlainAttrs "list") (slot : Slot "list" name id) (hty : typeOf (.builtin id) = pure (.type "method_descriptor")) (hm : MtR X id r) (hd : MtD X.K r h) (ho : PE X o (tVar j)) (ha : DA X B (e :: es) fa)
    (onRow : (apos.endLine == cpos.line) = true := by rfl) (plainBase : attributeBase o name X.env (eval o X.env) = eval o X.env := by rfl) (args1 : starEach (e :: es) X.env = (false, eval e X.env) :: starEach es X.env := by rfl)
    (noStar : (backTo cpos (starEach es X.env)).any (·.1) = false := by rfl) (few : ((backTo cpos (starEach (e :: es) X.env)).all (fun x => !x.1) && (backToKw cpos (keywordEach [] X.env)).all (fun x => x.1.isSome) && decide ((e :: es).length + ([] : List Keyword).length + (if ([] : List Keyword).isEmpty then 0 else 1) < 30)) = true := by rfl) :
    DE X B (.Call (.Attribute o name apos) (e :: es) [] cpos) (methM j h fa) := PE.weak (pe_bm pa slot hty hm ho ha plainBase few onRow args1 noStar) (meth_of hd)
theorem meth0_of {K : Fg} {j : Nat} {r : V → List V → Hp → VK → Prop} {h : List D → List D → Option (D × List D)} (hd : MtD K r h) : ∀ σ H Q, tOf K B (methM j h nilA) σ H Q → tBM0 K "list" r (tVar j) σ H Q := by
  intro σ H Q hq
  obtain ⟨G, δ, res, δ', R, e, k⟩ := hq
  obtain ⟨p0, rs, δ1, as, p, q, e0, e1, e2, e3, e4, rfl, rfl⟩ := methM_some e
  cases e1
  cases e2
  obtain ⟨a, hx, f2, f3, rt⟩ := R.own j p.1 _ (listAt_some e3)
  cases rt with
  | @lst xs ds h1 h2 => exact ⟨_, hx, .inl ⟨rfl, _, .inl (.inl h1)⟩, hd G H a xs p.2 [] [] q Q R.same h1 h2 .nil e4 fun v ys t ty => k v G _ (Same.refl _) (R.wr (listAt_some e3) hx f2 f3 (.lst upd_same ty)) t⟩
theorem de_meth0 (j : Nat) {name : Str} {id : String} {apos cpos : Pos} {o : Expr} {r : V → List V → Hp → VK → Prop} {h : List D → List D → Option (D × List D)} (pa : PlainAttrs "list") (slot : Slot "list" name id) (hty : typeOf (.builtin id) = pure (.type "method_descriptor")) (hm : MtR X id r) (hd : MtD X.K r h) (ho : PE X o (tVar j))
    (hbase : attributeBase o name X.env (eval o X.env) = eval o X.env := by rfl) (hline : (apos.endLine == cpos.line) = true := by rfl) :
    DE X B (.Call (.Attribute o name apos) [] [] cpos) (methM j h nilA) := PE.weak (pe_bm0 pa slot hty hm ho hbase hline) (meth0_of hd)
def appendL (ds as : List D) : Option (D × List D) := match as with
  | [d] => if szOk (ds.length + 1) then some (.none, ds ++ [d]) else none
  | _ => none
theorem md_append {K : Fg} : MtD K rAppend appendL := by
  intro G H a xs ds vs as q Q s h1 t tv hr k
  unfold appendL at hr
  split at hr
  · obtain ⟨c, rfl⟩ := ite_some hr
    cases tv with
    | cons u w =>
      cases w
      exact ⟨a, xs, _, rfl, rfl, h1, by rw [t.len]; exact szOk_le c, k _ _ .non (t.append (.cons u .nil))⟩
  · cases hr
def popL (ds as : List D) : Option (D × List D) := match as with
  | [] => (ds[ds.length - 1]?).bind fun d => some (d, ds.dropLast)
  | _ => none
theorem TrAll.dropLast {K : Fg} {G : Hp} {xs : List V} {ds : List D} (t : TrAll K G xs ds) : TrAll K G xs.dropLast ds.dropLast := by
  rw [List.dropLast_eq_take, List.dropLast_eq_take, t.len]
  exact t.take _
theorem md_pop {K : Fg} : MtD K rPop popL := by
  intro G H a xs ds vs as q Q s h1 t tv hr k
  unfold popL at hr
  split at hr
  · obtain ⟨d, hd, hr⟩ := Option.bind_eq_some_iff.mp hr
    cases hr
    cases tv
    obtain ⟨v, hv, tv⟩ := t.get hd
    exact ⟨a, xs, v, rfl, rfl, h1, by rw [t.len]; exact hv, k _ _ tv t.dropLast⟩
  · cases hr
theorem TrAll.erase {K : Fg} {G : Hp} : ∀ {xs : List V} {ds : List D} (i : Nat), TrAll K G xs ds → TrAll K G (xs.eraseIdx i) (ds.eraseIdx i)
  | _, _, _, .nil => .nil
  | _, _, 0, .cons _ b => b
  | _, _, i + 1, .cons a b => .cons a (TrAll.erase i b)
def popAtL (ds as : List D) : Option (D × List D) := match as with
  | [.int i] => if ixOk i then (seqIndex? i ds.length).bind fun k => (ds[k]?).bind fun d => some (d, ds.eraseIdx k) else none
  | _ => none
theorem md_popAt {K : Fg} : MtD K rPopAt popAtL := by
  intro G H a xs ds vs as q Q s h1 t tv hr k
  unfold popAtL at hr
  split at hr
  · rename_i i
    by_cases c : ixOk i = true
    · rw [if_pos c] at hr
      obtain ⟨j, hj, hr⟩ := Option.bind_eq_some_iff.mp hr
      obtain ⟨d, hd, hr⟩ := Option.bind_eq_some_iff.mp hr
      cases hr
      cases tv with
      | cons u w =>
        cases w
        cases u
        obtain ⟨v, hv, tv⟩ := t.get hd
        have b := ixOk_le c
        exact ⟨a, xs, i, j, v, rfl, rfl, h1, b.1, b.2, by rw [t.len]; exact hj, hv, k _ _ tv (t.erase j)⟩
    · rw [if_neg c] at hr
      cases hr
  · cases hr
def extendL (ds as : List D) : Option (D × List D) := match as with
  | [.list es] => if szOk (ds.length + es.length) then some (.none, ds ++ es) else none
  | _ => none
theorem md_extend {K : Fg} : MtD K rExtend extendL := by
  intro G H a xs ds vs as q Q s h1 t tv hr k
  unfold extendL at hr
  split at hr
  · obtain ⟨c, rfl⟩ := ite_some hr
    cases tv with
    | cons u w =>
      cases w
      cases u with
      | lst g1 g2 => exact ⟨a, _, xs, _, rfl, rfl, h1, s _ _ g1, by rw [t.len, g2.len]; exact szOk_le c, k _ _ .non (t.append g2)⟩
  · cases hr

/-! ### x op= e -/
def augS (i : Nat) (h : D → D → Option Val) (f : Me Val) : Ss := fun δ => match δ[i]? with
  | some (.dat a) => match f δ with
    | some (v, δ1) => (dv δ1 v).bind fun b => (h a b).bind fun r => (asg i r δ1).bind fun δ2 => some (.nx, δ2)
    | none => none
  | _ => none
theorem ss_aug {i : Nat} {x : Str} {e : Expr} {op : Operator} {r : R2} {h : D → D → Option Val} {f : Me Val} {pos' : Pos} (hN : X.N.Nodup) (hi : X.N[i]? = some x) (hx : Loc X.env.scope x) (he : DE X B e f) (ho : OpR X (inplaceOp op) r) (hd : OpD X.K r h) (hf : X.fn x = true ∨ X.env.scope.names.lookup x = some .local := by first | exact .inl rfl | exact .inr rfl | assumption) :
    SS X B (.AugAssign (.Name x pos') op e pos) (augS i h f) := PS.weak (ps_aug (ti := r) hN hi hx he ho hf) fun E σ H q => by
  obtain ⟨G, δ, fl, δ', R, e, k⟩ := q
  unfold augS at e
  split at e
  · rename_i a q0
    split at e
    · rename_i v δ1 q1
      obtain ⟨b, e1, e⟩ := Option.bind_eq_some_iff.mp e
      obtain ⟨res, e2, e⟩ := Option.bind_eq_some_iff.mp e
      obtain ⟨δ2, e3, e⟩ := Option.bind_eq_some_iff.mp e
      cases e
      obtain ⟨x, hx, t⟩ := R.dat i a q0
      refine ⟨x, hx, G, δ, v, δ1, R, q1, fun u G1 H1 s1 R1 v1 => ?_⟩
      refine hd G1 H1 x u a b res _ R1.same (.sc (Tr.mono s1 t)) (v1.view R1 e1) e2 fun w G2 H2 x2 ro => ?_
      have R2 := R1.ex x2
      exact k _ G2 H2 (s1.trans x2.g) (R2.set (ro.rv R1) e3)
    · cases e
  · cases e
def rGetL (K : Fg) : V → V → Hp → VK → Prop := fun x y H Q => ∃ p xs i v, x = .ref p ∧ y = .int i ∧ SqL K H p xs ∧ 0 ≤ i ∧ xs[i.toNat]? = some v ∧ Q v H
theorem get_list : PGet X (rGetL X.K) := by
  intro pins s σ H o i ov iv Q I ro ri h
  obtain ⟨p, xs, n, v, rfl, rfl, hq, h0, hv, q⟩ := h
  cases ro
  obtain ⟨t, rfl⟩ := ri
  obtain ⟨its, r, pl, hz⟩ := I.list hq
  obtain ⟨u, hu, ru⟩ := r.get hv
  have hn : n.toNat < xs.length := (List.getElem?_eq_some_iff.mp hv).1
  have hl : xs.length ≤ 16777216 := by rw [← sizeLine_eq]; exact hz
  exact wpAny_getItem_list pl.isList h0 (by omega) (by simpa using hu) ⟨v, H, I, ru, q⟩
/-- x[i] op= e, x a list of one's own -/
def augSubS (j : Nat) (fi : Me Val) (h : D → D → Option Val) (fe : Me Val) : Ss := fun δ => (listAt δ j).bind fun _ => match fi δ with
  | some (.fz (.int n), δ1) => (listAt δ1 j).bind fun p => if decide (0 ≤ n) then (p.2[n.toNat]?).bind fun a => match fe δ1 with
    | some (v, δ2) => (dv δ2 v).bind fun b => match h a b with
      | some (.fz c) => (listAt δ2 j).bind fun p2 => (ixN p2.2.length n).bind fun m => some (.nx, δ2.set j (.own p2.1 (.list (p2.2.set m c))))
      | _ => none
    | none => none else none
  | _ => none
theorem ss_augSub (j : Nat) {o i e : Expr} {op : Operator} {r : R2} {h : D → D → Option Val} {fi fe : Me Val} {tpos : Pos} (ho : PE X o (tVar j)) (hi : DE X B i fi) (he : DE X B e fe) (hp : OpR X (inplaceOp op) r) (hd : OpD X.K r h)
    (ha : ∀ ov iv new, augStore i ov iv new = (do holding [new, ov, iv] (setItem ov iv new); release [new, ov, iv] []; pure .next) := by intros; rfl) : SS X B (.AugAssign (.Subscript o i tpos) op e pos) (augSubS j fi h fe) := PS.weak (ps_augS (tip := r) ho hi get_list he hp set_list ha) fun E σ H q => by
  obtain ⟨G, δ, fl, δ', R, e, k⟩ := q
  unfold augSubS at e
  obtain ⟨p0, e0, e⟩ := Option.bind_eq_some_iff.mp e
  split at e
  · rename_i n δ1 e1
    obtain ⟨p, e2, e⟩ := Option.bind_eq_some_iff.mp e
    split at e
    · rename_i hn
      obtain ⟨a, e3, e⟩ := Option.bind_eq_some_iff.mp e
      split at e
      · rename_i v δ2 e4
        obtain ⟨b, e5, e⟩ := Option.bind_eq_some_iff.mp e
        split at e
        · rename_i c e6
          obtain ⟨p2, e7, e⟩ := Option.bind_eq_some_iff.mp e
          obtain ⟨m, e8, e⟩ := Option.bind_eq_some_iff.mp e
          cases e
          obtain ⟨ad, hx, _⟩ := R.own j p0.1 _ (listAt_some e0)
          refine ⟨_, hx, G, δ, _, δ1, R, e1, fun u G1 H1 s1 R1 v1 => ?_⟩
          have v1 : Tr X.K G1 u (.int n) := v1
          cases v1
          obtain ⟨a', f1, f2, f3, f4⟩ := R1.own j p.1 _ (listAt_some e2)
          rw [hx] at f1
          cases f1
          cases f4 with
          | @lst xs ds h1 h2 =>
            obtain ⟨y, hy, ty⟩ := h2.get e3
            refine ⟨ad, xs, n, y, rfl, rfl, .inl (.inl h1), of_decide_eq_true hn, hy, ?_⟩
            refine ⟨G1, δ1, v, δ2, R1, e4, fun w G2 H2 s2 R2 v2 => ?_⟩
            refine hd G2 H2 y w a b _ _ R2.same (.sc (Tr.mono s2 ty)) (v2.view R2 e5) e6 fun z G3 H3 x3 ro => ?_
            have ro : Tr X.K G3 z c := ro
            have R3 := R2.ex x3
            have q0 := listAt_some e7
            obtain ⟨a'', f1, f2, f3, f4⟩ := R3.own j p2.1 _ q0
            rw [hx] at f1
            cases f1
            cases f4 with
            | @lst xs2 ds2 g1 g2 =>
              exact ⟨ad, xs2, n, m, rfl, rfl, g1, by rw [g2.len]; exact e8, k σ G3 _ ((s1.trans s2).trans x3.g) (R3.wr q0 hx f2 f3 (.lst upd_same (TrAll.set ro m g2)))⟩
        · cases e
      · cases e
    · cases e
  · cases e
theorem iop_addA : OpR X (inplaceOp .Add) (rI0 fun i j => .int (i + j)) := iop_add
theorem od_iadd {K : Fg} : OpD K (rI0 fun i j => .int (i + j)) addI := od_add
theorem od_isub {K : Fg} : OpD K (rI0 fun i j => .int (i - j)) subI := od_sub

/-! ### for -/
def ItD (K : Fg) (J : It) (ds : List D) (G1 : Hp) : Prop := ∀ (i : Nat) (G H : Hp), Same G1 G → Same G H →
  (∀ d, ds[i]? = some d → J.go i H ∧ ∀ x H', J.yld i H x H' → ∃ G', Ex G H G' H' ∧ Tr K G' x d) ∧ (ds.length ≤ i → J.stop i H)
def tiOf (K : Fg) (B : Bs) (f : Me (List D)) : TI := fun σ H R => ∃ G δ ds δ', RelS K B G H δ σ ∧ f δ = some (ds, δ') ∧
  ∀ J G' H', Same G G' → RelS K B G' H' δ' σ → ItD K J ds G' → R J H'
abbrev DI (X : Cx) (B : Bs) (tg iter : Expr) (f : Me (List D)) : Prop := PI X tg iter (tiOf X.K B f)
theorem PI.weak {X : Cx} {tg iter : Expr} {t t' : TI} (h : PI X tg iter t) (i : ∀ σ H R, t' σ H R → t σ H R) : PI X tg iter t' := ⟨fun pins s σ H R I w => h.run pins s σ H R I (i _ _ _ w)⟩
theorem PI.or {X : Cx} {tg iter : Expr} {t t' : TI} (h : PI X tg iter t) (h' : PI X tg iter t') : PI X tg iter (fun σ H R => t σ H R ∨ t' σ H R) := ⟨fun pins s σ H R I w => w.elim (h.run pins s σ H R I) (h'.run pins s σ H R I)⟩
def forL (gt : Tg) (body : Ss) : List D → Ss
  | [], δ => some (.nx, δ)
  | d :: r, δ => (gt (.fz d) δ).bind fun δ1 => match body δ1 with
    | some (.nx, δ2) => forL gt body r δ2
    | some (.ct, δ2) => forL gt body r δ2
    | some (.bk, δ2) => some (.nx, δ2)
    | some (.rt v, δ2) => some (.rt v, δ2)
    | none => none
def forS (fi : Me (List D)) (gt : Tg) (body : Ss) : Ss := fun δ => match fi δ with
  | some (ds, δ1) => forL gt body ds δ1
  | none => none
theorem for_of {K : Fg} {ws : List Nat} {fi : Me (List D)} {gt : Tg} {body : Ss} : ∀ E σ H, SOf K B (forS fi gt body) E σ H → tFor (tiOf K B fi) (tgOf K B ws gt) (SOf K B body) E σ H := by
  intro E σ H q
  obtain ⟨G, δ, fl, δ', R, e, k⟩ := q
  unfold forS at e
  cases hf : fi δ with
  | none => rw [hf] at e; cases e
  | some p =>
    obtain ⟨ds, δ1⟩ := p
    rw [hf] at e
    refine ⟨G, δ, ds, δ1, R, hf, fun J G1 H1 s1 R1 it => ?_⟩
    refine ⟨fun i m σ H => ∃ G δ, m = ds.length - i ∧ i ≤ ds.length ∧ Same G1 G ∧ RelS K B G H δ σ ∧ forL gt body (ds.drop i) δ = some (fl, δ') ∧ ∀ σ' G' H', Same G G' → RelS K B G' H' δ' σ' → FlPost K B E G' H' δ' σ' fl,
      ⟨ds.length, G1, δ1, rfl, Nat.zero_le _, Same.refl _, R1, e, fun σ' G' H' s R' => k σ' G' H' (s1.trans s) R'⟩, ?_⟩
    rintro i m σ2 H2 ⟨G2, δ2, rfl, hi, s2, R2, e2, k2⟩
    obtain ⟨it1, it2⟩ := it i G2 H2 s2 R2.same
    by_cases hlt : i < ds.length
    · rw [List.drop_eq_getElem_cons hlt] at e2
      obtain ⟨go, yl⟩ := it1 ds[i] (by simp [hlt])
      refine .inr ⟨go, fun σ' H' => ∃ G δ, Same G1 G ∧ RelS K B G H' δ σ' ∧ forL gt body (ds.drop (i + 1)) δ = some (fl, δ') ∧ ∀ σ'' G' H', Same G G' → RelS K B G' H' δ' σ'' → FlPost K B E G' H' δ' σ'' fl, fun σ' H' ⟨G', δ3, a, b, c, d⟩ => ⟨ds.length - (i + 1), by omega, G', δ3, rfl, hlt, a, b, c, d⟩, fun x H3 y3 => ?_⟩
      obtain ⟨G3, x3, t3⟩ := yl x H3 y3
      obtain ⟨δ3, e3, e4⟩ := Option.bind_eq_some_iff.mp e2
      refine ⟨G3, δ2, .fz ds[i], δ3, R2.ex x3, t3, e3, fun σ4 G4 H4 s4 R4 _ => ?_⟩
      cases hb : body δ3 with
      | none => rw [hb] at e4; cases e4
      | some p =>
        obtain ⟨fb, δ5⟩ := p
        rw [hb] at e4
        refine ⟨G4, δ3, fb, δ5, R4, hb, fun σ5 G5 H5 s5 R5 => ?_⟩
        have sg : Same G2 G5 := (x3.g.trans s4).trans s5
        cases fb with
        | nx => exact ⟨G5, δ5, s2.trans sg, R5, e4, fun σ6 G6 H6 s6 R6 => k2 σ6 G6 H6 (sg.trans s6) R6⟩
        | ct => exact ⟨G5, δ5, s2.trans sg, R5, e4, fun σ6 G6 H6 s6 R6 => k2 σ6 G6 H6 (sg.trans s6) R6⟩
        | bk =>
          cases e4
          exact k2 σ5 G5 H5 sg R5
        | rt v =>
          cases e4
          exact k2 σ5 G5 H5 sg R5
    · have hz : i = ds.length := by omega
      subst hz
      rw [List.drop_length] at e2
      cases e2
      exact .inl ⟨it2 (Nat.le_refl _), k2 σ2 G2 H2 (Same.refl _) R2⟩
theorem ss_for {tg iter : Expr} {body : List Stmt} {ws : List Nat} {fi : Me (List D)} {gt : Tg} {g : Ss} (hp : PassesOwn (model X.prog X.w) X.A X.env X.xe) (hc : X.calm = true) (hi : DI X B tg iter fi) (hg : DG X B ws tg gt) (hb : SB X B body g)
    (hs : ∀ x, foldedSetIterable iter X.env x = pure x := by intro _; rfl) : SS X B (.For tg iter body [] pos) (forS fi gt g) := PS.weak (ps_for hp hc hi hg hb hs) for_of

/-! ### while -/
def whileN (c : Me Bool) (body : Ss) : Nat → Ss
  | 0, _ => none
  | n + 1, δ => match c δ with
    | some (true, δ1) => (match body δ1 with
      | some (.nx, δ2) => whileN c body n δ2
      | some (.ct, δ2) => whileN c body n δ2
      | some (.bk, δ2) => some (.nx, δ2)
      | some (.rt v, δ2) => some (.rt v, δ2)
      | none => none)
    | some (false, δ1) => some (.nx, δ1)
    | none => none
theorem while_of {K : Fg} {c : Me Bool} {body : Ss} (n : Nat) : ∀ E σ H, SOf K B (whileN c body n) E σ H → tWhile (ttOf K B c) (SOf K B body) E σ H := by
  intro E σ H q
  obtain ⟨G, δ, fl, δ', R, e, k⟩ := q
  refine ⟨fun m σ H => ∃ G δ, RelS K B G H δ σ ∧ whileN c body m δ = some (fl, δ') ∧ ∀ σ' G' H', Same G G' → RelS K B G' H' δ' σ' → FlPost K B E G' H' δ' σ' fl, ⟨n, G, δ, R, e, k⟩, ?_⟩
  rintro m σ2 H2 ⟨G2, δ2, R2, e2, k2⟩
  cases m with
  | zero => cases e2
  | succ m =>
    unfold whileN at e2
    cases hc : c δ2 with
    | none => rw [hc] at e2; cases e2
    | some p =>
      obtain ⟨b, δ3⟩ := p
      rw [hc] at e2
      refine ⟨G2, δ2, b, δ3, R2, hc, fun G3 H3 s3 R3 => ?_⟩
      cases b with
      | false =>
        cases e2
        exact k2 σ2 G3 H3 s3 R3
      | true =>
        refine ⟨fun σ' H' => ∃ G δ, RelS K B G H' δ σ' ∧ whileN c body m δ = some (fl, δ') ∧ ∀ σ'' G' H', Same G G' → RelS K B G' H' δ' σ'' → FlPost K B E G' H' δ' σ'' fl, fun σ' H' h => ⟨m, Nat.lt_succ_self _, h⟩, ?_⟩
        have e2 : (match body δ3 with
          | some (.nx, δ2) => whileN c body m δ2
          | some (.ct, δ2) => whileN c body m δ2
          | some (.bk, δ2) => some (Fl.nx, δ2)
          | some (.rt v, δ2) => some (Fl.rt v, δ2)
          | none => none) = some (fl, δ') := e2
        cases hb : body δ3 with
        | none => rw [hb] at e2; cases e2
        | some p =>
          obtain ⟨fb, δ5⟩ := p
          rw [hb] at e2
          refine ⟨G3, δ3, fb, δ5, R3, hb, fun σ5 G5 H5 s5 R5 => ?_⟩
          cases fb with
          | nx => exact ⟨G5, δ5, R5, e2, fun σ6 G6 H6 s6 R6 => k2 σ6 G6 H6 ((s3.trans s5).trans s6) R6⟩
          | ct => exact ⟨G5, δ5, R5, e2, fun σ6 G6 H6 s6 R6 => k2 σ6 G6 H6 ((s3.trans s5).trans s6) R6⟩
          | bk =>
            cases e2
            exact k2 σ5 G5 H5 (s3.trans s5) R5
          | rt v =>
            cases e2
            exact k2 σ5 G5 H5 (s3.trans s5) R5
theorem ss_while (n : Nat) {c : Expr} {body : List Stmt} {fc : Me Bool} {g : Ss} (hp : PassesOwn (model X.prog X.w) X.A X.env X.xe) (hc : DT X B c fc) (hb : SB X B body g) : SS X B (.While c body [] pos) (whileN fc g n) := PS.weak (ps_while hp hc hb) (while_of n)
theorem whileN_more {c : Me Bool} {body : Ss} : ∀ {n k : Nat} {δ : DS} {r : Fl × DS}, whileN c body n δ = some r → n ≤ k → whileN c body k δ = some r
  | 0, _, _, _, h, _ => by cases h
  | n + 1, 0, _, _, _, hk => by omega
  | n + 1, k + 1, δ, r, h, hk => by
    unfold whileN at h ⊢
    cases hc : c δ with
    | none => rw [hc] at h; cases h
    | some p =>
      obtain ⟨b, δ1⟩ := p
      rw [hc] at h
      cases b with
      | false => exact h
      | true =>
        cases hb : body δ1 with
        | none => simp only [hb] at h; cases h
        | some p =>
          obtain ⟨fb, δ5⟩ := p
          simp only [hb] at h ⊢
          cases fb with
          | nx => exact whileN_more h (by omega)
          | ct => exact whileN_more h (by omega)
          | bk => exact h
          | rt v => exact h

/-! ### what is walked -/
def itemsOf : Val → Option (List D)
  | .fz (.list ds) => some ds
  | .fz (.tuple ds) => some ds
  | .ow (.list ds) => some ds
  | .fz (.dict [(.none, .list ds)]) => some ds
  | _ => none
def seqM (f : Me Val) : Me (List D) := mb f fun x => mo fun _ => itemsOf x
theorem it_list {K : Fg} {G1 : Hp} {a : Addr} {xs : List V} {ds : List D} (h : SqL K G1 a xs) (t : TrAll K G1 xs ds) : ItD K (Itl K a) ds G1 := fun i G H s sh => by
  have q : SqL K H a xs := (s.trans sh).seq h
  refine ⟨fun d hd => ?_, fun hi => ⟨xs, q, by rw [t.len]; exact hi⟩⟩
  obtain ⟨v, hv, tv⟩ := t.get hd
  refine ⟨⟨xs, v, q, hv⟩, fun x H' y => ?_⟩
  obtain ⟨rfl, y⟩ := y
  have := y xs q
  rw [hv] at this
  cases this
  exact ⟨G, Ex.refl sh, Tr.mono s tv⟩
theorem it_tup {K : Fg} {G1 : Hp} {a : Addr} {xs : List V} {ds : List D} (h : SqT K G1 a xs) (t : TrAll K G1 xs ds) : ItD K (Itt K a) ds G1 := fun i G H s sh => by
  have q : SqT K H a xs := Same.tup (s.trans sh) h
  refine ⟨fun d hd => ?_, fun hi => ⟨xs, q, by rw [t.len]; exact hi⟩⟩
  obtain ⟨v, hv, tv⟩ := t.get hd
  refine ⟨⟨xs, v, q, hv⟩, fun x H' y => ?_⟩
  obtain ⟨rfl, y⟩ := y
  have := y xs q
  rw [hv] at this
  cases this
  exact ⟨G, Ex.refl sh, Tr.mono s tv⟩
theorem Tr.listI {K : Fg} {G : Hp} {v : V} {ds : List D} (h : Tr K G v (.list ds)) : ∃ a xs, v = .ref a ∧ SqL K G a xs ∧ TrAll K G xs ds := by
  cases h with
  | lst a b => exact ⟨_, _, rfl, .inl (.inl a), b⟩
theorem Tr.tupI {K : Fg} {G : Hp} {v : V} {ds : List D} (h : Tr K G v (.tuple ds)) : ∃ a xs, v = .ref a ∧ SqT K G a xs ∧ TrAll K G xs ds := by
  cases h with
  | tup a b => exact ⟨_, _, rfl, a, b⟩
theorem Tr.scrI {K : Fg} {G : Hp} {v : V} {ds : List D} (h : Tr K G v (.dict [(.none, .list ds)])) : ∃ a xs, v = .ref a ∧ SqL K G a xs ∧ TrAll K G xs ds := by
  obtain ⟨a, ns, rfl, hq, rfl⟩ := View.scr' (Same.refl G) (.sc h)
  exact ⟨a, _, rfl, hq, .ints⟩
theorem di_seq {tg l : Expr} {f : Me Val} (hl : DE X B l f) : DI X B tg l (seqM f) := PI.weak (PI.or (pi_list hl) (pi_tup hl)) fun σ H Q q => by
  obtain ⟨G, δ, ds, δ', R, e, k⟩ := q
  obtain ⟨x, δ1, e1, e⟩ := mb_some e
  obtain ⟨e2, rfl⟩ := mo_some e
  unfold itemsOf at e2
  split at e2
  · cases e2
    refine .inl ⟨G, δ, _, _, R, e1, fun v G1 H1 s1 R1 v1 => ?_⟩
    obtain ⟨a, xs, rfl, h, t⟩ := Tr.listI v1
    exact ⟨a, rfl, ⟨xs, R1.same.seq h⟩, k _ G1 H1 s1 R1 (it_list h t)⟩
  · cases e2
    refine .inr ⟨G, δ, _, _, R, e1, fun v G1 H1 s1 R1 v1 => ?_⟩
    obtain ⟨a, xs, rfl, h, t⟩ := Tr.tupI v1
    exact ⟨a, rfl, ⟨xs, Same.tup R1.same h⟩, k _ G1 H1 s1 R1 (it_tup h t)⟩
  · cases e2
    refine .inl ⟨G, δ, _, _, R, e1, fun v G1 H1 s1 R1 v1 => ?_⟩
    obtain ⟨G2, s2, R2, v2⟩ := v1.freeze R1
    obtain ⟨a, xs, rfl, h, t⟩ := Tr.listI v2
    exact ⟨a, rfl, ⟨xs, R2.same.seq h⟩, k _ G2 H1 (s1.trans s2) R2 (it_list h t)⟩
  · cases e2
    refine .inl ⟨G, δ, _, _, R, e1, fun v G1 H1 s1 R1 v1 => ?_⟩
    obtain ⟨a, xs, rfl, h, t⟩ := Tr.scrI v1
    exact ⟨a, rfl, ⟨xs, R1.same.seq h⟩, k _ G1 H1 s1 R1 (it_list h t)⟩
  · cases e2
/-- range -/
def rngD (lo : Int) (n : Nat) : List D := (List.range n).map fun i => .int (lo + (i : Nat))
def rOk (j : Int) : Bool := decide (-(2 ^ 62) ≤ j) && decide (j < 2 ^ 62)
theorem rOk_le {j : Int} (h : rOk j = true) : -(2 ^ 62) ≤ j ∧ j < 2 ^ 62 := by
  unfold rOk at h
  rw [Bool.and_eq_true] at h
  exact ⟨of_decide_eq_true h.1, of_decide_eq_true h.2⟩
theorem it_rng {K : Fg} {G1 : Hp} {lo : Int} {n : Nat} : ItD K (Itr lo n) (rngD lo n) G1 := fun i G H s sh => by
  refine ⟨fun d hd => ?_, fun hi => by unfold rngD at hi; rw [List.length_map, List.length_range] at hi; exact hi⟩
  unfold rngD at hd
  rw [List.getElem?_map] at hd
  obtain ⟨m, hm, rfl⟩ := Option.map_eq_some_iff.mp hd
  have hl := (List.getElem?_eq_some_iff.mp hm).1
  rw [List.length_range] at hl
  rw [List.getElem?_range hl] at hm
  cases hm
  refine ⟨hl, fun x H' y => ?_⟩
  obtain ⟨rfl, rfl⟩ := y
  exact ⟨G, Ex.refl sh, .int _⟩
def rngM1 (fa : Me (List Val)) : Me (List D) := mb fa fun xs => mo fun _ => match xs with
  | [.fz (.int j)] => if rOk j then some (rngD 0 j.toNat) else none
  | _ => none
def rngM2 (fa : Me (List Val)) : Me (List D) := mb fa fun xs => mo fun _ => match xs with
  | [.fz (.int i), .fz (.int j)] => if rOk i && rOk j then some (rngD i (j - i).toNat) else none
  | _ => none
theorem di_range1 {tg a : Expr} {fa : Me (List Val)} {p : Pos} (hg : Gl X "range") (hm : X.mg "range" = none) (ha : DA X B [a] fa) (hs : starEach [a] X.env = [(false, eval a X.env)] := by rfl) : DI X B tg (.Call (.Name "range" p) [a] [] pos) (rngM1 fa) := PI.weak (pi_range1 hg hm ha hs) fun σ H Q q => by
  obtain ⟨G, δ, ds, δ', R, e, k⟩ := q
  obtain ⟨xs, δ1, e1, e⟩ := mb_some e
  obtain ⟨e2, rfl⟩ := mo_some e
  refine ⟨G, δ, _, _, R, e1, fun vs G1 H1 s1 R1 v1 => ?_⟩
  split at e2
  · obtain ⟨c, rfl⟩ := ite_some e2
    cases v1 with
    | cons a b =>
      cases b
      have a : Tr X.K G1 _ (.int _) := a
      cases a
      have c' := rOk_le c
      exact ⟨_, rfl, c'.1, c'.2, k _ G1 H1 s1 R1 it_rng⟩
  · cases e2
theorem di_range2 {tg a b : Expr} {fa : Me (List Val)} {p : Pos} (hg : Gl X "range") (hm : X.mg "range" = none) (ha : DA X B [a, b] fa) (hs : starEach [a, b] X.env = [(false, eval a X.env), (false, eval b X.env)] := by rfl) (hs2 : starEach [b] X.env = [(false, eval b X.env)] := by rfl) : DI X B tg (.Call (.Name "range" p) [a, b] [] pos) (rngM2 fa) := PI.weak (pi_range2 hg hm ha hs hs2) fun σ H Q q => by
  obtain ⟨G, δ, ds, δ', R, e, k⟩ := q
  obtain ⟨xs, δ1, e1, e⟩ := mb_some e
  obtain ⟨e2, rfl⟩ := mo_some e
  refine ⟨G, δ, _, _, R, e1, fun vs G1 H1 s1 R1 v1 => ?_⟩
  split at e2
  · obtain ⟨c, rfl⟩ := ite_some e2
    rw [Bool.and_eq_true] at c
    cases v1 with
    | cons a b =>
      cases b with
      | cons a2 b =>
        cases b
        have a : Tr X.K G1 _ (.int _) := a
        have a2 : Tr X.K G1 _ (.int _) := a2
        cases a
        cases a2
        have c1 := rOk_le c.1
        have c2 := rOk_le c.2
        exact ⟨_, _, rfl, ⟨c1.1, c1.2, c2.1, c2.2⟩, k _ G1 H1 s1 R1 it_rng⟩
  · cases e2
/-- enumerate, zip of lists -/
def enumD (ds : List D) : List D := ds.zipIdx.map fun p => .tuple [.int (p.2 : Nat), p.1]
def zipD (ds es : List D) : List D := (ds.zip es).map fun p => .tuple [p.1, p.2]
theorem it_enum {K : Fg} {G1 : Hp} {a : Addr} {xs : List V} {ds : List D} (h : SqL K G1 a xs) (t : TrAll K G1 xs ds) : ItD K (Ite K a) (enumD ds) G1 := fun i G H s sh => by
  have q : SqL K H a xs := (s.trans sh).seq h
  refine ⟨fun d hd => ?_, fun hi => ⟨xs, q, by unfold enumD at hi; rw [List.length_map, List.length_zipIdx] at hi; rw [t.len]; exact hi⟩⟩
  unfold enumD at hd
  rw [List.getElem?_map, List.getElem?_zipIdx] at hd
  obtain ⟨p, hp, rfl⟩ := Option.map_eq_some_iff.mp hd
  obtain ⟨e, he, rfl⟩ := Option.map_eq_some_iff.mp hp
  obtain ⟨v, hv, tv⟩ := t.get he
  refine ⟨⟨xs, v, q, hv⟩, fun x H' y => ?_⟩
  obtain ⟨T, z, rfl, n, rfl, y⟩ := y
  have := y xs q
  rw [hv] at this
  cases this
  refine ⟨_, Ex.pushF sh _ n, ?_⟩
  rw [Nat.zero_add]
  exact Tr.tup (.inl (.inl upd_same)) (TrAll.mono (same_upd (sh.free n)) (.cons (.int _) (.cons (Tr.mono s tv) .nil)))
theorem it_zip {K : Fg} {G1 : Hp} {a b : Addr} {xs ys : List V} {ds es : List D} (h : SqL K G1 a xs) (t : TrAll K G1 xs ds) (h2 : SqL K G1 b ys) (t2 : TrAll K G1 ys es) : ItD K (Itz K a b) (zipD ds es) G1 := fun i G H s sh => by
  have q : SqL K H a xs := (s.trans sh).seq h
  have q2 : SqL K H b ys := (s.trans sh).seq h2
  refine ⟨fun d hd => ?_, fun hi => ⟨xs, ys, q, q2, by unfold zipD at hi; rw [List.length_map, List.length_zip] at hi; rw [t.len, t2.len]; omega⟩⟩
  unfold zipD at hd
  rw [List.getElem?_map] at hd
  obtain ⟨p, hp, rfl⟩ := Option.map_eq_some_iff.mp hd
  rw [List.getElem?_zip_eq_some] at hp
  obtain ⟨v, hv, tv⟩ := t.get hp.1
  obtain ⟨w, hw, tw⟩ := t2.get hp.2
  refine ⟨⟨xs, ys, v, w, q, q2, hv, hw⟩, fun x H' y => ?_⟩
  obtain ⟨T, z, z2, rfl, n, rfl, y, y2⟩ := y
  have h1 := y xs q
  have h2 := y2 ys q2
  rw [hv] at h1
  rw [hw] at h2
  cases h1
  cases h2
  exact ⟨_, Ex.pushF sh _ n, Tr.tup (.inl (.inl upd_same)) (TrAll.mono (same_upd (sh.free n)) (.cons (Tr.mono s tv) (.cons (Tr.mono s tw) .nil)))⟩
def enumM (fa : Me (List Val)) : Me (List D) := mb fa fun xs => mo fun _ => match xs with
  | [.fz (.list ds)] => some (enumD ds)
  | [.ow (.list ds)] => some (enumD ds)
  | _ => none
def zipM (fa : Me (List Val)) : Me (List D) := mb fa fun xs => mo fun _ => (fzs xs).bind fun as => match as with
  | [.list ds, .list es] => some (zipD ds es)
  | _ => none
theorem di_enum {e : Expr} {fa : Me (List Val)} {p tpos : Pos} {elts : List Expr} {kk : Nat} (hg : Gl X "enumerate") (hm : X.mg "enumerate" = none) (ha : DA X B [e] fa) (hs : starEach [e] X.env = [(false, eval e X.env)] := by rfl) : DI X B (.Tuple elts kk tpos) (.Call (.Name "enumerate" p) [e] [] pos) (enumM fa) := PI.weak (pi_enum hg hm ha hs) fun σ H Q q => by
  obtain ⟨G, δ, ds, δ', R, e, k⟩ := q
  obtain ⟨xs, δ1, e1, e⟩ := mb_some e
  obtain ⟨e2, rfl⟩ := mo_some e
  refine ⟨G, δ, _, _, R, e1, fun vs G1 H1 s1 R1 v1 => ?_⟩
  split at e2
  · cases e2
    cases v1 with
    | cons a b =>
      cases b
      obtain ⟨c, ys, rfl, h, t⟩ := Tr.listI (show Tr X.K G1 _ (.list _) from a)
      exact ⟨c, ys, rfl, R1.same.seq h, k _ G1 H1 s1 R1 (it_enum h t)⟩
  · cases e2
    cases v1 with
    | cons a b =>
      cases b
      obtain ⟨c, ys, rfl, h, t⟩ := Tr.listI (show Tr X.K G1 _ (.list _) from a)
      exact ⟨c, ys, rfl, R1.same.seq h, k _ G1 H1 s1 R1 (it_enum h t)⟩
  · cases e2
theorem di_zip {e e2 : Expr} {fa : Me (List Val)} {p tpos : Pos} {elts : List Expr} {kk : Nat} (hg : Gl X "zip") (hm : X.mg "zip" = none) (ha : DA X B [e, e2] fa)
    (hs : starEach [e, e2] X.env = (false, eval e X.env) :: starEach [e2] X.env := by rfl) (hpl : (backTo pos (starEach [e2] X.env)).any (·.1) = false := by rfl) : DI X B (.Tuple elts kk tpos) (.Call (.Name "zip" p) [e, e2] [] pos) (zipM fa) := PI.weak (pi_zip hg hm ha hs hpl) fun σ H Q q => by
  obtain ⟨G, δ, ds, δ', R, e, k⟩ := q
  obtain ⟨xs, δ1, e1, e⟩ := mb_some e
  obtain ⟨e2, rfl⟩ := mo_some e
  obtain ⟨as, e3, e2⟩ := Option.bind_eq_some_iff.mp e2
  refine ⟨G, δ, _, _, R, e1, fun vs G1 H1 s1 R1 v1 => ?_⟩
  have t := v1.trees e3
  split at e2
  · cases e2
    cases t with
    | cons a b =>
      cases b with
      | cons b c =>
        cases c
        obtain ⟨p, ys, rfl, h, t⟩ := Tr.listI a
        obtain ⟨q, zs, rfl, h2, t2⟩ := Tr.listI b
        exact ⟨p, q, ys, zs, rfl, R1.same.seq h, R1.same.seq h2, k _ G1 H1 s1 R1 (it_zip h t h2 t2)⟩
  · cases e2
end
end DL
end
section
set_option maxRecDepth 100000
set_option maxHeartbeats 4000000
namespace DL
open PySem PySem.Spec L2
open PyProof.Rows hiding St

/-! ### comprehensions -/
def wipeD (δ : DS) : List Nat → DS
  | [] => δ
  | v :: vs => (wipeD δ vs).set v .un
def backD (δ0 δ : DS) : List Nat → DS
  | [] => δ
  | v :: vs => (backD δ0 δ vs).set v (δ0.getD v .un)
def plainAt (δ : DS) (v : Nat) : Bool := match δ[v]? with
  | some (.own _ _) => false
  | _ => true
theorem wipeD_len (δ : DS) : ∀ vs : List Nat, (wipeD δ vs).length = δ.length
  | [] => rfl
  | v :: vs => by unfold wipeD; rw [List.length_set, wipeD_len δ vs]
theorem backD_len (δ0 δ : DS) : ∀ vs : List Nat, (backD δ0 δ vs).length = δ.length
  | [] => rfl
  | v :: vs => by unfold backD; rw [List.length_set, backD_len δ0 δ vs]
theorem wipeD_get {δ : DS} {j : Nat} {s : Sl} (h : s ≠ .un) : ∀ {vs : List Nat}, (wipeD δ vs)[j]? = some s → δ[j]? = some s ∧ j ∉ vs
  | [], q => ⟨q, by simp⟩
  | v :: vs, q => by
    unfold wipeD at q
    by_cases hv : v = j
    · subst hv
      by_cases hl : v < (wipeD δ vs).length
      · rw [List.getElem?_set_self hl] at q
        cases q
        exact (h rfl).elim
      · rw [List.getElem?_eq_none (by simpa using hl)] at q
        cases q
    · rw [List.getElem?_set_ne hv] at q
      obtain ⟨a, b⟩ := wipeD_get h q
      exact ⟨a, by simp only [List.mem_cons, not_or]; exact ⟨fun e => hv e.symm, b⟩⟩
theorem wipeD_dat {δ : DS} {j : Nat} {d : D} {vs : List Nat} (q : (wipeD δ vs)[j]? = some (.dat d)) : δ[j]? = some (.dat d) ∧ j ∉ vs := wipeD_get (by intro z; cases z) q
theorem wipeD_own {δ : DS} {j : Nat} {b : Bool} {d : D} {vs : List Nat} (q : (wipeD δ vs)[j]? = some (.own b d)) : δ[j]? = some (.own b d) ∧ j ∉ vs := wipeD_get (by intro z; cases z) q
theorem backD_get {δ0 δ : DS} {j : Nat} {s : Sl} : ∀ {vs : List Nat}, (backD δ0 δ vs)[j]? = some s → (j ∉ vs ∧ δ[j]? = some s) ∨ (j ∈ vs ∧ (δ0[j]? = some s ∨ s = .un))
  | [], q => .inl ⟨by simp, q⟩
  | v :: vs, q => by
    unfold backD at q
    by_cases hv : v = j
    · subst hv
      by_cases hl : v < (backD δ0 δ vs).length
      · rw [List.getElem?_set_self hl] at q
        refine .inr ⟨List.mem_cons_self, ?_⟩
        rw [List.getD_eq_getElem?_getD] at q
        cases hz : δ0[v]? with
        | none =>
          rw [hz] at q
          cases q
          exact .inr rfl
        | some t =>
          rw [hz] at q
          cases q
          exact .inl rfl
      · rw [List.getElem?_eq_none (by simpa using hl)] at q
        cases q
    · rw [List.getElem?_set_ne hv] at q
      rcases backD_get q with ⟨a, b⟩ | ⟨a, b⟩
      · exact .inl ⟨by simp only [List.mem_cons, not_or]; exact ⟨fun e => hv e.symm, a⟩, b⟩
      · exact .inr ⟨List.mem_cons_of_mem _ a, b⟩
theorem wipe_in {σ : L2.St} {i : Nat} (hl : i < σ.length) : ∀ {vs : List Nat}, i ∈ vs → (wipe σ vs)[i]? = some none
  | v :: vs, h => by
    unfold wipe
    by_cases hv : v = i
    · subst hv
      rw [List.getElem?_set_self (by rw [wipe_length]; exact hl)]
    · rw [List.getElem?_set_ne hv]
      exact wipe_in hl ((List.mem_cons.mp h).resolve_left fun e => hv e.symm)
theorem wipe_off {σ σ2 : L2.St} {ws vs : List Nat} (h : Off ws (wipe σ vs) σ2) (hw : ∀ i ∈ ws, i ∈ vs) : wipe σ2 vs = wipe σ vs := by
  have hl : σ2.length = σ.length := h.1.trans (wipe_length σ vs)
  apply List.ext_getElem?
  intro i
  by_cases hi : i ∈ vs
  · by_cases hz : i < σ.length
    · rw [wipe_in hz hi, wipe_in (by rw [hl]; exact hz) hi]
    · rw [List.getElem?_eq_none (by rw [wipe_length]; omega), List.getElem?_eq_none (by rw [wipe_length]; omega)]
  · rw [wipe_out hi, h.2 i (fun z => hi (hw i z))]
section
variable {K : Fg} {B : Bs} {G H G' H' : Hp} {δ δ' : DS} {σ σ' : L2.St}
theorem RelS.agree (vs : List Nat) (R : RelS K B G H δ σ) (h : σ'.length = σ.length) (e : ∀ i, i ∉ vs → σ'[i]? = σ[i]?) : RelS K B G H (wipeD δ vs) σ' where
  len := by rw [wipeD_len, h]; exact R.len
  same := R.same
  g0 := R.g0
  nw := R.nw
  frame := R.frame
  dom := R.dom
  iod := R.iod
  dat := fun i d q => by
    obtain ⟨a, b⟩ := wipeD_dat q
    rw [e i b]
    exact R.dat i d a
  own := fun i b d q => by
    obtain ⟨a, hb⟩ := wipeD_own q
    rw [e i hb]
    exact R.own i b d a
  inj := fun i j b b' a d d' q1 q2 z1 z2 => by
    obtain ⟨a1, h1⟩ := wipeD_own q1
    obtain ⟨a2, h2⟩ := wipeD_own q2
    rw [e i h1] at z1
    rw [e j h2] at z2
    exact R.inj i j b b' a d d' a1 a2 z1 z2
theorem RelS.back {vs : List Nat} {δ1 : DS} (R1 : RelS K B G H δ1 σ) (R : RelS K B G' H' δ (wipe σ vs)) (s : Same G G') (hp : ∀ v ∈ vs, plainAt δ1 v = true) : RelS K B G' H' (backD δ1 δ vs) σ where
  len := by rw [backD_len, R.len, wipe_length]
  same := R.same
  g0 := R.g0
  nw := R.nw
  frame := R.frame
  dom := R.dom
  iod := R.iod
  dat := fun i d q => by
    rcases backD_get q with ⟨a, b⟩ | ⟨a, b | b⟩
    · obtain ⟨v, e, t⟩ := R.dat i d b
      rw [wipe_out a] at e
      exact ⟨v, e, t⟩
    · obtain ⟨v, e, t⟩ := R1.dat i d b
      exact ⟨v, e, Tr.mono s t⟩
    · cases b
  own := fun i b d q => by
    rcases backD_get q with ⟨a, c⟩ | ⟨a, c | c⟩
    · obtain ⟨v, e, t⟩ := R.own i b d c
      rw [wipe_out a] at e
      exact ⟨v, e, t⟩
    · have := hp i a
      unfold plainAt at this
      rw [c] at this
      cases this
    · cases c
  inj := fun i j b b' a d d' q1 q2 z1 z2 => by
    rcases backD_get q1 with ⟨a1, c1⟩ | ⟨a1, c1 | c1⟩
    · rcases backD_get q2 with ⟨a2, c2⟩ | ⟨a2, c2 | c2⟩
      · rw [← wipe_out a1] at z1
        rw [← wipe_out a2] at z2
        exact R.inj i j b b' a d d' c1 c2 z1 z2
      · have := hp j a2
        unfold plainAt at this
        rw [c2] at this
        cases this
      · cases c2
    · have := hp i a1
      unfold plainAt at this
      rw [c1] at this
      cases this
    · cases c1
/-- a block's base -/
def blkB (B : Bs) (G H : Hp) (δ : DS) (σ : L2.St) : Bs := ⟨G, H, B.io, fun a => ∃ (i : Nat) (d : D), δ[i]? = some (.own false d) ∧ σ[i]? = some (some (V.ref a))⟩
theorem RelS.blk (R : RelS K B G H δ σ) : RelS K (blkB B G H δ σ) G H δ σ where
  len := R.len
  same := R.same
  g0 := Same.refl _
  nw := fun a o e n => by
    have n : G a = none := n
    rw [n] at e
    cases e
  frame := fun _ _ e _ _ => e
  dom := fun _ o e => ⟨o, e⟩
  iod := fun p hp => by
    obtain ⟨o, e⟩ := R.iod p hp
    exact R.dom _ _ e
  dat := R.dat
  own := fun i b d q => by
    obtain ⟨a, e, n, m, r⟩ := R.own i b d q
    refine ⟨a, e, n, ?_, r⟩
    cases b with
    | true => exact m
    | false => exact .inr ⟨i, d, q, e⟩
  inj := R.inj
theorem RelS.lo (R : RelS K B G H δ σ) {a : Addr} (h : (blkB B G H δ σ).lo a) : B.H0 a = none ∨ B.lo a := by
  obtain ⟨i, d, q, e⟩ := h
  obtain ⟨a', e', _, m, _⟩ := R.own i false d q
  rw [e] at e'
  cases e'
  exact m
theorem RelS.rebase (R : RelS K B G H δ σ) (R3 : RelS K (blkB B G H δ σ) G' H' δ' σ') : RelS K B G' H' δ' σ' where
  len := R3.len
  same := R3.same
  g0 := R.g0.trans R3.g0
  nw := fun a o e n => by
    cases q : G a with
    | some u => exact R.nw a u q n
    | none =>
      rcases R3.nw a o e q with z | z
      · exact .inl (R.none0 z)
      · exact R.lo z
  frame := fun b o e n l => R3.frame b o (R.frame b o e n l) n fun z => by
    rcases R.lo z with w | w
    · rw [w] at e
      cases e
    · exact l w
  dom := fun b o e => by
    obtain ⟨o', e'⟩ := R.dom b o e
    exact R3.dom b o' e'
  iod := R.iod
  dat := R3.dat
  own := fun i b d q => by
    obtain ⟨a, e, n, m, r⟩ := R3.own i b d q
    refine ⟨a, e, n, ?_, r⟩
    cases b with
    | true => exact m
    | false =>
      rcases (show H a = none ∨ _ from m) with z | z
      · exact .inl (R.none0 z)
      · exact R.lo z
  inj := R3.inj
/-- an object apart is written -/
theorem RelS.apart {p : Addr} {o : HO} (R : RelS K B G H δ σ) (g : G p = none) (h0 : B.H0 p = none) (hr : ∀ (i : Nat) (b : Bool) (d : D), δ[i]? = some (.own b d) → σ[i]? ≠ some (some (V.ref p))) : RelS K B G (upd H p o) δ σ where
  len := R.len
  same := fun a x e => by
    have ha : a ≠ p := fun z => by rw [z, g] at e; cases e
    rw [upd_ne ha]
    exact R.same _ _ e
  g0 := R.g0
  nw := R.nw
  frame := fun b x e n l => by
    have ha : b ≠ p := fun z => by rw [z, h0] at e; cases e
    rw [upd_ne ha]
    exact R.frame b x e n l
  dom := fun b x e => by
    have ha : b ≠ p := fun z => by rw [z, h0] at e; cases e
    rw [upd_ne ha]
    exact R.dom b x e
  iod := R.iod
  dat := R.dat
  own := fun i b d q => by
    obtain ⟨a, e, n, m, r⟩ := R.own i b d q
    have ha : a ≠ p := fun z => hr i b d q (z ▸ e)
    exact ⟨a, e, n, m, Root.mono (Same.refl _) (fun x y => by rw [upd_ne ha]; exact y) r⟩
  inj := R.inj
end

def treeV : Val → Option D
  | .fz d => some d
  | .ow d => some d
  | .sl _ => none
def compL (gt : Tg) (ft : Me Bool) (fe : Me Val) (vs : List Nat) : List D → DS → Option (List D × DS)
  | [], δ => some ([], δ)
  | d :: r, δ => (gt (.fz d) δ).bind fun δ1 => match ft δ1 with
    | some (true, δ2) => (match fe δ2 with
      | some (v, δ3) => (treeV v).bind fun e => (compL gt ft fe vs r (wipeD δ3 vs)).bind fun p => some (e :: p.1, p.2)
      | none => none)
    | some (false, δ2) => compL gt ft fe vs r (wipeD δ2 vs)
    | none => none
def compM (fi : Me (List D)) (gt : Tg) (ft : Me Bool) (fe : Me Val) (vs : List Nat) : Me Val := fun δ => match fi δ with
  | some (ds, δ1) => if vs.all (plainAt δ1) then (compL gt ft fe vs ds (wipeD δ1 vs)).bind fun p => if szOk p.1.length then some (.ow (.list p.1), backD δ1 p.2 vs) else none else none
  | none => none
def toE (K : Fg) (f : Me Val) : TE := fun σ H Q => ∃ B, tOf K B f σ H Q
def ttE (K : Fg) (f : Me Bool) : TT := fun σ H Q => ∃ B, ttOf K B f σ H Q
def tgE (K : Fg) (ws : List Nat) (g : Tg) : TG := fun v σ H Q => ∃ B, tgOf K B ws g v σ H Q
theorem pe_E {X : Cx} {e : Expr} {f : Me Val} (h : ∀ B, DE X B e f) : PE X e (toE X.K f) := ⟨fun pins s σ H Q I ⟨B, w⟩ => (h B).run pins s σ H Q I w⟩
theorem pt_E {X : Cx} {e : Expr} {f : Me Bool} (h : ∀ B, DT X B e f) : PT X e (ttE X.K f) := ⟨fun pins s σ H Q I ⟨B, w⟩ => (h B).run pins s σ H Q I w⟩
theorem pg_E {X : Cx} {e : Expr} {ws : List Nat} {g : Tg} (h : ∀ B, DG X B ws e g) : PG X e (tgE X.K ws g) := ⟨fun pins s σ H v u Q I r ⟨B, w⟩ => (h B).run pins s σ H v u Q I r w⟩
abbrev DTs (X : Cx) (es : List Expr) (f : Me Bool) : Prop := PTs X es (ttE X.K f)
theorem dts_nil {X : Cx} : DTs X [] (mr true) := ⟨fun pins s σ H Q I w => pts_nil.run pins s σ H Q I (by
  obtain ⟨B, G, δ, r, δ', R, e, k⟩ := w
  cases e
  exact k G H (Same.refl _) R)⟩
theorem dts_one {X : Cx} {e : Expr} {f : Me Bool} (h : ∀ B, DT X B e f) : DTs X [e] f := pts_one (pt_E h)
section
variable {X : Cx} {B : Bs} {pos : Pos}
theorem lc_of {K : Fg} {ws vs : List Nat} {fi : Me (List D)} {gt : Tg} {ft : Me Bool} {fe : Me Val} (hw : ∀ i ∈ ws, i ∈ vs) : ∀ σ H Q, tOf K B (compM fi gt ft fe vs) σ H Q → tLc (tiOf K B fi) (tgE K ws gt) (ttE K ft) (toE K fe) vs σ H Q := by
  intro σ H Q q
  obtain ⟨G, δ, res, δ', R, e, k⟩ := q
  unfold compM at e
  cases hf : fi δ with
  | none => rw [hf] at e; cases e
  | some p =>
    obtain ⟨ds, δ1⟩ := p
    rw [hf] at e
    have e : (if vs.all (plainAt δ1) = true then (compL gt ft fe vs ds (wipeD δ1 vs)).bind fun p => if szOk p.1.length then some (Val.ow (.list p.1), backD δ1 p.2 vs) else none else none) = some (res, δ') := e
    by_cases hpl : vs.all (plainAt δ1) = true
    · rw [if_pos hpl] at e
      obtain ⟨⟨fin, δf⟩, e1, e⟩ := Option.bind_eq_some_iff.mp e
      obtain ⟨hsz, e⟩ := ite_some e
      cases e
      have hpl' : ∀ v ∈ vs, plainAt δ1 v = true := List.all_eq_true.mp hpl
      refine ⟨G, δ, ds, δ1, R, hf, fun J G1 H1 s1 R1 it D hD => ?_⟩
      have R0 : RelS K B G1 H1 (wipeD δ1 vs) (wipe σ vs) := R1.agree vs (wipe_length σ vs) fun i hi => wipe_out hi
      have hD0 : B.H0 D = none := R1.none0 hD
      have hDio : ∀ p ∈ B.io, p.2 ≠ D := fun p hp z => by
        obtain ⟨o, e⟩ := R1.iod p hp
        rw [z, hD0] at e
        cases e
      refine ⟨fun i m H => ∃ G δ acc as rest, m = ds.length - i ∧ i ≤ ds.length ∧ Same G1 G ∧ RelS K B G H δ (wipe σ vs) ∧ G D = none ∧ (∀ (i : Nat) (b : Bool) (d : DL.D), δ[i]? = some (.own b d) → (wipe σ vs)[i]? ≠ some (some (V.ref D))) ∧ H D = some (.lst acc) ∧ TrAll K G acc as ∧ compL gt ft fe vs (ds.drop i) δ = some (rest, δf) ∧ as ++ rest = fin,
        ⟨ds.length, G1, wipeD δ1 vs, [], [], fin, rfl, Nat.zero_le _, Same.refl _, R0.ex (Ex.push R0.same _ hD), R0.same.free hD, fun i b d q z => ?_, upd_same, .nil, e1, rfl⟩, ?_⟩
      · obtain ⟨a, e2, _, _, rt⟩ := R0.own i b d q
        rw [z] at e2
        cases e2
        obtain ⟨o, e3⟩ := rt.ex
        rw [hD] at e3
        cases e3
      rintro i m H2 ⟨G2, δ2, acc, as, rest, rfl, hi, s2, R2, g2, rt2, hacc, tacc, ec, efin⟩
      obtain ⟨it1, it2⟩ := it i G2 H2 s2 R2.same
      by_cases hlt : i < ds.length
      · rw [List.drop_eq_getElem_cons hlt] at ec
        obtain ⟨go, yl⟩ := it1 ds[i] (by simp [hlt])
        refine .inr ⟨go, fun H => ∃ G δ acc as rest, Same G1 G ∧ RelS K B G H δ (wipe σ vs) ∧ G D = none ∧ (∀ (i : Nat) (b : Bool) (d : DL.D), δ[i]? = some (.own b d) → (wipe σ vs)[i]? ≠ some (some (V.ref D))) ∧ H D = some (.lst acc) ∧ TrAll K G acc as ∧ compL gt ft fe vs (ds.drop (i + 1)) δ = some (rest, δf) ∧ as ++ rest = fin,
          fun H' ⟨G', δ3, acc', as', rest', a, b, c, d, e, f, g, h⟩ => ⟨ds.length - (i + 1), by omega, G', δ3, acc', as', rest', rfl, hlt, a, b, c, d, e, f, g, h⟩, fun x H3 y3 => ?_⟩
        obtain ⟨G3, x3, t3⟩ := yl x H3 y3
        have R3 := R2.ex x3
        have g3 : G3 D = none := by
          cases q : G3 D with
          | none => rfl
          | some o =>
            have := x3.nw D o q g2
            rw [hacc] at this
            cases this
        have h3 : H3 D = some (.lst acc) := x3.h _ _ hacc
        obtain ⟨δ4, e4, e5⟩ := Option.bind_eq_some_iff.mp ec
        have noLo : ¬ (blkB B G3 H3 δ2 (wipe σ vs)).lo D := fun ⟨j, d, q, z⟩ => rt2 j false d q z
        -- what holds of D behind the block's steps
        have keepD : ∀ {G4 H4 : Hp} {δ4 : DS} {σ4 : L2.St}, RelS K (blkB B G3 H3 δ2 (wipe σ vs)) G4 H4 δ4 σ4 → G4 D = none ∧ H4 D = some (.lst acc) ∧ (∀ (i : Nat) (b : Bool) (d : DL.D), δ4[i]? = some (.own b d) → σ4[i]? ≠ some (some (V.ref D))) := fun {G4 H4 δ4 σ4} R4 => by
          refine ⟨?_, R4.frame D _ h3 hDio noLo, fun j b d q z => ?_⟩
          · cases q : G4 D with
            | none => rfl
            | some o =>
              rcases R4.nw D o q g3 with w | w
              · have w : H3 D = none := w
                rw [h3] at w
                cases w
              · exact (noLo w).elim
          · obtain ⟨a, e6, _, m, _⟩ := R4.own j b d q
            rw [z] at e6
            cases e6
            cases b with
            | true => exact hDio _ (show (j, D) ∈ B.io from m) rfl
            | false =>
              rcases (show H3 D = none ∨ _ from m) with w | w
              · rw [h3] at w
                cases w
              · exact noLo w
        refine ⟨_, G3, δ2, .fz ds[i], δ4, R3.blk, t3, e4, fun σ4 G4 H4 s4 R4 off4 => ⟨wipe_off off4 hw, ?_⟩⟩
        have wp : wipe σ4 vs = wipe σ vs := wipe_off off4 hw
        have offw : ∀ j, j ∉ vs → (wipe σ vs)[j]? = σ4[j]? := fun j hj => by rw [← wp, wipe_out hj]
        have lenw : (wipe σ vs).length = σ4.length := by rw [← wp, wipe_length]
        cases hft : ft δ4 with
        | none => rw [hft] at e5; cases e5
        | some p =>
          obtain ⟨b, δ5⟩ := p
          rw [hft] at e5
          refine ⟨_, G4, δ4, b, δ5, R4, hft, fun G5 H5 s5 R5 => ?_⟩
          cases b with
          | false =>
            have e5 : compL gt ft fe vs (ds.drop (i + 1)) (wipeD δ5 vs) = some (rest, δf) := e5
            obtain ⟨k1, k2, k3⟩ := keepD R5
            refine (show (if false = true then _ else _) from iteF ?_)
            refine ⟨G5, wipeD δ5 vs, acc, as, rest, ((s2.trans x3.g).trans s4).trans s5, (R3.rebase R5).agree vs lenw offw, k1, fun j b d q z => ?_, k2, TrAll.mono ((x3.g.trans s4).trans s5) tacc, e5, efin⟩
            obtain ⟨q1, q2⟩ := wipeD_own q
            rw [offw j q2] at z
            exact k3 j b d q1 z
          | true =>
            have e5 : (match fe δ5 with
              | some (v, δ3) => (treeV v).bind fun e => (compL gt ft fe vs (ds.drop (i + 1)) (wipeD δ3 vs)).bind fun p => some (e :: p.1, p.2)
              | none => none) = some (rest, δf) := e5
            cases hfe : fe δ5 with
            | none => rw [hfe] at e5; cases e5
            | some p =>
              obtain ⟨v, δ6⟩ := p
              rw [hfe] at e5
              obtain ⟨y, ey, e5⟩ := Option.bind_eq_some_iff.mp e5
              obtain ⟨⟨rest', δf'⟩, e6, e5⟩ := Option.bind_eq_some_iff.mp e5
              cases e5
              refine (show (if true = true then _ else _) from iteT ?_)
              refine ⟨_, G5, δ5, v, δ6, R5, hfe, fun u G6 H6 s6 R6 v6 => ?_⟩
              obtain ⟨G7, s7, R7, v7⟩ := v6.freeze R6
              have ty : Tr K G7 u y := by
                cases v with
                | fz d => cases ey; exact v7
                | ow d => cases ey; exact v7
                | sl j => cases ey
              obtain ⟨k1, k2, k3⟩ := keepD R7
              have sg : Same G2 G7 := (((x3.g.trans s4).trans s5).trans s6).trans s7
              have hsz' : acc.length < sizeLine := by
                have h1 := szOk_le hsz
                have h2 : (as ++ y :: rest').length ≤ sizeLine := by rw [efin]; exact h1
                rw [List.length_append, List.length_cons, ← tacc.len] at h2
                omega
              have k3' : ∀ (j : Nat) (b : Bool) (d : DL.D), (wipeD δ6 vs)[j]? = some (.own b d) → (wipe σ vs)[j]? ≠ some (some (V.ref D)) := fun j b d q z => by
                obtain ⟨q1, q2⟩ := wipeD_own q
                rw [offw j q2] at z
                exact k3 j b d q1 z
              refine ⟨acc, k2, hsz', G7, wipeD δ6 vs, acc ++ [u], as ++ [y], rest', s2.trans sg, ((R3.rebase R7).agree vs lenw offw).apart k1 hD0 k3', k1, k3', upd_same, (TrAll.mono sg tacc).append (.cons ty .nil), e6, by rw [List.append_assoc]; exact efin⟩
      · have hz : i = ds.length := by omega
        subst hz
        rw [List.drop_length] at ec
        cases ec
        rw [List.append_nil] at efin
        subst efin
        refine .inl ⟨it2 (Nat.le_refl _), ?_⟩
        refine k _ G2 H2 (s1.trans s2) (R1.back R2 s2 hpl') ⟨D, rfl, g2, .inl hD0, .lst hacc tacc, fun j b d q z => ?_⟩
        rcases backD_get q with ⟨a, c⟩ | ⟨a, c | c⟩
        · rw [← wipe_out a] at z
          exact rt2 j b d c z
        · have := hpl' j a
          unfold plainAt at this
          rw [c] at this
          cases this
        · cases c
    · rw [if_neg hpl] at e
      cases e
theorem de_lc {elt tg iter : Expr} {ifs : List Expr} {scope : Scope} {own : List (Str × Nat)} {ws : List Nat} {fi : Me (List D)} {gt : Tg} {ft : Me Bool} {fe : Me Val} (hc : X.calm = true) (hN : X.N.Nodup) (hi : DI X B tg iter fi) (ok : BlkOk X.N X.env.scope scope own)
    (hw : ∀ i ∈ ws, i ∈ own.map (·.2))
    (hg : ∀ (s : Shared) (H : Hp) (C : Addr) (cl : List (Str × Addr)) (fp : List Addr) (B : Bs), DG (X.blk s H scope (compEnvC scope cl C X.env) fp) B ws tg gt)
    (ht : ∀ (s : Shared) (H : Hp) (C : Addr) (cl : List (Str × Addr)) (fp : List Addr), DTs (X.blk s H scope (compEnvC scope cl C X.env) fp) ifs ft)
    (he : ∀ (s : Shared) (H : Hp) (C : Addr) (cl : List (Str × Addr)) (fp : List Addr) (B : Bs), DE (X.blk s H scope (compEnvC scope cl C X.env) fp) B elt fe)
    (hs : ∀ x, foldedSetIterable iter X.env x = pure x := by intro _; rfl) :
    DE X B (.ListComp elt [⟨tg, iter, ifs, 0⟩] scope pos) (compM fi gt ft fe (own.map (·.2))) :=
  PE.weak (pe_lc hc hN hi ok (fun s H C cl fp => pg_E (hg s H C cl fp)) ht (fun s H C cl fp => pe_E (he s H C cl fp)) hs) (lc_of hw)
/-- y = [..] with a plain local y -/
theorem ss_setLc {i : Nat} {y : Str} {py spos : Pos} {elt tg iter : Expr} {ifs : List Expr} {scope : Scope} {own : List (Str × Nat)} {ws : List Nat} {fi : Me (List D)} {gt : Tg} {ft : Me Bool} {fe : Me Val} (hc : X.calm = true) (hN : X.N.Nodup) (hy : X.N[i]? = some y) (hyl : X.env.scope.names.lookup y = some .local)
    (hsw : swapsWith (.ListComp elt [⟨tg, iter, ifs, 0⟩] scope pos) (some (.Name y py)) spos.line X.env = pure true) (hi : DI X B tg iter fi) (ok : BlkOk X.N X.env.scope scope own)
    (hw : ∀ i ∈ ws, i ∈ own.map (·.2))
    (hg : ∀ (s : Shared) (H : Hp) (C : Addr) (cl : List (Str × Addr)) (fp : List Addr) (B : Bs), DG (X.blk s H scope (compEnvC scope cl C X.env) fp) B ws tg gt)
    (ht : ∀ (s : Shared) (H : Hp) (C : Addr) (cl : List (Str × Addr)) (fp : List Addr), DTs (X.blk s H scope (compEnvC scope cl C X.env) fp) ifs ft)
    (he : ∀ (s : Shared) (H : Hp) (C : Addr) (cl : List (Str × Addr)) (fp : List Addr) (B : Bs), DE (X.blk s H scope (compEnvC scope cl C X.env) fp) B elt fe)
    (hs : ∀ x, foldedSetIterable iter X.env x = pure x := by intro _; rfl) :
    SS X B (.Assign [.Name y py] (.ListComp elt [⟨tg, iter, ifs, 0⟩] scope pos) spos) (setS i (compM fi gt ft fe (own.map (·.2)))) :=
  PS.weak (ps_setLc hc hN hy hyl hsw hi ok (fun s H C cl fp => pg_E (hg s H C cl fp)) ht (fun s H C cl fp => pe_E (he s H C cl fp)) hs) fun E σ H q => by
    refine lc_of (B := B) (gt := gt) (ft := ft) (fe := fe) hw σ H _ ?_
    obtain ⟨G, δ, fl, δ', R, e, k⟩ := q
    unfold setS at e
    cases hg : compM fi gt ft fe (own.map (·.2)) δ with
    | none => rw [hg] at e; cases e
    | some p =>
      obtain ⟨v, δ1⟩ := p
      rw [hg] at e
      obtain ⟨δ2, e2, e3⟩ := Option.bind_eq_some_iff.mp e
      cases e3
      exact ⟨G, δ, v, δ1, R, hg, fun u G1 H1 s1 R1 v1 => k _ G1 H1 s1 (R1.set v1 e2)⟩
end
end DL
end
section
set_option maxRecDepth 100000
set_option maxHeartbeats 4000000
namespace DL
open PySem PySem.Spec L2
open PyProof.Rows hiding St

/-! ### defs, called where no repr is under way -/
structure FnG (P : Program) (w : World) (K : Fg) (mg : Str → Option Value) (base : Heap) (k : Nat) (f : Addr) (fd : FuncData) (ps : List Str) (sp : Sp) : Prop where
  len : ∀ vs H Q E, sp vs H Q E → vs.length = ps.length
  run : ∀ (A : Around) (outer : List Env) (s : Shared) (H : Hp) (args : Args) (us : List Value) (vs : List V) (Q : VK) (E : XK), Room k A → A.guards = some [] → Env0 P w K mg base A outer s H → BindsTo s fd args (ps.zip us) → Vals vs us → sp vs H Q E →
    codeAny (model P w) A (.call (.ref f) args) (CR CX0 outer P w H s Q E) s
theorem FnG.mono {P : Program} {w : World} {K : Fg} {mg : Str → Option Value} {base : Heap} {j k : Nat} {f : Addr} {fd : FuncData} {ps : List Str} {sp : Sp} (F : FnG P w K mg base j f fd ps sp) (h : j ≤ k) : FnG P w K mg base k f fd ps sp :=
  ⟨F.len, fun A o s H args us vs Q E hr => F.run A o s H args us vs Q E (hr.mono h)⟩
/-- the context in a def's body -/
abbrev bodyX (P : Program) (w : World) (K : Fg) (mg : Str → Option Value) (base : Heap) (N : List Str) (qual : Str) (st : Stmt) (f : Addr) (cdv : Value) (A : Around) (outer : List Env) (s : Shared) (H : Hp) (E : XK) : Cx := (cxOf CX0 P w K mg base N qual (defScope st) f cdv A outer s H E).nox
theorem fn_ofG {P : Program} {w : World} {K : Fg} {mg : Str → Option Value} {base : Heap} {x qual : Str} {st : Stmt} {f : Addr} {fd : FuncData} {N ps : List Str} {k : Nat} {sp : Sp} (F : L2.Fun K x qual st f fd) (S : FnScope N ps (defScope st)) (len : ∀ vs H Q E, sp vs H Q E → vs.length = ps.length)
    (body : ∀ (cdv : Value) (A : Around) (outer : List Env) (s : Shared) (H : Hp) (vs : List V) (Q : VK) (E : XK), Room k (A.deeper (envOfC qual (defScope st) s.heap.objs.size f cdv)) → A.guards = some [] → sp vs H Q E →
      ∃ t, PSs (bodyX P w K mg base N qual st f cdv A outer s H E) (defBody st) t ∧ t { nx := fun _ H' => Q .non H', rt := Q } (start N vs) H) : FnG P w K mg base (k + 1) f fd ps sp := by
  obtain ⟨_, _, kV, doc, pm, an, cdv, ct, _, efd, hlook, hcode⟩ := F.ex
  subst efd
  refine ⟨len, fun A outer s H args us vs Q E room guards env0 bound rel prom => ?_⟩
  have long := len _ _ _ _ prom
  have kin : K.In s.heap := env0.mod.kin.keeps fun b o e => (env0.bs b o e).1
  have nolim : s.heap.NoLimit := env0.mod.nolimit.keeps fun b o e => (env0.bs b o e).1
  have kinds : ∀ y ∈ ps.zip us, (defScope st).names.lookup y.1 = some .local ∨ ((defScope st).names.lookup y.1 = some .cell ∧ ((cellsFrom (s.heap.objs.size + 1) (defScope st).names []).lookup y.1).isSome = true) := by
    rintro ⟨n, v⟩ hy
    have hn := S.par n (List.of_mem_zip hy).1
    exact hn.imp id fun q => ⟨q, PySem.W.cellsFrom_some _ _ _ (.inl q)⟩
  refine codeAny_call_function room.depth (kin _ _ hlook) rfl S.co S.gen rfl (PySem.W.codeRec_of kin hcode) (bound _ _ _ _ (wpAny_newFunctionEnv_cells S.kind kinds ?_))
  intro env henv s1 called
  subst henv
  obtain ⟨t, walk, reads⟩ := body cdv A outer s H vs Q E (room.deeper _) guards prom
  have J := inv_start (CX := CX0) (E := E) (mg := mg) (base := base) (P := P) (w := w) (K := K) (qual := qual) (f := f) (cd := cdv) (H := H) S room.hd env0 long rel called
  refine ⟨nolim.keeps called.toInCall.keep, codeAny_func (wpAny_mono (walk.nox.run [] s1 (start N vs) H _ J reads) (fun fl s' ends => ?_) fun e s' z => z)⟩
  have close : ∀ (σ' : L2.St) (H' : Hp) (v : V) (u : Value), Inv (cxOf CX0 P w K mg base N qual (defScope st) f cdv A outer s H E) [] σ' H' s' → RelV v u → Q v H' → CE outer P w H s Q u s' := by
    intro σ' H' v u I' rv q
    exact ⟨v, H', I'.os, I'.bare, I'.base, I'.hok, rv, q⟩
  match fl, ends with
  | .ret u, ⟨v, σ', H', I', rv, q⟩ => exact close σ' H' v u I' rv q
  | .next, ⟨σ', H', I', q⟩ => exact close σ' H' V.non Value.none I' rfl q
  | .brk, ⟨_, _, _, q⟩ => exact q.elim
  | .cont, ⟨_, _, _, q⟩ => exact q.elim

section
variable {X : Cx} {B : Bs} {pos : Pos} {k : Nat} {f : Addr} {fd : FuncData} {ps : List Str} {sp : Sp}
theorem callG {pins : List (Addr × Obj)} {σ : L2.St} {H : Hp} {s : Shared} {Q : VK} {args : Args} {us : List Value} {vs : List V} (F : FnG X.prog X.w X.K X.mg X.base k f fd ps sp) (room : Room k X.A) (guards : X.A.guards = some []) (I : Inv X pins σ H s) (hb : BindsTo s fd args (ps.zip us)) (r : Vals vs us) (h : sp vs H Q E0) :
    codeAny (model X.prog X.w) X.A (.call (.ref f) args) (fun r s' => ∃ u, r = .ok (.ret u) ∧ EP X pins σ Q u s') s := by
  refine codeAny_mono (F.run X.A X.stack s H args us vs Q E0 room guards I.env0 hb r h) fun res s' got => ?_
  match res, got with
  | .error e, z => exact False.elim z
  | .ok (.ret u), z => exact ⟨u, rfl, I.after z⟩
  | .ok .next, z => exact False.elim z
  | .ok .brk, z => exact False.elim z
  | .ok .cont, z => exact False.elim z
/-- the arguments in the parameters' sequence -/
def permL {α : Type} (is : List Nat) (xs : List α) : List α := is.filterMap fun i => xs[i]?
theorem permL_vals {vs : List V} {us : List Value} (r : Vals vs us) : ∀ is : List Nat, Vals (permL is vs) (permL is us)
  | [] => .nil
  | i :: is => by
    have ih := permL_vals r is
    unfold permL
    rw [List.filterMap_cons, List.filterMap_cons]
    cases hv : vs[i]? with
    | none =>
      rw [r.none_of hv]
      exact ih
    | some v =>
      obtain ⟨u, hu, ru⟩ := r.get hv
      rw [hu]
      exact .cons ru ih
/-- how a call's arguments come to the parameters: n by place, the others by the names ks -/
def BindK (K : Fg) (fd : FuncData) (ps : List Str) (n : Nat) (ks : List Str) (is : List Nat) : Prop := ∀ (s : Shared) (us ws : List Value), us.length = n → ws.length = ks.length → BindsTo s fd ⟨us, ks.zip ws⟩ (ps.zip (permL is (us ++ ws)))
theorem bindK_of {K : Fg} {x qual : Str} {st : Stmt} {f : Addr} {fd : FuncData} {ps ks : List Str} {n : Nat} {is : List Nat} (F : L2.Fun K x qual st f fd)
    (h : ∀ (kV doc pm : Value) (an : Option Addr) (cdv ct : Value) (us ws : List Value), us.length = n → ws.length = ks.length → bindArgs (PySem.W.fnOf x qual (defArgs st) (defBody st) (defScope st) .none kV doc pm an cdv ct) ⟨us, ks.zip ws⟩ = pure (ps.zip (permL is (us ++ ws)))) : BindK K fd ps n ks is := by
  obtain ⟨_, _, kV, doc, pm, an, cdv, ct, _, efd, _, _⟩ := F.ex
  subst efd
  exact fun s us ws h1 h2 => .of_eq (h kV doc pm an cdv ct us ws h1 h2)
/-- a call: by place, by names -/
def tCallK (n m : Nat) (sp : Sp) (is : List Nat) (t tk : TA) : TE := fun σ H Q => t σ H fun vs H1 => tk σ H1 fun zs H2 => vs.length = n ∧ zs.length = m ∧ sp (permL is (vs ++ zs)) H2 Q E0
theorem callK_of {pins : List (Addr × Obj)} {σ : L2.St} {H : Hp} {s : Shared} {Q : VK} {n : Nat} {ks : List Str} {is : List Nat} {us ws : List Value} {vs zs : List V} (F : FnG X.prog X.w X.K X.mg X.base k f fd ps sp) (room : Room k X.A) (guards : X.A.guards = some []) (hb : BindK X.K fd ps n ks is) (I : Inv X pins σ H s) (r : Vals vs us) (r2 : Vals zs ws) (l1 : vs.length = n) (l2 : zs.length = ks.length) (h : sp (permL is (vs ++ zs)) H Q E0) :
    wpAny (model X.prog X.w) X.A (call (.ref f) us (ks.zip ws)) (EP X pins σ Q) X.xe s := by
  refine wpAny_call (codeAny_mono (callG F room guards I (hb s us ws (r.length.symm.trans l1) (r2.length.symm.trans l2)) (permL_vals (r.append r2) is) h) ?_)
  rintro res s' ⟨u, rfl, z⟩
  exact z
theorem pe_callK {x : Str} {p : Pos} {n : Nat} {ks : List Str} {is : List Nat} {e : Expr} {es : List Expr} {kws : List Keyword} {t tk : TA} (F : FnG X.prog X.w X.K X.mg X.base k f fd ps sp) (room : Room k X.A) (guards : X.A.guards = some []) (hb : BindK X.K fd ps n ks is) (hg : Gl X x) (hm : X.mg x = some (.ref f)) (hk : PySem.W.keepIn X.K (.ref f) = true)
    (ha : PA X (e :: es) t) (hkw : PK X kws tk) (hall : (backToKw pos (keywordEach kws X.env)).all (·.1.isSome) = true := by rfl) (hks : (backToKw pos (keywordEach kws X.env)).filterMap (·.1) = ks := by rfl) (hdb : (x == ("__debug__" : Str)) = false := by decide) (he : starEach (e :: es) X.env = (false, eval e X.env) :: starEach es X.env := by rfl)
    (hpl : ((backTo pos (starEach (e :: es) X.env)).any (·.1) || (backToKw pos (keywordEach kws X.env)).any (·.1.isNone)) = false := by rfl) : PE X (.Call (.Name x p) (e :: es) kws pos) (tCallK n ks.length sp is t tk) := by
  refine ⟨fun pins s σ H Q I h => wpAny_Call_Name_kw (ld_glob I hg hm ?_ hdb)⟩
  refine PySem.W.callWith_KW (h₀ := X.base) I.ok.mod.kin hk hall (thn (ha.run pos pins s σ H _ I h) ?_) hpl he
  rintro us s1 ⟨vs, H1, I1, r1, q1⟩
  refine thn (hkw.run pos pins s1 σ H1 _ I1 q1) ?_
  rintro ws s2 ⟨zs, H2, I2, r2, l1, l2, q2⟩
  rw [hks]
  exact ⟨I2.kIn, callK_of F room guards hb I2 r1 r2 l1 l2 q2⟩
theorem pe_callK0 {x : Str} {p : Pos} {ks : List Str} {is : List Nat} {kws : List Keyword} {tk : TA} (F : FnG X.prog X.w X.K X.mg X.base k f fd ps sp) (room : Room k X.A) (guards : X.A.guards = some []) (hb : BindK X.K fd ps 0 ks is) (hg : Gl X x) (hm : X.mg x = some (.ref f)) (hk : PySem.W.keepIn X.K (.ref f) = true)
    (hkw : PK X kws tk) (hall : (backToKw pos (keywordEach kws X.env)).all (·.1.isSome) = true := by rfl) (hks : (backToKw pos (keywordEach kws X.env)).filterMap (·.1) = ks := by rfl) (hdb : (x == ("__debug__" : Str)) = false := by decide)
    (hpl : ((backTo pos (starEach [] X.env)).any (·.1) || (backToKw pos (keywordEach kws X.env)).any (·.1.isNone)) = false := by rfl) : PE X (.Call (.Name x p) [] kws pos) (tCallK 0 ks.length sp is tNil tk) := by
  refine ⟨fun pins s σ H Q I h => wpAny_Call_Name_kw (ld_glob I hg hm ?_ hdb)⟩
  refine PySem.W.callWith_KW0 (h₀ := X.base) I.ok.mod.kin hk hall (thn (hkw.run pos pins s σ H _ I h) ?_) hpl
  rintro ws s2 ⟨zs, H2, I2, r2, l1, l2, q2⟩
  rw [hks]
  exact ⟨I2.kIn, callK_of (us := []) F room guards hb I2 .nil r2 l1 l2 q2⟩
/-- keywords' values -/
abbrev DK (X : Cx) (B : Bs) (kws : List Keyword) (f : Me (List Val)) : Prop := PK X kws (taOf X.K B f)
theorem dk_nil : DK X B [] nilA := ⟨fun pos pins s σ H Q I h => pk_nil.run pos pins s σ H Q I (by
  obtain ⟨G, δ, r, δ', R, e, z⟩ := h
  cases e
  exact z [] G H (Same.refl _) R .nil)⟩
theorem dk_cons {nm : Option Str} {kpos : Pos} {e : Expr} {kws : List Keyword} {g : Me Val} {h : Me (List Val)} (ha : DE X B e g) (hr : DK X B kws h) : DK X B (⟨nm, e, kpos⟩ :: kws) (consA g h) := ⟨fun pos pins s σ H Q I q => (pk_cons ha hr).run pos pins s σ H Q I (by
  obtain ⟨G, δ, r, δ', R, e, z⟩ := q
  obtain ⟨x, δ1, e1, e⟩ := mb_some e
  obtain ⟨xs, δ2, e2, e⟩ := mb_some e
  cases e
  refine ⟨G, δ, x, δ1, R, e1, fun v G1 H1 s1 R1 v1 => ?_⟩
  obtain ⟨G1', s1', R1', v1'⟩ := v1.freeze R1
  refine ⟨G1', δ1, xs, _, R1', e2, fun vs G2 H2 s2 R2 v2 => ?_⟩
  exact z (v :: vs) G2 H2 ((s1.trans s1').trans s2) R2 (.cons (RV.stay s2 v1') v2))⟩

/-! ### promises by functions of trees -/
/-- hands back F of the arguments, changes nothing that stood -/
def spF (K : Fg) (n : Nat) (F : List D → Option Val) : Sp := fun vs H Q _ => ∃ (G : Hp) (ds : List D) (r : Val), vs.length = n ∧ Same G H ∧ TrAll K G vs ds ∧ F ds = some r ∧ ∀ v G' H', Ex G H G' H' → RO K G' H H' v r → Q v H'
/-- .. and changes its first argument, a list of the caller's own -/
def spI (K : Fg) (n : Nat) (F : D → List D → Option (Val × D)) : Sp := fun vs H Q _ => ∃ (G : Hp) (a : Addr) (vr : List V) (d : D) (ds : List D) (r : Val) (d' : D), vs.length = n ∧ vs = .ref a :: vr ∧ Same G H ∧ G a = none ∧ Root K G H a d ∧ TrAll K G vr ds ∧ F d ds = some (r, d') ∧
  ∀ v G' H', Same G G' → Same G' H' → (∀ b o, G' b = some o → G b = none → H b = none) → (∀ b o, H b = some o → b ≠ a → H' b = some o) → G' a = none → Root K G' H' a d' → RO K G' H H' v r → Q v H'
def callP (is : List Nat) (F : List D → Option Val) (fa fk : Me (List Val)) : Me Val := mb fa fun xs => mb fk fun ys => mo fun δ => match fzs (xs ++ ys) with
  | some ds => F (permL is ds)
  | none => none
theorem fzs_append : ∀ {xs ys : List Val} {ds : List D}, fzs (xs ++ ys) = some ds → ∃ as bs, fzs xs = some as ∧ fzs ys = some bs ∧ ds = as ++ bs
  | [], _, _, h => ⟨[], _, rfl, h, rfl⟩
  | .sl _ :: _, _, _, h => by cases h
  | .fz d :: r, _, _, h => by
    obtain ⟨es, e1, h⟩ := Option.bind_eq_some_iff.mp h
    cases h
    obtain ⟨as, bs, e2, e3, rfl⟩ := fzs_append e1
    exact ⟨d :: as, bs, by unfold fzs; rw [e2]; rfl, e3, rfl⟩
  | .ow d :: r, _, _, h => by
    obtain ⟨es, e1, h⟩ := Option.bind_eq_some_iff.mp h
    cases h
    obtain ⟨as, bs, e2, e3, rfl⟩ := fzs_append e1
    exact ⟨d :: as, bs, by unfold fzs; rw [e2]; rfl, e3, rfl⟩
theorem permL_tr {K : Fg} {G : Hp} {vs : List V} {ds : List D} (t : TrAll K G vs ds) : ∀ is : List Nat, TrAll K G (permL is vs) (permL is ds)
  | [] => .nil
  | i :: is => by
    have ih := permL_tr t is
    unfold permL
    rw [List.filterMap_cons, List.filterMap_cons]
    cases hv : vs[i]? with
    | none =>
      have : ds[i]? = none := by
        have := t.len
        rw [List.getElem?_eq_none_iff] at hv ⊢
        omega
      rw [this]
      exact ih
    | some v =>
      obtain ⟨u, hu, ru⟩ := t.getV hv
      rw [hu]
      exact .cons ru ih
/-- so many values -/
def LenA (fa : Me (List Val)) (n : Nat) : Prop := ∀ δ xs δ', fa δ = some (xs, δ') → xs.length = n
theorem lenA_nil : LenA nilA 0 := fun δ xs δ' h => by cases h; rfl
theorem lenA_cons {f : Me Val} {g : Me (List Val)} {n : Nat} (h : LenA g n) : LenA (consA f g) (n + 1) := fun δ xs δ' e => by
  obtain ⟨x, δ1, e1, e⟩ := mb_some e
  obtain ⟨ys, δ2, e2, e⟩ := mb_some e
  cases e
  rw [List.length_cons, h _ _ _ e2]
theorem callP_of {K : Fg} {n m q : Nat} {is : List Nat} {F : List D → Option Val} {fa fk : Me (List Val)} (hn : LenA fa n) (hm : LenA fk m) (hq : ∀ {α : Type} (xs : List α), xs.length = n + m → (permL is xs).length = q) : ∀ σ H Q, tOf K B (callP is F fa fk) σ H Q → tCallK n m (spF K q F) is (taOf K B fa) (taOf K B fk) σ H Q := by
  intro σ H Q hz
  obtain ⟨G, δ, res, δ', R, e, z⟩ := hz
  obtain ⟨xs, δ1, e1, e⟩ := mb_some e
  obtain ⟨ys, δ2, e2, e⟩ := mb_some e
  obtain ⟨e3, rfl⟩ := mo_some e
  refine ⟨G, δ, xs, δ1, R, e1, fun vs G1 H1 s1 R1 v1 => ⟨G1, δ1, ys, _, R1, e2, fun ws G2 H2 s2 R2 v2 => ?_⟩⟩
  split at e3
  · rename_i ds hd
    obtain ⟨as, bs, f1, f2, rfl⟩ := fzs_append hd
    have t1 := (v1.stay (B := B) (G' := G2) (H' := H2) (δ' := δ') s2).trees f1
    have t2 := v2.trees f2
    have l1 : vs.length = n := v1.length.trans (hn _ _ _ e1)
    have l2 : ws.length = m := v2.length.trans (hm _ _ _ e2)
    exact ⟨l1, l2, G2, _, res, hq _ (by rw [List.length_append, l1, l2]), R2.same, permL_tr (t1.append t2) is, e3, fun v G' H' x ro => z v G' H' ((s1.trans s2).trans x.g) (R2.ex x) (ro.rv R2)⟩
  · cases e3
theorem de_call {x : Str} {p : Pos} {q : Nat} {e : Expr} {es : List Expr} {F : List D → Option Val} {fa : Me (List Val)} {n : Nat} {ks : List Str} {is : List Nat} {kws : List Keyword} {fk : Me (List Val)} (Fn : FnG X.prog X.w X.K X.mg X.base k f fd ps (spF X.K q F)) (room : Room k X.A) (guards : X.A.guards = some []) (hb : BindK X.K fd ps n ks is) (hg : Gl X x) (hm : X.mg x = some (.ref f)) (hk : PySem.W.keepIn X.K (.ref f) = true)
    (ha : DA X B (e :: es) fa) (hkw : DK X B kws fk) (hn : LenA fa n) (hl : LenA fk ks.length) (hq : ∀ {α : Type} (xs : List α), xs.length = n + ks.length → (permL is xs).length = q) (hall : (backToKw pos (keywordEach kws X.env)).all (·.1.isSome) = true := by rfl) (hks : (backToKw pos (keywordEach kws X.env)).filterMap (·.1) = ks := by rfl) (hdb : (x == ("__debug__" : Str)) = false := by decide) (he : starEach (e :: es) X.env = (false, eval e X.env) :: starEach es X.env := by rfl)
    (hpl : ((backTo pos (starEach (e :: es) X.env)).any (·.1) || (backToKw pos (keywordEach kws X.env)).any (·.1.isNone)) = false := by rfl) : DE X B (.Call (.Name x p) (e :: es) kws pos) (callP is F fa fk) :=
  PE.weak (pe_callK Fn room guards hb hg hm hk ha hkw hall hks hdb he hpl) (callP_of hn hl hq)
theorem de_call0 {x : Str} {p : Pos} {q : Nat} {F : List D → Option Val} {ks : List Str} {is : List Nat} {kws : List Keyword} {fk : Me (List Val)} (Fn : FnG X.prog X.w X.K X.mg X.base k f fd ps (spF X.K q F)) (room : Room k X.A) (guards : X.A.guards = some []) (hb : BindK X.K fd ps 0 ks is) (hg : Gl X x) (hm : X.mg x = some (.ref f)) (hk : PySem.W.keepIn X.K (.ref f) = true)
    (hkw : DK X B kws fk) (hl : LenA fk ks.length) (hq : ∀ {α : Type} (xs : List α), xs.length = 0 + ks.length → (permL is xs).length = q) (hall : (backToKw pos (keywordEach kws X.env)).all (·.1.isSome) = true := by rfl) (hks : (backToKw pos (keywordEach kws X.env)).filterMap (·.1) = ks := by rfl) (hdb : (x == ("__debug__" : Str)) = false := by decide)
    (hpl : ((backTo pos (starEach [] X.env)).any (·.1) || (backToKw pos (keywordEach kws X.env)).any (·.1.isNone)) = false := by rfl) : DE X B (.Call (.Name x p) [] kws pos) (callP is F nilA fk) :=
  PE.weak (pe_callK0 Fn room guards hb hg hm hk hkw hall hks hdb hpl) fun σ H Q h => by
    refine callP_of (n := 0) lenA_nil hl hq σ H Q h |> fun z => ?_
    obtain ⟨G, δ, xs, δ1, R, e1, z⟩ := z
    cases e1
    exact z [] G H (Same.refl _) R .nil
end
end DL
end
section
set_option maxRecDepth 100000
set_option maxHeartbeats 4000000
namespace DL
open PySem PySem.Spec L2
open PyProof.Rows hiding St

section
variable {X : Cx} {B : Bs} {pos : Pos} {k : Nat} {f : Addr} {fd : FuncData} {ps : List Str} {sp : Sp}
/-! ### a call that reads lists of one's own and hands back what is flat -/
def bors (δ : DS) : List Val → Option (List D)
  | [] => some []
  | .fz d :: rs => (bors δ rs).bind fun ds => some (d :: ds)
  | .ow d :: rs => (bors δ rs).bind fun ds => some (d :: ds)
  | .sl i :: rs => match δ[i]? with
    | some (.own _ d) => (bors δ rs).bind fun ds => some (d :: ds)
    | _ => none
open Classical in
/-- the roots of one's own lists lent -/
noncomputable def lent (G H : Hp) (δ : DS) (σ : L2.St) : Hp := fun a => if (∃ (i : Nat) (b : Bool) (d : D), δ[i]? = some (.own b d) ∧ σ[i]? = some (some (V.ref a))) then H a else G a
theorem lent_g {K : Fg} {G H : Hp} {δ : DS} {σ : L2.St} (R : RelS K B G H δ σ) : Same G (lent G H δ σ) := fun a o e => by
  unfold lent
  split
  · exact R.same _ _ e
  · exact e
theorem lent_h {K : Fg} {G H : Hp} {δ : DS} {σ : L2.St} (R : RelS K B G H δ σ) : Same (lent G H δ σ) H := fun a o e => by
  unfold lent at e
  split at e
  · exact e
  · exact R.same _ _ e
theorem lent_tr {K : Fg} {G H : Hp} {δ : DS} {σ : L2.St} (R : RelS K B G H δ σ) {i : Nat} {b : Bool} {d : D} {v : V} (q : δ[i]? = some (.own b d)) (z : σ[i]? = some (some v)) : Tr K (lent G H δ σ) v d := by
  obtain ⟨a, e1, n, m, r⟩ := R.own i b d q
  rw [e1] at z
  cases z
  have hl : lent G H δ σ a = H a := by
    unfold lent
    rw [if_pos ⟨i, b, d, q, e1⟩]
  cases r with
  | lst x y => exact .lst (hl.trans x) (TrAll.mono (lent_g R) y)
  | dic x y => exact .dic (hl.trans x) (TrKV.mono (lent_g R) y)
theorem RVs.lent {K : Fg} {G H : Hp} {δ : DS} {σ : L2.St} (R : RelS K B G H δ σ) : ∀ {vs : List V} {rs : List Val} {ds : List D}, RVs K B G H δ σ vs rs → bors δ rs = some ds → TrAll K (DL.lent G H δ σ) vs ds
  | _, _, _, .nil, h => by cases h; exact .nil
  | _, _, _, .cons (b := r) a b, h => by
    cases r with
    | fz d =>
      obtain ⟨es, h2, h⟩ := Option.bind_eq_some_iff.mp h
      cases h
      exact .cons (Tr.mono (lent_g R) a) (RVs.lent R b h2)
    | ow d =>
      obtain ⟨es, h2, h⟩ := Option.bind_eq_some_iff.mp h
      cases h
      exact .cons (Tr.mono (lent_g R) a) (RVs.lent R b h2)
    | sl i =>
      unfold bors at h
      split at h
      · rename_i b' d q
        obtain ⟨es, h2, h⟩ := Option.bind_eq_some_iff.mp h
        cases h
        exact .cons (lent_tr R q a) (RVs.lent R b h2)
      · cases h
def flatV : Val → Bool
  | .fz d => flat d
  | _ => false
/-- flat, or a new list of what is flat -/
def flatW : Val → Bool
  | .fz d => flat d
  | .ow (.list ds) => ds.all flat
  | _ => false
theorem TrAll.flats {K : Fg} {H H' : Hp} : ∀ {vs : List V} {ds : List D}, TrAll K H vs ds → ds.all flat = true → TrAll K H' vs ds
  | _, _, .nil, _ => .nil
  | _, _, .cons a b, h => by
    have h : (flat _ && _) = true := h
    rw [Bool.and_eq_true] at h
    exact .cons (a.flat h.1) (TrAll.flats b h.2)
def callL (is : List Nat) (F : List D → Option Val) (fa : Me (List Val)) : Me Val := mb fa fun xs => mo fun δ => (bors δ xs).bind fun ds => (F (permL is ds)).bind fun r => if flatW r then some r else none
theorem flatW_rv {K : Fg} {G1 G' H1 H' : Hp} {δ : DS} {σ : L2.St} (R : RelS K B G1 H1 δ σ) {v : V} {r : Val} (ro : RO K G' H1 H' v r) (hf : flatW r = true) : RV K B G1 H' δ σ v r := by
  cases r with
  | fz d => exact Tr.flat ro hf
  | sl i => cases hf
  | ow d =>
    obtain ⟨a, e, n, -, rt⟩ := ro
    cases rt with
    | lst h t => exact RO.rv R ⟨a, e, n, R.same.free n, .lst h (t.flats hf)⟩
    | dic h t => cases hf
theorem callL_of {K : Fg} {n q : Nat} {is : List Nat} {F : List D → Option Val} {fa : Me (List Val)} (hn : LenA fa n) (hq : ∀ {α : Type} (xs : List α), xs.length = n → (permL is xs).length = q) : ∀ σ H Q, tOf K B (callL is F fa) σ H Q → tCallK n 0 (spF K q F) is (taOf K B fa) tNil σ H Q := by
  intro σ H Q hz
  obtain ⟨G, δ, res, δ', R, e, z⟩ := hz
  obtain ⟨xs, δ1, e1, e⟩ := mb_some e
  obtain ⟨e3, rfl⟩ := mo_some e
  obtain ⟨ds, e4, e3⟩ := Option.bind_eq_some_iff.mp e3
  obtain ⟨r, e5, e3⟩ := Option.bind_eq_some_iff.mp e3
  obtain ⟨hf, rfl⟩ := ite_some e3
  refine ⟨G, δ, xs, _, R, e1, fun vs G1 H1 s1 R1 v1 => ?_⟩
  have t1 := v1.lent R1 e4
  have l1 : vs.length = n := v1.length.trans (hn _ _ _ e1)
  refine ⟨l1, rfl, lent G1 H1 δ' σ, permL is ds, r, ?_, lent_h R1, ?_, e5, fun v G' H' x ro => ?_⟩
  · rw [List.append_nil]
    exact hq _ l1
  · rw [List.append_nil]
    exact permL_tr t1 is
  · have x2 : Ex G1 H1 G1 H' := ⟨Same.refl _, R1.same.trans x.h, x.h, fun a o h n => by rw [h] at n; cases n⟩
    exact z v G1 H' s1 (R1.ex x2) (flatW_rv R1 ro hf)
theorem de_callL {x : Str} {p : Pos} {q n : Nat} {e : Expr} {es : List Expr} {F : List D → Option Val} {fa : Me (List Val)} {is : List Nat} (Fn : FnG X.prog X.w X.K X.mg X.base k f fd ps (spF X.K q F)) (room : Room k X.A) (guards : X.A.guards = some []) (hb : BindK X.K fd ps n [] is) (hg : Gl X x) (hm : X.mg x = some (.ref f)) (hk : PySem.W.keepIn X.K (.ref f) = true)
    (ha : DA X B (e :: es) fa) (hn : LenA fa n) (hq : ∀ {α : Type} (xs : List α), xs.length = n → (permL is xs).length = q) (hall : (backToKw pos (keywordEach [] X.env)).all (·.1.isSome) = true := by rfl) (hks : (backToKw pos (keywordEach [] X.env)).filterMap (·.1) = [] := by rfl) (hdb : (x == ("__debug__" : Str)) = false := by decide) (he : starEach (e :: es) X.env = (false, eval e X.env) :: starEach es X.env := by rfl)
    (hpl : ((backTo pos (starEach (e :: es) X.env)).any (·.1) || (backToKw pos (keywordEach [] X.env)).any (·.1.isNone)) = false := by rfl) : DE X B (.Call (.Name x p) (e :: es) [] pos) (callL is F fa) :=
  PE.weak (pe_callK Fn room guards hb hg hm hk ha pk_nil hall hks hdb he hpl) (callL_of hn hq)

theorem callL0_of {K : Fg} {m q : Nat} {is : List Nat} {F : List D → Option Val} {fk : Me (List Val)} (hm : LenA fk m) (hq : ∀ {α : Type} (xs : List α), xs.length = 0 + m → (permL is xs).length = q) : ∀ σ H Q, tOf K B (callL is F fk) σ H Q → tCallK 0 m (spF K q F) is (taOf K B nilA) (taOf K B fk) σ H Q := by
  intro σ H Q hz
  obtain ⟨G, δ, res, δ', R, e, z⟩ := hz
  obtain ⟨xs, δ1, e1, e⟩ := mb_some e
  obtain ⟨e3, rfl⟩ := mo_some e
  obtain ⟨ds, e4, e3⟩ := Option.bind_eq_some_iff.mp e3
  obtain ⟨r, e5, e3⟩ := Option.bind_eq_some_iff.mp e3
  obtain ⟨hf, rfl⟩ := ite_some e3
  refine ⟨G, δ, [], δ, R, rfl, fun vs G0 H0 s0 R0 v0 => ⟨G0, δ, xs, _, R0, e1, fun ws G1 H1 s1 R1 v1 => ?_⟩⟩
  cases v0
  have t1 := v1.lent R1 e4
  have l1 : ws.length = m := v1.length.trans (hm _ _ _ e1)
  refine ⟨rfl, l1, lent G1 H1 δ' σ, permL is ds, r, hq _ (by rw [List.nil_append, l1, Nat.zero_add]), lent_h R1, permL_tr t1 is, e5, fun v G' H' x ro => ?_⟩
  have x2 : Ex G1 H1 G1 H' := ⟨Same.refl _, R1.same.trans x.h, x.h, fun a o h n => by rw [h] at n; cases n⟩
  exact z v G1 H' (s0.trans s1) (R1.ex x2) (flatW_rv R1 ro hf)
theorem de_callL0 {x : Str} {p : Pos} {q : Nat} {F : List D → Option Val} {ks : List Str} {is : List Nat} {kws : List Keyword} {fk : Me (List Val)} (Fn : FnG X.prog X.w X.K X.mg X.base k f fd ps (spF X.K q F)) (room : Room k X.A) (guards : X.A.guards = some []) (hb : BindK X.K fd ps 0 ks is) (hg : Gl X x) (hm : X.mg x = some (.ref f)) (hk : PySem.W.keepIn X.K (.ref f) = true)
    (hkw : DK X B kws fk) (hl : LenA fk ks.length) (hq : ∀ {α : Type} (xs : List α), xs.length = 0 + ks.length → (permL is xs).length = q) (hall : (backToKw pos (keywordEach kws X.env)).all (·.1.isSome) = true := by rfl) (hks : (backToKw pos (keywordEach kws X.env)).filterMap (·.1) = ks := by rfl) (hdb : (x == ("__debug__" : Str)) = false := by decide)
    (hpl : ((backTo pos (starEach [] X.env)).any (·.1) || (backToKw pos (keywordEach kws X.env)).any (·.1.isNone)) = false := by rfl) : DE X B (.Call (.Name x p) [] kws pos) (callL is F fk) :=
  PE.weak (pe_callK0 Fn room guards hb hg hm hk hkw hall hks hdb hpl) fun σ H Q h => by
    refine callL0_of hl hq σ H Q h |> fun z => ?_
    obtain ⟨G, δ, xs, δ1, R, e1, z⟩ := z
    cases e1
    exact z [] G H (Same.refl _) R .nil

/-! ### a call that changes the caller's own list, its first argument -/
def callI (F : D → List D → Option (Val × D)) (fa : Me (List Val)) : Me Val := mb fa fun xs => fun δ => match xs with
  | .sl j :: rs => (match δ[j]? with
    | some (.own b d) => (fzs rs).bind fun ds => (F d ds).bind fun p => some (p.1, δ.set j (.own b p.2))
    | _ => none)
  | _ => none
theorem callI_of {K : Fg} {n : Nat} {is : List Nat} {F : D → List D → Option (Val × D)} {fa : Me (List Val)} (hn : LenA fa n) (hq : ∀ {α : Type} (xs : List α), xs.length = n → permL is xs = xs) : ∀ σ H Q, tOf K B (callI F fa) σ H Q → tCallK n 0 (spI K n F) is (taOf K B fa) tNil σ H Q := by
  intro σ H Q hz
  obtain ⟨G, δ, res, δ', R, e, z⟩ := hz
  obtain ⟨xs, δ1, e1, e⟩ := mb_some e
  split at e
  · rename_i j rs
    split at e
    · rename_i b d q
      obtain ⟨ds, e2, e⟩ := Option.bind_eq_some_iff.mp e
      obtain ⟨⟨r, d'⟩, e3, e⟩ := Option.bind_eq_some_iff.mp e
      cases e
      refine ⟨G, δ, _, δ1, R, e1, fun vs G1 H1 s1 R1 v1 => ?_⟩
      have l1 : vs.length = n := v1.length.trans (hn _ _ _ e1)
      cases v1 with
      | @cons v _ vr _ a br =>
        obtain ⟨ad, f1, f2, f3, f4⟩ := R1.own j b d q
        have a : σ[j]? = some (some v) := a
        rw [f1] at a
        cases a
        refine ⟨l1, rfl, ?_⟩
        rw [List.append_nil, hq _ l1]
        refine ⟨G1, ad, vr, d, ds, r, d', l1, rfl, R1.same, f2, f4, RVs.trees br e2, e3, fun v G' H' sg sgh hnw hfr hga hrt ro => ?_⟩
        have hl : j < δ1.length := (List.getElem?_eq_some_iff.mp q).1
        have other : ∀ {s' : Sl} {i : Nat}, (δ1.set j (.own b d'))[i]? = some s' → (i = j ∧ s' = .own b d') ∨ (i ≠ j ∧ δ1[i]? = some s') := fun {s' i} y => by
          by_cases hj : i = j
          · subst hj
            rw [List.getElem?_set_self hl] at y
            exact .inl ⟨rfl, (Option.some.inj y).symm⟩
          · rw [List.getElem?_set_ne (Ne.symm hj)] at y
            exact .inr ⟨hj, y⟩
        have haS : ∃ o, H1 ad = some o := f4.ex
        have R' : RelS K B G' H' (δ1.set j (.own b d')) σ := by
          refine ⟨by rw [List.length_set]; exact R1.len, sgh, R1.g0.trans sg, fun c o y m => ?_, fun c o y hio hlo => ?_, fun c o y => ?_, R1.iod, fun i e y => ?_, fun i b' e y => ?_, fun i k b1 b2 c e e' y1 y2 w1 w2 => ?_⟩
          · cases hc : G1 c with
            | some u => exact R1.nw c u hc m
            | none => exact .inl (R1.none0 (hnw c o y hc))
          · have hc : c ≠ ad := fun w => by
              subst w
              cases b with
              | true => exact hio (j, c) f3 rfl
              | false =>
                rcases (show B.H0 c = none ∨ B.lo c from f3) with m' | m'
                · rw [m'] at y
                  cases y
                · exact hlo m'
            exact hfr c o (R1.frame c o y hio hlo) hc
          · obtain ⟨o', y'⟩ := R1.dom c o y
            by_cases hc : c = ad
            · subst hc
              exact hrt.ex
            · exact ⟨o', hfr c o' y' hc⟩
          · rcases other y with ⟨_, w⟩ | ⟨_, y'⟩
            · cases w
            · obtain ⟨u, g1, g2⟩ := R1.dat i e y'
              exact ⟨u, g1, Tr.mono sg g2⟩
          · rcases other y with ⟨hj, w⟩ | ⟨hj, y'⟩
            · cases w
              rw [hj]
              exact ⟨ad, f1, hga, f3, hrt⟩
            · obtain ⟨c, g1, g2, g3, g4⟩ := R1.own i b' e y'
              have hc : c ≠ ad := fun w => by
                subst w
                exact hj (R1.inj i j b' b c e d y' q g1 f1)
              refine ⟨c, g1, ?_, g3, Root.mono sg (fun o w => hfr c o w hc) g4⟩
              cases hg : G' c with
              | none => rfl
              | some o =>
                obtain ⟨o', w⟩ := g4.ex
                rw [hnw c o hg g2] at w
                cases w
          · rcases other y1 with ⟨hi, w⟩ | ⟨hi, y1'⟩
            · rcases other y2 with ⟨hk, w'⟩ | ⟨hk, y2'⟩
              · rw [hi, hk]
              · subst hi
                exact R1.inj i k b b2 c d _ q y2' w1 w2
            · rcases other y2 with ⟨hk, w'⟩ | ⟨hk, y2'⟩
              · subst hk
                exact R1.inj i k b1 b c _ d y1' q w1 w2
              · exact R1.inj i k b1 b2 c _ _ y1' y2' w1 w2
        refine z v G' H' (s1.trans sg) R' ?_
        cases r with
        | fz c => exact ro
        | sl i => exact ro.elim
        | ow c =>
          obtain ⟨p, rfl, n1, n2, rt⟩ := ro
          refine ⟨p, rfl, n2, .inl (R1.none0 n1), rt, fun i b' e y w => ?_⟩
          have some1 : ∃ o, H1 p = some o := by
            rcases other y with ⟨hj, _⟩ | ⟨hj, y'⟩
            · rw [hj] at w
              rw [f1] at w
              cases w
              exact haS
            · obtain ⟨c', g1, _, _, g4⟩ := R1.own i b' e y'
              rw [g1] at w
              cases w
              exact g4.ex
          obtain ⟨o, w⟩ := some1
          rw [n1] at w
          cases w
    · cases e
  · cases e
theorem de_callI {x : Str} {p : Pos} {n : Nat} {e : Expr} {es : List Expr} {F : D → List D → Option (Val × D)} {fa : Me (List Val)} {is : List Nat} (Fn : FnG X.prog X.w X.K X.mg X.base k f fd ps (spI X.K n F)) (room : Room k X.A) (guards : X.A.guards = some []) (hb : BindK X.K fd ps n [] is) (hg : Gl X x) (hm : X.mg x = some (.ref f)) (hk : PySem.W.keepIn X.K (.ref f) = true)
    (ha : DA X B (e :: es) fa) (hn : LenA fa n) (hq : ∀ {α : Type} (xs : List α), xs.length = n → permL is xs = xs) (hall : (backToKw pos (keywordEach [] X.env)).all (·.1.isSome) = true := by rfl) (hks : (backToKw pos (keywordEach [] X.env)).filterMap (·.1) = [] := by rfl) (hdb : (x == ("__debug__" : Str)) = false := by decide) (he : starEach (e :: es) X.env = (false, eval e X.env) :: starEach es X.env := by rfl)
    (hpl : ((backTo pos (starEach (e :: es) X.env)).any (·.1) || (backToKw pos (keywordEach [] X.env)).any (·.1.isNone)) = false := by rfl) : DE X B (.Call (.Name x p) (e :: es) [] pos) (callI F fa) :=
  PE.weak (pe_callK Fn room guards hb hg hm hk ha pk_nil hall hks hdb he hpl) (callI_of hn hq)
/-- .. a list that was just made, as the one argument -/
def callO (F : D → List D → Option (Val × D)) (g : Me Val) : Me Val := mb g fun x => fun δ => match x with
  | .ow d => (F d []).bind fun p => if flatV p.1 then some (p.1, δ) else none
  | _ => none
theorem de_callO {x : Str} {p : Pos} {e : Expr} {F : D → List D → Option (Val × D)} {g : Me Val} {is : List Nat} (Fn : FnG X.prog X.w X.K X.mg X.base k f fd ps (spI X.K 1 F)) (room : Room k X.A) (guards : X.A.guards = some []) (hb : BindK X.K fd ps 1 [] is) (hg : Gl X x) (hm : X.mg x = some (.ref f)) (hk : PySem.W.keepIn X.K (.ref f) = true)
    (ha : DE X B e g) (hq : ∀ {α : Type} (xs : List α), xs.length = 1 → permL is xs = xs) (hall : (backToKw pos (keywordEach [] X.env)).all (·.1.isSome) = true := by rfl) (hks : (backToKw pos (keywordEach [] X.env)).filterMap (·.1) = [] := by rfl) (hdb : (x == ("__debug__" : Str)) = false := by decide) (he : starEach [e] X.env = (false, eval e X.env) :: starEach [] X.env := by rfl)
    (hpl : ((backTo pos (starEach [e] X.env)).any (·.1) || (backToKw pos (keywordEach [] X.env)).any (·.1.isNone)) = false := by rfl) : DE X B (.Call (.Name x p) [e] [] pos) (callO F g) :=
  PE.weak (pe_callK Fn room guards hb hg hm hk (pa_cons ha pa_nil he) pk_nil hall hks hdb he hpl) fun σ H Q h => by
    obtain ⟨G, δ, res, δ', R, e, z⟩ := h
    obtain ⟨y, δ1, e1, e⟩ := mb_some e
    split at e
    · rename_i d
      obtain ⟨⟨r, d'⟩, e3, e⟩ := Option.bind_eq_some_iff.mp e
      obtain ⟨hf, e⟩ := ite_some e
      cases e
      cases r with
      | fz c =>
        refine ⟨G, δ, _, _, R, e1, fun v G1 H1 s1 R1 v1 => ?_⟩
        obtain ⟨a, rfl, n, n0, rt, u⟩ := v1
        refine ⟨rfl, rfl, ?_⟩
        rw [List.append_nil, hq _ rfl]
        refine ⟨G1, a, [], d, [], .fz c, d', rfl, rfl, R1.same, n, rt, .nil, e3, fun v G' H' sg sgh hnw hfr hga hrt ro => ?_⟩
        have R' : RelS X.K B G' H' δ' σ := by
          refine ⟨R1.len, sgh, R1.g0.trans sg, fun c o y m => ?_, fun c o y hio hlo => ?_, fun c o y => ?_, R1.iod, fun i e y => ?_, fun i b' e y => ?_, R1.inj⟩
          · cases hc : G1 c with
            | some u => exact R1.nw c u hc m
            | none => exact .inl (R1.none0 (hnw c o y hc))
          · have hc : c ≠ a := fun w => by
              subst w
              rcases n0 with m' | m'
              · rw [m'] at y
                cases y
              · exact hlo m'
            exact hfr c o (R1.frame c o y hio hlo) hc
          · obtain ⟨o', y'⟩ := R1.dom c o y
            by_cases hc : c = a
            · subst hc
              exact hrt.ex
            · exact ⟨o', hfr c o' y' hc⟩
          · obtain ⟨u, g1, g2⟩ := R1.dat i e y
            exact ⟨u, g1, Tr.mono sg g2⟩
          · obtain ⟨c, g1, g2, g3, g4⟩ := R1.own i b' e y
            have hc : c ≠ a := fun w => u i b' e y (w ▸ g1)
            refine ⟨c, g1, ?_, g3, Root.mono sg (fun o w => hfr c o w hc) g4⟩
            cases hg : G' c with
            | none => rfl
            | some o =>
              obtain ⟨o', w⟩ := g4.ex
              rw [hnw c o hg g2] at w
              cases w
        exact z v G' H' (s1.trans sg) R' ro
      | ow c => cases hf
      | sl c => cases hf
    · cases e
end

/-! ### a def's promise from its body -/
def startD (n : Nat) (ds : List D) : DS := ds.map .dat ++ List.replicate (n - ds.length) .un
def endV : Option (Fl × DS) → Option Val
  | some (.rt (.fz d), _) => some (.fz d)
  | some (.rt (.ow d), _) => some (.ow d)
  | some (.nx, _) => some (.fz .none)
  | _ => none
/-- what a def of n slots hands back -/
def bodyF (n : Nat) (g : Ss) : List D → Option Val := fun ds => endV (g (startD n ds))
theorem startD_get {K : Fg} {G : Hp} {vs : List V} {ds : List D} (t : TrAll K G vs ds) {N : List Str} {i : Nat} {s : Sl} (q : (startD N.length ds)[i]? = some s) : s = .un ∨ ∃ d v, s = .dat d ∧ (L2.start N vs)[i]? = some (some v) ∧ Tr K G v d := by
  unfold startD at q
  by_cases hi : i < ds.length
  · rw [List.getElem?_append_left (by simpa using hi), List.getElem?_map] at q
    obtain ⟨d, hd, rfl⟩ := Option.map_eq_some_iff.mp q
    obtain ⟨v, hv, tv⟩ := t.get hd
    refine .inr ⟨d, v, rfl, ?_, tv⟩
    unfold L2.start
    rw [List.getElem?_append_left (by rw [List.length_map, t.len]; exact hi), List.getElem?_map, hv]
    rfl
  · rw [List.getElem?_append_right (by simpa using hi), List.getElem?_replicate] at q
    split at q
    · exact .inl (Option.some.inj q).symm
    · cases q
theorem relS_start {K : Fg} {G H : Hp} {vs : List V} {ds : List D} (s : Same G H) (t : TrAll K G vs ds) (N : List Str) : RelS K ⟨G, H, [], fun _ => False⟩ G H (startD N.length ds) (L2.start N vs) where
  len := by
    unfold startD L2.start
    rw [List.length_append, List.length_append, List.length_map, List.length_map, List.length_replicate, List.length_replicate, t.len]
  same := s
  g0 := Same.refl _
  nw := fun a o e n => by
    have n : G a = none := n
    rw [n] at e
    cases e
  frame := fun _ _ e _ _ => e
  dom := fun _ o e => ⟨o, e⟩
  iod := fun p hp => by cases hp
  dat := fun i d q => by
    rcases startD_get t q with h | ⟨d', v, h, e, tv⟩
    · cases h
    · cases h
      exact ⟨v, e, tv⟩
  own := fun i b d q => by
    rcases startD_get t q with h | ⟨d', v, h, e, tv⟩ <;> cases h
  inj := fun i j b b' a d d' q => by
    rcases startD_get t q with h | ⟨d', v, h, e, tv⟩ <;> cases h
theorem RelS.exit {K : Fg} {G H G' H' : Hp} {δ : DS} {σ : L2.St} (R : RelS K ⟨G, H, [], fun _ => False⟩ G' H' δ σ) : Ex G H G' H' :=
  ⟨R.g0, R.same, fun b o e => R.frame b o e (fun p hp => by cases hp) id, fun a o e n => (R.nw a o e n).resolve_right id⟩
section
variable {P : Program} {w : World} {K : Fg} {mg : Str → Option Value} {base : Heap} {x qual : Str} {st : Stmt} {f : Addr} {fd : FuncData} {N ps : List Str} {k : Nat}
theorem ok_def {g : Ss} {n q : Nat} (hn : N.length = n) (hq : ps.length = q) (F : L2.Fun K x qual st f fd) (S : FnScope N ps (defScope st))
    (body : ∀ (B : Bs) (cdv : Value) (A : Around) (outer : List Env) (s : Shared) (H : Hp) (E : XK), Room k (A.deeper (envOfC qual (defScope st) s.heap.objs.size f cdv)) → (A.deeper (envOfC qual (defScope st) s.heap.objs.size f cdv)).guards = some [] →
      SB (bodyX P w K mg base N qual st f cdv A outer s H E) B (defBody st) g) : FnG P w K mg base (k + 1) f fd ps (spF K q (bodyF n g)) := by
  subst hn hq
  refine fn_ofG F S (fun vs H Q E h => ?_) fun cdv A outer s H vs Q E hr hgd h => ?_
  · obtain ⟨G, ds, r, hl, _⟩ := h
    exact hl
  · obtain ⟨G, ds, r, hl, sg, t, e, z⟩ := h
    have hb := body ⟨G, H, [], fun _ => False⟩ cdv A outer s H E hr hgd
    refine ⟨_, hb, ?_⟩
    have R0 := relS_start sg t N
    unfold bodyF at e
    cases hg : g (startD N.length ds) with
    | none => rw [hg] at e; cases e
    | some p =>
      obtain ⟨fl, δ'⟩ := p
      rw [hg] at e
      refine ⟨G, startD N.length ds, fl, δ', R0, hg, fun σ' G' H' s' R' => ?_⟩
      have x := R'.exit
      cases fl with
      | nx =>
        cases e
        exact z .non G' H' x .non
      | bk => cases e
      | ct => cases e
      | rt v =>
        intro u hv
        cases v with
        | fz d =>
          cases e
          exact z u G' H' x hv
        | ow d =>
          cases e
          obtain ⟨a, rfl, n, n0, rt, _⟩ := hv
          exact z _ G' H' x ⟨a, rfl, n0.resolve_right id, n, rt⟩
        | sl i => cases e
/-- the same for a def that changes its first argument -/
def ioAt (δ : DS) : Option D := match δ[0]? with
  | some (Sl.own true d) => some d
  | _ => none
theorem ioAt_some {δ : DS} {d : D} (h : ioAt δ = some d) : δ[0]? = some (Sl.own true d) := by
  unfold ioAt at h
  split at h
  · rename_i q
    cases h
    exact q
  · cases h
def startI (n : Nat) (d : D) (ds : List D) : DS := .own true d :: startD (n - 1) ds
def bodyI (n : Nat) (g : Ss) : D → List D → Option (Val × D) := fun d ds => match g (startI n d ds) with
  | some (fl, δ) => (endV (some (fl, δ))).bind fun r => (ioAt δ).bind fun d' => some (r, d')
  | none => none
theorem ok_defI {g : Ss} {n q : Nat} {y : Str} {ys : List Str} (hN : N = y :: ys) (hn : N.length = n) (hq : ps.length = q) (F : L2.Fun K x qual st f fd) (S : FnScope N ps (defScope st))
    (body : ∀ (B : Bs) (cdv : Value) (A : Around) (outer : List Env) (s : Shared) (H : Hp) (E : XK), Room k (A.deeper (envOfC qual (defScope st) s.heap.objs.size f cdv)) → (A.deeper (envOfC qual (defScope st) s.heap.objs.size f cdv)).guards = some [] →
      SB (bodyX P w K mg base N qual st f cdv A outer s H E) B (defBody st) g) : FnG P w K mg base (k + 1) f fd ps (spI K q (bodyI n g)) := by
  subst hn hq
  refine fn_ofG F S (fun vs H Q E h => ?_) fun cdv A outer s H vs Q E hr hgd h => ?_
  · obtain ⟨_, _, _, _, _, _, _, hl, _⟩ := h
    exact hl
  · obtain ⟨G, a, vr, d, ds, r, d', hl, rfl, sg, na, rt, t, e, z⟩ := h
    have hb := body ⟨G, H, [(0, a)], fun _ => False⟩ cdv A outer s H E hr hgd
    refine ⟨_, hb, ?_⟩
    have R1 := relS_start sg t ys
    have es : L2.start N (.ref a :: vr) = some (.ref a) :: L2.start ys vr := by
      subst hN
      unfold L2.start
      rw [List.map_cons, List.length_cons, List.length_cons, List.cons_append, Nat.add_sub_add_right]
    have ed : startI N.length d ds = .own true d :: startD ys.length ds := by
      subst hN
      rfl
    have nore : ∀ {i : Nat} {s' : Sl}, (startD ys.length ds)[i]? = some s' → ∀ b c, s' ≠ .own b c := fun {i s'} q b c z => by
      rcases startD_get t q with h | ⟨_, _, h, _⟩ <;> (rw [z] at h; cases h)
    have R0 : RelS K ⟨G, H, [(0, a)], fun _ => False⟩ G H (startI N.length d ds) (L2.start N (.ref a :: vr)) := by
      rw [es, ed]
      refine ⟨by rw [List.length_cons, List.length_cons, R1.len], sg, Same.refl _, R1.nw, fun _ _ e _ _ => e, fun _ o e => ⟨o, e⟩, fun p hp => ?_, fun i c q => ?_, fun i b c q => ?_, fun i j b b' p c c' q1 q2 z1 z2 => ?_⟩
      · have : p = (0, a) := by simpa using hp
        rw [this]
        exact rt.ex
      · cases i with
        | zero => cases q
        | succ i => exact R1.dat i c q
      · cases i with
        | zero =>
          cases q
          exact ⟨a, rfl, na, List.mem_cons_self, rt⟩
        | succ i => exact (nore (show (startD ys.length ds)[i]? = _ from q) b c rfl).elim
      · cases i with
        | zero =>
          cases j with
          | zero => rfl
          | succ j => exact (nore (show (startD ys.length ds)[j]? = _ from q2) b' c' rfl).elim
        | succ i => exact (nore (show (startD ys.length ds)[i]? = _ from q1) b c rfl).elim
    unfold bodyI at e
    cases hg : g (startI N.length d ds) with
    | none => rw [hg] at e; cases e
    | some p =>
      obtain ⟨fl, δ'⟩ := p
      rw [hg] at e
      obtain ⟨r', e1, e⟩ := Option.bind_eq_some_iff.mp e
      obtain ⟨d2, e2, e⟩ := Option.bind_eq_some_iff.mp e
      cases e
      have q2 := ioAt_some e2
      refine ⟨G, _, fl, δ', R0, hg, fun σ' G' H' s' R' => ?_⟩
      obtain ⟨a', f1, f2, f3, f4⟩ := R'.own 0 true d' q2
      have f3 : (0, a') ∈ [((0 : Nat), a)] := f3
      have ea : a' = a := by
        have := List.mem_singleton.mp f3
        exact congrArg Prod.snd this
      subst ea
      have fin : ∀ v, RO K G' H H' v r → Q v H' := fun v ro => z v G' H' R'.g0 R'.same (fun b o e n => (R'.nw b o e n).resolve_right id) (fun b o e n => R'.frame b o e (fun p hp => by
        have : p = (0, a') := by simpa using hp
        rw [this]
        exact fun q => n q.symm) id) f2 f4 ro
      cases fl with
      | nx =>
        cases e1
        exact fin .non .non
      | bk => cases e1
      | ct => cases e1
      | rt v =>
        intro u hv
        cases v with
        | fz c =>
          cases e1
          exact fin u hv
        | ow c =>
          cases e1
          obtain ⟨p, rfl, n, n0, rt', _⟩ := hv
          exact fin _ ⟨p, rfl, n0.resolve_right id, n, rt'⟩
        | sl i => cases e1
end
end DL
end
section
set_option maxRecDepth 100000
set_option maxHeartbeats 4000000
namespace DL
open PySem PySem.Spec L2
open PyProof.Rows hiding St

/-! ### the end of a law -/
theorem law_callG {P : Program} {w : World} {K : Fg} {mg mb : Str → Option Value} {k : Nat} {fa a : Addr} {fd : FuncData} {x : Str} {F : List D → Option Val} {t : Shared} {vs : List Value} {ns : List Int}
    (kin : K.In t.heap) (hns : t.heap.Ns mainGlobals mg) (hb : t.heap.Ns builtinsNs mb) (hbb : ∀ x : Str, x ≠ "__name__" → mb x = bootBuiltins x) (hlim : t.heap.NoLimit) (hgen : t.gens = #[])
    (ha : t.heap.get? a = some { cls := .type "list", data := .seq vs.toArray }) (hi : IntsAre vs ns) (hl : ns.length ≤ sizeLine) (room : Room k callerA)
    (Fn : ∀ base : Heap, K.In base → base.Ns mainGlobals mg → FnG P w K mg base k fa fd [x] (spF K 1 F)) (hbind : ∀ (s : Shared) (u : Value), BindsTo s fd ⟨[u], []⟩ [(x, u)]) (true_ : F [scrD ns] = some (.fz (.bool true))) :
    codeAny (model P w) callerA (.call (.ref fa) ⟨[.ref a], []⟩) (fun r s' => r = .ok (.ret (.bool true)) ∧ OldK t.heap s'.heap ∧ s'.os = t.os ∧ AllBare s'.gens) t := by
  have rel := vals_ints hi
  have long := hi.length
  -- the script, locked, unless it is an object of the module
  obtain ⟨H, hH, hHa⟩ : ∃ H : Hp, (∀ b u, H b = some u → b = a ∧ K.lookup a = none ∧ u = .frz { cls := .type "list", data := .seq vs.toArray } (.lst (ns.map V.int))) ∧ SqL K H a (ns.map V.int) := by
    cases hk : K.lookup a with
    | some o =>
      have e := kin a o hk
      rw [ha] at e
      cases e
      refine ⟨fun _ => none, ⟨fun b u z => ?_, .inr ⟨_, vs.toArray, _, hk, rfl, rfl, rfl, by rw [List.size_toArray, long]; exact hl, by simpa using rel⟩⟩⟩
      cases z
    | none =>
      refine ⟨upd (fun _ => none) a (.frz { cls := .type "list", data := .seq vs.toArray } (.lst (ns.map V.int))), fun b u z => ?_, .inl (.inr ⟨_, upd_same⟩)⟩
      by_cases hb : b = a
      · subst hb
        rw [upd_same] at z
        exact ⟨rfl, rfl, (Option.some.inj z).symm⟩
      · rw [upd_ne hb] at z
        cases z
  have hok : HOk P w H t.heap := fun b u z => by
    obtain ⟨rfl, _, rfl⟩ := hH b u z
    exact ⟨ha, by rw [List.length_map]; exact hl, vs, _, rel, ha⟩
  have shown : ∀ {b : Addr} {o : Obj}, t.heap.get? b = some o → H b = none → (hidT t.heap H).get? b = some o := fun e n => hidT_get e n
  have isDict : ∀ {b : Addr} {m : Str → Option Value}, t.heap.Ns b m → (hidT t.heap H).Ns b m := by
    rintro b m ⟨o, es, ep, e, d, rest⟩
    refine ⟨o, es, ep, shown e ?_, d, rest⟩
    cases q : H b with
    | none => rfl
    | some u =>
      obtain ⟨rfl, _, _⟩ := hH b u q
      rw [ha] at e
      cases e
      cases (show Data.seq vs.toArray _ = Data.dict es ep from d)
  have kinH : K.In (hidT t.heap H) := fun b o e => shown (kin b o e) (by
    cases q : H b with
    | none => rfl
    | some u =>
      obtain ⟨rfl, n, _⟩ := hH b u q
      rw [n] at e
      cases e)
  have env0 : Env0 P w K mg (hidT t.heap H) callerA [] t H := by
    refine ⟨rfl, ⟨kinH, isDict hns, ⟨mb, isDict hb, hbb⟩, ?_⟩, fun b o e => of_hidT e, Nat.le_of_eq (hidT_size _ _), trivial, fun b hb => ?_, hok, .of_eq hgen⟩
    · obtain ⟨mc, h1, h2⟩ := hlim
      exact ⟨mc, isDict h1, h2⟩
    · cases hb
  have prom : spF K 1 F [V.ref a] H (fun v _ => v = .bl true) E0 := ⟨H, [scrD ns], _, rfl, Same.refl _, .cons (.scr hHa) .nil, true_, fun v G' H' _ ro => by
    have ro : Tr K G' v (.bool true) := ro
    cases ro
    rfl⟩
  refine codeAny_mono ((Fn _ kinH (isDict hns)).run callerA [] t H ⟨[.ref a], []⟩ [.ref a] [.ref a] _ _ room rfl env0 (hbind t (.ref a)) (.cons rfl .nil) prom) ?_
  intro r s' got
  match r, got with
  | .error e, z => exact False.elim z
  | .ok .next, z => exact False.elim z
  | .ok .brk, z => exact False.elim z
  | .ok .cont, z => exact False.elim z
  | .ok (.ret u), ⟨v, H', os, bare, un, hok', rv, q⟩ =>
    have q : v = .bl true := q
    subst q
    obtain rfl : u = Value.bool true := rv
    refine ⟨rfl, OldK.of_keep fun b ob e => ?_, os, bare⟩
    cases hb : H b with
    | none => exact un.keep b ob e hb (by intro z; cases z) (by intro z; cases z)
    | some u =>
      obtain ⟨rfl, _, rfl⟩ := hH b u hb
      have kept := un.frzs b _ _ hb
      obtain ⟨e1, _⟩ := hok b _ hb
      obtain ⟨e2, _⟩ := hok' b _ kept
      rw [e] at e1
      cases e1
      exact e2
theorem walk_ofG {l : PySem.W.OpenLaw} {n k : Nat} {q : Program} {loose : List Str} {XP : (Str → Option Value) → Heap → Prop} {YP : World → Heap → Prop} {d : DefRec} {K : Params → Fg} {x : Str} {F : List D → Option Val}
    (hn : l.most = some n) (hn2 : n ≤ sizeLine) (hdf : d.params.defaults = []) (room : Room k callerA) (hY : ∀ (w : World) (h : Heap), YP w h → (K w.params).In h)
    (hF : ∀ (w : World) (mg : Str → Option Value) (fa : Addr) (h : Heap), (K w.params).In h → h.Ns mainGlobals mg → mg d.name = some (.ref fa) →
      ∃ fd : FuncData, (∀ (s : Shared) (u : Value), BindsTo s fd ⟨[u], []⟩ [(x, u)]) ∧ ∀ base : Heap, (K w.params).In base → base.Ns mainGlobals mg → FnG l.prog w (K w.params) mg base k fa fd [x] (spF (K w.params) 1 F))
    (true_ : ∀ ns : List Int, ns.length ≤ n → (∀ z ∈ ns, Builtin.Int.intBits z ≤ 1048576) → F [scrD ns] = some (.fz (.bool true))) :
    PySem.W.WalkO q loose XP YP l.row.toRowW d [] (fun f us => PySem.call f us) := by
  refine Att.attach_callB hn hdf fun w s0 s1 mg mb fa o pm cd doc a us ns G Y ho hd hcd names script whole short bits calm => ?_
  obtain ⟨fd, hb, hF⟩ := hF w mg fa _ (hY w _ Y) G.T.g names
  exact law_callG (hY w _ Y) G.T.g G.T.b G.T.builtins G.T.nolimit calm script whole (Nat.le_trans short hn2) room hF hb (true_ ns short bits)

/-! ### repr -/
def rRepr (K : Fg) : List V → Hp → VK → Prop := fun xs H Q => ∃ v d, xs = [v] ∧ Tr K H v d ∧ d.canLay0 = true ∧ d.showable = true ∧ d.depth ≤ 60 ∧ d.shown.length ≤ sizeLine ∧ Q (.str d.shown) H
theorem call_reprD {X : Cx} (hg : X.A.guards = some []) (hu : X.A.units + 64 < cLine) : CallR X (.builtin "repr") (rRepr X.K) := by
  intro pins s σ H xs us Q I r h
  obtain ⟨v, d, rfl, t, hc, hs, hd, hz, q⟩ := h
  obtain ⟨u, rfl, ru⟩ := vals1 r
  obtain ⟨as, rd⟩ := Dp.reads I d v u (Tr.dp t hc) ru
  have hdict := PyData.hasDict_of_canLay d hc
  cases rd with
  | none => exact PySem.P.repr_of_none ⟨.str _, H, I.tok _, ⟨_, rfl⟩, q⟩
  | bool b => exact PySem.P.repr_of_bool ⟨.str _, H, I.tok _, ⟨_, rfl⟩, by cases b <;> exact q⟩
  | int i t => exact PySem.P.repr_of_int (by simpa [PyData.showable] using hs) ⟨.str _, H, I.tok _, ⟨_, rfl⟩, q⟩
  | str x t => exact PySem.P.repr_of_str ⟨.str _, H, I.tok _, ⟨_, rfl⟩, q⟩ hz
  | list h1 h2 h3 h4 => exact repr_of_reads' (.list h1 h2 h3 h4) hs (PyData.noDict_hsm hdict) hg (by omega) (fun _ _ e => e) (fun h' u tk hk => ⟨.str _, H, I.kept (t' := tk) hk, ⟨_, rfl⟩, q⟩) hz
  | tuple h1 h2 h3 h4 => exact repr_of_reads' (.tuple h1 h2 h3 h4) hs (PyData.noDict_hsm hdict) hg (by omega) (fun _ _ e => e) (fun h' u tk hk => ⟨.str _, H, I.kept (t' := tk) hk, ⟨_, rfl⟩, q⟩) hz
  | dict _ _ _ _ _ => simp [PyData.canLay0] at hc
def reprOk (d : D) : Bool := d.canLay0 && d.showable && decide (d.depth ≤ 60) && szOk d.shown.length
def reprD : List D → Option Val
  | [d] => if reprOk d then some (.fz (.str d.shown)) else none
  | _ => none
theorem fd_repr {K : Fg} : FnD K (rRepr K) reprD := by
  intro G H vs ds res Q s vv hr k
  unfold reprD at hr
  split at hr
  · obtain ⟨c, rfl⟩ := ite_some hr
    unfold reprOk at c
    rw [Bool.and_eq_true, Bool.and_eq_true, Bool.and_eq_true] at c
    obtain ⟨v, rfl, v1⟩ := view1 vv
    exact ⟨v, _, rfl, v1.tr s, c.1.1.1, c.1.1.2, of_decide_eq_true c.1.2, szOk_le c.2, k _ G H (Ex.refl s) (.str _)⟩
  · cases hr
/-- {} -/
theorem room_units {X : Cx} {k : Nat} (h : Room k X.A) : X.A.units + 64 < cLine := h.units
end DL
end
section
set_option maxRecDepth 100000
set_option maxHeartbeats 4000000
namespace DL
open PySem PySem.Spec L2
open PyProof.Rows hiding St

/-! ### enumerate of a tuple -/
theorem meets_enum1 {v : Value} {o : Obj} {H : Heap → Prop} (B : Begins v o H) :
    Meets (Builtin.«enumerate.__new__» ⟨[.type "enumerate", v], []⟩) (fun _ R s => H s.heap ∧ R (.ok (.ret (.ref (s.heap.push o).objs.size))) { s with heap := (s.heap.push o).push { cls := .type "enumerate", data := .fields #[.none, .bool false, .ref s.heap.objs.size, rawInt 0, .none, .none] } }) :=
  .of_wp fun prog w A R t hh => by
    obtain ⟨hp, g, d, tk, os⟩ := t
    obtain ⟨h1, hR⟩ := hh
    have hsub := sub_enumerate
    have begins : ∀ {A' : Around} {E : Value → Shared → Prop} {Q : Value → Shared → Prop}, Q (.ref hp.objs.size) ⟨hp.push o, g, d, tk, os⟩ → wpAny (model prog w) A' (pyIter v) Q E ⟨hp, g, d, tk, os⟩ := fun q => B.iter prog w _ _ ⟨hp, g, d, tk, os⟩ _ h1 q
    wp_walk using begins
    refine wpAny_stack_any fun _ => wpAny_pure ?_
    split
    · rename_i c _ _ _ _ _
      cases (c == Value.type "enumerate") <;> (wp_walk using begins; exact ⟨_, rfl, hR⟩)
    · wp_walk using begins
      exact ⟨_, rfl, hR⟩
theorem call_enum_tuple {prog : Program} {w : World} {A : Around} {E : Value → Shared → Prop} {s : Shared} {t : Addr} {items : Array Value} {Q : Value → Shared → Prop} (ht : s.heap.IsTuple t items)
    (h : ∀ h', IsEnum h' (s.heap.objs.size + 1) s.heap.objs.size 0 .none → h'.IsTupleIter s.heap.objs.size t 0 → (∀ b o, s.heap.get? b = some o → h'.get? b = some o) → Q (.ref (s.heap.objs.size + 1)) { s with heap := h' }) :
    wpAny (model prog w) A (call (.type "enumerate") [.ref t]) Q E s := by
  have B := begins_tuple t items
  refine callType_new F.called_enumerate (by decide) (F.typeCall_enumerate_1 _) (F.newCall_enumerate_1 _) (fun obj => F.args_object_init_2 obj _) F.entry_enumerate_new (meets_enum1 B) ⟨ht, ?_⟩
  have hz : (s.heap.push { cls := .type "tuple_iterator", data := .fields #[.ref t, .int 0 0] }).objs.size = s.heap.objs.size + 1 := Heap.size_push ..
  rw [hz]
  generalize hh : (s.heap.push { cls := .type "tuple_iterator", data := .fields #[.ref t, .int 0 0] }).push { cls := .type "enumerate", data := .fields #[.none, .bool false, .ref s.heap.objs.size, rawInt 0, .none, .none] } = h2
  have at2 : IsEnum h2 (s.heap.objs.size + 1) s.heap.objs.size 0 .none := by
    have q := Heap.get?_push_size (s.heap.push { cls := .type "tuple_iterator", data := .fields #[.ref t, .int 0 0] }) (o := { cls := .type "enumerate", data := .fields #[.none, .bool false, .ref s.heap.objs.size, rawInt 0, .none, .none] }) rfl
    rw [hz, hh] at q
    exact q
  refine ⟨⟨_, at2, rfl⟩, h h2 at2 ?_ fun b o x => ?_⟩
  · rw [← hh]
    exact ⟨_, Heap.get?_push_of_some _ (Heap.get?_push_size _ rfl), rfl, rfl⟩
  · rw [← hh]
    exact Heap.get?_push_of_some _ (Heap.get?_push_of_some _ x)
/-- the tuple at a, each item in a new pair -/
def IteT (K : Fg) (a : Addr) : It where
  go := fun i H => ∃ (xs : List V) (x : V), SqT K H a xs ∧ xs[i]? = some x
  yld := fun i H v H' => ∃ T x, v = .ref T ∧ H T = none ∧ H' = upd H T (.tup [.int (i : Nat), x]) ∧ ∀ xs, SqT K H a xs → xs[i]? = some x
  stop := fun i H => ∃ xs : List V, SqT K H a xs ∧ xs.length ≤ i
theorem turn_enumT {P : Program} {w : World} {K : Fg} {elts : List Expr} {kk : Nat} {tpos : Pos} (a e it : Addr) :
    Turn P w K (.Tuple elts kk tpos) (IteT K a) [e, it] e (fun i h => (∃ old, IsEnum h e it ((i : Nat) : Int) old) ∧ h.IsTupleIter it a i ∧ e ≠ it) where
  mem := List.mem_cons_self
  obj := by
    rintro i h ⟨⟨old, he⟩, ⟨o, ho, _, hd⟩, _⟩ b hb
    rcases List.mem_cons.mp hb with z | hb
    · rw [z]
      exact ⟨_, he, fun v q => nomatch q⟩
    · rw [List.mem_singleton.mp hb]
      exact ⟨o, ho, fun v q => by rw [hd] at q; cases q⟩
  keep := by
    rintro i h h' ⟨⟨old, he⟩, hi, hne⟩ same
    exact ⟨⟨old, same e List.mem_cons_self _ he⟩, hi.at fun o q => same it (List.mem_cons_of_mem _ List.mem_cons_self) o q, hne⟩
  item := by
    intro X hP hw hK hc i pins s σ H E I hf st hgo
    subst hP hw hK
    obtain ⟨⟨old, he⟩, hit, hne⟩ := st
    obtain ⟨xs, x, hq, hx⟩ := hgo
    obtain ⟨its, rv, ⟨ot, eo, co, no, do_⟩, _⟩ := I.tuple hq
    have ht : s.heap.IsTuple a its.toArray := ⟨ot, eo, co, no, do_⟩
    have hea : e ≠ a := fun z => by
      rw [z] at he
      rw [show s.heap.get? a = some _ from he] at eo
      cases eo
      injection (show Value.type "enumerate" = Value.type "tuple" from co) with q
      exact absurd q (by decide)
    have hia : a ≠ it := fun z => by
      obtain ⟨o', h1, h2, _⟩ := id hit
      rw [z, h1] at eo
      cases eo
      rw [h2] at co
      injection co with q
      exact absurd q (by decide)
    have hlt : i < its.toArray.size := by
      have := (List.getElem?_eq_some_iff.mp hx).1
      have := rv.length
      simp only [List.size_toArray]
      omega
    have hel : e < s.heap.objs.size := Heap.lt_size he
    have hil : it < s.heap.objs.size := by
      obtain ⟨_, q, _⟩ := hit
      exact Heap.lt_size q
    have D := Draws.tuple (prog := X.prog) (w := X.w) (A := X.A.in1) (I.ok.hd hc) it a hia its.toArray
    refine wpAny_pyNext_enum_itemD D he ⟨hit, ht⟩ hlt hne (by simp [hne, hea]) fun u h' tk hu ho hst hT _ hk => ?_
    have ru : RelV x u := by
      obtain ⟨u', hu', ru'⟩ := rv.get hx
      have : u = u' := Option.some.inj ((by simpa using hu.symm : some u = its[i]?).trans hu')
      rw [this]
      exact ru'
    refine ⟨_, rfl, wpAny_letOwnedTupleGo_enum (s := { s with heap := h', toks := tk + 1 }) ho fun h2 he2 sb => ?_⟩
    have pair : h2.get? s.heap.objs.size = some { cls := .type "tuple", data := .seq #[.int i tk, u] } := (sb.2 _ (Nat.ne_of_gt hel)).trans hT
    have made : ObjOk X.prog X.w (upd H s.heap.objs.size (.tup [.int (i : Nat), x])) h2 s.heap.objs.size (.tup [.int (i : Nat), x]) := ⟨by show 2 ≤ sizeLine; decide, [.int i tk, u], .cons ⟨_, rfl⟩ (.cons ru .nil), ⟨_, pair, rfl, _, rfl⟩⟩
    have J := I.turnedNew (t' := tk + 1) (ch := [e, it]) (h' := h2) (fun b ob hb q => (sb.2 b fun z => hb (z ▸ List.mem_cons_self)).trans (hk b ob (fun z => hb (z ▸ List.mem_cons_self)) (fun z => hb (z ▸ List.mem_cons_of_mem _ List.mem_cons_self)) q)) hf (Nat.le_refl _) made
    refine ⟨.ref s.heap.objs.size, _, J, rfl, ⟨_, x, rfl, I.hok.fresh (Nat.le_refl _), rfl, fun ys hy => by rw [I.tuple_inj hy hq]; exact hx⟩, ⟨⟨u, ?_⟩, hst.1.at fun o q => (sb.2 it (Ne.symm hne)).trans q, hne⟩, fun b hb => ?_⟩
    · rw [show ((i + 1 : Nat) : Int) = (i : Int) + 1 by omega]
      exact he2
    · have small : b < s.heap.objs.size := by
        rcases List.mem_cons.mp hb with z | z
        · rw [z]; exact hel
        · rw [List.mem_singleton.mp z]; exact hil
      rw [upd_ne (Nat.ne_of_lt small)]
      exact (hf b hb).1
  done := by
    intro X hP hw hK hc i pins s σ H E I hf st hstop
    subst hP hw hK
    obtain ⟨⟨old, he⟩, hit, hne⟩ := st
    obtain ⟨xs, hq, hx⟩ := hstop
    obtain ⟨its, rv, ⟨ot, eo, co, no, do_⟩, _⟩ := I.tuple hq
    have ht : s.heap.IsTuple a its.toArray := ⟨ot, eo, co, no, do_⟩
    have hia : a ≠ it := fun z => by
      obtain ⟨o', h1, h2, _⟩ := id hit
      rw [z, h1] at eo
      cases eo
      rw [h2] at co
      injection co with q
      exact absurd q (by decide)
    obtain ⟨f0, f1, f2, f3, f4, f5⟩ := hf it (List.mem_cons_of_mem _ List.mem_cons_self)
    have hd := I.ok.hd hc
    have hle : its.toArray.size ≤ i := by
      have := rv.length
      simp only [List.size_toArray]
      omega
    have D : Draws X.prog X.w X.A.in1 it [it, a] i (fun i v => its.toArray[i]? = some v) (fun j h => (h.IsTupleIter it a j ∧ h.IsTuple a its.toArray) ∧ j = i) := by
      have D0 := Draws.tuple (prog := X.prog) (w := X.w) (A := X.A.in1) hd it a hia its.toArray
      exact ⟨fun j h st => D0.live j h st.1, fun j h h' st q => ⟨D0.frame j h h' st.1 q, st.2⟩, fun j s Q E hj st _ => absurd st.2 (Nat.ne_of_lt hj), fun s Q E st hE => wpAny_nextOf_tuple_end hd st.1.1 st.1.2 (by rw [Array.getElem?_eq_none_iff]; exact hle) hE⟩
    exact wpAny_pyNext_enum_endD D he ⟨⟨hit, ht⟩, rfl⟩ fun h' eb => ⟨rfl, I.turned (t' := s.toks) (fun b o hb q => eb b o hb q) f0 f1 f3 f4 f5⟩
  self := fun _ _ _ _ _ st h => wpAny_pyIter_enum st.1.choose_spec h
def iEnumT (K : Fg) (ta : TA) : TI := fun σ H R => ta σ H fun vs H1 => ∃ (a : Addr) (xs : List V), vs = [.ref a] ∧ SqT K H1 a xs ∧ R (IteT K a) H1
theorem pi_enumT {X : Cx} {e : Expr} {ta : TA} {p pos tpos : Pos} {elts : List Expr} {kk : Nat} (hg : Gl X "enumerate") (hm : X.mg "enumerate" = none) (ha : PA X [e] ta) (hs : starEach [e] X.env = [(false, eval e X.env)] := by rfl) : PI X (.Tuple elts kk tpos) (.Call (.Name "enumerate" p) [e] [] pos) (iEnumT X.K ta) := by
  refine ⟨fun pins s σ H R I h => Call_ (ld_blt I hg hm boot_enumerate (PyProof.Rows.callWith_type1 (thn (ha.run pos pins s σ H _ I h) ?_) hs rfl))⟩
  rintro us s1 ⟨vs, H1, I1, r1, a, xs, rfl, hq, q⟩
  obtain ⟨u, rfl, ru⟩ := vals1 r1
  cases ru
  obtain ⟨its, rv, ⟨ot, eo, co, no, do_⟩, _⟩ := I1.tuple hq
  refine call_enum_tuple (items := its.toArray) ⟨ot, eo, co, no, do_⟩ fun h' he hit hk => wpAny_pyIter_enum he ?_
  have J : Inv X pins σ H1 { s1 with heap := h' } := I1.kept (t' := s1.toks) hk
  refine ⟨s1.heap.objs.size + 1, [s1.heap.objs.size + 1, s1.heap.objs.size], _, _, H1, rfl, J, turn_enumT a (s1.heap.objs.size + 1) s1.heap.objs.size, ⟨⟨.none, he⟩, hit, Nat.succ_ne_self _⟩, fun b hb => ?_, q⟩
  have big : s1.heap.objs.size ≤ b := by
    rcases List.mem_cons.mp hb with z | z
    · rw [z]; exact Nat.le_succ _
    · rw [List.mem_singleton.mp z]; exact Nat.le_refl _
  exact I1.fpOk big (I1.hok.fresh big)
theorem it_enumT {K : Fg} {G1 : Hp} {a : Addr} {xs : List V} {ds : List D} (h : SqT K G1 a xs) (t : TrAll K G1 xs ds) : ItD K (IteT K a) (enumD ds) G1 := fun i G H s sh => by
  have q : SqT K H a xs := Same.tup (s.trans sh) h
  refine ⟨fun d hd => ?_, fun hi => ⟨xs, q, by unfold enumD at hi; rw [List.length_map, List.length_zipIdx] at hi; rw [t.len]; exact hi⟩⟩
  unfold enumD at hd
  rw [List.getElem?_map, List.getElem?_zipIdx] at hd
  obtain ⟨p, hp, rfl⟩ := Option.map_eq_some_iff.mp hd
  obtain ⟨e, he, rfl⟩ := Option.map_eq_some_iff.mp hp
  obtain ⟨v, hv, tv⟩ := t.get he
  refine ⟨⟨xs, v, q, hv⟩, fun x H' y => ?_⟩
  obtain ⟨T, z, rfl, n, rfl, y⟩ := y
  have := y xs q
  rw [hv] at this
  cases this
  refine ⟨_, Ex.pushF sh _ n, ?_⟩
  rw [Nat.zero_add]
  exact Tr.tup (.inl (.inl upd_same)) (TrAll.mono (same_upd (sh.free n)) (.cons (.int _) (.cons (Tr.mono s tv) .nil)))
def enumA (fa : Me (List Val)) : Me (List D) := mb fa fun xs => mo fun _ => match xs with
  | [.fz (.list ds)] => some (enumD ds)
  | [.ow (.list ds)] => some (enumD ds)
  | [.fz (.tuple ds)] => some (enumD ds)
  | _ => none
theorem di_enumA {X : Cx} {B : Bs} {e : Expr} {fa : Me (List Val)} {p pos tpos : Pos} {elts : List Expr} {kk : Nat} (hg : Gl X "enumerate") (hm : X.mg "enumerate" = none) (ha : DA X B [e] fa) (hs : starEach [e] X.env = [(false, eval e X.env)] := by rfl) : DI X B (.Tuple elts kk tpos) (.Call (.Name "enumerate" p) [e] [] pos) (enumA fa) := PI.weak (PI.or (di_enum hg hm ha hs) (pi_enumT hg hm ha hs)) fun σ H Q q => by
  obtain ⟨G, δ, ds, δ', R, e, k⟩ := q
  obtain ⟨xs, δ1, e1, e⟩ := mb_some e
  obtain ⟨e2, rfl⟩ := mo_some e
  have lists : ∀ z, xs = [z] → (z = .fz (.list ds) ∨ z = .ow (.list ds)) → False ∨ True := fun _ _ _ => .inr trivial
  split at e2
  · rename_i es
    cases e2
    refine .inl ⟨G, δ, enumD es, _, R, ?_, k⟩
    unfold enumM mb
    rw [e1]
    rfl
  · rename_i es
    cases e2
    refine .inl ⟨G, δ, enumD es, _, R, ?_, k⟩
    unfold enumM mb
    rw [e1]
    rfl
  · cases e2
    refine .inr ⟨G, δ, _, _, R, e1, fun vs G1 H1 s1 R1 v1 => ?_⟩
    cases v1 with
    | cons a b =>
      cases b
      obtain ⟨c, ys, rfl, h, t⟩ := Tr.tupI (show Tr X.K G1 _ (.tuple _) from a)
      exact ⟨c, ys, rfl, Same.tup R1.same h, k _ G1 H1 s1 R1 (it_enumT h t)⟩
  · cases e2
/-! ### str(n), {} -/
def strI : List D → Option Val
  | [.int i] => if decide (i.natAbs.log2 < 1920) then some (.fz (.str (toString i))) else none
  | _ => none
theorem fd_str {K : Fg} : FnD K (fun xs H Q => ∃ i : Int, xs = [.int i] ∧ i.natAbs.log2 < 1920 ∧ Q (.str (toString i)) H) strI := by
  intro G H vs ds res Q s vv hr k
  unfold strI at hr
  split at hr
  · obtain ⟨c, rfl⟩ := ite_some hr
    obtain ⟨v, rfl, v1⟩ := view1 vv
    cases v1.int
    exact ⟨_, rfl, of_decide_eq_true c, k _ G H (Ex.refl s) (.str _)⟩
  · cases hr
def dnewM : Me Val := mr (.ow (.dict []))
theorem de_dnew {X : Cx} {B : Bs} {pos : Pos} : DE X B (.Dict [] [] pos) dnewM := PE.weak pe_dnewK fun σ H Q h => by
  obtain ⟨G, δ, r, δ', R, e, k⟩ := h
  cases e
  intro p n
  have x := Ex.push R.same (.dK []) n
  exact k _ _ _ x.g (R.ex x) (RO.rv R ⟨p, rfl, n, R.same.free n, .dic upd_same .nil⟩)
/-! ### built-in names -/
theorem bt_len : bootBuiltins "len" = some (.builtin "len") := by decide +kernel
theorem bt_abs : bootBuiltins "abs" = some (.builtin "abs") := by decide +kernel
theorem bt_divmod : bootBuiltins "divmod" = some (.builtin "divmod") := by decide +kernel
theorem bt_sum : bootBuiltins "sum" = some (.builtin "sum") := by decide +kernel
theorem bt_any : bootBuiltins "any" = some (.builtin "any") := by decide +kernel
theorem bt_all : bootBuiltins "all" = some (.builtin "all") := by decide +kernel
theorem bt_repr : bootBuiltins "repr" = some (.builtin "repr") := by decide +kernel
theorem bt_max : bootBuiltins "max" = some (.builtin "max") := by decide +kernel
theorem bt_min : bootBuiltins "min" = some (.builtin "min") := by decide +kernel
theorem bt_sorted : bootBuiltins "sorted" = some (.builtin "sorted") := by decide +kernel
theorem bt_isinstance : bootBuiltins "isinstance" = some (.builtin "isinstance") := by decide +kernel
theorem bt_int : bootBuiltins "int" = some (.type "int") := by decide +kernel
theorem bt_bool : bootBuiltins "bool" = some (.type "bool") := by decide +kernel
theorem bt_str : bootBuiltins "str" = some (.type "str") := by decide +kernel
theorem bt_list : bootBuiltins "list" = some (.type "list") := by decide +kernel
theorem bt_tuple : bootBuiltins "tuple" = some (.type "tuple") := by decide +kernel
theorem bt_dict : bootBuiltins "dict" = some (.type "dict") := by decide +kernel
theorem bt_set : bootBuiltins "set" = some (.type "set") := by decide +kernel
end DL
end
section
set_option maxRecDepth 100000
set_option maxHeartbeats 4000000
namespace DL
open PySem PySem.Spec L2
open PyProof.Rows hiding St

section
variable {X : Cx} {B : Bs} {pos : Pos}
/-! ### x, y = a, b: what b hands back is kept as one's own -/
def parO (i j : Nat) (f g : Me Val) : Ss := fun δ => match f δ with
  | some (v, δ1) => (match g δ1 with
    | some (w, δ2) => (asg i (fzv v) δ2).bind fun δ3 => (asg j w δ3).bind fun δ4 => some (.nx, δ4)
    | none => none)
  | none => none
theorem RV.past {K : Fg} {G H : Hp} {δ δ' : DS} {σ : L2.St} {i : Nat} {v u : V} {r w : Val} (h : RV K B G H δ σ v w) (e : asg i (fzv r) δ = some δ') (hn : ∀ k, w ≠ .sl k) : RV K B G H δ' (σ.set i (some u)) v w := by
  cases w with
  | fz d => exact h
  | sl k => exact (hn k rfl).elim
  | ow d =>
    obtain ⟨a, rfl, h1, h2, h3, h4⟩ := h
    refine ⟨a, rfl, h1, h2, h3, fun k b d' q => ?_⟩
    have hd : ∃ d0, δ' = δ.set i (.dat d0) := by
      unfold asg at e
      split at e
      · cases r with
        | fz d => exact ⟨d, (Option.some.inj e).symm⟩
        | ow d => exact ⟨d, (Option.some.inj e).symm⟩
        | sl k => cases e
      · cases e
    obtain ⟨d0, rfl⟩ := hd
    by_cases hk : k = i
    · subst hk
      have hl : k < δ.length := by
        have := (List.getElem?_eq_some_iff.mp q).1
        rwa [List.length_set] at this
      rw [List.getElem?_set_self hl] at q
      cases q
    · rw [List.getElem?_set_ne (Ne.symm hk)] at q ⊢
      exact h4 k b d' q
theorem ss_parO {i j : Nat} {x y : Str} {a b : Expr} {f g : Me Val} {px py pt : Pos} {kt k2 pt2} (hc : X.calm = true) (hN : X.N.Nodup) (hi : X.N[i]? = some x) (hj : X.N[j]? = some y) (hij : i ≠ j)
    (hx : X.env.scope.names.lookup x = some .local) (hy : X.env.scope.names.lookup y = some .local) (ha : DE X B a f) (hb : DE X B b g)
    (hw : swappedStores [.Tuple [.Name x px, .Name y py] kt pt] (.Tuple [a, b] k2 pt2) X.env = pure (some [x, y])) (hs : swapsWithSole [.Tuple [.Name x px, .Name y py] kt pt] (.Tuple [a, b] k2 pt2) pos.line X.env = pure false := by rfl)
    (h1 : starEach [a, b] X.env = (false, eval a X.env) :: starEach [b] X.env := by rfl) (h2 : starEach [b] X.env = (false, eval b X.env) :: starEach [] X.env := by rfl) :
    SS X B (.Assign [.Tuple [.Name x px, .Name y py] kt pt] (.Tuple [a, b] k2 pt2) pos) (parO i j f g) := PS.weak (ps_par hc hN hi hj hij hx hy (pa_cons ha (pa_cons hb pa_nil h2) h1) hw hs) fun E σ H q => by
  obtain ⟨G, δ, fl, δ', R, e, k⟩ := q
  unfold parO at e
  split at e
  · rename_i v δ1 hg
    split at e
    · rename_i w δ2 hg2
      obtain ⟨δ3, e2, e⟩ := Option.bind_eq_some_iff.mp e
      obtain ⟨δ4, e3, e⟩ := Option.bind_eq_some_iff.mp e
      cases e
      refine ⟨G, δ, _, δ1, R, hg, fun u G1 H1 s1 R1 v1 => ?_⟩
      obtain ⟨G1', s1', R1', v1'⟩ := v1.freeze R1
      refine ⟨G1', δ1, w, δ2, R1', hg2, fun u2 G2 H2 s2 R2 v2 => ?_⟩
      have v1'' : RV X.K B G2 H2 δ2 σ u (fzv v) := RV.stay s2 v1'
      refine ⟨_, _, rfl, ?_⟩
      have R3 := R2.set v1'' e2
      have hn : ∀ k, w ≠ .sl k := fun k z => by
        subst z
        unfold asg at e3
        split at e3 <;> cases e3
      exact k _ G2 H2 ((s1.trans s1').trans s2) (R3.set (v2.past e2 hn) e3)
    · cases e
  · cases e
/-! ### a, b, c = l, of a tuple or a list -/
theorem PG.or' {e : Expr} {t t' : TG} (h : PG X e t) (h' : PG X e t') : PG X e (fun v σ H Q => t v σ H Q ∨ t' v σ H Q) := ⟨fun pins s σ H v u Q I r w => w.elim (h.run pins s σ H v u Q I r) (h'.run pins s σ H v u Q I r)⟩
def tupA (n : Nat) (g : Tgs) : Tg := fun v δ => match v with
  | .fz (.tuple ds) => if ds.length = n then g ds δ else none
  | .fz (.list ds) => if ds.length = n then g ds δ else none
  | _ => none
theorem dg_tupA {es : List Expr} {kk : Nat} {g : Tgs} {n : Nat} {ws : List Nat} (hc : X.calm = true) (h : DGs X B ws es g) (hn : (assignEach es X.env).length = n := by rfl) (hst : (assignEach es X.env).findIdx? (·.1) = none := by rfl) : DG X B ws (.Tuple es kk pos) (tupA n g) := PG.weak (PG.or' (pg_tup hc h hn hst) (pg_lst hc h hn hst)) fun v σ H Q q => by
  obtain ⟨G, δ, r, δ', R, rv, e, k⟩ := q
  unfold tupA at e
  split at e
  · rename_i ds
    split at e
    · rename_i hl
      have rv : Tr X.K G v (.tuple ds) := rv
      cases rv with
      | @tup a xs _ hx t => exact .inl ⟨a, xs, rfl, Same.tup R.same hx, by rw [t.len]; exact hl, G, δ, ds, δ', R, t, e, k⟩
    · cases e
  · rename_i ds
    split at e
    · rename_i hl
      have rv : Tr X.K G v (.list ds) := rv
      cases rv with
      | @lst a xs _ hx t => exact .inr ⟨a, xs, rfl, .inl (.inl (R.same _ _ hx)), by rw [t.len]; exact hl, G, δ, ds, δ', R, t, e, k⟩
    · cases e
  · cases e
end
end DL
end
section
set_option maxRecDepth 100000
set_option maxHeartbeats 4000000
namespace DL
open PySem PySem.Spec L2
open PyProof.Rows hiding St

section
variable {X : Cx} {B : Bs} {pos : Pos}
def par3S (i j k : Nat) (fa : Me (List Val)) : Ss := fun δ => match fa δ with
  | some ([u, v, w], δ1) => (asg i (fzv u) δ1).bind fun δ2 => (asg j (fzv v) δ2).bind fun δ3 => (asg k (fzv w) δ3).bind fun δ4 => some (.nx, δ4)
  | _ => none
theorem fzv_free {i : Nat} {w : Val} {δ δ' : DS} (e : asg i (fzv w) δ = some δ') : ∃ d, fzv w = .fz d := by
  cases w with
  | fz d => exact ⟨d, rfl⟩
  | ow d => exact ⟨d, rfl⟩
  | sl k =>
    unfold asg at e
    split at e <;> cases e
theorem ss_par3 {i j k : Nat} {x y z : Str} {a b c : Expr} {fa : Me (List Val)} {px py pz pt : Pos} {kt k2 pt2} (hc : X.calm = true) (hN : X.N.Nodup) (hi : X.N[i]? = some x) (hj : X.N[j]? = some y) (hk : X.N[k]? = some z) (hij : i ≠ j) (hik : i ≠ k) (hjk : j ≠ k)
    (hx : X.env.scope.names.lookup x = some .local) (hy : X.env.scope.names.lookup y = some .local) (hz : X.env.scope.names.lookup z = some .local) (ha : DA X B [a, b, c] fa)
    (hw : swappedStores [.Tuple [.Name x px, .Name y py, .Name z pz] kt pt] (.Tuple [a, b, c] k2 pt2) X.env = pure (some [x, y, z])) (hs : swapsWithSole [.Tuple [.Name x px, .Name y py, .Name z pz] kt pt] (.Tuple [a, b, c] k2 pt2) pos.line X.env = pure false := by rfl) :
    SS X B (.Assign [.Tuple [.Name x px, .Name y py, .Name z pz] kt pt] (.Tuple [a, b, c] k2 pt2) pos) (par3S i j k fa) := PS.weak (ps_par3 hc hN hi hj hk hij hik hjk hx hy hz ha hw hs) fun E σ H q => by
  obtain ⟨G, δ, fl, δ', R, e, kk⟩ := q
  unfold par3S at e
  split at e
  · rename_i u v w δ1 hg
    obtain ⟨δ2, e2, e⟩ := Option.bind_eq_some_iff.mp e
    obtain ⟨δ3, e3, e⟩ := Option.bind_eq_some_iff.mp e
    obtain ⟨δ4, e4, e⟩ := Option.bind_eq_some_iff.mp e
    cases e
    obtain ⟨d2, q2⟩ := fzv_free e3
    obtain ⟨d3, q3⟩ := fzv_free e4
    refine ⟨G, δ, _, δ1, R, hg, fun vs G1 H1 s1 R1 v1 => ?_⟩
    cases v1 with
    | cons a1 b1 =>
      cases b1 with
      | cons a2 b2 =>
        cases b2 with
        | cons a3 b3 =>
          cases b3
          refine ⟨_, _, _, rfl, ?_⟩
          have R2 := R1.set a1 e2
          rw [q2] at a2 e3
          rw [q3] at a3 e4
          have R3 := R2.set (r := .fz d2) a2 e3
          exact kk _ G1 H1 s1 (R3.set (r := .fz d3) a3 e4)
  · cases e
end
end DL
end
section
set_option maxRecDepth 100000
set_option maxHeartbeats 4000000
namespace DL
open PySem PySem.Spec L2
open PyProof.Rows hiding St

/-! ### repr of data that may hold dicts -/
mutual
/-- a value of the heap read as a tree, no dict of it being the table of modules -/
inductive Rz (h : Heap) : Value → D → Prop
  | non : Rz h .none .none
  | bl (b) : Rz h (.bool b) (.bool b)
  | int (i t) : Rz h (.int i t) (.int i)
  | str (x t) : Rz h (.str x t) (.str x)
  | lst {a o vs n xs} : h.get? a = some o → o.cls = .type "list" → o.data = .seq vs n → RzAll h vs.toList xs → Rz h (.ref a) (.list xs)
  | tup {a o vs n xs} : h.get? a = some o → o.cls = .type "tuple" → o.data = .seq vs n → RzAll h vs.toList xs → Rz h (.ref a) (.tuple xs)
  | dic {a o es n kvs} : (a == sysModules) = false → h.get? a = some o → o.cls = .type "dict" → o.data = .dict es n → RzAll h (es.toList.map (·.key)) (kvs.map (·.1)) →
      RzAll h (es.toList.map (·.val)) (kvs.map (·.2)) → Rz h (.ref a) (.dict kvs)
inductive RzAll (h : Heap) : List Value → List D → Prop
  | nil : RzAll h [] []
  | cons {v vs d ds} : Rz h v d → RzAll h vs ds → RzAll h (v :: vs) (d :: ds)
end
mutual
theorem Rz.reads {h : Heap} : ∀ {v : Value} {d : D}, Rz h v d → ∃ as, Reads h v d as
  | _, _, .non => ⟨_, .none⟩
  | _, _, .bl b => ⟨_, .bool b⟩
  | _, _, .int i t => ⟨_, .int i t⟩
  | _, _, .str i t => ⟨_, .str i t⟩
  | _, _, .lst a b c d => let ⟨_, e⟩ := RzAll.reads d; ⟨_, .list a b c e⟩
  | _, _, .tup a b c d => let ⟨_, e⟩ := RzAll.reads d; ⟨_, .tuple a b c e⟩
  | _, _, .dic _ a b c d e => let ⟨_, f⟩ := RzAll.reads d; let ⟨_, g⟩ := RzAll.reads e; ⟨_, .dict a b c f g⟩
theorem RzAll.reads {h : Heap} : ∀ {v : List Value} {d : List D}, RzAll h v d → ∃ as, ReadsAll h v d as
  | _, _, .nil => ⟨_, .nil⟩
  | _, _, .cons a b => let ⟨_, e⟩ := Rz.reads a; let ⟨_, f⟩ := RzAll.reads b; ⟨_, .cons e f⟩
end
section
variable {prog : Program} {w : World} {h : Heap}
/-- the texts of a value's parts: how repr walks a value at this depth -/
def Wk (prog : Program) (w : World) (h : Heap) (v : Value) (d : D) : Prop := ∃ bs, ReadAtMost h d.depth bs ∧ ReprK prog w bs h d.depth v d.shown
def WkAll (prog : Program) (w : World) (h : Heap) (vs : List Value) (ds : List D) : Prop := ∃ bs, ReadAtMost h (PyData.depthAll ds) bs ∧ ReprAllK prog w bs h (PyData.depthAll ds) vs (PyData.shownAll ds)
theorem WkAll.nil : WkAll prog w h [] [] := ⟨[], nofun, by rw [show PyData.shownAll [] = [] by simp only [PyData.shownAll]]; exact .nil⟩
theorem WkAll.cons {v : Value} {vs : List Value} {d : D} {ds : List D} (a : Wk prog w h v d) (b : WkAll prog w h vs ds) : WkAll prog w h (v :: vs) (d :: ds) := by
  obtain ⟨b1, r1, k1⟩ := a
  obtain ⟨b2, r2, k2⟩ := b
  have l1 : d.depth ≤ PyData.depthAll (d :: ds) := by simp only [PyData.depthAll]; exact Nat.le_max_left _ _
  have l2 : PyData.depthAll ds ≤ PyData.depthAll (d :: ds) := by simp only [PyData.depthAll]; exact Nat.le_max_right _ _
  refine ⟨b1 ++ b2, (r1.mono l1).append (r2.mono l2), ?_⟩
  rw [show PyData.shownAll (d :: ds) = d.shown :: PyData.shownAll ds by simp only [PyData.shownAll]]
  exact .cons ((k1.more fun _ m => List.mem_append_left _ m).level_le l1) (k2.more_le (fun _ m => List.mem_append_right _ m) l2)
theorem wk_lst {a : Addr} {o : Obj} {vs : Array Value} {n : Nat} {xs : List D} (h1 : h.get? a = some o) (h2 : o.cls = .type "list") (h3 : o.data = .seq vs n) (hr : RzAll h vs.toList xs) (hw : WkAll prog w h vs.toList xs) :
    ∃ bs, a ∉ bs ∧ ReadAtMost h (PyData.depthAll xs) bs ∧ ReprAllK prog w bs h (PyData.depthAll xs) vs.toList (PyData.shownAll xs) := by
  obtain ⟨bs, hb, hk⟩ := hw
  obtain ⟨as, e⟩ := RzAll.reads hr
  exact ⟨bs, not_mem_of_deeper (.list h1 h2 h3 e) (by simp only [PyData.depth]; omega) hb, hb, hk⟩
theorem wk_tup {a : Addr} {o : Obj} {vs : Array Value} {n : Nat} {xs : List D} (h1 : h.get? a = some o) (h2 : o.cls = .type "tuple") (h3 : o.data = .seq vs n) (hr : RzAll h vs.toList xs) (hw : WkAll prog w h vs.toList xs) :
    ∃ bs, a ∉ bs ∧ ReadAtMost h (PyData.depthAll xs) bs ∧ ReprAllK prog w bs h (PyData.depthAll xs) vs.toList (PyData.shownAll xs) := by
  obtain ⟨bs, hb, hk⟩ := hw
  obtain ⟨as, e⟩ := RzAll.reads hr
  exact ⟨bs, not_mem_of_deeper (.tuple h1 h2 h3 e) (by simp only [PyData.depth]; omega) hb, hb, hk⟩
theorem wk_dic {a : Addr} {o : Obj} {es : Array DictEntry} {n : Nat} {kvs : List (D × D)} (h1 : h.get? a = some o) (h2 : o.cls = .type "dict") (h3 : o.data = .dict es n)
    (rk : RzAll h (es.toList.map (·.key)) (kvs.map (·.1))) (rv : RzAll h (es.toList.map (·.val)) (kvs.map (·.2))) (hk : WkAll prog w h (es.toList.map (·.key)) (kvs.map (·.1))) (hv : WkAll prog w h (es.toList.map (·.val)) (kvs.map (·.2))) :
    ∃ bs, a ∉ bs ∧ ReadAtMost h (PyData.depthKv kvs) bs ∧ ReprEntriesK prog w bs h (PyData.depthKv kvs) es.toList (PyData.shownKv kvs) := by
  obtain ⟨b1, r1, k1⟩ := hk
  obtain ⟨b2, r2, k2⟩ := hv
  obtain ⟨as, e⟩ := RzAll.reads rk
  obtain ⟨cs, f⟩ := RzAll.reads rv
  have hb := (r1.mono (PyData.depthAll_keys_le kvs)).append (r2.mono (PyData.depthAll_vals_le kvs))
  refine ⟨b1 ++ b2, not_mem_of_deeper (.dict h1 h2 h3 e f) (by simp only [PyData.depth]; omega) hb, hb, ?_⟩
  rw [PyData.shownKv_eq]
  exact ReprEntriesK.of_two es.toList _ _ (k1.more_le (fun _ m => List.mem_append_left _ m) (PyData.depthAll_keys_le kvs)) (k2.more_le (fun _ m => List.mem_append_right _ m) (PyData.depthAll_vals_le kvs))
theorem kv_keys {kvs : List (D × D)} (z : (dictText (PyData.shownKv kvs)).length ≤ sizeLine) : ∀ t ∈ PyData.shownAll (kvs.map (·.1)), t.length ≤ sizeLine := fun t ht => by
  obtain ⟨p, hp, l⟩ := PyData.shownKv_key_le kvs t ht
  exact Nat.le_trans l (Nat.le_trans (dictText_mem_le hp) z)
theorem kv_vals {kvs : List (D × D)} (z : (dictText (PyData.shownKv kvs)).length ≤ sizeLine) : ∀ t ∈ PyData.shownAll (kvs.map (·.2)), t.length ≤ sizeLine := fun t ht => by
  obtain ⟨p, hp, l⟩ := PyData.shownKv_val_le kvs t ht
  exact Nat.le_trans l (Nat.le_trans (dictText_mem_le hp) z)
mutual
theorem Rz.wk : ∀ {v : Value} {d : D}, Rz h v d → d.showable = true → d.shown.length ≤ sizeLine → Wk prog w h v d
  | _, _, .non, _, _ => ⟨[], nofun, by simp only [PyData.shown]; exact .of_is ReprIs.none _ _ _⟩
  | _, _, .bl b, _, _ => ⟨[], nofun, by simp only [PyData.shown]; exact .of_is (ReprIs.bool b) _ _ _⟩
  | _, _, .int i t, hs, _ => ⟨[], nofun, by simp only [PyData.shown]; exact .of_is (ReprIs.int t (by simpa [PyData.showable] using hs)) _ _ _⟩
  | _, _, .str x t, _, hz => ⟨[], nofun, by simp only [PyData.shown]; exact .of_is (ReprIs.str x t (by simpa only [PyData.shown] using hz)) _ _ _⟩
  | _, _, .lst (a := a) (vs := vs) (xs := xs) h1 h2 h3 hr, hs, hz => by
    have z : (listText (PyData.shownAll xs)).length ≤ sizeLine := by simpa only [PyData.shown] using hz
    obtain ⟨bs, na, hb, hk⟩ := wk_lst h1 h2 h3 hr (RzAll.wk hr (by simpa [PyData.showable] using hs) fun t ht => Nat.le_trans (listText_mem_le ht) z)
    obtain ⟨as, e⟩ := RzAll.reads hr
    refine ⟨a :: bs, ReadAtMost.cons (.list h1 h2 h3 e) (by simp only [PyData.depth]; omega) hb, ?_⟩
    simp only [PyData.depth, PyData.shown]
    obtain ⟨l⟩ := vs
    cases l with
    | nil =>
      cases (show RzAll h [] xs from hr)
      rw [show listText (PyData.shownAll []) = "[]" by simp only [PyData.shownAll, listText_nil]]
      exact ReprK.listEmpty h1 h2 h3
    | cons x l => exact ReprK.list h1 h2 h3 na (by simpa using hk.length_eq) fun i y e => hk.item i y (by simpa using e)
  | _, _, .tup (a := a) (xs := xs) h1 h2 h3 hr, hs, hz => by
    have z : (tupleText (PyData.shownAll xs)).length ≤ sizeLine := by simpa only [PyData.shown] using hz
    obtain ⟨bs, na, hb, hk⟩ := wk_tup h1 h2 h3 hr (RzAll.wk hr (by simpa [PyData.showable] using hs) fun t ht => Nat.le_trans (tupleText_mem_le ht) z)
    obtain ⟨as, e⟩ := RzAll.reads hr
    refine ⟨a :: bs, ReadAtMost.cons (.tuple h1 h2 h3 e) (by simp only [PyData.depth]; omega) hb, ?_⟩
    simp only [PyData.depth, PyData.shown]
    exact ReprK.tuple h1 h2 h3 na hk
  | _, _, .dic (a := a) (kvs := kvs) h0 h1 h2 h3 rk rv, hs, hz => by
    have z : (dictText (PyData.shownKv kvs)).length ≤ sizeLine := by simpa only [PyData.shown] using hz
    obtain ⟨s1, s2⟩ := PyData.showableKv_split kvs (by simpa [PyData.showable] using hs)
    obtain ⟨bs, na, hb, hk⟩ := wk_dic h1 h2 h3 rk rv (RzAll.wk rk s1 (kv_keys z)) (RzAll.wk rv s2 (kv_vals z))
    obtain ⟨as, e⟩ := RzAll.reads rk
    obtain ⟨cs, f⟩ := RzAll.reads rv
    refine ⟨a :: bs, ReadAtMost.cons (.dict h1 h2 h3 e f) (by simp only [PyData.depth]; omega) hb, ?_⟩
    simp only [PyData.depth, PyData.shown]
    exact ReprK.dict h1 h2 h3 h0 na hk
theorem RzAll.wk : ∀ {vs : List Value} {ds : List D}, RzAll h vs ds → PyData.showableAll ds = true → (∀ t ∈ PyData.shownAll ds, t.length ≤ sizeLine) → WkAll prog w h vs ds
  | _, _, .nil, _, _ => .nil
  | _, _, .cons (d := d) (ds := ds) a b, hs, hz => by
    have s' : d.showable = true ∧ PyData.showableAll ds = true := by simpa [PyData.showableAll] using hs
    have e : PyData.shownAll (d :: ds) = d.shown :: PyData.shownAll ds := by simp only [PyData.shownAll]
    rw [e] at hz
    exact .cons (Rz.wk a s'.1 (hz _ List.mem_cons_self)) (RzAll.wk b s'.2 fun t ht => hz t (List.mem_cons_of_mem _ ht))
end
theorem Rz.call {a : Addr} {d : D} (r : Rz h (.ref a) d) (hs : d.showable = true) (hz : d.shown.length ≤ sizeLine) {A : Around} {E : Value → Shared → Prop} {s : Shared} {Q : Value → Shared → Prop} (hg : A.guards = some []) (hu : A.units + (d.depth + 1) < cLine)
    (hk0 : ∀ b o, h.get? b = some o → s.heap.get? b = some o) (hQ : ∀ h' u tk, (∀ b o, s.heap.get? b = some o → h'.get? b = some o) → Q (.str d.shown u) { s with heap := h', toks := tk }) :
    wpAny (model prog w) A (call (.builtin "repr") [.ref a]) Q E s := by
  have hu' : A.in1.units + d.depth < cLine := by show A.units + 1 + d.depth < cLine; omega
  have hg' : A.in1.guards = some [] := hg
  cases r with
  | lst h1 h2 h3 hr =>
    rename_i o vs n xs
    have z : (listText (PyData.shownAll xs)).length ≤ sizeLine := by simpa only [PyData.shown] using hz
    obtain ⟨bs, na, hb, hk⟩ := wk_lst (prog := prog) (w := w) h1 h2 h3 hr (RzAll.wk hr (by simpa [PyData.showable] using hs) fun t ht => Nat.le_trans (listText_mem_le ht) z)
    simp only [PyData.depth] at hu'
    simp only [PyData.shown] at hQ
    refine call_repr_slot (by simp only [PyData.depth] at hu; omega) ⟨o, hk0 _ _ h1, h2⟩ F.slot_list_repr.toG ?_
    obtain ⟨l⟩ := vs
    cases l with
    | nil =>
      cases (show RzAll h [] xs from hr)
      simp only [PyData.shownAll, listText_nil] at hQ
      exact call_list_repr_empty ⟨o, hk0 _ _ h1, h2⟩ (hk0 _ _ h1) h3 ⟨_, _, rfl, hQ s.heap _ _ fun _ _ e => e⟩
    | cons x l => exact call_list_reprK h1 h2 h3 na (by simpa using hk.length_eq) (fun i y e => hk.item i y (by simpa using e)) hg' (fun b _ => Clear.nil b) hu' hk0 (fun h' u tk hk => ⟨_, _, rfl, hQ h' u tk hk⟩) z
  | tup h1 h2 h3 hr =>
    rename_i o vs n xs
    have z : (tupleText (PyData.shownAll xs)).length ≤ sizeLine := by simpa only [PyData.shown] using hz
    obtain ⟨bs, na, hb, hk⟩ := wk_tup (prog := prog) (w := w) h1 h2 h3 hr (RzAll.wk hr (by simpa [PyData.showable] using hs) fun t ht => Nat.le_trans (tupleText_mem_le ht) z)
    simp only [PyData.depth] at hu'
    simp only [PyData.shown] at hQ
    refine call_repr_slot (by simp only [PyData.depth] at hu; omega) ⟨o, hk0 _ _ h1, h2⟩ F.slot_tuple_repr ?_
    exact call_tuple_reprK h1 h2 h3 na hk hg' (fun b _ => Clear.nil b) hu' hk0 (fun h' u tk hk => ⟨_, _, rfl, hQ h' u tk hk⟩) z
  | dic h0 h1 h2 h3 rk rv =>
    rename_i o es n kvs
    have z : (dictText (PyData.shownKv kvs)).length ≤ sizeLine := by simpa only [PyData.shown] using hz
    obtain ⟨s1, s2⟩ := PyData.showableKv_split kvs (by simpa [PyData.showable] using hs)
    obtain ⟨bs, na, hb, hk⟩ := wk_dic (prog := prog) (w := w) h1 h2 h3 rk rv (RzAll.wk rk s1 (kv_keys z)) (RzAll.wk rv s2 (kv_vals z))
    simp only [PyData.depth] at hu'
    simp only [PyData.shown] at hQ
    refine call_repr_slot (by simp only [PyData.depth] at hu; omega) ⟨o, hk0 _ _ h1, h2⟩ F.slot_dict_repr ?_
    exact call_dict_reprK h1 h2 h3 h0 na hk hg' (fun b _ => Clear.nil b) hu' hk0 (fun h' u tk hk => ⟨_, _, rfl, hQ h' u tk hk⟩) z
end

/-! ### trees of the frame are such values -/
mutual
/-- no part is the script -/
def plainD : D → Bool
  | .list xs => plainAll xs
  | .tuple xs => plainAll xs
  | .dict kvs => plainKv kvs
  | _ => true
def plainAll : List D → Bool
  | [] => true
  | x :: xs => plainD x && plainAll xs
def plainKv : List (D × D) → Bool
  | [] => true
  | (k, v) :: r => (match k with | .none => false | _ => true) && plainD v && plainKv r
end
section
variable {X : Cx} {pins : List (Addr × Obj)} {σ : L2.St} {H : Hp} {s : Shared}
theorem rz_key {k : Key} {u : Value} (e : keyIs k u = true) : Rz h u (keyD k) := by
  rcases keyIs_shape e with ⟨i, t, rfl, rfl⟩ | ⟨x, t, rfl, rfl⟩
  · exact .int i t
  · exact .str x t
mutual
theorem Tr.rz (I : Inv X pins σ H s) : ∀ {d : D} {v : V} {u : Value}, plainD d = true → Tr X.K H v d → RelV v u → Rz s.heap u d
  | _, _, _, _, .non, r => by cases r; exact .non
  | _, _, _, _, .bl b, r => by cases r; exact .bl b
  | _, _, _, _, .int i, r => by obtain ⟨t, rfl⟩ := r; exact .int i t
  | _, _, _, _, .str i, r => by obtain ⟨t, rfl⟩ := r; exact .str i t
  | .list ds, _, _, p, .lst h t, r => by
    cases r
    obtain ⟨its, rv, ⟨o, n, ho, hc, _, hd⟩, _⟩ := I.list (.inl (.inl h))
    exact .lst ho hc hd (TrAll.rz I (by simpa [plainD] using p) t (by simpa using rv))
  | .tuple ds, _, _, p, .tup h t, r => by
    cases r
    obtain ⟨its, rv, ⟨o, ho, hc, n, hd⟩, _⟩ := I.tuple h
    exact .tup ho hc hd (TrAll.rz I (by simpa [plainD] using p) t (by simpa using rv))
  | .dict es, _, _, p, .dic h t, r => by
    cases r
    obtain ⟨_, hm, vs, rel, o, en, ep, ho, hx, hd, _, hp, _⟩ := I.hok _ _ h
    obtain ⟨r1, r2⟩ := TrKV.rz I (by simpa [plainD] using p) t rel hp
    exact .dic hm ho hx.1 hd r1 r2
  | _, _, _, p, .scr h, r => by simp [plainD, plainKv] at p
theorem TrAll.rz (I : Inv X pins σ H s) : ∀ {d : List D} {v : List V} {u : List Value}, plainAll d = true → TrAll X.K H v d → Vals v u → RzAll s.heap u d
  | _, _, _, _, .nil, r => by cases r; exact .nil
  | _, _, _, p, .cons a b, r => by
    cases r with
    | cons r1 r2 =>
      simp only [plainAll, Bool.and_eq_true] at p
      exact .cons (Tr.rz I p.1 a r1) (TrAll.rz I p.2 b r2)
theorem TrKV.rz (I : Inv X pins σ H s) : ∀ {es : List (D × D)} {kvs : List (Key × V)} {vs : List (Key × Value)} {en : List DictEntry}, plainKv es = true → TrKV X.K H kvs es → KV kvs vs → Pairs (mixKind X.prog X.w) en vs →
    RzAll s.heap (en.map (·.key)) (es.map (·.1)) ∧ RzAll s.heap (en.map (·.val)) (es.map (·.2))
  | _, _, _, _, _, .nil, r, q => by
    cases r
    cases q
    exact ⟨.nil, .nil⟩
  | _, _, _, _, p, .cons a b, r, q => by
    cases r with
    | cons r1 r2 =>
      cases q with
      | cons q1 q2 q3 =>
        simp only [plainKv, Bool.and_eq_true] at p
        obtain ⟨z1, z2⟩ := TrKV.rz I p.2 b r2 q3
        obtain ⟨rk, rv⟩ := r1
        refine ⟨.cons ?_ z1, .cons ?_ z2⟩
        · have q1 := q1
          rw [← rk] at q1
          exact rz_key q1
        · have rv := rv
          rw [← q2] at rv
          exact Tr.rz I p.1.2 a rv
end
end
def rReprZ (K : Fg) : List V → Hp → VK → Prop := fun xs H Q => ∃ v d, xs = [v] ∧ Tr K H v d ∧ plainD d = true ∧ d.showable = true ∧ d.depth ≤ 60 ∧ d.shown.length ≤ sizeLine ∧ Q (.str d.shown) H
theorem call_reprZ {X : Cx} (hg : X.A.guards = some []) (hu : X.A.units + 64 < cLine) : CallR X (.builtin "repr") (rReprZ X.K) := by
  intro pins s σ H xs us Q I r h
  obtain ⟨v, d, rfl, t, hc, hs, hd, hz, q⟩ := h
  obtain ⟨u, rfl, ru⟩ := vals1 r
  have rz := Tr.rz I hc t ru
  have rz0 := rz
  have fin := fun {a : Addr} (e : u = .ref a) => (e ▸ rz0 : Rz s.heap (.ref a) d).call (prog := X.prog) (w := X.w) (E := X.xe) (Q := fun v s' => ∃ x H', Inv X pins σ H' s' ∧ RelV x v ∧ Q x H') hs hz hg (by omega) (fun _ _ e => e) fun h' u tk hk => ⟨.str _, H, I.kept (t' := tk) hk, ⟨_, rfl⟩, q⟩
  cases rz with
  | non => exact PySem.P.repr_of_none ⟨.str _, H, I.tok _, ⟨_, rfl⟩, q⟩
  | bl b => exact PySem.P.repr_of_bool ⟨.str _, H, I.tok _, ⟨_, rfl⟩, by cases b <;> exact q⟩
  | int i t => exact PySem.P.repr_of_int (by simpa [PyData.showable] using hs) ⟨.str _, H, I.tok _, ⟨_, rfl⟩, q⟩
  | str x t => exact PySem.P.repr_of_str ⟨.str _, H, I.tok _, ⟨_, rfl⟩, q⟩ hz
  | lst _ _ _ _ => exact fin rfl
  | tup _ _ _ _ => exact fin rfl
  | dic _ _ _ _ _ _ => exact fin rfl
def reprOkZ (d : D) : Bool := plainD d && d.showable && decide (d.depth ≤ 60) && szOk d.shown.length
def reprZ : List D → Option Val
  | [d] => if reprOkZ d then some (.fz (.str d.shown)) else none
  | _ => none
theorem fd_reprZ {K : Fg} : FnD K (rReprZ K) reprZ := by
  intro G H vs ds res Q s vv hr k
  unfold reprZ at hr
  split at hr
  · obtain ⟨c, rfl⟩ := ite_some hr
    unfold reprOkZ at c
    rw [Bool.and_eq_true, Bool.and_eq_true, Bool.and_eq_true] at c
    obtain ⟨v, rfl, v1⟩ := view1 vv
    exact ⟨v, _, rfl, v1.tr s, c.1.1.1, c.1.1.2, of_decide_eq_true c.1.2, szOk_le c.2, k _ G H (Ex.refl s) (.str _)⟩
  · cases hr
mutual
theorem plain_of_lay : ∀ (d : D), d.canLay0 = true → plainD d = true
  | .none, _ => by simp [plainD]
  | .bool _, _ => by simp [plainD]
  | .int _, _ => by simp [plainD]
  | .str _, _ => by simp [plainD]
  | .list xs, h => by simpa [plainD] using plainAll_of_lay xs (by simpa [PyData.canLay0] using h)
  | .tuple xs, h => by simpa [plainD] using plainAll_of_lay xs (by simpa [PyData.canLay0] using h)
  | .dict _, h => by simp [PyData.canLay0] at h
theorem plainAll_of_lay : ∀ (d : List D), PyData.canLayAll0 d = true → plainAll d = true
  | [], _ => by simp [plainAll]
  | x :: r, h => by
    have h' : x.canLay0 = true ∧ PyData.canLayAll0 r = true := by simpa [PyData.canLayAll0] using h
    simp [plainAll, plain_of_lay x h'.1, plainAll_of_lay r h'.2]
end

/-! ### {i: j} of numbers -/
def ddispM (i j : Int) : Me Val := mr (.ow (.dict [(.int i, .int j)]))
theorem de_disp1 {X : Cx} {B : Bs} {pos : Pos} {i j : Int} {p1 p2 p3 p4} : DE X B (.Dict [some (.Constant (.int i) p1 p2)] [.Constant (.int j) p3 p4] pos) (ddispM i j) :=
  PE.weak (pe_disp (pps_cons pe_int pe_int pps_nil) (by rfl) (by rfl) nofun (by simp)) fun σ H Q h => by
    obtain ⟨G, δ, r, δ', R, e, k⟩ := h
    cases e
    intro p n
    refine ⟨upd_same, [(.inl i, .int j)], rfl, by simp, ?_⟩
    have e : upd (upd H p (.dK [])) p (.dK (mergeK [] [(.inl i, .int j)])) = upd H p (.dK [(.inl i, .int j)]) := by
      funext b
      by_cases hb : b = p
      · rw [hb, upd_same, upd_same]; rfl
      · rw [upd_ne hb, upd_ne hb, upd_ne hb]
    rw [e]
    have x := Ex.push R.same (.dK [(.inl i, .int j)]) n
    exact k _ _ _ x.g (R.ex x) (RO.rv R ⟨p, rfl, n, R.same.free n, .dic upd_same (.cons (.int j) .nil)⟩)
/-! ### i in (a, b) of numbers -/
def allI : List D → Option (List Int)
  | [] => some []
  | .int i :: r => (allI r).map (i :: ·)
  | _ :: _ => none
theorem allI_eq : ∀ {ds : List D} {l : List Int}, allI ds = some l → ds = l.map .int
  | [], l, h => by cases h; rfl
  | .int i :: r, l, h => by
    obtain ⟨m, e, rfl⟩ := Option.map_eq_some_iff.mp (show (allI r).map (i :: ·) = some l from h)
    rw [allI_eq e]; rfl
  | .none :: _, _, h => by cases h
  | .bool _ :: _, _, h => by cases h
  | .str _ :: _, _, h => by cases h
  | .list _ :: _, _, h => by cases h
  | .tuple _ :: _, _, h => by cases h
  | .dict _ :: _, _, h => by cases h
theorem TrAll.intsI {K : Fg} {H : Hp} : ∀ {l : List Int} {vs : List V}, TrAll K H vs (l.map .int) → vs = l.map .int
  | [], _, h => by cases h; rfl
  | i :: r, _, h => by
    cases h with
    | cons a b => cases a; rw [List.map_cons, TrAll.intsI b]
def inI : D → D → Option Val
  | .int i, .tuple ds => (allI ds).map fun l => .fz (.bool (l.any fun y => y == i))
  | _, _ => none
theorem inV_ints (i : Int) (l : List Int) : inV (.int i) (l.map V.int) = l.any fun y => y == i := by
  unfold inV
  rw [List.any_map]
  rfl
theorem flat_ints (l : List Int) : (l.map V.int).all L2.flatV = true := by
  rw [List.all_map, List.all_eq_true]
  intro x _
  rfl
theorem od_inI {K : Fg} : OpD K (rIn K false) inI := by
  intro G H x y d e res Q s vx vy hr k
  unfold inI at hr
  split at hr
  · obtain ⟨l, el, rfl⟩ := Option.map_eq_some_iff.mp hr
    rw [allI_eq el] at vy
    obtain ⟨a, xs, rfl, h, t⟩ := vy.tuple s
    have := TrAll.intsI t
    subst this
    have := vx.int
    subst this
    refine ⟨a, _, rfl, .inr h, rfl, flat_ints l, ?_⟩
    rw [inV_ints]
    exact k _ G H (Ex.refl s) (.bl _)
  · cases hr
/-! ### zip of two lists or of two tuples -/
theorem it_zipT {K : Fg} {G1 : Hp} {a b : Addr} {xs ys : List V} {ds es : List D} (h : SqT K G1 a xs) (t : TrAll K G1 xs ds) (h2 : SqT K G1 b ys) (t2 : TrAll K G1 ys es) : ItD K (RZ.ItzT K a b) (zipD ds es) G1 := fun i G H s sh => by
  have q : SqT K H a xs := Same.tup (s.trans sh) h
  have q2 : SqT K H b ys := Same.tup (s.trans sh) h2
  refine ⟨fun d hd => ?_, fun hi => ⟨xs, ys, q, q2, by unfold zipD at hi; rw [List.length_map, List.length_zip] at hi; rw [t.len, t2.len]; omega⟩⟩
  unfold zipD at hd
  rw [List.getElem?_map] at hd
  obtain ⟨p, hp, rfl⟩ := Option.map_eq_some_iff.mp hd
  rw [List.getElem?_zip_eq_some] at hp
  obtain ⟨v, hv, tv⟩ := t.get hp.1
  obtain ⟨w, hw, tw⟩ := t2.get hp.2
  refine ⟨⟨xs, ys, v, w, q, q2, hv, hw⟩, fun x H' y => ?_⟩
  obtain ⟨T, z, z2, rfl, n, rfl, y, y2⟩ := y
  have h1 := y xs q
  have h2 := y2 ys q2
  rw [hv] at h1
  rw [hw] at h2
  cases h1
  cases h2
  exact ⟨_, Ex.pushF sh _ n, Tr.tup (.inl (.inl upd_same)) (TrAll.mono (same_upd (sh.free n)) (.cons (Tr.mono s tv) (.cons (Tr.mono s tw) .nil)))⟩
def zipA (fa : Me (List Val)) : Me (List D) := mb fa fun xs => mo fun _ => (fzs xs).bind fun as => match as with
  | [.list ds, .list es] => some (zipD ds es)
  | [.tuple ds, .tuple es] => some (zipD ds es)
  | _ => none
theorem di_zipA {X : Cx} {B : Bs} {e e2 : Expr} {fa : Me (List Val)} {p pos tpos : Pos} {elts : List Expr} {kk : Nat} (hg : Gl X "zip") (hm : X.mg "zip" = none) (ha : DA X B [e, e2] fa)
    (hs : starEach [e, e2] X.env = (false, eval e X.env) :: starEach [e2] X.env := by rfl) (hpl : (backTo pos (starEach [e2] X.env)).any (·.1) = false := by rfl) : DI X B (.Tuple elts kk tpos) (.Call (.Name "zip" p) [e, e2] [] pos) (zipA fa) := PI.weak (RZ.pi_zipA hg hm ha hs hpl) fun σ H Q q => by
  obtain ⟨G, δ, ds, δ', R, e, k⟩ := q
  obtain ⟨xs, δ1, e1, e⟩ := mb_some e
  obtain ⟨e2, rfl⟩ := mo_some e
  obtain ⟨as, e3, e2⟩ := Option.bind_eq_some_iff.mp e2
  refine ⟨G, δ, _, _, R, e1, fun vs G1 H1 s1 R1 v1 => ?_⟩
  have t := v1.trees e3
  split at e2
  · cases e2
    cases t with
    | cons a b =>
      cases b with
      | cons b c =>
        cases c
        obtain ⟨p, ys, rfl, h, t⟩ := Tr.listI a
        obtain ⟨q, zs, rfl, h2, t2⟩ := Tr.listI b
        exact ⟨p, q, ys, zs, rfl, .inl ⟨R1.same.seq h, R1.same.seq h2, k _ G1 H1 s1 R1 (it_zip h t h2 t2)⟩⟩
  · cases e2
    cases t with
    | cons a b =>
      cases b with
      | cons b c =>
        cases c
        obtain ⟨p, ys, rfl, h, t⟩ := Tr.tupI a
        obtain ⟨q, zs, rfl, h2, t2⟩ := Tr.tupI b
        exact ⟨p, q, ys, zs, rfl, .inr ⟨Same.tup R1.same h, Same.tup R1.same h2, k _ G1 H1 s1 R1 (it_zipT h t h2 t2)⟩⟩
  · cases e2
end DL
end
section
set_option maxRecDepth 100000
set_option maxHeartbeats 4000000
namespace K16
open PySem PySem.Spec L2 DL
open PyProof.Rows hiding St

/-- turns that a while may take -/
def fuel : Nat := 1000000000

def g_is_integer_s1 : Ss := (retS (andV (unM (isiD "int") (nameM 0)) (notV (unM (isiD "bool") (nameM 0)))))
/-- value -/
def g_is_integer : Ss := g_is_integer_s1
@[irreducible] def m_is_integer := bodyF 1 g_is_integer

def g_is_list_s1 : Ss := (retS (unM (isiD2 "list" "tuple") (nameM 0)))
/-- value -/
def g_is_list : Ss := g_is_list_s1
@[irreducible] def m_is_list := bodyF 1 g_is_list

def g_divisor_of_t1 : Me Bool := (boolM (binM neD (nameM 3) (conM (.int 0))))
def g_divisor_of_b1 : Ss := (parS 2 3 (consA (nameM 3) (consA (binM subI (nameM 2) (binM mulD (binM fdivD (nameM 2) (nameM 3)) (nameM 3))) nilA)))
def g_divisor_of_w1 : Ss := whileN g_divisor_of_t1 g_divisor_of_b1 fuel
def g_divisor_of_s1 : Ss := (parS 2 3 (consA (callM absD (consA (nameM 0) nilA)) (consA (callM absD (consA (nameM 1) nilA)) nilA)))
def g_divisor_of_s2 : Ss := (retS (nameM 2))
/-- number other near far -/
def g_divisor_of : Ss := (seqS g_divisor_of_s1
  (seqS g_divisor_of_w1
  g_divisor_of_s2))
@[irreducible] def m_divisor_of := bodyF 4 g_divisor_of

def g_has_divisor_t1 : Me Bool := (boolM (binM leI (binM mulD (nameM 1) (nameM 1)) (nameM 0)))
def g_has_divisor_b1 : Ss := (seqS (ifS (boolM (binM eqD (binM mulD (binM fdivD (nameM 0) (nameM 1)) (nameM 1)) (nameM 0)))
  (retS (conM (.bool true)))
  skipS)
  (setS 1 (binM addD (nameM 1) (conM (.int 1)))))
def g_has_divisor_w1 : Ss := whileN g_has_divisor_t1 g_has_divisor_b1 fuel
def g_has_divisor_s1 : Ss := (setS 1 (conM (.int 2)))
def g_has_divisor_s2 : Ss := (retS (conM (.bool false)))
/-- number part -/
def g_has_divisor : Ss := (seqS g_has_divisor_s1
  (seqS g_has_divisor_w1
  g_has_divisor_s2))
@[irreducible] def m_has_divisor := bodyF 2 g_has_divisor

def g__law_pot_s1 : Ss := (setS 2 (ifM (boolM (binM ltI (nameM 1) (callM lenD (consA (nameM 0) nilA)))) (callM absD (consA (binM ixD (nameM 0) (nameM 1)) nilA)) (binM addD (binM mulD (conM (.int 577)) (nameM 1)) (conM (.int 541)))))
def g__law_pot_s2 : Ss := (retS (lstM (consA (callM max2D (consA (conM (.int 0)) (consA (binM subI (nameM 2) (binM powD (conM (.int 10)) (conM (.int 18)))) nilA))) (consA (binM addD (binM modD (callM intD (consA (binM addD (binM addD (binM mulD (binM modD (callM intD (consA (nameM 2) nilA)) (conM (.int 2147483549))) (conM (.int 41011))) (binM mulD (conM (.int 4021)) (nameM 1))) (conM (.int 557))) nilA)) (conM (.int 2147483563))) (conM (.int 1))) nilA))))
/-- _law_script _law_k _law_cell -/
def g__law_pot : Ss := (seqS g__law_pot_s1
  g__law_pot_s2)
@[irreducible] def m__law_pot := bodyF 3 g__law_pot

def g__law_draw_s1 : Ss := (ifS (boolM (binM gtI (binM ixD (nameM 0) (conM (.int 0))) (conM (.int 0))))
  (seqS (asgS (callM divmodD (consA (binM ixD (nameM 0) (conM (.int 0))) (consA (nameM 1) nilA))) (tupG 2 (consG (subG 0 (conM (.int 0))) (consG (asg 2) nilG))))
  (retS (nameM 2)))
  skipS)
def g__law_draw_s2 : Ss := (asgS (binM modD (callM intD (consA (binM addD (binM mulD (binM ixD (nameM 0) (conM (.int 1))) (conM (.int 40014))) (conM (.int 1109))) nilA)) (conM (.int 2147483563))) (subG 0 (conM (.int 1))))
def g__law_draw_s3 : Ss := (retS (binM modD (callM intD (consA (binM fdivD (binM modD (callM intD (consA (binM mulD (binM ixD (nameM 0) (conM (.int 1))) (binM ixD (nameM 0) (conM (.int 1)))) nilA)) (conM (.int 2147483587))) (conM (.int 21))) nilA)) (nameM 1)))
/-- _law_pot_here _law_many _law_digit -/
def g__law_draw : Ss := (seqS g__law_draw_s1
  (seqS g__law_draw_s2
  g__law_draw_s3))
@[irreducible] def m__law_draw := bodyI 3 g__law_draw

def g__law_is_integer_s1 : Ss := (retS (andV (unM (isiD "int") (nameM 0)) (notV (unM (isiD "bool") (nameM 0)))))
/-- _law_value -/
def g__law_is_integer : Ss := g__law_is_integer_s1
@[irreducible] def m__law_is_integer := bodyF 1 g__law_is_integer

def g__law_mixed_c1 : Me Val := compM (zipA (consA (nameM 2) (consA (nameM 3) nilA))) (tupG 2 (consG (asg 5) (consG (asg 6) nilG))) (mr true) (binM subI (nameM 5) (binM mulD (nameM 4) (nameM 6))) [5, 6]
def g__law_mixed_t1 : Me Bool := (boolM (binM neD (binM ixD (nameM 3) (conM (.int 0))) (conM (.int 0))))
def g__law_mixed_b1 : Ss := (seqS (setS 4 (binM fdivD (binM ixD (nameM 2) (conM (.int 0))) (binM ixD (nameM 3) (conM (.int 0)))))
  (frzS 2 (frzS 3 (parS 2 3 (consA (nameM 3) (consA (callM tupleD (consA g__law_mixed_c1 nilA)) nilA))))))
def g__law_mixed_w1 : Ss := whileN g__law_mixed_t1 g__law_mixed_b1 fuel
def g__law_mixed_s1 : Ss := (parS 2 3 (consA (tupM (consA (nameM 0) (consA (conM (.int 1)) (consA (conM (.int 0)) nilA)))) (consA (tupM (consA (nameM 1) (consA (conM (.int 0)) (consA (conM (.int 1)) nilA)))) nilA)))
def g__law_mixed_s2 : Ss := (retS (nameM 2))
/-- _law_one _law_other _law_near _law_far _law_often _law_left _law_right_here -/
def g__law_mixed : Ss := (seqS g__law_mixed_s1
  (seqS g__law_mixed_w1
  g__law_mixed_s2))
@[irreducible] def m__law_mixed := bodyF 7 g__law_mixed

def g_want_number_s1 : Ss := (ifS (notM (boolM (callP [0] m_is_integer (consA (nameM 0) nilA) nilA)))
  (fun _ => none)
  skipS)
/-- value -/
def g_want_number : Ss := g_want_number_s1
@[irreducible] def m_want_number := bodyF 1 g_want_number

def g_is_prime_s1 : Ss := (retS (andV (callP [0] m_is_integer (consA (nameM 0) nilA) nilA) (andV (chainM ltI ltI (conM (.int 1)) (nameM 0) (conM (.int 10000))) (notV (callP [0] m_has_divisor (consA (nameM 0) nilA) nilA)))))
/-- value -/
def g_is_prime : Ss := g_is_prime_s1
@[irreducible] def m_is_prime := bodyF 1 g_is_prime

def g_line_in_c1 : Me Val := compM (seqM (nameM 0)) (asg 1) (mr true) (callP [0] m_is_integer (consA (nameM 1) nilA) nilA) [1]
def g_line_in_s1 : Ss := (ifS (orM (notM (boolM (callP [0] m_is_list (consA (nameM 0) nilA) nilA))) (orM (boolM (binM gtI (callM lenD (consA (nameM 0) nilA)) (binM addD (conM (.int 12)) (conM (.int 1))))) (notM (boolM (callM allD (consA g_line_in_c1 nilA))))))
  (retS (conM .none))
  skipS)
def g_line_in_s2 : Ss := (retS (ifM (orM (boolM (binM eqD (callM lenD (consA (nameM 0) nilA)) (conM (.int 0)))) (boolM (binM neD (binM ixD (nameM 0) (unM negI (conM (.int 1)))) (conM (.int 0))))) (callM listD (consA (nameM 0) nilA)) (conM .none)))
/-- value one -/
def g_line_in : Ss := (seqS g_line_in_s1
  g_line_in_s2)
@[irreducible] def m_line_in := bodyF 2 g_line_in

def g__law_pick_s1 : Ss := (retS (binM ixD (nameM 1) (callI m__law_draw (consA (nameM 0) (consA (callM lenD (consA (nameM 1) nilA)) nilA)))))
/-- _law_pot_here _law_some -/
def g__law_pick : Ss := g__law_pick_s1
@[irreducible] def m__law_pick := bodyI 2 g__law_pick

def g__law_is_line_c1 : Me Val := compM (seqM (nameM 0)) (asg 1) (mr true) (callP [0] m__law_is_integer (consA (nameM 1) nilA) nilA) [1]
def g__law_is_line_s1 : Ss := (ifS (orM (notM (boolM (unM (isiD2 "list" "tuple") (nameM 0)))) (orM (boolM (binM gtI (callM lenD (consA (nameM 0) nilA)) (conM (.int 13)))) (notM (boolM (callM allD (consA g__law_is_line_c1 nilA))))))
  (retS (conM (.bool false)))
  skipS)
def g__law_is_line_s2 : Ss := (retS (orV (binM eqD (callM lenD (consA (nameM 0) nilA)) (conM (.int 0))) (binM neD (binM ixD (nameM 0) (unM negI (conM (.int 1)))) (conM (.int 0)))))
/-- _law_value _law_one -/
def g__law_is_line : Ss := (seqS g__law_is_line_s1
  g__law_is_line_s2)
@[irreducible] def m__law_is_line := bodyF 2 g__law_is_line

def g__law_is_prime_t1 : Me Bool := (boolM (binM leI (binM mulD (nameM 1) (nameM 1)) (nameM 0)))
def g__law_is_prime_b1 : Ss := (seqS (ifS (boolM (binM eqD (binM mulD (binM fdivD (nameM 0) (nameM 1)) (nameM 1)) (nameM 0)))
  (retS (conM (.bool false)))
  skipS)
  (setS 1 (binM addD (nameM 1) (conM (.int 1)))))
def g__law_is_prime_w1 : Ss := whileN g__law_is_prime_t1 g__law_is_prime_b1 fuel
def g__law_is_prime_s1 : Ss := (ifS (orM (notM (boolM (callP [0] m__law_is_integer (consA (nameM 0) nilA) nilA))) (notM (boolM (chainM leI ltI (conM (.int 2)) (nameM 0) (conM (.int 10000))))))
  (retS (conM (.bool false)))
  skipS)
def g__law_is_prime_s2 : Ss := (setS 1 (conM (.int 2)))
def g__law_is_prime_s3 : Ss := (retS (conM (.bool true)))
/-- _law_value _law_divisor -/
def g__law_is_prime : Ss := (seqS g__law_is_prime_s1
  (seqS g__law_is_prime_s2
  (seqS g__law_is_prime_w1
  g__law_is_prime_s3)))
@[irreducible] def m__law_is_prime := bodyF 2 g__law_is_prime

def g_greatest_s1 : Ss := (dropS (callP [0] m_want_number (consA (nameM 0) nilA) nilA))
def g_greatest_s2 : Ss := (dropS (callP [0] m_want_number (consA (nameM 1) nilA) nilA))
def g_greatest_s3 : Ss := (retS (callP [0, 1] m_divisor_of (consA (nameM 0) (consA (nameM 1) nilA)) nilA))
/-- number other -/
def g_greatest : Ss := (seqS g_greatest_s1
  (seqS g_greatest_s2
  g_greatest_s3))
@[irreducible] def m_greatest := bodyF 2 g_greatest

def g_is_line_s1 : Ss := (retS (binM isnotD (callP [0] m_line_in (consA (nameM 0) nilA) nilA) (conM .none)))
/-- value -/
def g_is_line : Ss := g_is_line_s1
@[irreducible] def m_is_line := bodyF 1 g_is_line

def g__law_line_b1 : Ss := (dropS (methM 3 appendL (consA (binM subI (callI m__law_draw (consA (nameM 0) (consA (binM addD (binM mulD (conM (.int 2)) (nameM 2)) (conM (.int 1))) nilA))) (nameM 2)) nilA)))
def g__law_line_f1 : Ss := forS (rngM1 (consA (nameM 1) nilA)) (asg 4) g__law_line_b1
def g__law_line_s1 : Ss := (setS 3 (lstM nilA))
def g__law_line_s2 : Ss := (retS (binM addD (nameM 3) (lstM (consA (callI m__law_pick (consA (nameM 0) (consA (lstM (consA (conM (.int 1)) (consA (unM negI (conM (.int 1))) (consA (conM (.int 2)) (consA (conM (.int 3)) (consA (binM subI (conM (.int 1)) (nameM 2)) nilA)))))) nilA))) nilA))))
/-- _law_pot_here _law_most _law_wide _law_found _law_power -/
def g__law_line : Ss := (seqS g__law_line_s1
  (seqS g__law_line_f1
  g__law_line_s2))
@[irreducible] def m__law_line := bodyI 5 g__law_line

def g__law_primes_right_b1 : Ss := (dropS (methM 1 appendL (consA (callI m__law_draw (consA (nameM 0) (consA (conM (.int 12000)) nilA))) nilA)))
def g__law_primes_right_f1 : Ss := forS (rngM1 (consA (conM (.int 12)) nilA)) (asg 2) g__law_primes_right_b1
def g__law_primes_right_b2 : Ss := (ifS (boolM (binM neD (callM reprZ (consA (lstM (consA (callP [0] m_is_prime (consA (nameM 3) nilA) nilA) (consA (callP [0] m_is_prime nilA (consA (nameM 3) nilA)) nilA))) nilA)) (callM reprZ (consA (binM mulD (lstM (consA (callP [0] m__law_is_prime (consA (nameM 3) nilA) nilA) nilA)) (conM (.int 2))) nilA))))
  (retS (conM (.bool false)))
  skipS)
def g__law_primes_right_f2 : Ss := forS (seqM (nameM 1)) (asg 3) g__law_primes_right_b2
def g__law_primes_right_s1 : Ss := (setS 1 (lstM (consA (conM (.int 0)) (consA (conM (.int 1)) (consA (conM (.int 2)) (consA (conM (.int 3)) (consA (conM (.int 4)) (consA (unM negI (conM (.int 2))) (consA (unM negI (conM (.int 7))) (consA (conM (.int 9973)) (consA (conM (.int 9991)) (consA (conM (.int 9999)) (consA (conM (.int 10000)) (consA (conM (.int 10007)) (consA (binM addD (binM powD (conM (.int 10)) (conM (.int 6))) (conM (.int 3))) (consA (conM (.bool true)) (consA (conM (.bool false)) (consA (conM .none) (consA (conM (.str "7")) (consA (lstM (consA (conM (.int 7)) nilA)) (consA dnewM nilA)))))))))))))))))))))
def g__law_primes_right_s2 : Ss := (frzS 1 g__law_primes_right_f2)
def g__law_primes_right_s3 : Ss := (retS (conM (.bool true)))
/-- _law_pot_here _law_values _law_turn _law_value -/
def g__law_primes_right : Ss := (seqS g__law_primes_right_s1
  (seqS g__law_primes_right_f1
  (seqS g__law_primes_right_s2
  g__law_primes_right_s3)))
@[irreducible] def m__law_primes_right := bodyI 4 g__law_primes_right

def g__law_lines_right_b1 : Ss := (seqS (setS 6 (callM reprZ (consA (nameM 5) nilA)))
  (ifS (orM (boolM (binM neD (callM reprZ (consA (lstM (consA (callP [0] m_is_line (consA (nameM 5) nilA) nilA) (consA (callP [0] m_is_line nilA (consA (nameM 5) nilA)) nilA))) nilA)) (callM reprZ (consA (binM mulD (lstM (consA (callP [0] m__law_is_line (consA (nameM 5) nilA) nilA) nilA)) (conM (.int 2))) nilA)))) (boolM (binM neD (callM reprZ (consA (nameM 5) nilA)) (nameM 6))))
  (retS (conM (.bool false)))
  skipS))
def g__law_lines_right_f1 : Ss := forS (seqM (binM addD (nameM 4) (lstM (consA (lstM nilA) (consA (tupM nilA) (consA (lstM (consA (conM (.int 0)) nilA)) (consA (lstM (consA (conM (.int 0)) (consA (conM (.int 0)) nilA))) (consA (conM .none) (consA (conM (.int 0)) (consA (conM (.int 5)) (consA (conM (.bool true)) (consA (conM (.str "")) (consA (conM (.str "7")) (consA dnewM (consA (ddispM 0 1) (consA (lstM (consA (lstM nilA) nilA)) (consA (lstM (consA (lstM (consA (conM (.int 1)) nilA)) nilA)) (consA (lstM (consA (binM powD (conM (.int 10)) (conM (.int 25))) nilA)) (consA (tupM (consA (conM (.int 0)) (consA (binM powD (conM (.int 10)) (conM (.int 25))) nilA))) (consA (binM mulD (lstM (consA (conM (.int 1)) nilA)) (conM (.int 13))) (consA (binM mulD (lstM (consA (conM (.int 1)) nilA)) (conM (.int 14))) nilA))))))))))))))))))))) (asg 5) g__law_lines_right_b1
def g__law_lines_right_s1 : Ss := (setS 1 (callI m__law_line (consA (nameM 0) (consA (callI m__law_draw (consA (nameM 0) (consA (conM (.int 12)) nilA))) (consA (conM (.int 9)) nilA)))))
def g__law_lines_right_s2 : Ss := (parS 2 3 (consA (callI m__law_draw (consA (nameM 0) (consA (callM lenD (consA (nameM 1) nilA)) nilA))) (consA (callI m__law_pick (consA (nameM 0) (consA (lstM (consA (conM .none) (consA (conM (.bool true)) (consA (conM (.bool false)) (consA (conM (.str "1")) (consA (lstM (consA (conM (.int 1)) nilA)) (consA dnewM (consA (tupM nilA) nilA)))))))) nilA))) nilA)))
def g__law_lines_right_s3 : Ss := (frzS 3 (frzS 1 (setS 4 (lstM (consA (nameM 1) (consA (callM tupleD (consA (nameM 1) nilA)) (consA (binM addD (nameM 1) (lstM (consA (conM (.int 0)) nilA))) (consA (slM (nameM 1) (mr none) (partM (unM negI (conM (.int 1))))) (consA (binM addD (binM mulD (lstM (consA (conM (.int 0)) nilA)) (conM (.int 12))) (slM (nameM 1) (partM (unM negI (conM (.int 1)))) (mr none))) (consA (binM addD (binM mulD (lstM (consA (conM (.int 0)) nilA)) (conM (.int 13))) (slM (nameM 1) (partM (unM negI (conM (.int 1)))) (mr none))) (consA (binM addD (binM addD (slM (nameM 1) (mr none) (partM (nameM 2))) (lstM (consA (nameM 3) nilA))) (slM (nameM 1) (partM (binM addD (nameM 2) (conM (.int 1)))) (mr none))) (consA (binM addD (binM addD (slM (nameM 1) (mr none) (partM (nameM 2))) (lstM (consA (conM (.int 0)) nilA))) (slM (nameM 1) (partM (binM addD (nameM 2) (conM (.int 1)))) (mr none))) nilA))))))))))))
def g__law_lines_right_s4 : Ss := (retS (conM (.bool true)))
/-- _law_pot_here _law_line_here _law_at _law_odd _law_values _law_value _law_shown -/
def g__law_lines_right : Ss := (seqS g__law_lines_right_s1
  (seqS g__law_lines_right_s2
  (seqS g__law_lines_right_s3
  (seqS g__law_lines_right_f1
  g__law_lines_right_s4))))
@[irreducible] def m__law_lines_right := bodyI 7 g__law_lines_right

def g__law_greatest_right_s1 : Ss := (setS 1 (callI m__law_pick (consA (nameM 0) (consA (lstM (consA (conM (.int 1)) (consA (conM (.int 6)) (consA (conM (.int 35)) (consA (conM (.int 1001)) nilA))))) nilA))))
def g__law_greatest_right_s2 : Ss := (parS 2 3 (consA (binM mulD (nameM 1) (binM subI (callI m__law_draw (consA (nameM 0) (consA (conM (.int 401)) nilA))) (conM (.int 200)))) (consA (binM mulD (nameM 1) (binM subI (callI m__law_draw (consA (nameM 0) (consA (conM (.int 401)) nilA))) (conM (.int 200)))) nilA)))
def g__law_greatest_right_s3 : Ss := (frzS 3 (frzS 2 (parS 4 5 (consA (callL [0, 1] m_greatest (consA (nameM 2) (consA (nameM 3) nilA))) (consA (callP [0, 1] m__law_mixed (consA (nameM 2) (consA (nameM 3) nilA)) nilA) nilA)))))
def g__law_greatest_right_s4 : Ss := (ifS (orM (boolM (binM neD (nameM 4) (callM absD (consA (binM ixD (nameM 5) (conM (.int 0))) nilA)))) (orM (boolM (binM neD (callL [1, 0] m_greatest (consA (nameM 2) (consA (nameM 3) nilA))) (nameM 4))) (orM (boolM (binM neD (callL [0, 1] m_greatest (consA (binM subI (conM (.int 0)) (nameM 2)) (consA (nameM 3) nilA))) (nameM 4))) (boolM (binM neD (callL [0, 1] m_greatest (consA (nameM 2) (consA (conM (.int 0)) nilA))) (callM absD (consA (nameM 2) nilA)))))))
  (retS (conM (.bool false)))
  skipS)
def g__law_greatest_right_s5 : Ss := (ifS (boolM (binM eqD (nameM 4) (conM (.int 0))))
  (retS (andV (binM eqD (nameM 2) (conM (.int 0))) (binM eqD (nameM 3) (conM (.int 0)))))
  skipS)
def g__law_greatest_right_s6 : Ss := (retS (andV (binM eqD (binM mulD (binM fdivD (nameM 2) (nameM 4)) (nameM 4)) (nameM 2)) (andV (binM eqD (binM mulD (binM fdivD (nameM 3) (nameM 4)) (nameM 4)) (nameM 3)) (binM inI (binM addD (binM mulD (binM ixD (nameM 5) (conM (.int 1))) (nameM 2)) (binM mulD (binM ixD (nameM 5) (conM (.int 2))) (nameM 3))) (tupM (consA (nameM 4) (consA (binM subI (conM (.int 0)) (nameM 4)) nilA)))))))
/-- _law_pot_here _law_shared _law_one _law_other _law_told _law_mixed_here -/
def g__law_greatest_right : Ss := (seqS g__law_greatest_right_s1
  (seqS g__law_greatest_right_s2
  (seqS g__law_greatest_right_s3
  (seqS g__law_greatest_right_s4
  (seqS g__law_greatest_right_s5
  g__law_greatest_right_s6)))))
@[irreducible] def m__law_greatest_right := bodyI 6 g__law_greatest_right

def g__law_right_s1 : Ss := (retS (andV (callI m__law_lines_right (consA (nameM 0) nilA)) (andV (callI m__law_primes_right (consA (nameM 0) nilA)) (andV (callI m__law_greatest_right (consA (nameM 0) nilA)) (andV (binM eqD (callP [0, 1] m_greatest (consA (conM (.int 12)) (consA (unM negI (conM (.int 18))) nilA)) nilA) (conM (.int 6))) (binM eqD (callP [0, 1] m_greatest (consA (conM (.int 0)) (consA (conM (.int 0)) nilA)) nilA) (conM (.int 0))))))))
/-- _law_pot_here -/
def g__law_right : Ss := g__law_right_s1
@[irreducible] def m__law_right := bodyI 1 g__law_right

def g_law_s1 : Ss := (retS (callO m__law_right (callP [0, 1] m__law_pot (consA (nameM 0) (consA (conM (.int 0)) nilA)) nilA)))
/-- _law_script -/
def g_law : Ss := g_law_s1
@[irreducible] def m_law := bodyF 1 g_law
end K16
end
section
set_option maxRecDepth 100000
set_option maxHeartbeats 4000000
namespace K16
open PySem PySem.Spec L2 DL
open PyProof.Rows hiding St

def topS (i : Nat) : Stmt := PySem.Challenge.pw_curvepieces_k16_any_value_as_line_or_pri.main.body.getD i (.Pass ⟨0, 0, 0, 0⟩)

abbrev s_is_integer : Stmt := topS 4

abbrev s_is_list : Stmt := topS 5

abbrev s_divisor_of : Stmt := topS 8

abbrev s_has_divisor : Stmt := topS 9

abbrev s__law_pot : Stmt := topS 18

abbrev s__law_draw : Stmt := topS 19

abbrev s__law_is_integer : Stmt := topS 22

abbrev s__law_mixed : Stmt := topS 27

abbrev s_want_number : Stmt := topS 10

abbrev s_is_prime : Stmt := topS 12

abbrev s_line_in : Stmt := topS 15

abbrev s__law_pick : Stmt := topS 20

abbrev s__law_is_line : Stmt := topS 23

abbrev s__law_is_prime : Stmt := topS 24

abbrev s_greatest : Stmt := topS 11

abbrev s_is_line : Stmt := topS 16

abbrev s__law_line : Stmt := topS 21

abbrev s__law_primes_right : Stmt := topS 26

abbrev s__law_lines_right : Stmt := topS 25

abbrev s__law_greatest_right : Stmt := topS 28

abbrev s__law_right : Stmt := topS 29

abbrev s_law : Stmt := topS 30

structure Tx (K : Fg) (mg : Str → Option Value) where
  a_is_integer : Addr
  d_is_integer : FuncData
  f_is_integer : L2.Fun K "is_integer" "is_integer" s_is_integer a_is_integer d_is_integer
  g_is_integer : mg "is_integer" = some (.ref a_is_integer)
  a_is_list : Addr
  d_is_list : FuncData
  f_is_list : L2.Fun K "is_list" "is_list" s_is_list a_is_list d_is_list
  g_is_list : mg "is_list" = some (.ref a_is_list)
  a_divisor_of : Addr
  d_divisor_of : FuncData
  f_divisor_of : L2.Fun K "divisor_of" "divisor_of" s_divisor_of a_divisor_of d_divisor_of
  g_divisor_of : mg "divisor_of" = some (.ref a_divisor_of)
  a_has_divisor : Addr
  d_has_divisor : FuncData
  f_has_divisor : L2.Fun K "has_divisor" "has_divisor" s_has_divisor a_has_divisor d_has_divisor
  g_has_divisor : mg "has_divisor" = some (.ref a_has_divisor)
  a__law_pot : Addr
  d__law_pot : FuncData
  f__law_pot : L2.Fun K "_law_pot" "_law_pot" s__law_pot a__law_pot d__law_pot
  g__law_pot : mg "_law_pot" = some (.ref a__law_pot)
  a__law_draw : Addr
  d__law_draw : FuncData
  f__law_draw : L2.Fun K "_law_draw" "_law_draw" s__law_draw a__law_draw d__law_draw
  g__law_draw : mg "_law_draw" = some (.ref a__law_draw)
  a__law_is_integer : Addr
  d__law_is_integer : FuncData
  f__law_is_integer : L2.Fun K "_law_is_integer" "_law_is_integer" s__law_is_integer a__law_is_integer d__law_is_integer
  g__law_is_integer : mg "_law_is_integer" = some (.ref a__law_is_integer)
  a__law_mixed : Addr
  d__law_mixed : FuncData
  f__law_mixed : L2.Fun K "_law_mixed" "_law_mixed" s__law_mixed a__law_mixed d__law_mixed
  g__law_mixed : mg "_law_mixed" = some (.ref a__law_mixed)
  a_want_number : Addr
  d_want_number : FuncData
  f_want_number : L2.Fun K "want_number" "want_number" s_want_number a_want_number d_want_number
  g_want_number : mg "want_number" = some (.ref a_want_number)
  a_is_prime : Addr
  d_is_prime : FuncData
  f_is_prime : L2.Fun K "is_prime" "is_prime" s_is_prime a_is_prime d_is_prime
  g_is_prime : mg "is_prime" = some (.ref a_is_prime)
  a_line_in : Addr
  d_line_in : FuncData
  f_line_in : L2.Fun K "line_in" "line_in" s_line_in a_line_in d_line_in
  g_line_in : mg "line_in" = some (.ref a_line_in)
  a__law_pick : Addr
  d__law_pick : FuncData
  f__law_pick : L2.Fun K "_law_pick" "_law_pick" s__law_pick a__law_pick d__law_pick
  g__law_pick : mg "_law_pick" = some (.ref a__law_pick)
  a__law_is_line : Addr
  d__law_is_line : FuncData
  f__law_is_line : L2.Fun K "_law_is_line" "_law_is_line" s__law_is_line a__law_is_line d__law_is_line
  g__law_is_line : mg "_law_is_line" = some (.ref a__law_is_line)
  a__law_is_prime : Addr
  d__law_is_prime : FuncData
  f__law_is_prime : L2.Fun K "_law_is_prime" "_law_is_prime" s__law_is_prime a__law_is_prime d__law_is_prime
  g__law_is_prime : mg "_law_is_prime" = some (.ref a__law_is_prime)
  a_greatest : Addr
  d_greatest : FuncData
  f_greatest : L2.Fun K "greatest" "greatest" s_greatest a_greatest d_greatest
  g_greatest : mg "greatest" = some (.ref a_greatest)
  a_is_line : Addr
  d_is_line : FuncData
  f_is_line : L2.Fun K "is_line" "is_line" s_is_line a_is_line d_is_line
  g_is_line : mg "is_line" = some (.ref a_is_line)
  a__law_line : Addr
  d__law_line : FuncData
  f__law_line : L2.Fun K "_law_line" "_law_line" s__law_line a__law_line d__law_line
  g__law_line : mg "_law_line" = some (.ref a__law_line)
  a__law_primes_right : Addr
  d__law_primes_right : FuncData
  f__law_primes_right : L2.Fun K "_law_primes_right" "_law_primes_right" s__law_primes_right a__law_primes_right d__law_primes_right
  g__law_primes_right : mg "_law_primes_right" = some (.ref a__law_primes_right)
  a__law_lines_right : Addr
  d__law_lines_right : FuncData
  f__law_lines_right : L2.Fun K "_law_lines_right" "_law_lines_right" s__law_lines_right a__law_lines_right d__law_lines_right
  g__law_lines_right : mg "_law_lines_right" = some (.ref a__law_lines_right)
  a__law_greatest_right : Addr
  d__law_greatest_right : FuncData
  f__law_greatest_right : L2.Fun K "_law_greatest_right" "_law_greatest_right" s__law_greatest_right a__law_greatest_right d__law_greatest_right
  g__law_greatest_right : mg "_law_greatest_right" = some (.ref a__law_greatest_right)
  a__law_right : Addr
  d__law_right : FuncData
  f__law_right : L2.Fun K "_law_right" "_law_right" s__law_right a__law_right d__law_right
  g__law_right : mg "_law_right" = some (.ref a__law_right)
  a_law : Addr
  d_law : FuncData
  f_law : L2.Fun K "law" "law" s_law a_law d_law
  g_law : mg "law" = some (.ref a_law)
  u_MOST_DEGREE : Value
  e_MOST_DEGREE : mg "MOST_DEGREE" = some u_MOST_DEGREE
  r_MOST_DEGREE : ∃ t, u_MOST_DEGREE = .int 12 t
  u_PRIME_BOUND : Value
  e_PRIME_BOUND : mg "PRIME_BOUND" = some u_PRIME_BOUND
  r_PRIME_BOUND : ∃ t, u_PRIME_BOUND = .int 10000 t
  z_abs : mg "abs" = none
  z_all : mg "all" = none
  z_bool : mg "bool" = none
  z_divmod : mg "divmod" = none
  z_int : mg "int" = none
  z_isinstance : mg "isinstance" = none
  z_len : mg "len" = none
  z_list : mg "list" = none
  z_max : mg "max" = none
  z_range : mg "range" = none
  z_repr : mg "repr" = none
  z_tuple : mg "tuple" = none
  z_zip : mg "zip" = none

section
variable {P : Program} {w : World} {K : Fg} {mg : Str → Option Value} {base : Heap}
theorem sc_is_integer : FnScope ["value"] ["value"] (defScope s_is_integer) := ⟨rfl, rfl, rfl, by decide +kernel, rfl, by decide +kernel, by decide +kernel⟩
theorem ok_is_integer (T : Tx K mg) : FnG P w K mg base 1 T.a_is_integer T.d_is_integer ["value"] (spF K 1 m_is_integer) := by
  unfold m_is_integer
  refine ok_def (n := 1) rfl rfl T.f_is_integer sc_is_integer fun B cdv A outer s H E hr hgd => ?_
  unfold g_is_integer g_is_integer_s1
  exact (sb_one (ss_ret (de_and (de_isi (by rfl) T.z_isinstance (de_name 0) (by rfl) T.z_int bt_int) (de_one (de_not (de_isi (by rfl) T.z_isinstance (de_name 0) (by rfl) T.z_bool bt_bool))))))
theorem sc_is_list : FnScope ["value"] ["value"] (defScope s_is_list) := ⟨rfl, rfl, rfl, by decide +kernel, rfl, by decide +kernel, by decide +kernel⟩
theorem ok_is_list (T : Tx K mg) : FnG P w K mg base 1 T.a_is_list T.d_is_list ["value"] (spF K 1 m_is_list) := by
  unfold m_is_list
  refine ok_def (n := 1) rfl rfl T.f_is_list sc_is_list fun B cdv A outer s H E hr hgd => ?_
  unfold g_is_list g_is_list_s1
  exact (sb_one (ss_ret (de_isi2 (by rfl) T.z_isinstance (de_name 0) (by rfl) T.z_list bt_list (by rfl) T.z_tuple bt_tuple)))
theorem sc_divisor_of : FnScope ["number", "other", "near", "far"] ["number", "other"] (defScope s_divisor_of) := ⟨rfl, rfl, rfl, by decide +kernel, rfl, by decide +kernel, by decide +kernel⟩
theorem ok_divisor_of (T : Tx K mg) : FnG P w K mg base 1 T.a_divisor_of T.d_divisor_of ["number", "other"] (spF K 2 m_divisor_of) := by
  unfold m_divisor_of
  refine ok_def (n := 4) rfl rfl T.f_divisor_of sc_divisor_of fun B cdv A outer s H E hr hgd => ?_
  unfold g_divisor_of g_divisor_of_s2 g_divisor_of_s1 g_divisor_of_w1 g_divisor_of_b1 g_divisor_of_t1
  exact (sb_cons (ss_par (i := 2) (j := 3) rfl sc_divisor_of.nd rfl rfl (by decide) rfl rfl (da_cons (de_callB call_abs fd_abs (by rfl) T.z_abs bt_abs (da_cons (de_name 0) da_nil)) (da_cons (de_callB call_abs fd_abs (by rfl) T.z_abs bt_abs (da_cons (de_name 1) da_nil)) da_nil)) (by rfl))
  (sb_cons (ss_while fuel PassesOwn.never (dt_cmp (op_neD hr.units) od_ne (de_name 3) de_int)
  (sb_one (ss_par (i := 2) (j := 3) rfl sc_divisor_of.nd rfl rfl (by decide) rfl rfl (da_cons (de_name 3) (da_cons (de_op op_sub od_sub (de_name 2) (de_op op_mulA od_mulA (de_op op_fdivZ od_fdivZ (de_name 2) (de_name 3)) (de_name 3))) da_nil)) (by rfl))))
  (sb_one (ss_ret (de_name 2)))))
theorem sc_has_divisor : FnScope ["number", "part"] ["number"] (defScope s_has_divisor) := ⟨rfl, rfl, rfl, by decide +kernel, rfl, by decide +kernel, by decide +kernel⟩
theorem ok_has_divisor (T : Tx K mg) : FnG P w K mg base 1 T.a_has_divisor T.d_has_divisor ["number"] (spF K 1 m_has_divisor) := by
  unfold m_has_divisor
  refine ok_def (n := 2) rfl rfl T.f_has_divisor sc_has_divisor fun B cdv A outer s H E hr hgd => ?_
  unfold g_has_divisor g_has_divisor_s2 g_has_divisor_s1 g_has_divisor_w1 g_has_divisor_b1 g_has_divisor_t1
  exact (sb_cons (ss_set (i := 1) sc_has_divisor.nd rfl (by first | exact Or.inl rfl | exact Or.inr rfl) de_int)
  (sb_cons (ss_while fuel PassesOwn.never (dt_cmp op_le od_le (de_op op_mulA od_mulA (de_name 1) (de_name 1)) (de_name 0))
  (sb_cons (ss_if (dt_cmp (op_eqD hr.units) od_eq (de_op op_mulA od_mulA (de_op op_fdivZ od_fdivZ (de_name 0) (de_name 1)) (de_name 1)) (de_name 0))
  (sb_one (ss_ret de_bl))
  sb_nil)
  (sb_one (ss_set (i := 1) sc_has_divisor.nd rfl (by first | exact Or.inl rfl | exact Or.inr rfl) (de_op op_addA od_addA (de_name 1) de_int)))))
  (sb_one (ss_ret de_bl))))
theorem sc__law_pot : FnScope ["_law_script", "_law_k", "_law_cell"] ["_law_script", "_law_k"] (defScope s__law_pot) := ⟨rfl, rfl, rfl, by decide +kernel, rfl, by decide +kernel, by decide +kernel⟩
theorem ok__law_pot (T : Tx K mg) : FnG P w K mg base 1 T.a__law_pot T.d__law_pot ["_law_script", "_law_k"] (spF K 2 m__law_pot) := by
  unfold m__law_pot
  refine ok_def (n := 3) rfl rfl T.f__law_pot sc__law_pot fun B cdv A outer s H E hr hgd => ?_
  unfold g__law_pot g__law_pot_s2 g__law_pot_s1
  exact (sb_cons (ss_set (i := 2) sc__law_pot.nd rfl (by first | exact Or.inl rfl | exact Or.inr rfl) (de_if (dt_cmp op_lt od_lt (de_name 1) (de_callB call_len fd_len (by rfl) T.z_len bt_len (da_cons (de_name 0) da_nil))) (de_callB call_abs fd_abs (by rfl) T.z_abs bt_abs (da_cons (de_ix (de_name 0) (de_name 1)) da_nil)) (de_op op_addA od_addA (de_op op_mulA od_mulA de_int (de_name 1)) de_int)))
  (sb_one (ss_ret (de_lst (da_cons (de_callB (call_max2 rfl) fd_max2 (by rfl) T.z_max bt_max (da_cons de_int (da_cons (de_op op_sub od_sub (de_name 2) (de_op op_pow od_pow de_int de_int)) da_nil))) (da_cons (de_op op_addA od_addA (de_op op_modN od_modN (de_callT call_int1 fd_int (by rfl) T.z_int bt_int (da_cons (de_op op_addA od_addA (de_op op_addA od_addA (de_op op_mulA od_mulA (de_op op_modN od_modN (de_callT call_int1 fd_int (by rfl) T.z_int bt_int (da_cons (de_name 2) da_nil)) de_int) de_int) (de_op op_mulA od_mulA de_int (de_name 1))) de_int) da_nil)) de_int) de_int) da_nil))))))
theorem sc__law_draw : FnScope ["_law_pot_here", "_law_many", "_law_digit"] ["_law_pot_here", "_law_many"] (defScope s__law_draw) := ⟨rfl, rfl, rfl, by decide +kernel, rfl, by decide +kernel, by decide +kernel⟩
theorem ok__law_draw (T : Tx K mg) : FnG P w K mg base 1 T.a__law_draw T.d__law_draw ["_law_pot_here", "_law_many"] (spI K 2 m__law_draw) := by
  unfold m__law_draw
  refine ok_defI (n := 3) rfl rfl rfl T.f__law_draw sc__law_draw fun B cdv A outer s H E hr hgd => ?_
  unfold g__law_draw g__law_draw_s3 g__law_draw_s2 g__law_draw_s1
  exact (sb_cons (ss_if (dt_cmp op_gt od_gt (de_ix (de_name 0) de_int) de_int)
  (sb_cons (ss_asg (de_callB call_divmod fd_divmod (by rfl) T.z_divmod bt_divmod (da_cons (de_ix (de_name 0) de_int) (da_cons (de_name 1) da_nil))) (dg_tup rfl (dgs_cons (dg_sub 0 (pv 0) de_int) (dgs_cons (dg_name 2 sc__law_draw.nd rfl (by first | exact Or.inl rfl | exact Or.inr rfl)) dgs_nil))))
  (sb_one (ss_ret (de_name 2))))
  sb_nil)
  (sb_cons (ss_asg (de_op op_modN od_modN (de_callT call_int1 fd_int (by rfl) T.z_int bt_int (da_cons (de_op op_addA od_addA (de_op op_mulA od_mulA (de_ix (de_name 0) de_int) de_int) de_int) da_nil)) de_int) (dg_sub 0 (pv 0) de_int))
  (sb_one (ss_ret (de_op op_modN od_modN (de_callT call_int1 fd_int (by rfl) T.z_int bt_int (da_cons (de_op op_fdivZ od_fdivZ (de_op op_modN od_modN (de_callT call_int1 fd_int (by rfl) T.z_int bt_int (da_cons (de_op op_mulA od_mulA (de_ix (de_name 0) de_int) (de_ix (de_name 0) de_int)) da_nil)) de_int) de_int) da_nil)) (de_name 1))))))
theorem sc__law_is_integer : FnScope ["_law_value"] ["_law_value"] (defScope s__law_is_integer) := ⟨rfl, rfl, rfl, by decide +kernel, rfl, by decide +kernel, by decide +kernel⟩
theorem ok__law_is_integer (T : Tx K mg) : FnG P w K mg base 1 T.a__law_is_integer T.d__law_is_integer ["_law_value"] (spF K 1 m__law_is_integer) := by
  unfold m__law_is_integer
  refine ok_def (n := 1) rfl rfl T.f__law_is_integer sc__law_is_integer fun B cdv A outer s H E hr hgd => ?_
  unfold g__law_is_integer g__law_is_integer_s1
  exact (sb_one (ss_ret (de_and (de_isi (by rfl) T.z_isinstance (de_name 0) (by rfl) T.z_int bt_int) (de_one (de_not (de_isi (by rfl) T.z_isinstance (de_name 0) (by rfl) T.z_bool bt_bool))))))
theorem sc__law_mixed : FnScope ["_law_one", "_law_other", "_law_near", "_law_far", "_law_often", "_law_left", "_law_right_here"] ["_law_one", "_law_other"] (defScope s__law_mixed) := ⟨rfl, rfl, rfl, by decide +kernel, rfl, by decide +kernel, by decide +kernel⟩
theorem ok__law_mixed (T : Tx K mg) : FnG P w K mg base 1 T.a__law_mixed T.d__law_mixed ["_law_one", "_law_other"] (spF K 2 m__law_mixed) := by
  unfold m__law_mixed
  refine ok_def (n := 7) rfl rfl T.f__law_mixed sc__law_mixed fun B cdv A outer s H E hr hgd => ?_
  unfold g__law_mixed g__law_mixed_s2 g__law_mixed_s1 g__law_mixed_w1 g__law_mixed_b1 g__law_mixed_t1 g__law_mixed_c1
  exact (sb_cons (ss_par (i := 2) (j := 3) rfl sc__law_mixed.nd rfl rfl (by decide) rfl rfl (da_cons (de_tup (da_cons (de_name 0) (da_cons de_int (da_cons de_int da_nil)))) (da_cons (de_tup (da_cons (de_name 1) (da_cons de_int (da_cons de_int da_nil)))) da_nil)) (by rfl))
  (sb_cons (ss_while fuel PassesOwn.never (dt_cmp (op_neD hr.units) od_ne (de_ix (de_name 3) de_int) de_int)
  (sb_cons (ss_set (i := 4) sc__law_mixed.nd rfl (by first | exact Or.inl rfl | exact Or.inr rfl) (de_op op_fdivZ od_fdivZ (de_ix (de_name 2) de_int) (de_ix (de_name 3) de_int)))
  (sb_one (ss_frz 2 (ss_frz 3 (ss_par (i := 2) (j := 3) rfl sc__law_mixed.nd rfl rfl (by decide) rfl rfl (da_cons (de_name 3) (da_cons (de_callT call_tuple_of fd_tuple (by rfl) T.z_tuple bt_tuple (da_cons (de_lc (own := [("_law_left", 5), ("_law_right_here", 6)]) rfl sc__law_mixed.nd (di_zipA (by rfl) T.z_zip (da_cons (de_name 2) (da_cons (de_name 3) da_nil))) (blkOk_by (by kernel_rfl)) (by decide) (fun _ _ _ _ _ B => (dg_tup rfl (dgs_cons (dg_name 5 sc__law_mixed.nd rfl (by first | exact Or.inl rfl | exact Or.inr rfl)) (dgs_cons (dg_name 6 sc__law_mixed.nd rfl (by first | exact Or.inl rfl | exact Or.inr rfl)) dgs_nil)))) (fun _ _ _ _ _ => dts_nil) (fun _ _ _ _ _ B => (de_op op_sub od_sub (de_name 5) (de_op op_mulA od_mulA (de_name 4) (de_name 6))))) da_nil)) da_nil)) (by rfl)))))))
  (sb_one (ss_ret (de_name 2)))))
theorem sc_want_number : FnScope ["value"] ["value"] (defScope s_want_number) := ⟨rfl, rfl, rfl, by decide +kernel, rfl, by decide +kernel, by decide +kernel⟩
theorem ok_want_number (T : Tx K mg) : FnG P w K mg base 2 T.a_want_number T.d_want_number ["value"] (spF K 1 m_want_number) := by
  unfold m_want_number
  refine ok_def (n := 1) rfl rfl T.f_want_number sc_want_number fun B cdv A outer s H E hr hgd => ?_
  unfold g_want_number g_want_number_s1
  exact (sb_one (ss_if (dt_not (dt_val (de_call (ok_is_integer T) (hr.mono (by decide)) hgd (bindK_of (ks := []) (is := [0]) T.f_is_integer fun _ _ _ _ _ _ us ws h1 h2 => match us, ws, h1, h2 with | [_], [], _, _ => rfl) (by rfl) T.g_is_integer T.f_is_integer.kp (da_cons (de_name 0) da_nil) dk_nil (lenA_cons lenA_nil) lenA_nil (fun xs h => match xs, h with | [_], _ => rfl))))
  sb_never
  sb_nil))
theorem sc_is_prime : FnScope ["value"] ["value"] (defScope s_is_prime) := ⟨rfl, rfl, rfl, by decide +kernel, rfl, by decide +kernel, by decide +kernel⟩
theorem ok_is_prime (T : Tx K mg) : FnG P w K mg base 2 T.a_is_prime T.d_is_prime ["value"] (spF K 1 m_is_prime) := by
  unfold m_is_prime
  refine ok_def (n := 1) rfl rfl T.f_is_prime sc_is_prime fun B cdv A outer s H E hr hgd => ?_
  unfold g_is_prime g_is_prime_s1
  exact (sb_one (ss_ret (de_and (de_call (ok_is_integer T) (hr.mono (by decide)) hgd (bindK_of (ks := []) (is := [0]) T.f_is_integer fun _ _ _ _ _ _ us ws h1 h2 => match us, ws, h1, h2 with | [_], [], _, _ => rfl) (by rfl) T.g_is_integer T.f_is_integer.kp (da_cons (de_name 0) da_nil) dk_nil (lenA_cons lenA_nil) lenA_nil (fun xs h => match xs, h with | [_], _ => rfl)) (de_and (de_chain op_lt od_lt op_lt od_lt de_int (de_name 0) (de_gint (by rfl) T.e_PRIME_BOUND T.r_PRIME_BOUND)) (de_one (de_not (de_call (ok_has_divisor T) (hr.mono (by decide)) hgd (bindK_of (ks := []) (is := [0]) T.f_has_divisor fun _ _ _ _ _ _ us ws h1 h2 => match us, ws, h1, h2 with | [_], [], _, _ => rfl) (by rfl) T.g_has_divisor T.f_has_divisor.kp (da_cons (de_name 0) da_nil) dk_nil (lenA_cons lenA_nil) lenA_nil (fun xs h => match xs, h with | [_], _ => rfl))))))))
theorem sc_line_in : FnScope ["value", "one"] ["value"] (defScope s_line_in) := ⟨rfl, rfl, rfl, by decide +kernel, rfl, by decide +kernel, by decide +kernel⟩
theorem ok_line_in (T : Tx K mg) : FnG P w K mg base 2 T.a_line_in T.d_line_in ["value"] (spF K 1 m_line_in) := by
  unfold m_line_in
  refine ok_def (n := 2) rfl rfl T.f_line_in sc_line_in fun B cdv A outer s H E hr hgd => ?_
  unfold g_line_in g_line_in_s2 g_line_in_s1 g_line_in_c1
  exact (sb_cons (ss_if (dw_pt (dw_or (dt_not (dt_val (de_call (ok_is_list T) (hr.mono (by decide)) hgd (bindK_of (ks := []) (is := [0]) T.f_is_list fun _ _ _ _ _ _ us ws h1 h2 => match us, ws, h1, h2 with | [_], [], _, _ => rfl) (by rfl) T.g_is_list T.f_is_list.kp (da_cons (de_name 0) da_nil) dk_nil (lenA_cons lenA_nil) lenA_nil (fun xs h => match xs, h with | [_], _ => rfl)))) (dw_or (dt_cmp op_gt od_gt (de_callB call_len fd_len (by rfl) T.z_len bt_len (da_cons (de_name 0) da_nil)) (de_op op_addA od_addA (de_gint (by rfl) T.e_MOST_DEGREE T.r_MOST_DEGREE) de_int)) (dw_or1 (dt_not (dt_val (de_callB (cr_all rfl) fd_all (by rfl) T.z_all bt_all (da_cons (de_lc (own := [("one", 1)]) rfl sc_line_in.nd (di_seq (de_name 0)) (blkOk_by (by kernel_rfl)) (by decide) (fun _ _ _ _ _ B => (dg_name 1 sc_line_in.nd rfl (by first | exact Or.inl rfl | exact Or.inr rfl))) (fun _ _ _ _ _ => dts_nil) (fun _ _ _ _ _ B => (de_call (ok_is_integer T) (hr.mono (by decide)) hgd (bindK_of (ks := []) (is := [0]) T.f_is_integer fun _ _ _ _ _ _ us ws h1 h2 => match us, ws, h1, h2 with | [_], [], _, _ => rfl) (by rfl) T.g_is_integer T.f_is_integer.kp (da_cons (de_name 1) da_nil) dk_nil (lenA_cons lenA_nil) lenA_nil (fun xs h => match xs, h with | [_], _ => rfl)))) da_nil))))))))
  (sb_one (ss_ret de_non))
  sb_nil)
  (sb_one (ss_ret (de_if (dw_pt (dw_or (dt_cmp (op_eqD hr.units) od_eq (de_callB call_len fd_len (by rfl) T.z_len bt_len (da_cons (de_name 0) da_nil)) de_int) (dw_or1 (dt_cmp (op_neD hr.units) od_ne (de_ix (de_name 0) (de_un un_neg ud_neg de_int)) de_int)))) (de_callT call_list_of fd_list (by rfl) T.z_list bt_list (da_cons (de_name 0) da_nil)) de_non))))
theorem sc__law_pick : FnScope ["_law_pot_here", "_law_some"] ["_law_pot_here", "_law_some"] (defScope s__law_pick) := ⟨rfl, rfl, rfl, by decide +kernel, rfl, by decide +kernel, by decide +kernel⟩
theorem ok__law_pick (T : Tx K mg) : FnG P w K mg base 2 T.a__law_pick T.d__law_pick ["_law_pot_here", "_law_some"] (spI K 2 m__law_pick) := by
  unfold m__law_pick
  refine ok_defI (n := 2) rfl rfl rfl T.f__law_pick sc__law_pick fun B cdv A outer s H E hr hgd => ?_
  unfold g__law_pick g__law_pick_s1
  exact (sb_one (ss_ret (de_ix (de_name 1) (de_callI (ok__law_draw T) (hr.mono (by decide)) hgd (bindK_of (ks := []) (is := [0, 1]) T.f__law_draw fun _ _ _ _ _ _ us ws h1 h2 => match us, ws, h1, h2 with | [_, _], [], _, _ => rfl) (by rfl) T.g__law_draw T.f__law_draw.kp (da_cons (de_name 0) (da_cons (de_callB call_len fd_len (by rfl) T.z_len bt_len (da_cons (de_name 1) da_nil)) da_nil)) (lenA_cons (lenA_cons lenA_nil)) fun xs h => match xs, h with | [_, _], _ => rfl))))
theorem sc__law_is_line : FnScope ["_law_value", "_law_one"] ["_law_value"] (defScope s__law_is_line) := ⟨rfl, rfl, rfl, by decide +kernel, rfl, by decide +kernel, by decide +kernel⟩
theorem ok__law_is_line (T : Tx K mg) : FnG P w K mg base 2 T.a__law_is_line T.d__law_is_line ["_law_value"] (spF K 1 m__law_is_line) := by
  unfold m__law_is_line
  refine ok_def (n := 2) rfl rfl T.f__law_is_line sc__law_is_line fun B cdv A outer s H E hr hgd => ?_
  unfold g__law_is_line g__law_is_line_s2 g__law_is_line_s1 g__law_is_line_c1
  exact (sb_cons (ss_if (dw_pt (dw_or (dt_not (dt_val (de_isi2 (by rfl) T.z_isinstance (de_name 0) (by rfl) T.z_list bt_list (by rfl) T.z_tuple bt_tuple))) (dw_or (dt_cmp op_gt od_gt (de_callB call_len fd_len (by rfl) T.z_len bt_len (da_cons (de_name 0) da_nil)) de_int) (dw_or1 (dt_not (dt_val (de_callB (cr_all rfl) fd_all (by rfl) T.z_all bt_all (da_cons (de_lc (own := [("_law_one", 1)]) rfl sc__law_is_line.nd (di_seq (de_name 0)) (blkOk_by (by kernel_rfl)) (by decide) (fun _ _ _ _ _ B => (dg_name 1 sc__law_is_line.nd rfl (by first | exact Or.inl rfl | exact Or.inr rfl))) (fun _ _ _ _ _ => dts_nil) (fun _ _ _ _ _ B => (de_call (ok__law_is_integer T) (hr.mono (by decide)) hgd (bindK_of (ks := []) (is := [0]) T.f__law_is_integer fun _ _ _ _ _ _ us ws h1 h2 => match us, ws, h1, h2 with | [_], [], _, _ => rfl) (by rfl) T.g__law_is_integer T.f__law_is_integer.kp (da_cons (de_name 1) da_nil) dk_nil (lenA_cons lenA_nil) lenA_nil (fun xs h => match xs, h with | [_], _ => rfl)))) da_nil))))))))
  (sb_one (ss_ret de_bl))
  sb_nil)
  (sb_one (ss_ret (de_or (de_cmp (op_eqD hr.units) od_eq (de_callB call_len fd_len (by rfl) T.z_len bt_len (da_cons (de_name 0) da_nil)) de_int) (de_one (de_cmp (op_neD hr.units) od_ne (de_ix (de_name 0) (de_un un_neg ud_neg de_int)) de_int))))))
theorem sc__law_is_prime : FnScope ["_law_value", "_law_divisor"] ["_law_value"] (defScope s__law_is_prime) := ⟨rfl, rfl, rfl, by decide +kernel, rfl, by decide +kernel, by decide +kernel⟩
theorem ok__law_is_prime (T : Tx K mg) : FnG P w K mg base 2 T.a__law_is_prime T.d__law_is_prime ["_law_value"] (spF K 1 m__law_is_prime) := by
  unfold m__law_is_prime
  refine ok_def (n := 2) rfl rfl T.f__law_is_prime sc__law_is_prime fun B cdv A outer s H E hr hgd => ?_
  unfold g__law_is_prime g__law_is_prime_s3 g__law_is_prime_s2 g__law_is_prime_s1 g__law_is_prime_w1 g__law_is_prime_b1 g__law_is_prime_t1
  exact (sb_cons (ss_if (dw_pt (dw_or (dt_not (dt_val (de_call (ok__law_is_integer T) (hr.mono (by decide)) hgd (bindK_of (ks := []) (is := [0]) T.f__law_is_integer fun _ _ _ _ _ _ us ws h1 h2 => match us, ws, h1, h2 with | [_], [], _, _ => rfl) (by rfl) T.g__law_is_integer T.f__law_is_integer.kp (da_cons (de_name 0) da_nil) dk_nil (lenA_cons lenA_nil) lenA_nil (fun xs h => match xs, h with | [_], _ => rfl)))) (dw_or1 (dt_not (dt_chain op_le od_le op_lt od_lt de_int (de_name 0) de_int)))))
  (sb_one (ss_ret de_bl))
  sb_nil)
  (sb_cons (ss_set (i := 1) sc__law_is_prime.nd rfl (by first | exact Or.inl rfl | exact Or.inr rfl) de_int)
  (sb_cons (ss_while fuel PassesOwn.never (dt_cmp op_le od_le (de_op op_mulA od_mulA (de_name 1) (de_name 1)) (de_name 0))
  (sb_cons (ss_if (dt_cmp (op_eqD hr.units) od_eq (de_op op_mulA od_mulA (de_op op_fdivZ od_fdivZ (de_name 0) (de_name 1)) (de_name 1)) (de_name 0))
  (sb_one (ss_ret de_bl))
  sb_nil)
  (sb_one (ss_set (i := 1) sc__law_is_prime.nd rfl (by first | exact Or.inl rfl | exact Or.inr rfl) (de_op op_addA od_addA (de_name 1) de_int)))))
  (sb_one (ss_ret de_bl)))))
theorem sc_greatest : FnScope ["number", "other"] ["number", "other"] (defScope s_greatest) := ⟨rfl, rfl, rfl, by decide +kernel, rfl, by decide +kernel, by decide +kernel⟩
theorem ok_greatest (T : Tx K mg) : FnG P w K mg base 3 T.a_greatest T.d_greatest ["number", "other"] (spF K 2 m_greatest) := by
  unfold m_greatest
  refine ok_def (n := 2) rfl rfl T.f_greatest sc_greatest fun B cdv A outer s H E hr hgd => ?_
  unfold g_greatest g_greatest_s3 g_greatest_s2 g_greatest_s1
  exact (sb_cons (ss_expr (de_call (ok_want_number T) (hr.mono (by decide)) hgd (bindK_of (ks := []) (is := [0]) T.f_want_number fun _ _ _ _ _ _ us ws h1 h2 => match us, ws, h1, h2 with | [_], [], _, _ => rfl) (by rfl) T.g_want_number T.f_want_number.kp (da_cons (de_name 0) da_nil) dk_nil (lenA_cons lenA_nil) lenA_nil (fun xs h => match xs, h with | [_], _ => rfl)))
  (sb_cons (ss_expr (de_call (ok_want_number T) (hr.mono (by decide)) hgd (bindK_of (ks := []) (is := [0]) T.f_want_number fun _ _ _ _ _ _ us ws h1 h2 => match us, ws, h1, h2 with | [_], [], _, _ => rfl) (by rfl) T.g_want_number T.f_want_number.kp (da_cons (de_name 1) da_nil) dk_nil (lenA_cons lenA_nil) lenA_nil (fun xs h => match xs, h with | [_], _ => rfl)))
  (sb_one (ss_ret (de_call (ok_divisor_of T) (hr.mono (by decide)) hgd (bindK_of (ks := []) (is := [0, 1]) T.f_divisor_of fun _ _ _ _ _ _ us ws h1 h2 => match us, ws, h1, h2 with | [_, _], [], _, _ => rfl) (by rfl) T.g_divisor_of T.f_divisor_of.kp (da_cons (de_name 0) (da_cons (de_name 1) da_nil)) dk_nil (lenA_cons (lenA_cons lenA_nil)) lenA_nil (fun xs h => match xs, h with | [_, _], _ => rfl))))))
theorem sc_is_line : FnScope ["value"] ["value"] (defScope s_is_line) := ⟨rfl, rfl, rfl, by decide +kernel, rfl, by decide +kernel, by decide +kernel⟩
theorem ok_is_line (T : Tx K mg) : FnG P w K mg base 3 T.a_is_line T.d_is_line ["value"] (spF K 1 m_is_line) := by
  unfold m_is_line
  refine ok_def (n := 1) rfl rfl T.f_is_line sc_is_line fun B cdv A outer s H E hr hgd => ?_
  unfold g_is_line g_is_line_s1
  exact (sb_one (ss_ret (de_cmp op_notN od_isnot (de_call (ok_line_in T) (hr.mono (by decide)) hgd (bindK_of (ks := []) (is := [0]) T.f_line_in fun _ _ _ _ _ _ us ws h1 h2 => match us, ws, h1, h2 with | [_], [], _, _ => rfl) (by rfl) T.g_line_in T.f_line_in.kp (da_cons (de_name 0) da_nil) dk_nil (lenA_cons lenA_nil) lenA_nil (fun xs h => match xs, h with | [_], _ => rfl)) de_non)))
theorem sc__law_line : FnScope ["_law_pot_here", "_law_most", "_law_wide", "_law_found", "_law_power"] ["_law_pot_here", "_law_most", "_law_wide"] (defScope s__law_line) := ⟨rfl, rfl, rfl, by decide +kernel, rfl, by decide +kernel, by decide +kernel⟩
theorem ok__law_line (T : Tx K mg) : FnG P w K mg base 3 T.a__law_line T.d__law_line ["_law_pot_here", "_law_most", "_law_wide"] (spI K 3 m__law_line) := by
  unfold m__law_line
  refine ok_defI (n := 5) rfl rfl rfl T.f__law_line sc__law_line fun B cdv A outer s H E hr hgd => ?_
  unfold g__law_line g__law_line_s2 g__law_line_s1 g__law_line_f1 g__law_line_b1
  exact (sb_cons (ss_set (i := 3) sc__law_line.nd rfl (by first | exact Or.inl rfl | exact Or.inr rfl) (de_lst da_nil))
  (sb_cons (ss_for PassesOwn.never rfl (di_range1 (by rfl) T.z_range (da_cons (de_name 1) da_nil)) (dg_name 4 sc__law_line.nd rfl (by first | exact Or.inl rfl | exact Or.inr rfl))
  (sb_one (ss_expr (de_meth 3 PySem.F.plainAttrs_list PySem.F.slot_list_append PySem.F.type_list_append mt_append md_append (pv 3) (da_cons (de_op op_sub od_sub (de_callI (ok__law_draw T) (hr.mono (by decide)) hgd (bindK_of (ks := []) (is := [0, 1]) T.f__law_draw fun _ _ _ _ _ _ us ws h1 h2 => match us, ws, h1, h2 with | [_, _], [], _, _ => rfl) (by rfl) T.g__law_draw T.f__law_draw.kp (da_cons (de_name 0) (da_cons (de_op op_addA od_addA (de_op op_mulA od_mulA de_int (de_name 2)) de_int) da_nil)) (lenA_cons (lenA_cons lenA_nil)) fun xs h => match xs, h with | [_, _], _ => rfl) (de_name 2)) da_nil)))))
  (sb_one (ss_ret (de_op op_addA od_addA (de_name 3) (de_lst (da_cons (de_callI (ok__law_pick T) (hr.mono (by decide)) hgd (bindK_of (ks := []) (is := [0, 1]) T.f__law_pick fun _ _ _ _ _ _ us ws h1 h2 => match us, ws, h1, h2 with | [_, _], [], _, _ => rfl) (by rfl) T.g__law_pick T.f__law_pick.kp (da_cons (de_name 0) (da_cons (de_lst (da_cons de_int (da_cons (de_un un_neg ud_neg de_int) (da_cons de_int (da_cons de_int (da_cons (de_op op_sub od_sub de_int (de_name 2)) da_nil)))))) da_nil)) (lenA_cons (lenA_cons lenA_nil)) fun xs h => match xs, h with | [_, _], _ => rfl) da_nil)))))))
theorem sc__law_primes_right : FnScope ["_law_pot_here", "_law_values", "_law_turn", "_law_value"] ["_law_pot_here"] (defScope s__law_primes_right) := ⟨rfl, rfl, rfl, by decide +kernel, rfl, by decide +kernel, by decide +kernel⟩
theorem ok__law_primes_right (T : Tx K mg) : FnG P w K mg base 3 T.a__law_primes_right T.d__law_primes_right ["_law_pot_here"] (spI K 1 m__law_primes_right) := by
  unfold m__law_primes_right
  refine ok_defI (n := 4) rfl rfl rfl T.f__law_primes_right sc__law_primes_right fun B cdv A outer s H E hr hgd => ?_
  unfold g__law_primes_right g__law_primes_right_s3 g__law_primes_right_s2 g__law_primes_right_s1 g__law_primes_right_f2 g__law_primes_right_b2 g__law_primes_right_f1 g__law_primes_right_b1
  exact (sb_cons (ss_set (i := 1) sc__law_primes_right.nd rfl (by first | exact Or.inl rfl | exact Or.inr rfl) (de_lst (da_cons de_int (da_cons de_int (da_cons de_int (da_cons de_int (da_cons de_int (da_cons (de_un un_neg ud_neg de_int) (da_cons (de_un un_neg ud_neg de_int) (da_cons de_int (da_cons de_int (da_cons de_int (da_cons de_int (da_cons de_int (da_cons (de_op op_addA od_addA (de_op op_pow od_pow de_int de_int) de_int) (da_cons de_bl (da_cons de_bl (da_cons de_non (da_cons de_str (da_cons (de_lst (da_cons de_int da_nil)) (da_cons de_dnew da_nil)))))))))))))))))))))
  (sb_cons (ss_for PassesOwn.never rfl (di_range1 (by rfl) T.z_range (da_cons de_int da_nil)) (dg_name 2 sc__law_primes_right.nd rfl (by first | exact Or.inl rfl | exact Or.inr rfl))
  (sb_one (ss_expr (de_meth 1 PySem.F.plainAttrs_list PySem.F.slot_list_append PySem.F.type_list_append mt_append md_append (pv 1) (da_cons (de_callI (ok__law_draw T) (hr.mono (by decide)) hgd (bindK_of (ks := []) (is := [0, 1]) T.f__law_draw fun _ _ _ _ _ _ us ws h1 h2 => match us, ws, h1, h2 with | [_, _], [], _, _ => rfl) (by rfl) T.g__law_draw T.f__law_draw.kp (da_cons (de_name 0) (da_cons de_int da_nil)) (lenA_cons (lenA_cons lenA_nil)) fun xs h => match xs, h with | [_, _], _ => rfl) da_nil)))))
  (sb_cons (ss_frz 1 (ss_for PassesOwn.never rfl (di_seq (de_name 1)) (dg_name 3 sc__law_primes_right.nd rfl (by first | exact Or.inl rfl | exact Or.inr rfl))
  (sb_one (ss_if (dt_cmp (op_neD hr.units) od_ne (de_callB (call_reprZ hgd hr.units) fd_reprZ (by rfl) T.z_repr bt_repr (da_cons (de_lst (da_cons (de_call (ok_is_prime T) (hr.mono (by decide)) hgd (bindK_of (ks := []) (is := [0]) T.f_is_prime fun _ _ _ _ _ _ us ws h1 h2 => match us, ws, h1, h2 with | [_], [], _, _ => rfl) (by rfl) T.g_is_prime T.f_is_prime.kp (da_cons (de_name 3) da_nil) dk_nil (lenA_cons lenA_nil) lenA_nil (fun xs h => match xs, h with | [_], _ => rfl)) (da_cons (de_call0 (ok_is_prime T) (hr.mono (by decide)) hgd (bindK_of (ks := ["value"]) (is := [0]) T.f_is_prime fun _ _ _ _ _ _ us ws h1 h2 => match us, ws, h1, h2 with | [], [_], _, _ => rfl) (by rfl) T.g_is_prime T.f_is_prime.kp (dk_cons (de_name 3) dk_nil) (lenA_cons lenA_nil) (fun xs h => match xs, h with | [_], _ => rfl)) da_nil))) da_nil)) (de_callB (call_reprZ hgd hr.units) fd_reprZ (by rfl) T.z_repr bt_repr (da_cons (de_op op_mulA od_mulA (de_lst (da_cons (de_call (ok__law_is_prime T) (hr.mono (by decide)) hgd (bindK_of (ks := []) (is := [0]) T.f__law_is_prime fun _ _ _ _ _ _ us ws h1 h2 => match us, ws, h1, h2 with | [_], [], _, _ => rfl) (by rfl) T.g__law_is_prime T.f__law_is_prime.kp (da_cons (de_name 3) da_nil) dk_nil (lenA_cons lenA_nil) lenA_nil (fun xs h => match xs, h with | [_], _ => rfl)) da_nil)) de_int) da_nil)))
  (sb_one (ss_ret de_bl))
  sb_nil))))
  (sb_one (ss_ret de_bl)))))
theorem sc__law_lines_right : FnScope ["_law_pot_here", "_law_line_here", "_law_at", "_law_odd", "_law_values", "_law_value", "_law_shown"] ["_law_pot_here"] (defScope s__law_lines_right) := ⟨rfl, rfl, rfl, by decide +kernel, rfl, by decide +kernel, by decide +kernel⟩
theorem ok__law_lines_right (T : Tx K mg) : FnG P w K mg base 4 T.a__law_lines_right T.d__law_lines_right ["_law_pot_here"] (spI K 1 m__law_lines_right) := by
  unfold m__law_lines_right
  refine ok_defI (n := 7) rfl rfl rfl T.f__law_lines_right sc__law_lines_right fun B cdv A outer s H E hr hgd => ?_
  unfold g__law_lines_right g__law_lines_right_s4 g__law_lines_right_s3 g__law_lines_right_s2 g__law_lines_right_s1 g__law_lines_right_f1 g__law_lines_right_b1
  exact (sb_cons (ss_set (i := 1) sc__law_lines_right.nd rfl (by first | exact Or.inl rfl | exact Or.inr rfl) (de_callI (ok__law_line T) (hr.mono (by decide)) hgd (bindK_of (ks := []) (is := [0, 1, 2]) T.f__law_line fun _ _ _ _ _ _ us ws h1 h2 => match us, ws, h1, h2 with | [_, _, _], [], _, _ => rfl) (by rfl) T.g__law_line T.f__law_line.kp (da_cons (de_name 0) (da_cons (de_callI (ok__law_draw T) (hr.mono (by decide)) hgd (bindK_of (ks := []) (is := [0, 1]) T.f__law_draw fun _ _ _ _ _ _ us ws h1 h2 => match us, ws, h1, h2 with | [_, _], [], _, _ => rfl) (by rfl) T.g__law_draw T.f__law_draw.kp (da_cons (de_name 0) (da_cons de_int da_nil)) (lenA_cons (lenA_cons lenA_nil)) fun xs h => match xs, h with | [_, _], _ => rfl) (da_cons de_int da_nil))) (lenA_cons (lenA_cons (lenA_cons lenA_nil))) fun xs h => match xs, h with | [_, _, _], _ => rfl))
  (sb_cons (ss_par (i := 2) (j := 3) rfl sc__law_lines_right.nd rfl rfl (by decide) rfl rfl (da_cons (de_callI (ok__law_draw T) (hr.mono (by decide)) hgd (bindK_of (ks := []) (is := [0, 1]) T.f__law_draw fun _ _ _ _ _ _ us ws h1 h2 => match us, ws, h1, h2 with | [_, _], [], _, _ => rfl) (by rfl) T.g__law_draw T.f__law_draw.kp (da_cons (de_name 0) (da_cons (de_callB call_len fd_len (by rfl) T.z_len bt_len (da_cons (de_name 1) da_nil)) da_nil)) (lenA_cons (lenA_cons lenA_nil)) fun xs h => match xs, h with | [_, _], _ => rfl) (da_cons (de_callI (ok__law_pick T) (hr.mono (by decide)) hgd (bindK_of (ks := []) (is := [0, 1]) T.f__law_pick fun _ _ _ _ _ _ us ws h1 h2 => match us, ws, h1, h2 with | [_, _], [], _, _ => rfl) (by rfl) T.g__law_pick T.f__law_pick.kp (da_cons (de_name 0) (da_cons (de_lst (da_cons de_non (da_cons de_bl (da_cons de_bl (da_cons de_str (da_cons (de_lst (da_cons de_int da_nil)) (da_cons de_dnew (da_cons (de_tup da_nil) da_nil)))))))) da_nil)) (lenA_cons (lenA_cons lenA_nil)) fun xs h => match xs, h with | [_, _], _ => rfl) da_nil)) (by rfl))
  (sb_cons (ss_frz 3 (ss_frz 1 (ss_set (i := 4) sc__law_lines_right.nd rfl (by first | exact Or.inl rfl | exact Or.inr rfl) (de_lst (da_cons (de_name 1) (da_cons (de_callT call_tuple_of fd_tuple (by rfl) T.z_tuple bt_tuple (da_cons (de_name 1) da_nil)) (da_cons (de_op op_addA od_addA (de_name 1) (de_lst (da_cons de_int da_nil))) (da_cons (de_slice (de_name 1) dp_none (dp_some (de_un un_neg ud_neg de_int))) (da_cons (de_op op_addA od_addA (de_op op_mulA od_mulA (de_lst (da_cons de_int da_nil)) de_int) (de_slice (de_name 1) (dp_some (de_un un_neg ud_neg de_int)) dp_none)) (da_cons (de_op op_addA od_addA (de_op op_mulA od_mulA (de_lst (da_cons de_int da_nil)) de_int) (de_slice (de_name 1) (dp_some (de_un un_neg ud_neg de_int)) dp_none)) (da_cons (de_op op_addA od_addA (de_op op_addA od_addA (de_slice (de_name 1) dp_none (dp_some (de_name 2))) (de_lst (da_cons (de_name 3) da_nil))) (de_slice (de_name 1) (dp_some (de_op op_addA od_addA (de_name 2) de_int)) dp_none)) (da_cons (de_op op_addA od_addA (de_op op_addA od_addA (de_slice (de_name 1) dp_none (dp_some (de_name 2))) (de_lst (da_cons de_int da_nil))) (de_slice (de_name 1) (dp_some (de_op op_addA od_addA (de_name 2) de_int)) dp_none)) da_nil))))))))))))
  (sb_cons (ss_for PassesOwn.never rfl (di_seq (de_op op_addA od_addA (de_name 4) (de_lst (da_cons (de_lst da_nil) (da_cons (de_tup da_nil) (da_cons (de_lst (da_cons de_int da_nil)) (da_cons (de_lst (da_cons de_int (da_cons de_int da_nil))) (da_cons de_non (da_cons de_int (da_cons de_int (da_cons de_bl (da_cons de_str (da_cons de_str (da_cons de_dnew (da_cons (de_disp1) (da_cons (de_lst (da_cons (de_lst da_nil) da_nil)) (da_cons (de_lst (da_cons (de_lst (da_cons de_int da_nil)) da_nil)) (da_cons (de_lst (da_cons (de_op op_pow od_pow de_int de_int) da_nil)) (da_cons (de_tup (da_cons de_int (da_cons (de_op op_pow od_pow de_int de_int) da_nil))) (da_cons (de_op op_mulA od_mulA (de_lst (da_cons de_int da_nil)) de_int) (da_cons (de_op op_mulA od_mulA (de_lst (da_cons de_int da_nil)) de_int) da_nil))))))))))))))))))))) (dg_name 5 sc__law_lines_right.nd rfl (by first | exact Or.inl rfl | exact Or.inr rfl))
  (sb_cons (ss_set (i := 6) sc__law_lines_right.nd rfl (by first | exact Or.inl rfl | exact Or.inr rfl) (de_callB (call_reprZ hgd hr.units) fd_reprZ (by rfl) T.z_repr bt_repr (da_cons (de_name 5) da_nil)))
  (sb_one (ss_if (dw_pt (dw_or (dt_cmp (op_neD hr.units) od_ne (de_callB (call_reprZ hgd hr.units) fd_reprZ (by rfl) T.z_repr bt_repr (da_cons (de_lst (da_cons (de_call (ok_is_line T) (hr.mono (by decide)) hgd (bindK_of (ks := []) (is := [0]) T.f_is_line fun _ _ _ _ _ _ us ws h1 h2 => match us, ws, h1, h2 with | [_], [], _, _ => rfl) (by rfl) T.g_is_line T.f_is_line.kp (da_cons (de_name 5) da_nil) dk_nil (lenA_cons lenA_nil) lenA_nil (fun xs h => match xs, h with | [_], _ => rfl)) (da_cons (de_call0 (ok_is_line T) (hr.mono (by decide)) hgd (bindK_of (ks := ["value"]) (is := [0]) T.f_is_line fun _ _ _ _ _ _ us ws h1 h2 => match us, ws, h1, h2 with | [], [_], _, _ => rfl) (by rfl) T.g_is_line T.f_is_line.kp (dk_cons (de_name 5) dk_nil) (lenA_cons lenA_nil) (fun xs h => match xs, h with | [_], _ => rfl)) da_nil))) da_nil)) (de_callB (call_reprZ hgd hr.units) fd_reprZ (by rfl) T.z_repr bt_repr (da_cons (de_op op_mulA od_mulA (de_lst (da_cons (de_call (ok__law_is_line T) (hr.mono (by decide)) hgd (bindK_of (ks := []) (is := [0]) T.f__law_is_line fun _ _ _ _ _ _ us ws h1 h2 => match us, ws, h1, h2 with | [_], [], _, _ => rfl) (by rfl) T.g__law_is_line T.f__law_is_line.kp (da_cons (de_name 5) da_nil) dk_nil (lenA_cons lenA_nil) lenA_nil (fun xs h => match xs, h with | [_], _ => rfl)) da_nil)) de_int) da_nil))) (dw_or1 (dt_cmp (op_neD hr.units) od_ne (de_callB (call_reprZ hgd hr.units) fd_reprZ (by rfl) T.z_repr bt_repr (da_cons (de_name 5) da_nil)) (de_name 6)))))
  (sb_one (ss_ret de_bl))
  sb_nil))))
  (sb_one (ss_ret de_bl))))))
theorem sc__law_greatest_right : FnScope ["_law_pot_here", "_law_shared", "_law_one", "_law_other", "_law_told", "_law_mixed_here"] ["_law_pot_here"] (defScope s__law_greatest_right) := ⟨rfl, rfl, rfl, by decide +kernel, rfl, by decide +kernel, by decide +kernel⟩
theorem ok__law_greatest_right (T : Tx K mg) : FnG P w K mg base 4 T.a__law_greatest_right T.d__law_greatest_right ["_law_pot_here"] (spI K 1 m__law_greatest_right) := by
  unfold m__law_greatest_right
  refine ok_defI (n := 6) rfl rfl rfl T.f__law_greatest_right sc__law_greatest_right fun B cdv A outer s H E hr hgd => ?_
  unfold g__law_greatest_right g__law_greatest_right_s6 g__law_greatest_right_s5 g__law_greatest_right_s4 g__law_greatest_right_s3 g__law_greatest_right_s2 g__law_greatest_right_s1
  exact (sb_cons (ss_set (i := 1) sc__law_greatest_right.nd rfl (by first | exact Or.inl rfl | exact Or.inr rfl) (de_callI (ok__law_pick T) (hr.mono (by decide)) hgd (bindK_of (ks := []) (is := [0, 1]) T.f__law_pick fun _ _ _ _ _ _ us ws h1 h2 => match us, ws, h1, h2 with | [_, _], [], _, _ => rfl) (by rfl) T.g__law_pick T.f__law_pick.kp (da_cons (de_name 0) (da_cons (de_lst (da_cons de_int (da_cons de_int (da_cons de_int (da_cons de_int da_nil))))) da_nil)) (lenA_cons (lenA_cons lenA_nil)) fun xs h => match xs, h with | [_, _], _ => rfl))
  (sb_cons (ss_par (i := 2) (j := 3) rfl sc__law_greatest_right.nd rfl rfl (by decide) rfl rfl (da_cons (de_op op_mulA od_mulA (de_name 1) (de_op op_sub od_sub (de_callI (ok__law_draw T) (hr.mono (by decide)) hgd (bindK_of (ks := []) (is := [0, 1]) T.f__law_draw fun _ _ _ _ _ _ us ws h1 h2 => match us, ws, h1, h2 with | [_, _], [], _, _ => rfl) (by rfl) T.g__law_draw T.f__law_draw.kp (da_cons (de_name 0) (da_cons de_int da_nil)) (lenA_cons (lenA_cons lenA_nil)) fun xs h => match xs, h with | [_, _], _ => rfl) de_int)) (da_cons (de_op op_mulA od_mulA (de_name 1) (de_op op_sub od_sub (de_callI (ok__law_draw T) (hr.mono (by decide)) hgd (bindK_of (ks := []) (is := [0, 1]) T.f__law_draw fun _ _ _ _ _ _ us ws h1 h2 => match us, ws, h1, h2 with | [_, _], [], _, _ => rfl) (by rfl) T.g__law_draw T.f__law_draw.kp (da_cons (de_name 0) (da_cons de_int da_nil)) (lenA_cons (lenA_cons lenA_nil)) fun xs h => match xs, h with | [_, _], _ => rfl) de_int)) da_nil)) (by rfl))
  (sb_cons (ss_frz 3 (ss_frz 2 (ss_par (i := 4) (j := 5) rfl sc__law_greatest_right.nd rfl rfl (by decide) rfl rfl (da_cons (de_callL (ok_greatest T) (hr.mono (by decide)) hgd (bindK_of (ks := []) (is := [0, 1]) T.f_greatest fun _ _ _ _ _ _ us ws h1 h2 => match us, ws, h1, h2 with | [_, _], [], _, _ => rfl) (by rfl) T.g_greatest T.f_greatest.kp (da_cons (de_name 2) (da_cons (de_name 3) da_nil)) (lenA_cons (lenA_cons lenA_nil)) fun xs h => match xs, h with | [_, _], _ => rfl) (da_cons (de_call (ok__law_mixed T) (hr.mono (by decide)) hgd (bindK_of (ks := []) (is := [0, 1]) T.f__law_mixed fun _ _ _ _ _ _ us ws h1 h2 => match us, ws, h1, h2 with | [_, _], [], _, _ => rfl) (by rfl) T.g__law_mixed T.f__law_mixed.kp (da_cons (de_name 2) (da_cons (de_name 3) da_nil)) dk_nil (lenA_cons (lenA_cons lenA_nil)) lenA_nil (fun xs h => match xs, h with | [_, _], _ => rfl)) da_nil)) (by rfl))))
  (sb_cons (ss_if (dw_pt (dw_or (dt_cmp (op_neD hr.units) od_ne (de_name 4) (de_callB call_abs fd_abs (by rfl) T.z_abs bt_abs (da_cons (de_ix (de_name 5) de_int) da_nil))) (dw_or (dt_cmp (op_neD hr.units) od_ne (de_callL0 (ok_greatest T) (hr.mono (by decide)) hgd (bindK_of (ks := ["other", "number"]) (is := [1, 0]) T.f_greatest fun _ _ _ _ _ _ us ws h1 h2 => match us, ws, h1, h2 with | [], [_, _], _, _ => rfl) (by rfl) T.g_greatest T.f_greatest.kp (dk_cons (de_name 2) (dk_cons (de_name 3) dk_nil)) (lenA_cons (lenA_cons lenA_nil)) (fun xs h => match xs, h with | [_, _], _ => rfl)) (de_name 4)) (dw_or (dt_cmp (op_neD hr.units) od_ne (de_callL (ok_greatest T) (hr.mono (by decide)) hgd (bindK_of (ks := []) (is := [0, 1]) T.f_greatest fun _ _ _ _ _ _ us ws h1 h2 => match us, ws, h1, h2 with | [_, _], [], _, _ => rfl) (by rfl) T.g_greatest T.f_greatest.kp (da_cons (de_op op_sub od_sub de_int (de_name 2)) (da_cons (de_name 3) da_nil)) (lenA_cons (lenA_cons lenA_nil)) fun xs h => match xs, h with | [_, _], _ => rfl) (de_name 4)) (dw_or1 (dt_cmp (op_neD hr.units) od_ne (de_callL (ok_greatest T) (hr.mono (by decide)) hgd (bindK_of (ks := []) (is := [0, 1]) T.f_greatest fun _ _ _ _ _ _ us ws h1 h2 => match us, ws, h1, h2 with | [_, _], [], _, _ => rfl) (by rfl) T.g_greatest T.f_greatest.kp (da_cons (de_name 2) (da_cons de_int da_nil)) (lenA_cons (lenA_cons lenA_nil)) fun xs h => match xs, h with | [_, _], _ => rfl) (de_callB call_abs fd_abs (by rfl) T.z_abs bt_abs (da_cons (de_name 2) da_nil))))))))
  (sb_one (ss_ret de_bl))
  sb_nil)
  (sb_cons (ss_if (dt_cmp (op_eqD hr.units) od_eq (de_name 4) de_int)
  (sb_one (ss_ret (de_and (de_cmp (op_eqD hr.units) od_eq (de_name 2) de_int) (de_one (de_cmp (op_eqD hr.units) od_eq (de_name 3) de_int)))))
  sb_nil)
  (sb_one (ss_ret (de_and (de_cmp (op_eqD hr.units) od_eq (de_op op_mulA od_mulA (de_op op_fdivZ od_fdivZ (de_name 2) (de_name 4)) (de_name 4)) (de_name 2)) (de_and (de_cmp (op_eqD hr.units) od_eq (de_op op_mulA od_mulA (de_op op_fdivZ od_fdivZ (de_name 3) (de_name 4)) (de_name 4)) (de_name 3)) (de_one (de_cmp op_in_seq od_inI (de_op op_addA od_addA (de_op op_mulA od_mulA (de_ix (de_name 5) de_int) (de_name 2)) (de_op op_mulA od_mulA (de_ix (de_name 5) de_int) (de_name 3))) (de_tup (da_cons (de_name 4) (da_cons (de_op op_sub od_sub de_int (de_name 4)) da_nil))))))))))))))
theorem sc__law_right : FnScope ["_law_pot_here"] ["_law_pot_here"] (defScope s__law_right) := ⟨rfl, rfl, rfl, by decide +kernel, rfl, by decide +kernel, by decide +kernel⟩
theorem ok__law_right (T : Tx K mg) : FnG P w K mg base 5 T.a__law_right T.d__law_right ["_law_pot_here"] (spI K 1 m__law_right) := by
  unfold m__law_right
  refine ok_defI (n := 1) rfl rfl rfl T.f__law_right sc__law_right fun B cdv A outer s H E hr hgd => ?_
  unfold g__law_right g__law_right_s1
  exact (sb_one (ss_ret (de_and (de_callI (ok__law_lines_right T) (hr.mono (by decide)) hgd (bindK_of (ks := []) (is := [0]) T.f__law_lines_right fun _ _ _ _ _ _ us ws h1 h2 => match us, ws, h1, h2 with | [_], [], _, _ => rfl) (by rfl) T.g__law_lines_right T.f__law_lines_right.kp (da_cons (de_name 0) da_nil) (lenA_cons lenA_nil) fun xs h => match xs, h with | [_], _ => rfl) (de_and (de_callI (ok__law_primes_right T) (hr.mono (by decide)) hgd (bindK_of (ks := []) (is := [0]) T.f__law_primes_right fun _ _ _ _ _ _ us ws h1 h2 => match us, ws, h1, h2 with | [_], [], _, _ => rfl) (by rfl) T.g__law_primes_right T.f__law_primes_right.kp (da_cons (de_name 0) da_nil) (lenA_cons lenA_nil) fun xs h => match xs, h with | [_], _ => rfl) (de_and (de_callI (ok__law_greatest_right T) (hr.mono (by decide)) hgd (bindK_of (ks := []) (is := [0]) T.f__law_greatest_right fun _ _ _ _ _ _ us ws h1 h2 => match us, ws, h1, h2 with | [_], [], _, _ => rfl) (by rfl) T.g__law_greatest_right T.f__law_greatest_right.kp (da_cons (de_name 0) da_nil) (lenA_cons lenA_nil) fun xs h => match xs, h with | [_], _ => rfl) (de_and (de_cmp (op_eqD hr.units) od_eq (de_call (ok_greatest T) (hr.mono (by decide)) hgd (bindK_of (ks := []) (is := [0, 1]) T.f_greatest fun _ _ _ _ _ _ us ws h1 h2 => match us, ws, h1, h2 with | [_, _], [], _, _ => rfl) (by rfl) T.g_greatest T.f_greatest.kp (da_cons de_int (da_cons (de_un un_neg ud_neg de_int) da_nil)) dk_nil (lenA_cons (lenA_cons lenA_nil)) lenA_nil (fun xs h => match xs, h with | [_, _], _ => rfl)) de_int) (de_one (de_cmp (op_eqD hr.units) od_eq (de_call (ok_greatest T) (hr.mono (by decide)) hgd (bindK_of (ks := []) (is := [0, 1]) T.f_greatest fun _ _ _ _ _ _ us ws h1 h2 => match us, ws, h1, h2 with | [_, _], [], _, _ => rfl) (by rfl) T.g_greatest T.f_greatest.kp (da_cons de_int (da_cons de_int da_nil)) dk_nil (lenA_cons (lenA_cons lenA_nil)) lenA_nil (fun xs h => match xs, h with | [_, _], _ => rfl)) de_int))))))))
theorem sc_law : FnScope ["_law_script"] ["_law_script"] (defScope s_law) := ⟨rfl, rfl, rfl, by decide +kernel, rfl, by decide +kernel, by decide +kernel⟩
theorem ok_law (T : Tx K mg) : FnG P w K mg base 6 T.a_law T.d_law ["_law_script"] (spF K 1 m_law) := by
  unfold m_law
  refine ok_def (n := 1) rfl rfl T.f_law sc_law fun B cdv A outer s H E hr hgd => ?_
  unfold g_law g_law_s1
  exact (sb_one (ss_ret (de_callO (ok__law_right T) (hr.mono (by decide)) hgd (bindK_of (ks := []) (is := [0]) T.f__law_right fun _ _ _ _ _ _ us ws h1 h2 => match us, ws, h1, h2 with | [_], [], _, _ => rfl) (by rfl) T.g__law_right T.f__law_right.kp (de_call (ok__law_pot T) (hr.mono (by decide)) hgd (bindK_of (ks := []) (is := [0, 1]) T.f__law_pot fun _ _ _ _ _ _ us ws h1 h2 => match us, ws, h1, h2 with | [_, _], [], _, _ => rfl) (by rfl) T.g__law_pot T.f__law_pot.kp (da_cons (de_name 0) (da_cons de_int da_nil)) dk_nil (lenA_cons (lenA_cons lenA_nil)) lenA_nil (fun xs h => match xs, h with | [_, _], _ => rfl)) fun xs h => match xs, h with | [_], _ => rfl)))
end
theorem all_mk {l : PySem.W.OpenLaw} {w : World} {K : Fg} {h : Heap} {mg : Str → Option Value} {fa : Addr} (X : K.In h) (G : h.Ns mainGlobals mg) (hfa : mg "law" = some (.ref fa))
        {f1 : Addr} {od1 an1 : Option Addr} {sl1 : Array (Option Value)} {oc1 kV1 dc1 pm1 cd1 ct1 : Value} (a1 : PySem.W.nsIn K mainGlobals "is_integer" = some (some (.ref f1))) (l1 : K.lookup f1 = some ⟨oc1, od1, .func (PySem.W.fnOf "is_integer" "is_integer" (defArgs s_is_integer) (defBody s_is_integer) (defScope s_is_integer) .none kV1 dc1 pm1 an1 cd1 ct1), sl1⟩) (c1 : PySem.W.codeIn K cd1 "is_integer" = true) (k1 : PySem.W.keepIn K (.ref f1) = true)
    {f2 : Addr} {od2 an2 : Option Addr} {sl2 : Array (Option Value)} {oc2 kV2 dc2 pm2 cd2 ct2 : Value} (a2 : PySem.W.nsIn K mainGlobals "is_list" = some (some (.ref f2))) (l2 : K.lookup f2 = some ⟨oc2, od2, .func (PySem.W.fnOf "is_list" "is_list" (defArgs s_is_list) (defBody s_is_list) (defScope s_is_list) .none kV2 dc2 pm2 an2 cd2 ct2), sl2⟩) (c2 : PySem.W.codeIn K cd2 "is_list" = true) (k2 : PySem.W.keepIn K (.ref f2) = true)
    {f3 : Addr} {od3 an3 : Option Addr} {sl3 : Array (Option Value)} {oc3 kV3 dc3 pm3 cd3 ct3 : Value} (a3 : PySem.W.nsIn K mainGlobals "divisor_of" = some (some (.ref f3))) (l3 : K.lookup f3 = some ⟨oc3, od3, .func (PySem.W.fnOf "divisor_of" "divisor_of" (defArgs s_divisor_of) (defBody s_divisor_of) (defScope s_divisor_of) .none kV3 dc3 pm3 an3 cd3 ct3), sl3⟩) (c3 : PySem.W.codeIn K cd3 "divisor_of" = true) (k3 : PySem.W.keepIn K (.ref f3) = true)
    {f4 : Addr} {od4 an4 : Option Addr} {sl4 : Array (Option Value)} {oc4 kV4 dc4 pm4 cd4 ct4 : Value} (a4 : PySem.W.nsIn K mainGlobals "has_divisor" = some (some (.ref f4))) (l4 : K.lookup f4 = some ⟨oc4, od4, .func (PySem.W.fnOf "has_divisor" "has_divisor" (defArgs s_has_divisor) (defBody s_has_divisor) (defScope s_has_divisor) .none kV4 dc4 pm4 an4 cd4 ct4), sl4⟩) (c4 : PySem.W.codeIn K cd4 "has_divisor" = true) (k4 : PySem.W.keepIn K (.ref f4) = true)
    {f5 : Addr} {od5 an5 : Option Addr} {sl5 : Array (Option Value)} {oc5 kV5 dc5 pm5 cd5 ct5 : Value} (a5 : PySem.W.nsIn K mainGlobals "_law_pot" = some (some (.ref f5))) (l5 : K.lookup f5 = some ⟨oc5, od5, .func (PySem.W.fnOf "_law_pot" "_law_pot" (defArgs s__law_pot) (defBody s__law_pot) (defScope s__law_pot) .none kV5 dc5 pm5 an5 cd5 ct5), sl5⟩) (c5 : PySem.W.codeIn K cd5 "_law_pot" = true) (k5 : PySem.W.keepIn K (.ref f5) = true)
    {f6 : Addr} {od6 an6 : Option Addr} {sl6 : Array (Option Value)} {oc6 kV6 dc6 pm6 cd6 ct6 : Value} (a6 : PySem.W.nsIn K mainGlobals "_law_draw" = some (some (.ref f6))) (l6 : K.lookup f6 = some ⟨oc6, od6, .func (PySem.W.fnOf "_law_draw" "_law_draw" (defArgs s__law_draw) (defBody s__law_draw) (defScope s__law_draw) .none kV6 dc6 pm6 an6 cd6 ct6), sl6⟩) (c6 : PySem.W.codeIn K cd6 "_law_draw" = true) (k6 : PySem.W.keepIn K (.ref f6) = true)
    {f7 : Addr} {od7 an7 : Option Addr} {sl7 : Array (Option Value)} {oc7 kV7 dc7 pm7 cd7 ct7 : Value} (a7 : PySem.W.nsIn K mainGlobals "_law_is_integer" = some (some (.ref f7))) (l7 : K.lookup f7 = some ⟨oc7, od7, .func (PySem.W.fnOf "_law_is_integer" "_law_is_integer" (defArgs s__law_is_integer) (defBody s__law_is_integer) (defScope s__law_is_integer) .none kV7 dc7 pm7 an7 cd7 ct7), sl7⟩) (c7 : PySem.W.codeIn K cd7 "_law_is_integer" = true) (k7 : PySem.W.keepIn K (.ref f7) = true)
    {f8 : Addr} {od8 an8 : Option Addr} {sl8 : Array (Option Value)} {oc8 kV8 dc8 pm8 cd8 ct8 : Value} (a8 : PySem.W.nsIn K mainGlobals "_law_mixed" = some (some (.ref f8))) (l8 : K.lookup f8 = some ⟨oc8, od8, .func (PySem.W.fnOf "_law_mixed" "_law_mixed" (defArgs s__law_mixed) (defBody s__law_mixed) (defScope s__law_mixed) .none kV8 dc8 pm8 an8 cd8 ct8), sl8⟩) (c8 : PySem.W.codeIn K cd8 "_law_mixed" = true) (k8 : PySem.W.keepIn K (.ref f8) = true)
    {f9 : Addr} {od9 an9 : Option Addr} {sl9 : Array (Option Value)} {oc9 kV9 dc9 pm9 cd9 ct9 : Value} (a9 : PySem.W.nsIn K mainGlobals "want_number" = some (some (.ref f9))) (l9 : K.lookup f9 = some ⟨oc9, od9, .func (PySem.W.fnOf "want_number" "want_number" (defArgs s_want_number) (defBody s_want_number) (defScope s_want_number) .none kV9 dc9 pm9 an9 cd9 ct9), sl9⟩) (c9 : PySem.W.codeIn K cd9 "want_number" = true) (k9 : PySem.W.keepIn K (.ref f9) = true)
    {f10 : Addr} {od10 an10 : Option Addr} {sl10 : Array (Option Value)} {oc10 kV10 dc10 pm10 cd10 ct10 : Value} (a10 : PySem.W.nsIn K mainGlobals "is_prime" = some (some (.ref f10))) (l10 : K.lookup f10 = some ⟨oc10, od10, .func (PySem.W.fnOf "is_prime" "is_prime" (defArgs s_is_prime) (defBody s_is_prime) (defScope s_is_prime) .none kV10 dc10 pm10 an10 cd10 ct10), sl10⟩) (c10 : PySem.W.codeIn K cd10 "is_prime" = true) (k10 : PySem.W.keepIn K (.ref f10) = true)
    {f11 : Addr} {od11 an11 : Option Addr} {sl11 : Array (Option Value)} {oc11 kV11 dc11 pm11 cd11 ct11 : Value} (a11 : PySem.W.nsIn K mainGlobals "line_in" = some (some (.ref f11))) (l11 : K.lookup f11 = some ⟨oc11, od11, .func (PySem.W.fnOf "line_in" "line_in" (defArgs s_line_in) (defBody s_line_in) (defScope s_line_in) .none kV11 dc11 pm11 an11 cd11 ct11), sl11⟩) (c11 : PySem.W.codeIn K cd11 "line_in" = true) (k11 : PySem.W.keepIn K (.ref f11) = true)
    {f12 : Addr} {od12 an12 : Option Addr} {sl12 : Array (Option Value)} {oc12 kV12 dc12 pm12 cd12 ct12 : Value} (a12 : PySem.W.nsIn K mainGlobals "_law_pick" = some (some (.ref f12))) (l12 : K.lookup f12 = some ⟨oc12, od12, .func (PySem.W.fnOf "_law_pick" "_law_pick" (defArgs s__law_pick) (defBody s__law_pick) (defScope s__law_pick) .none kV12 dc12 pm12 an12 cd12 ct12), sl12⟩) (c12 : PySem.W.codeIn K cd12 "_law_pick" = true) (k12 : PySem.W.keepIn K (.ref f12) = true)
    {f13 : Addr} {od13 an13 : Option Addr} {sl13 : Array (Option Value)} {oc13 kV13 dc13 pm13 cd13 ct13 : Value} (a13 : PySem.W.nsIn K mainGlobals "_law_is_line" = some (some (.ref f13))) (l13 : K.lookup f13 = some ⟨oc13, od13, .func (PySem.W.fnOf "_law_is_line" "_law_is_line" (defArgs s__law_is_line) (defBody s__law_is_line) (defScope s__law_is_line) .none kV13 dc13 pm13 an13 cd13 ct13), sl13⟩) (c13 : PySem.W.codeIn K cd13 "_law_is_line" = true) (k13 : PySem.W.keepIn K (.ref f13) = true)
    {f14 : Addr} {od14 an14 : Option Addr} {sl14 : Array (Option Value)} {oc14 kV14 dc14 pm14 cd14 ct14 : Value} (a14 : PySem.W.nsIn K mainGlobals "_law_is_prime" = some (some (.ref f14))) (l14 : K.lookup f14 = some ⟨oc14, od14, .func (PySem.W.fnOf "_law_is_prime" "_law_is_prime" (defArgs s__law_is_prime) (defBody s__law_is_prime) (defScope s__law_is_prime) .none kV14 dc14 pm14 an14 cd14 ct14), sl14⟩) (c14 : PySem.W.codeIn K cd14 "_law_is_prime" = true) (k14 : PySem.W.keepIn K (.ref f14) = true)
    {f15 : Addr} {od15 an15 : Option Addr} {sl15 : Array (Option Value)} {oc15 kV15 dc15 pm15 cd15 ct15 : Value} (a15 : PySem.W.nsIn K mainGlobals "greatest" = some (some (.ref f15))) (l15 : K.lookup f15 = some ⟨oc15, od15, .func (PySem.W.fnOf "greatest" "greatest" (defArgs s_greatest) (defBody s_greatest) (defScope s_greatest) .none kV15 dc15 pm15 an15 cd15 ct15), sl15⟩) (c15 : PySem.W.codeIn K cd15 "greatest" = true) (k15 : PySem.W.keepIn K (.ref f15) = true)
    {f16 : Addr} {od16 an16 : Option Addr} {sl16 : Array (Option Value)} {oc16 kV16 dc16 pm16 cd16 ct16 : Value} (a16 : PySem.W.nsIn K mainGlobals "is_line" = some (some (.ref f16))) (l16 : K.lookup f16 = some ⟨oc16, od16, .func (PySem.W.fnOf "is_line" "is_line" (defArgs s_is_line) (defBody s_is_line) (defScope s_is_line) .none kV16 dc16 pm16 an16 cd16 ct16), sl16⟩) (c16 : PySem.W.codeIn K cd16 "is_line" = true) (k16 : PySem.W.keepIn K (.ref f16) = true)
    {f17 : Addr} {od17 an17 : Option Addr} {sl17 : Array (Option Value)} {oc17 kV17 dc17 pm17 cd17 ct17 : Value} (a17 : PySem.W.nsIn K mainGlobals "_law_line" = some (some (.ref f17))) (l17 : K.lookup f17 = some ⟨oc17, od17, .func (PySem.W.fnOf "_law_line" "_law_line" (defArgs s__law_line) (defBody s__law_line) (defScope s__law_line) .none kV17 dc17 pm17 an17 cd17 ct17), sl17⟩) (c17 : PySem.W.codeIn K cd17 "_law_line" = true) (k17 : PySem.W.keepIn K (.ref f17) = true)
    {f18 : Addr} {od18 an18 : Option Addr} {sl18 : Array (Option Value)} {oc18 kV18 dc18 pm18 cd18 ct18 : Value} (a18 : PySem.W.nsIn K mainGlobals "_law_primes_right" = some (some (.ref f18))) (l18 : K.lookup f18 = some ⟨oc18, od18, .func (PySem.W.fnOf "_law_primes_right" "_law_primes_right" (defArgs s__law_primes_right) (defBody s__law_primes_right) (defScope s__law_primes_right) .none kV18 dc18 pm18 an18 cd18 ct18), sl18⟩) (c18 : PySem.W.codeIn K cd18 "_law_primes_right" = true) (k18 : PySem.W.keepIn K (.ref f18) = true)
    {f19 : Addr} {od19 an19 : Option Addr} {sl19 : Array (Option Value)} {oc19 kV19 dc19 pm19 cd19 ct19 : Value} (a19 : PySem.W.nsIn K mainGlobals "_law_lines_right" = some (some (.ref f19))) (l19 : K.lookup f19 = some ⟨oc19, od19, .func (PySem.W.fnOf "_law_lines_right" "_law_lines_right" (defArgs s__law_lines_right) (defBody s__law_lines_right) (defScope s__law_lines_right) .none kV19 dc19 pm19 an19 cd19 ct19), sl19⟩) (c19 : PySem.W.codeIn K cd19 "_law_lines_right" = true) (k19 : PySem.W.keepIn K (.ref f19) = true)
    {f20 : Addr} {od20 an20 : Option Addr} {sl20 : Array (Option Value)} {oc20 kV20 dc20 pm20 cd20 ct20 : Value} (a20 : PySem.W.nsIn K mainGlobals "_law_greatest_right" = some (some (.ref f20))) (l20 : K.lookup f20 = some ⟨oc20, od20, .func (PySem.W.fnOf "_law_greatest_right" "_law_greatest_right" (defArgs s__law_greatest_right) (defBody s__law_greatest_right) (defScope s__law_greatest_right) .none kV20 dc20 pm20 an20 cd20 ct20), sl20⟩) (c20 : PySem.W.codeIn K cd20 "_law_greatest_right" = true) (k20 : PySem.W.keepIn K (.ref f20) = true)
    {f21 : Addr} {od21 an21 : Option Addr} {sl21 : Array (Option Value)} {oc21 kV21 dc21 pm21 cd21 ct21 : Value} (a21 : PySem.W.nsIn K mainGlobals "_law_right" = some (some (.ref f21))) (l21 : K.lookup f21 = some ⟨oc21, od21, .func (PySem.W.fnOf "_law_right" "_law_right" (defArgs s__law_right) (defBody s__law_right) (defScope s__law_right) .none kV21 dc21 pm21 an21 cd21 ct21), sl21⟩) (c21 : PySem.W.codeIn K cd21 "_law_right" = true) (k21 : PySem.W.keepIn K (.ref f21) = true)
    {f22 : Addr} {od22 an22 : Option Addr} {sl22 : Array (Option Value)} {oc22 kV22 dc22 pm22 cd22 ct22 : Value} (a22 : PySem.W.nsIn K mainGlobals "law" = some (some (.ref f22))) (l22 : K.lookup f22 = some ⟨oc22, od22, .func (PySem.W.fnOf "law" "law" (defArgs s_law) (defBody s_law) (defScope s_law) .none kV22 dc22 pm22 an22 cd22 ct22), sl22⟩) (c22 : PySem.W.codeIn K cd22 "law" = true) (k22 : PySem.W.keepIn K (.ref f22) = true)
    {t_MOST_DEGREE : Tok} (e_MOST_DEGREE : PySem.W.nsIn K mainGlobals "MOST_DEGREE" = some (some (.int 12 t_MOST_DEGREE)))
    {t_PRIME_BOUND : Tok} (e_PRIME_BOUND : PySem.W.nsIn K mainGlobals "PRIME_BOUND" = some (some (.int 10000 t_PRIME_BOUND)))
    (z_abs : PySem.W.nsIn K mainGlobals "abs" = some none)
    (z_all : PySem.W.nsIn K mainGlobals "all" = some none)
    (z_bool : PySem.W.nsIn K mainGlobals "bool" = some none)
    (z_divmod : PySem.W.nsIn K mainGlobals "divmod" = some none)
    (z_int : PySem.W.nsIn K mainGlobals "int" = some none)
    (z_isinstance : PySem.W.nsIn K mainGlobals "isinstance" = some none)
    (z_len : PySem.W.nsIn K mainGlobals "len" = some none)
    (z_list : PySem.W.nsIn K mainGlobals "list" = some none)
    (z_max : PySem.W.nsIn K mainGlobals "max" = some none)
    (z_range : PySem.W.nsIn K mainGlobals "range" = some none)
    (z_repr : PySem.W.nsIn K mainGlobals "repr" = some none)
    (z_tuple : PySem.W.nsIn K mainGlobals "tuple" = some none)
    (z_zip : PySem.W.nsIn K mainGlobals "zip" = some none) :
    ∃ fd : FuncData, (∀ (s : Shared) (v : Value), BindsTo s fd ⟨[v], []⟩ [("_law_script", v)]) ∧ ∀ base : Heap, K.In base → base.Ns mainGlobals mg → FnG l.prog w K mg base 6 fa fd ["_law_script"] (spF K 1 m_law) := by
  have e := hfa.symm.trans (PySem.W.mg_of X G a22)
  cases e
  let T : Tx K mg := { a_is_integer := _, d_is_integer := _, f_is_integer := fun_mk (st := s_is_integer) l1 c1 k1, g_is_integer := PySem.W.mg_of X G a1, a_is_list := _, d_is_list := _, f_is_list := fun_mk (st := s_is_list) l2 c2 k2, g_is_list := PySem.W.mg_of X G a2, a_divisor_of := _, d_divisor_of := _, f_divisor_of := fun_mk (st := s_divisor_of) l3 c3 k3, g_divisor_of := PySem.W.mg_of X G a3, a_has_divisor := _, d_has_divisor := _, f_has_divisor := fun_mk (st := s_has_divisor) l4 c4 k4, g_has_divisor := PySem.W.mg_of X G a4, a__law_pot := _, d__law_pot := _, f__law_pot := fun_mk (st := s__law_pot) l5 c5 k5, g__law_pot := PySem.W.mg_of X G a5, a__law_draw := _, d__law_draw := _, f__law_draw := fun_mk (st := s__law_draw) l6 c6 k6, g__law_draw := PySem.W.mg_of X G a6, a__law_is_integer := _, d__law_is_integer := _, f__law_is_integer := fun_mk (st := s__law_is_integer) l7 c7 k7, g__law_is_integer := PySem.W.mg_of X G a7, a__law_mixed := _, d__law_mixed := _, f__law_mixed := fun_mk (st := s__law_mixed) l8 c8 k8, g__law_mixed := PySem.W.mg_of X G a8, a_want_number := _, d_want_number := _, f_want_number := fun_mk (st := s_want_number) l9 c9 k9, g_want_number := PySem.W.mg_of X G a9, a_is_prime := _, d_is_prime := _, f_is_prime := fun_mk (st := s_is_prime) l10 c10 k10, g_is_prime := PySem.W.mg_of X G a10, a_line_in := _, d_line_in := _, f_line_in := fun_mk (st := s_line_in) l11 c11 k11, g_line_in := PySem.W.mg_of X G a11, a__law_pick := _, d__law_pick := _, f__law_pick := fun_mk (st := s__law_pick) l12 c12 k12, g__law_pick := PySem.W.mg_of X G a12, a__law_is_line := _, d__law_is_line := _, f__law_is_line := fun_mk (st := s__law_is_line) l13 c13 k13, g__law_is_line := PySem.W.mg_of X G a13, a__law_is_prime := _, d__law_is_prime := _, f__law_is_prime := fun_mk (st := s__law_is_prime) l14 c14 k14, g__law_is_prime := PySem.W.mg_of X G a14, a_greatest := _, d_greatest := _, f_greatest := fun_mk (st := s_greatest) l15 c15 k15, g_greatest := PySem.W.mg_of X G a15, a_is_line := _, d_is_line := _, f_is_line := fun_mk (st := s_is_line) l16 c16 k16, g_is_line := PySem.W.mg_of X G a16, a__law_line := _, d__law_line := _, f__law_line := fun_mk (st := s__law_line) l17 c17 k17, g__law_line := PySem.W.mg_of X G a17, a__law_primes_right := _, d__law_primes_right := _, f__law_primes_right := fun_mk (st := s__law_primes_right) l18 c18 k18, g__law_primes_right := PySem.W.mg_of X G a18, a__law_lines_right := _, d__law_lines_right := _, f__law_lines_right := fun_mk (st := s__law_lines_right) l19 c19 k19, g__law_lines_right := PySem.W.mg_of X G a19, a__law_greatest_right := _, d__law_greatest_right := _, f__law_greatest_right := fun_mk (st := s__law_greatest_right) l20 c20 k20, g__law_greatest_right := PySem.W.mg_of X G a20, a__law_right := _, d__law_right := _, f__law_right := fun_mk (st := s__law_right) l21 c21 k21, g__law_right := PySem.W.mg_of X G a21, a_law := _, d_law := _, f_law := fun_mk (st := s_law) l22 c22 k22, g_law := PySem.W.mg_of X G a22, u_MOST_DEGREE := _, e_MOST_DEGREE := PySem.W.mg_of X G e_MOST_DEGREE, r_MOST_DEGREE := ⟨_, rfl⟩, u_PRIME_BOUND := _, e_PRIME_BOUND := PySem.W.mg_of X G e_PRIME_BOUND, r_PRIME_BOUND := ⟨_, rfl⟩, z_abs := PySem.W.mg_none_of X G z_abs, z_all := PySem.W.mg_none_of X G z_all, z_bool := PySem.W.mg_none_of X G z_bool, z_divmod := PySem.W.mg_none_of X G z_divmod, z_int := PySem.W.mg_none_of X G z_int, z_isinstance := PySem.W.mg_none_of X G z_isinstance, z_len := PySem.W.mg_none_of X G z_len, z_list := PySem.W.mg_none_of X G z_list, z_max := PySem.W.mg_none_of X G z_max, z_range := PySem.W.mg_none_of X G z_range, z_repr := PySem.W.mg_none_of X G z_repr, z_tuple := PySem.W.mg_none_of X G z_tuple, z_zip := PySem.W.mg_none_of X G z_zip }
  exact ⟨T.d_law, fun s v => .of_eq rfl, fun base _ _ => ok_law T⟩
end K16
end
section
set_option maxRecDepth 100000
set_option maxHeartbeats 1000000
namespace DL
open PySem PySem.Spec L2

/-! ### loops as mathematics -/
theorem compL_gen {gt : Tg} {ft : Me Bool} {fe : Me Val} {vs : List Nat} {δ0 : DS} (g : D → Option D) : ∀ {ds : List D}, (∀ d ∈ ds, ∃ δd, gt (.fz d) δ0 = some δd ∧ ((g d = none ∧ ft δd = some (false, δd)) ∨ ∃ e v, g d = some e ∧ ft δd = some (true, δd) ∧ fe δd = some (v, δd) ∧ treeV v = some e) ∧ wipeD δd vs = δ0) →
    compL gt ft fe vs ds δ0 = some (ds.filterMap g, δ0)
  | [], _ => rfl
  | d :: r, h => by
    obtain ⟨δd, h1, h2, h3⟩ := h d List.mem_cons_self
    have ih := compL_gen g (ds := r) fun x hx => h x (List.mem_cons_of_mem _ hx)
    rcases h2 with ⟨hg, hf⟩ | ⟨e, v, hg, hf, he, hv⟩
    · simp only [compL, h1, Option.bind_some, hf, h3, ih, List.filterMap_cons, hg]
    · simp only [compL, h1, Option.bind_some, hf, he, hv, h3, ih, List.filterMap_cons, hg]
/-- a comprehension that changes nothing: its target's slots are vs -/
theorem compM_gen {fi : Me (List D)} {gt : Tg} {ft : Me Bool} {fe : Me Val} {vs : List Nat} {δ : DS} {ds : List D} (g : D → Option D) (hi : fi δ = some (ds, δ)) (hp : vs.all (plainAt δ) = true) (hb : backD δ (wipeD δ vs) vs = δ) (hz : szOk (ds.filterMap g).length = true)
    (h : ∀ d ∈ ds, ∃ δd, gt (.fz d) (wipeD δ vs) = some δd ∧ ((g d = none ∧ ft δd = some (false, δd)) ∨ ∃ e v, g d = some e ∧ ft δd = some (true, δd) ∧ fe δd = some (v, δd) ∧ treeV v = some e) ∧ wipeD δd vs = wipeD δ vs) :
    compM fi gt ft fe vs δ = some (.ow (.list (ds.filterMap g)), δ) := by
  unfold compM
  rw [hi]
  show (if _ then _ else _) = _
  rw [if_pos hp, compL_gen g h]
  show (if _ then _ else _) = _
  rw [if_pos hz, hb]
/-- one that changes the frame, told by what holds between its turns -/
theorem compL_inv {gt : Tg} {ft : Me Bool} {fe : Me Val} {vs : List Nat} (I : DS → Prop) (P : D → Prop) (h : ∀ d δ, I δ → ∃ δ1 δ2 v e δ3, gt (.fz d) δ = some δ1 ∧ ft δ1 = some (true, δ2) ∧ fe δ2 = some (v, δ3) ∧ treeV v = some e ∧ P e ∧ I (wipeD δ3 vs)) :
    ∀ (ds : List D) (δ : DS), I δ → ∃ es δ', compL gt ft fe vs ds δ = some (es, δ') ∧ es.length = ds.length ∧ (∀ e ∈ es, P e) ∧ I δ'
  | [], δ, i => ⟨[], δ, rfl, rfl, (by intro e he; cases he), i⟩
  | d :: r, δ, i => by
    obtain ⟨δ1, δ2, v, e, δ3, h1, h2, h3, h4, h5, h6⟩ := h d δ i
    obtain ⟨es, δ', e1, e2, e3, e4⟩ := compL_inv I P h r _ h6
    refine ⟨e :: es, δ', ?_, by simp [e2], fun x hx => ?_, e4⟩
    · simp only [compL, h1, Option.bind_some, h2, h3, h4, e1]
    · rcases List.mem_cons.mp hx with q | q
      · rw [q]; exact h5
      · exact e3 x q
theorem forL_inv {gt : Tg} {body : Ss} (I : List D → DS → Prop) : ∀ (ds done : List D) (δ : DS), (∀ done d rest δ, done ++ d :: rest = done ++ ds ∨ True → d ∈ ds → I done δ → ∃ δ1 δ2, gt (.fz d) δ = some δ1 ∧ (body δ1 = some (.nx, δ2) ∨ body δ1 = some (.ct, δ2)) ∧ I (done ++ [d]) δ2) → I done δ → ∃ δ', forL gt body ds δ = some (.nx, δ') ∧ I (done ++ ds) δ'
  | [], done, δ, _, i => ⟨δ, rfl, by simpa using i⟩
  | d :: r, done, δ, h, i => by
    obtain ⟨δ1, δ2, h1, h2, h3⟩ := h done d r δ (.inr trivial) List.mem_cons_self i
    obtain ⟨δ', e1, e2⟩ := forL_inv I r (done ++ [d]) δ2 (fun dn x rest δ _ hx j => h dn x rest δ (.inr trivial) (List.mem_cons_of_mem _ hx) j) h3
    refine ⟨δ', ?_, by simpa using e2⟩
    rcases h2 with h2 | h2 <;> simp only [forL, h1, Option.bind_some, h2, e1]
/-- a search that hands back v at the first item that is not p -/
theorem forL_all {gt : Tg} {body : Ss} {v : Val} (I : DS → Prop) (p : D → Bool) : ∀ (ds : List D) (δ : DS), (∀ d ∈ ds, ∀ δ, I δ → ∃ δ1, gt (.fz d) δ = some δ1 ∧ ((p d = true ∧ ∃ δ2, (body δ1 = some (.nx, δ2) ∨ body δ1 = some (.ct, δ2)) ∧ I δ2) ∨ (p d = false ∧ ∃ δ2, body δ1 = some (.rt v, δ2)))) → I δ →
    (ds.all p = true ∧ ∃ δ', forL gt body ds δ = some (.nx, δ') ∧ I δ') ∨ (ds.all p = false ∧ ∃ δ', forL gt body ds δ = some (.rt v, δ'))
  | [], δ, _, i => .inl ⟨rfl, δ, rfl, i⟩
  | d :: r, δ, h, i => by
    obtain ⟨δ1, h1, h2⟩ := h d List.mem_cons_self δ i
    rcases h2 with ⟨hp, δ2, hb, i2⟩ | ⟨hp, δ2, hb⟩
    · rcases forL_all I p r δ2 (fun x hx => h x (List.mem_cons_of_mem _ hx)) i2 with ⟨a, δ', b, c⟩ | ⟨a, δ', b⟩
      · refine .inl ⟨by simp [hp, a], δ', ?_, c⟩
        rcases hb with hb | hb <;> simp only [forL, h1, Option.bind_some, hb, b]
      · refine .inr ⟨by simp [hp, a], δ', ?_⟩
        rcases hb with hb | hb <;> simp only [forL, h1, Option.bind_some, hb, b]
    · exact .inr ⟨by simp [hp], δ2, by simp only [forL, h1, Option.bind_some, hb]⟩
theorem whileN_inv {c : Me Bool} {body : Ss} (I J : DS → Prop) (μ : DS → Nat) (h : ∀ δ, I δ → (∃ δ1, c δ = some (false, δ1) ∧ J δ1) ∨ ∃ δ1 δ2, c δ = some (true, δ1) ∧ (body δ1 = some (.nx, δ2) ∨ body δ1 = some (.ct, δ2)) ∧ I δ2 ∧ μ δ2 < μ δ) :
    ∀ (n : Nat) (δ : DS), I δ → μ δ < n → ∃ δ', whileN c body n δ = some (.nx, δ') ∧ J δ'
  | 0, _, _, hn => absurd hn (Nat.not_lt_zero _)
  | n + 1, δ, i, hn => by
    rcases h δ i with ⟨δ1, h1, h2⟩ | ⟨δ1, δ2, h1, h2, h3, h4⟩
    · exact ⟨δ1, by simp only [whileN, h1], h2⟩
    · obtain ⟨δ', e1, e2⟩ := whileN_inv I J μ h n δ2 h3 (by omega)
      refine ⟨δ', ?_, e2⟩
      rcases h2 with h2 | h2 <;> simp only [whileN, h1, h2, e1]
/-! ### items -/
theorem atI_last1 {α : Type} (xs : List α) (x : α) : atI (xs ++ [x]) (-1) = some x := by
  unfold atI ixN
  rw [if_neg (by omega), if_pos (by simp only [List.length_append, List.length_cons, List.length_nil]; omega)]
  show (xs ++ [x])[((-1 : Int) + ((xs ++ [x]).length : Nat)).toNat]? = _
  have e : ((-1 : Int) + ((xs ++ [x]).length : Nat)).toNat = xs.length := by
    simp only [List.length_append, List.length_cons, List.length_nil]
    omega
  rw [e]
  simp
theorem atI_natI {α : Type} (xs : List α) (i : Nat) (h : i < xs.length) : atI xs (i : Int) = xs[i]? := by
  unfold atI ixN
  rw [if_pos (by omega), if_pos (by omega)]
  simp
theorem last_split {α : Type} : ∀ {xs : List α}, xs ≠ [] → ∃ ys y, xs = ys ++ [y]
  | [], h => absurd rfl h
  | x :: r, _ => ⟨(x :: r).dropLast, (x :: r).getLast (List.cons_ne_nil _ _), (List.dropLast_concat_getLast _).symm⟩
abbrev IL (a : List Int) : D := .list (a.map .int)
/-! ### == of what is known -/
theorem shaped_int (i : Int) : SeqAt.shaped (.int i) = true := by unfold SeqAt.shaped; simp [PyData.canLay0, PyData.depth]
theorem eqD_int (i j : Int) : eqD (.int i) (.int j) = some (.fz (.bool (decide (i = j)))) := by
  unfold eqD
  rw [shaped_int, shaped_int, if_pos (by rfl)]
  congr 3
theorem neD_int (i j : Int) : neD (.int i) (.int j) = some (.fz (.bool (!decide (i = j)))) := by
  unfold neD
  rw [shaped_int, shaped_int, if_pos (by rfl)]
  congr 4
theorem lay_ints : ∀ a : List Int, PyData.canLayAll0 (a.map PyData.int) = true
  | [] => by simp [PyData.canLayAll0]
  | _ :: r => by simp [PyData.canLayAll0, PyData.canLay0, lay_ints r]
theorem depth_ints : ∀ a : List Int, PyData.depthAll (a.map PyData.int) = 0
  | [] => by simp [PyData.depthAll]
  | _ :: r => by simp [PyData.depthAll, PyData.depth, depth_ints r]
theorem lay_rows : ∀ a : List (List Int), PyData.canLayAll0 (a.map IL) = true
  | [] => by simp [PyData.canLayAll0]
  | x :: r => by simp [PyData.canLayAll0, PyData.canLay0, lay_ints x, lay_rows r]
theorem depth_rows : ∀ a : List (List Int), PyData.depthAll (a.map IL) ≤ 1
  | [] => by simp [PyData.depthAll]
  | x :: r => by
    have := depth_rows r
    simp [PyData.depthAll, PyData.depth, depth_ints x]
    omega
theorem shaped_IL (a : List Int) : SeqAt.shaped (IL a) = true := by
  unfold SeqAt.shaped
  simp [PyData.canLay0, PyData.depth, lay_ints a, depth_ints a]
theorem shaped_rows (a : List (List Int)) : SeqAt.shaped (.list (a.map IL)) = true := by
  have := depth_rows a
  unfold SeqAt.shaped
  simp [PyData.canLay0, PyData.depth, lay_rows a]
  omega
theorem shaped_nil : SeqAt.shaped (.list []) = true := shaped_IL []
theorem eqv_nil (ds : List D) : PyData.eqv (.list ds) (.list []) = ds.isEmpty := by
  cases ds <;> simp [PyData.eqv, PyData.eqvAll]
theorem eqD_nil {ds : List D} (h : SeqAt.shaped (.list ds) = true) : eqD (.list ds) (.list []) = some (.fz (.bool ds.isEmpty)) := by
  unfold eqD
  rw [h, shaped_nil, if_pos (by rfl), eqv_nil]
theorem neD_nil {ds : List D} (h : SeqAt.shaped (.list ds) = true) : neD (.list ds) (.list []) = some (.fz (.bool (!ds.isEmpty))) := by
  unfold neD
  rw [h, shaped_nil, if_pos (by rfl), eqv_nil]
mutual
theorem eqv_refl : (d : PyData) → d.canLay0 = true → PyData.eqv d d = true
  | .none, _ => by simp [PyData.eqv]
  | .bool b, _ => by simp [PyData.eqv]
  | .int i, _ => by simp [PyData.eqv]
  | .str x, _ => by simp [PyData.eqv]
  | .list xs, h => by simp only [PyData.eqv]; exact eqvAll_refl xs (by simpa [PyData.canLay0] using h)
  | .tuple xs, h => by simp only [PyData.eqv]; exact eqvAll_refl xs (by simpa [PyData.canLay0] using h)
  | .dict _, h => by simp [PyData.canLay0] at h
theorem eqvAll_refl : ∀ ds : List PyData, PyData.canLayAll0 ds = true → PyData.eqvAll ds ds = true
  | [], _ => by simp [PyData.eqvAll]
  | d :: r, h => by
    have h' : d.canLay0 = true ∧ PyData.canLayAll0 r = true := by simpa [PyData.canLayAll0] using h
    simp [PyData.eqvAll, eqv_refl d h'.1, eqvAll_refl r h'.2]
end
theorem neD_refl {d : D} (h : SeqAt.shaped d = true) : neD d d = some (.fz (.bool false)) := by
  unfold neD
  rw [h, if_pos (by rfl), eqv_refl d (SeqAt.canLay_of_shaped h)]
  rfl
theorem eqD_refl {d : D} (h : SeqAt.shaped d = true) : eqD d d = some (.fz (.bool true)) := by
  unfold eqD
  rw [h, if_pos (by rfl), eqv_refl d (SeqAt.canLay_of_shaped h)]
end DL
end
section
set_option maxRecDepth 100000
set_option maxHeartbeats 1000000
/-! more about the data layer's functions: what all laws want -/
namespace DL
open PySem PySem.Spec L2
def seq? : D → Option (List D)
  | .list l => some l
  | .tuple l => some l
  | _ => none
def itemsE (d : D) : List D := (seq? d).getD []
def ty0 (d : D) : Prop := ∃ T, tyName d = some T
def isI : D → Bool
  | .int _ => true
  | _ => false
theorem isT_int {d : D} {T : String} (h : tyName d = some T) : (isT T "int" && !isT T "bool") = isI d := by
  unfold tyName at h
  split at h <;> first | (cases h; decide) | (cases h; rfl) | cases h
theorem isT_seq {d : D} {T : String} (h : tyName d = some T) : (isT T "list" || isT T "tuple") = (seq? d).isSome := by
  unfold tyName at h
  split at h <;> first | (cases h; decide) | (cases h; rfl) | cases h
theorem seq_cases {d : D} {l : List D} (h : seq? d = some l) : d = .list l ∨ d = .tuple l := by
  unfold seq? at h
  split at h <;> cases h
  · exact .inl rfl
  · exact .inr rfl
theorem itemsE_seq {x : D} {l : List D} (h : seq? x = some l) : itemsE x = l := by unfold itemsE; rw [h]; rfl
theorem listD_seq {x : D} {l : List D} (h : seq? x = some l) : listD [x] = some (.ow (.list l)) := by rcases seq_cases h with rfl | rfl <;> rfl
theorem tupleD_seq {x : D} {l : List D} (h : seq? x = some l) : tupleD [x] = some (.fz (.tuple l)) := by rcases seq_cases h with rfl | rfl <;> rfl
theorem len_seq {d : D} {l : List D} (h : seq? d = some l) : lenD [d] = some (.fz (.int l.length)) := by rcases seq_cases h with rfl | rfl <;> rfl
theorem ix_last {d : D} {ys : List D} {y : D} (h : seq? d = some (ys ++ [y])) : ixD d (.int (-1)) = some (.fz y) := by
  rcases seq_cases h with rfl | rfl <;> (unfold ixD; simp only [atI_last1]; rfl)
theorem ix_nat {d : D} {l : List D} (h : seq? d = some l) {i : Nat} {y : D} (hy : l[i]? = some y) : ixD d (.int (i : Nat)) = some (.fz y) := by
  have := atI_natI l i (List.getElem?_eq_some_iff.mp hy).1
  rcases seq_cases h with rfl | rfl <;> (unfold ixD; simp only [this, hy]; rfl)
theorem items_seq {d : D} {l : List D} (h : seq? d = some l) : itemsOf (.fz d) = some l := by rcases seq_cases h with rfl | rfl <;> rfl
theorem boolsOf_isI (l : List D) : boolsOf (l.map fun x => .bool (isI x)) = some (l.map isI) := by
  have := boolsOf_map (l.map isI)
  rwa [List.map_map] at this
theorem intsOf_im (l : List Int) : intsOf (l.map .int) = some l := intsOf_map l
theorem szOkL {n : Nat} (h : n ≤ 16777216) : szOk n = true := decide_eq_true h
theorem szOk0 : szOk 0 = true := rfl
theorem szOk1 : szOk 1 = true := rfl
theorem szOk2 : szOk 2 = true := rfl
theorem mulOk_lt {i j : Int} (hi : i.natAbs < 2 ^ 200) (hj : j.natAbs < 2 ^ 200) : mulOk i j = true := by
  have key : ∀ n : Nat, n < 2 ^ 200 → n.log2 ≤ 200 := fun n h => by
    by_cases h0 : n = 0
    · subst h0; decide
    · have := (Nat.log2_lt h0).mpr h
      omega
  unfold mulOk
  have := key _ hi
  have := key _ hj
  exact decide_eq_true (by omega)
theorem mulD_lt {i j : Int} (hi : i.natAbs < 2 ^ 200) (hj : j.natAbs < 2 ^ 200) : mulD (.int i) (.int j) = some (.fz (.int (i * j))) := by
  show (if _ then _ else _) = _
  rw [if_pos (mulOk_lt hi hj)]
theorem modD_pos (i : Int) {j : Int} (h : 0 < j) : modD (.int i) (.int j) = some (.fz (.int (i % j))) := by
  unfold modD intB
  simp only [show decide (j ≠ 0) = true from decide_eq_true (by omega), if_true, Option.map_some, Int.fmod_eq_emod_of_nonneg _ (Int.le_of_lt h)]
theorem fdivD_lt {i j : Int} (h : j ≠ 0) (hj : j.natAbs < 2 ^ 200) : fdivD (.int i) (.int j) = some (.fz (.int (i.fdiv j))) := by
  have h1 : j.natAbs.log2 < 200 := (Nat.log2_lt (by omega)).mpr hj
  unfold fdivD intB
  simp only [show (decide (j ≠ 0) && decide (j.natAbs.log2 < 9000)) = true from by rw [decide_eq_true h, decide_eq_true (by omega)]; rfl, if_true, Option.map_some]
theorem ixL0 (a b : D) : ixD (.list [a, b]) (.int 0) = some (.fz a) := rfl
theorem ixL1 (a b : D) : ixD (.list [a, b]) (.int 1) = some (.fz b) := rfl
theorem ixN20 : ixN 2 0 = some 0 := rfl
theorem ixN21 : ixN 2 1 = some 1 := rfl
theorem powE : powD (.int 10) (.int 18) = some (.fz (.int 1000000000000000000)) := rfl
theorem rOk_small {j : Int} (h : 0 ≤ j ∧ j < 1000) : rOk j = true := by
  unfold rOk
  simp only [Bool.and_eq_true, decide_eq_true_eq]
  omega
def plainS (s : Sl) : Prop := s = .un ∨ ∃ x, s = .dat x
theorem forL_cnt {gt : Tg} {body : Ss} (N : Nat) (I : Nat → DS → Prop) : ∀ (ds : List D) (k : Nat) (δ : DS), (∀ k d δ, k < N → I k δ → ∃ δ1 δ2, gt (.fz d) δ = some δ1 ∧ body δ1 = some (.nx, δ2) ∧ I (k + 1) δ2) → k + ds.length ≤ N → I k δ → ∃ δ', forL gt body ds δ = some (.nx, δ') ∧ I (k + ds.length) δ'
  | [], k, δ, _, _, i => ⟨δ, rfl, i⟩
  | d :: r, k, δ, h, hn, i => by
    rw [List.length_cons] at hn
    obtain ⟨δ1, δ2, h1, h2, h3⟩ := h k d δ (by omega) i
    obtain ⟨δ', e1, e2⟩ := forL_cnt N I r (k + 1) δ2 h (by omega) h3
    refine ⟨δ', ?_, ?_⟩
    · simp only [forL, h1, Option.bind_some, h2, e1]
    · rw [List.length_cons, show k + (r.length + 1) = k + 1 + r.length by omega]
      exact e2
/-- a walk over the items l, told by how many are done -/
theorem forL_at {gt : Tg} {body : Ss} (l : List D) (I : Nat → DS → Prop) (h : ∀ k d δ, l[k]? = some d → I k δ → ∃ δ1 δ2, gt (.fz d) δ = some δ1 ∧ (body δ1 = some (.nx, δ2) ∨ body δ1 = some (.ct, δ2)) ∧ I (k + 1) δ2) :
    ∀ (n k : Nat) (δ : DS), n + k = l.length → I k δ → ∃ δ', forL gt body (l.drop k) δ = some (.nx, δ') ∧ I l.length δ'
  | 0, k, δ, e, i => by
    refine ⟨δ, ?_, ?_⟩
    · rw [List.drop_eq_nil_of_le (by omega)]; rfl
    · rw [show l.length = k by omega]; exact i
  | n + 1, k, δ, e, i => by
    have hk : k < l.length := by omega
    obtain ⟨δ1, δ2, h1, h2, h3⟩ := h k _ δ (List.getElem?_eq_getElem hk) i
    obtain ⟨δ', e1, e2⟩ := forL_at l I h n (k + 1) δ2 (by omega) h3
    refine ⟨δ', ?_, e2⟩
    rw [List.drop_eq_getElem_cons hk]
    rcases h2 with h2 | h2 <;> simp only [forL, h1, Option.bind_some, h2, e1]
theorem for_at {fi : Me (List D)} {gt : Tg} {body : Ss} {δ : DS} (l : List D) (I : Nat → DS → Prop) (hi : fi δ = some (l, δ)) (i : I 0 δ) (h : ∀ k d δ, l[k]? = some d → I k δ → ∃ δ1 δ2, gt (.fz d) δ = some δ1 ∧ (body δ1 = some (.nx, δ2) ∨ body δ1 = some (.ct, δ2)) ∧ I (k + 1) δ2) :
    ∃ δ', forS fi gt body δ = some (.nx, δ') ∧ I l.length δ' := by
  obtain ⟨δ', e1, e2⟩ := forL_at l I h l.length 0 δ (by omega) i
  refine ⟨δ', ?_, e2⟩
  unfold forS
  rw [hi]
  simpa using e1
theorem seq_ok {a b : Ss} {δ δ1 : DS} (h : a δ = some (.nx, δ1)) : seqS a b δ = b δ1 := by simp only [seqS, h]
theorem maxOf_some : ∀ {ns : List Int}, ns ≠ [] → ∃ m, maxOf ns = some m
  | [], h => absurd rfl h
  | n :: r, _ => by
    unfold maxOf
    cases maxOf r <;> exact ⟨_, rfl⟩
end DL
end
section
set_option maxRecDepth 100000
set_option maxHeartbeats 1000000
/-! loops and comprehensions told by functions of a state: shorter words -/
namespace DL
open PySem PySem.Spec L2
/-- a slot that may be unset -/
def rw' : Option D → Sl
  | none => .un
  | some d => .dat d
theorem fr_z_un (r : DS) : freeAt (.un :: r) 0 = true := rfl
theorem fr_z_dat (d : D) (r : DS) : freeAt (.dat d :: r) 0 = true := rfl
theorem fr_z_rw (o : Option D) (r : DS) : freeAt (rw' o :: r) 0 = true := by cases o <;> rfl
theorem fr_z_own (d : D) (r : DS) : freeAt (.own false d :: r) 0 = true := rfl
theorem fr_s (s : Sl) (r : DS) (i : Nat) : freeAt (s :: r) (i + 1) = freeAt r i := rfl
/-- one turn of a for -/
def turnF (gt : Tg) (body : Ss) (d : D) (δ : DS) : Option DS := match gt (.fz d) δ with
  | some δ1 => match body δ1 with
    | some (.nx, δ2) => some δ2
    | some (.ct, δ2) => some δ2
    | _ => none
  | none => none
theorem forL_turn {gt : Tg} {body : Ss} {d : D} {δ δ2 : DS} (h : turnF gt body d δ = some δ2) (r : List D) : forL gt body (d :: r) δ = forL gt body r δ2 := by
  unfold turnF at h
  split at h
  · rename_i δ1 e1
    split at h
    · rename_i q e2
      cases h
      simp only [forL, e1, Option.bind_some, e2]
    · rename_i q e2
      cases h
      simp only [forL, e1, Option.bind_some, e2]
    · cases h
  · cases h
/-- a for that folds a state -/
theorem forL_fold {α S ρ : Type} {gt : Tg} {body : Ss} (e : α → D) (fr : S → ρ → DS) (step : S → α → S) (P : Nat → S → Prop) (l : List α)
    (h : ∀ k a s r, l[k]? = some a → P k s → (∃ r', turnF gt body (e a) (fr s r) = some (fr (step s a) r')) ∧ P (k + 1) (step s a)) :
    ∀ (n k : Nat) (s : S) (r : ρ), n + k = l.length → P k s → ∃ r', forL gt body ((l.drop k).map e) (fr s r) = some (.nx, fr ((l.drop k).foldl step s) r') ∧ P l.length ((l.drop k).foldl step s)
  | 0, k, s, r, hn, p => by
    rw [List.drop_eq_nil_of_le (by omega)]
    refine ⟨r, rfl, ?_⟩
    rw [show l.length = k by omega]
    exact p
  | n + 1, k, s, r, hn, p => by
    have hk : k < l.length := by omega
    obtain ⟨⟨r1, h1⟩, h2⟩ := h k _ s r (List.getElem?_eq_getElem hk) p
    obtain ⟨r', e1, e2⟩ := forL_fold e fr step P l h n (k + 1) _ r1 (by omega) h2
    rw [List.drop_eq_getElem_cons hk]
    refine ⟨r', ?_, e2⟩
    rw [List.map_cons, forL_turn h1, e1]
    rfl
theorem for_fold {α S ρ : Type} {fi : Me (List D)} {gt : Tg} {body : Ss} (e : α → D) (fr : S → ρ → DS) (step : S → α → S) (P : Nat → S → Prop) (l : List α) {s0 : S} {r0 : ρ} {δ0 : DS} (h0 : δ0 = fr s0 r0) (hi : fi δ0 = some (l.map e, δ0)) (p0 : P 0 s0)
    (h : ∀ k a s r, l[k]? = some a → P k s → (∃ r', turnF gt body (e a) (fr s r) = some (fr (step s a) r')) ∧ P (k + 1) (step s a)) :
    ∃ r', forS fi gt body δ0 = some (.nx, fr (l.foldl step s0) r') ∧ P l.length (l.foldl step s0) := by
  obtain ⟨r', e1, e2⟩ := forL_fold e fr step P l h l.length 0 s0 r0 (by omega) p0
  refine ⟨r', ?_, e2⟩
  unfold forS
  rw [hi, h0]
  exact e1
/-- a for that looks: p tells whether it goes on; else it hands back v -/
theorem for_look {α ρ : Type} {fi : Me (List D)} {gt : Tg} {body : Ss} {v : Val} (e : α → D) (fr : ρ → DS) (p : α → Bool) (l : List α) {r0 : ρ} {δ0 : DS} (h0 : δ0 = fr r0) (hi : fi δ0 = some (l.map e, δ0))
    (h : ∀ a ∈ l, ∀ r, (p a = true → ∃ r', turnF gt body (e a) (fr r) = some (fr r')) ∧ (p a = false → ∃ δ1 δ2, gt (.fz (e a)) (fr r) = some δ1 ∧ body δ1 = some (.rt v, δ2))) :
    (l.all p = true → ∃ r', forS fi gt body δ0 = some (.nx, fr r')) ∧ (l.all p = false → ∃ δ', forS fi gt body δ0 = some (.rt v, δ')) := by
  have key : ∀ (m : List α), (∀ a ∈ m, a ∈ l) → ∀ r, (m.all p = true → ∃ r', forL gt body (m.map e) (fr r) = some (.nx, fr r')) ∧ (m.all p = false → ∃ δ', forL gt body (m.map e) (fr r) = some (.rt v, δ')) := by
    intro m
    induction m with
    | nil => exact fun _ r => ⟨fun _ => ⟨r, rfl⟩, fun h => by simp at h⟩
    | cons a m ih =>
      intro hm r
      obtain ⟨h1, h2⟩ := h a (hm a List.mem_cons_self) r
      have hm' := fun x hx => hm x (List.mem_cons_of_mem _ hx)
      cases q : p a with
      | true =>
        obtain ⟨r1, e1⟩ := h1 q
        rw [List.map_cons, forL_turn e1, List.all_cons, q, Bool.true_and]
        exact ih hm' r1
      | false =>
        obtain ⟨δ1, δ2, e1, e2⟩ := h2 q
        rw [List.all_cons, q, Bool.false_and]
        refine ⟨fun z => by simp at z, fun _ => ⟨δ2, ?_⟩⟩
        simp only [List.map_cons, forL, e1, Option.bind_some, e2]
  obtain ⟨a1, a2⟩ := key l (fun _ h => h) r0
  unfold forS
  rw [hi, h0]
  exact ⟨a1, a2⟩
/-- one turn of a while -/
theorem while_fold {S ρ : Type} {c : Me Bool} {body : Ss} (fr : S → ρ → DS) (P : S → Prop) (cond : S → Bool) (step : S → S) (μ : S → Nat)
    (hc : ∀ s r, P s → c (fr s r) = some (cond s, fr s r)) (hb : ∀ s r, P s → cond s = true → (∃ r', body (fr s r) = some (.nx, fr (step s) r')) ∧ P (step s) ∧ μ (step s) < μ s) :
    ∀ (n : Nat) (s : S) (r : ρ), P s → μ s < n → ∃ s' r', whileN c body n (fr s r) = some (.nx, fr s' r') ∧ P s' ∧ cond s' = false
  | 0, _, _, _, hn => absurd hn (Nat.not_lt_zero _)
  | n + 1, s, r, p, hn => by
    cases q : cond s with
    | false => exact ⟨s, r, by simp only [whileN, hc s r p, q], p, q⟩
    | true =>
      obtain ⟨⟨r', e⟩, p', hm⟩ := hb s r p q
      obtain ⟨s', r'', e1, e2, e3⟩ := while_fold fr P cond step μ hc hb n (step s) r' p' (by omega)
      exact ⟨s', r'', by simp only [whileN, hc s r p, q, e, e1], e2, e3⟩
/-- a comprehension over l: from an item's frame the element -/
theorem compL_map {α : Type} {gt : Tg} {fe : Me Val} {vs : List Nat} {δ0 : DS} (e F : α → D) (fr : α → DS) : ∀ {l : List α}, (∀ a ∈ l, gt (.fz (e a)) δ0 = some (fr a) ∧ (∃ v, fe (fr a) = some (v, fr a) ∧ treeV v = some (F a)) ∧ wipeD (fr a) vs = δ0) →
    compL gt (mr true) fe vs (l.map e) δ0 = some (l.map F, δ0)
  | [], _ => rfl
  | a :: r, h => by
    obtain ⟨h1, ⟨v, h2, h3⟩, h4⟩ := h a List.mem_cons_self
    have ih := compL_map e F fr (l := r) fun x hx => h x (List.mem_cons_of_mem _ hx)
    simp only [compL, List.map_cons, h1, Option.bind_some, mr, h2, h3, h4, ih]
theorem comp_map {α : Type} {fi : Me (List D)} {gt : Tg} {fe : Me Val} {vs : List Nat} {δ : DS} (l : List α) (e F : α → D) (fr : α → DS) (hi : fi δ = some (l.map e, δ)) (hp : vs.all (plainAt δ) = true) (hb : backD δ (wipeD δ vs) vs = δ) (hz : l.length ≤ 16777216)
    (h : ∀ a ∈ l, gt (.fz (e a)) (wipeD δ vs) = some (fr a) ∧ (∃ v, fe (fr a) = some (v, fr a) ∧ treeV v = some (F a)) ∧ wipeD (fr a) vs = wipeD δ vs) :
    compM fi gt (mr true) fe vs δ = some (.ow (.list (l.map F)), δ) := by
  unfold compM
  rw [hi]
  show (if _ then _ else _) = _
  rw [if_pos hp, compL_map e F fr h]
  show (if _ then _ else _) = _
  rw [if_pos (szOkL (by rw [List.length_map]; exact hz)), hb]
/-- with an if -/
theorem compL_filt {α : Type} {gt : Tg} {ft : Me Bool} {fe : Me Val} {vs : List Nat} {δ0 : DS} (e F : α → D) (p : α → Bool) (fr : α → DS) : ∀ {l : List α}, (∀ a ∈ l, gt (.fz (e a)) δ0 = some (fr a) ∧ ft (fr a) = some (p a, fr a) ∧ (p a = true → ∃ v, fe (fr a) = some (v, fr a) ∧ treeV v = some (F a)) ∧ wipeD (fr a) vs = δ0) →
    compL gt ft fe vs (l.map e) δ0 = some ((l.filter p).map F, δ0)
  | [], _ => rfl
  | a :: r, h => by
    obtain ⟨h1, h2, h3, h4⟩ := h a List.mem_cons_self
    have ih := compL_filt e F p fr (l := r) fun x hx => h x (List.mem_cons_of_mem _ hx)
    cases q : p a with
    | false => simp only [compL, List.map_cons, h1, Option.bind_some, h2, q, h4, ih, List.filter_cons, Bool.false_eq_true, if_false]
    | true =>
      obtain ⟨v, h5, h6⟩ := h3 q
      simp only [compL, List.map_cons, h1, Option.bind_some, h2, q, h5, h6, h4, ih, List.filter_cons, if_true]
theorem comp_filt {α : Type} {fi : Me (List D)} {gt : Tg} {ft : Me Bool} {fe : Me Val} {vs : List Nat} {δ : DS} (l : List α) (e F : α → D) (p : α → Bool) (fr : α → DS) (hi : fi δ = some (l.map e, δ)) (hp : vs.all (plainAt δ) = true) (hb : backD δ (wipeD δ vs) vs = δ) (hz : l.length ≤ 16777216)
    (h : ∀ a ∈ l, gt (.fz (e a)) (wipeD δ vs) = some (fr a) ∧ ft (fr a) = some (p a, fr a) ∧ (p a = true → ∃ v, fe (fr a) = some (v, fr a) ∧ treeV v = some (F a)) ∧ wipeD (fr a) vs = wipeD δ vs) :
    compM fi gt ft fe vs δ = some (.ow (.list ((l.filter p).map F)), δ) := by
  unfold compM
  rw [hi]
  show (if _ then _ else _) = _
  rw [if_pos hp, compL_filt e F p fr h]
  show (if _ then _ else _) = _
  rw [if_pos (szOkL (by rw [List.length_map]; exact Nat.le_trans (List.length_filter_le _ _) hz)), hb]
end DL
namespace DL
open PySem PySem.Spec L2
/-- a for whose turns are told by what holds between them -/
theorem forL_ex {α S ρ : Type} {gt : Tg} {body : Ss} (e : α → D) (fr : S → ρ → DS) (P : Nat → S → Prop) (l : List α)
    (h : ∀ k a s r, l[k]? = some a → P k s → ∃ s' r', turnF gt body (e a) (fr s r) = some (fr s' r') ∧ P (k + 1) s') :
    ∀ (n k : Nat) (s : S) (r : ρ), n + k = l.length → P k s → ∃ s' r', forL gt body ((l.drop k).map e) (fr s r) = some (.nx, fr s' r') ∧ P l.length s'
  | 0, k, s, r, hn, p => by
    rw [List.drop_eq_nil_of_le (by omega)]
    refine ⟨s, r, rfl, ?_⟩
    rw [show l.length = k by omega]
    exact p
  | n + 1, k, s, r, hn, p => by
    have hk : k < l.length := by omega
    obtain ⟨s1, r1, h1, h2⟩ := h k _ s r (List.getElem?_eq_getElem hk) p
    obtain ⟨s', r', e1, e2⟩ := forL_ex e fr P l h n (k + 1) s1 r1 (by omega) h2
    rw [List.drop_eq_getElem_cons hk]
    refine ⟨s', r', ?_, e2⟩
    rw [List.map_cons, forL_turn h1, e1]
theorem for_ex {α S ρ : Type} {fi : Me (List D)} {gt : Tg} {body : Ss} (e : α → D) (fr : S → ρ → DS) (P : Nat → S → Prop) (l : List α) {s0 : S} {r0 : ρ} {δ0 : DS} (h0 : δ0 = fr s0 r0) (hi : fi δ0 = some (l.map e, δ0)) (p0 : P 0 s0)
    (h : ∀ k a s r, l[k]? = some a → P k s → ∃ s' r', turnF gt body (e a) (fr s r) = some (fr s' r') ∧ P (k + 1) s') :
    ∃ s' r', forS fi gt body δ0 = some (.nx, fr s' r') ∧ P l.length s' := by
  obtain ⟨s', r', e1, e2⟩ := forL_ex e fr P l h l.length 0 s0 r0 (by omega) p0
  refine ⟨s', r', ?_, e2⟩
  unfold forS
  rw [hi, h0]
  exact e1
theorem rng_1 {fa : Me (List Val)} {δ δ' : DS} {j : Int} (h : fa δ = some ([.fz (.int j)], δ')) (hr : 0 ≤ j ∧ j < 1000) : rngM1 fa δ = some ((List.range j.toNat).map fun i => .int ((0 : Int) + (i : Nat)), δ') := by
  unfold rngM1 mb mo
  rw [h]
  simp only [rOk_small hr, if_true]
  rfl
theorem rng_2 {fa : Me (List Val)} {δ δ' : DS} {i j : Int} (h : fa δ = some ([.fz (.int i), .fz (.int j)], δ')) (hi : 0 ≤ i ∧ i < 1000) (hr : 0 ≤ j ∧ j < 1000) : rngM2 fa δ = some ((List.range (j - i).toNat).map fun k => .int (i + (k : Nat)), δ') := by
  unfold rngM2 mb mo
  rw [h]
  simp only [rOk_small hi, rOk_small hr, Bool.and_self, if_true]
  rfl
end DL
end
section
set_option autoImplicit false
/-! lines as lists of whole numbers, told by their numbers -/
namespace PL
def cf : List Int → Nat → Int
  | [], _ => 0
  | x :: _, 0 => x
  | _ :: a, n + 1 => cf a n
def Nz (a : List Int) : Prop := ∀ b x, a = b ++ [x] → x ≠ 0
theorem cf_nil (n : Nat) : cf [] n = 0 := by cases n <;> rfl
theorem cf_get : ∀ (a : List Int) (n : Nat), cf a n = a.getD n 0
  | [], n => by rw [cf_nil]; simp
  | x :: a, 0 => by simp [cf]
  | x :: a, n + 1 => by simp [cf, cf_get a n]
theorem cf_beyond : ∀ {a : List Int} {n : Nat}, a.length ≤ n → cf a n = 0
  | [], n, _ => cf_nil n
  | _ :: a, 0, h => by simp at h
  | _ :: a, n + 1, h => cf_beyond (a := a) (by simpa using h)
theorem cf_append_left {a b : List Int} {n : Nat} (h : n < a.length) : cf (a ++ b) n = cf a n := by
  rw [cf_get, cf_get, List.getD_eq_getElem?_getD, List.getD_eq_getElem?_getD, List.getElem?_append_left h]
theorem cf_append_right {a b : List Int} {n : Nat} (h : a.length ≤ n) : cf (a ++ b) n = cf b (n - a.length) := by
  rw [cf_get, cf_get, List.getD_eq_getElem?_getD, List.getD_eq_getElem?_getD, List.getElem?_append_right h]
theorem cf_map {f : Int → Int} (h0 : f 0 = 0) : ∀ (a : List Int) (n : Nat), cf (a.map f) n = f (cf a n)
  | [], n => by rw [List.map_nil, cf_nil, h0]
  | _ :: _, 0 => rfl
  | _ :: a, n + 1 => cf_map h0 a n
theorem nz_nil : Nz [] := fun b x h => by simp at h
theorem nz_last {a : List Int} {x : Int} (h : x ≠ 0) : Nz (a ++ [x]) := fun b y e => by
  have := List.append_inj_right' e rfl
  cases this
  exact h
theorem nz_len {a b : List Int} (hb : Nz b) (h : ∀ n, cf a n = cf b n) : b.length ≤ a.length := by
  rcases List.eq_nil_or_concat b with rfl | ⟨c, x, rfl⟩
  · simp
  · rw [List.concat_eq_append] at *
    have hx := hb c x rfl
    refine Nat.le_of_not_lt fun hl => hx ?_
    have h1 := h c.length
    rw [cf_append_right (Nat.le_refl _), Nat.sub_self] at h1
    rw [cf_beyond (by simp at hl; omega)] at h1
    exact h1.symm
theorem ext_cf : ∀ {a b : List Int}, a.length = b.length → (∀ n, cf a n = cf b n) → a = b
  | [], [], _, _ => rfl
  | [], _ :: _, h, _ => by simp at h
  | _ :: _, [], h, _ => by simp at h
  | x :: a, y :: b, h, k => by
    have h0 : x = y := k 0
    rw [h0, ext_cf (by simpa using h) fun n => k (n + 1)]
theorem nz_ext {a b : List Int} (ha : Nz a) (hb : Nz b) (h : ∀ n, cf a n = cf b n) : a = b :=
  ext_cf (Nat.le_antisymm (nz_len ha fun n => (h n).symm) (nz_len hb h)) h
/-! ### sums -/
def sm (f : Nat → Int) : Nat → Int
  | 0 => 0
  | n + 1 => sm f n + f n
theorem sm_congr {f g : Nat → Int} : ∀ {n : Nat}, (∀ i, i < n → f i = g i) → sm f n = sm g n
  | 0, _ => rfl
  | n + 1, h => by rw [sm, sm, sm_congr fun i hi => h i (by omega), h n (by omega)]
theorem sm_add (f g : Nat → Int) : ∀ n, sm (fun i => f i + g i) n = sm f n + sm g n
  | 0 => rfl
  | n + 1 => by rw [sm, sm, sm, sm_add f g n]; omega
theorem sm_mul (x : Int) (f : Nat → Int) : ∀ n, sm (fun i => x * f i) n = x * sm f n
  | 0 => by simp [sm]
  | n + 1 => by rw [sm, sm, sm_mul x f n, Int.mul_add]
theorem sm_first (f : Nat → Int) : ∀ n, sm f (n + 1) = f 0 + sm (fun i => f (i + 1)) n
  | 0 => by simp [sm]
  | n + 1 => by rw [sm, sm_first f n, sm]; omega
theorem sm_rev (f : Nat → Int) : ∀ n, sm f n = sm (fun i => f (n - 1 - i)) n
  | 0 => rfl
  | n + 1 => by
    rw [sm_first (fun i => f (n + 1 - 1 - i)) n, sm, sm_rev f n]
    have : sm (fun i => f (n + 1 - 1 - (i + 1))) n = sm (fun i => f (n - 1 - i)) n := sm_congr fun i hi => by
      congr 1
      omega
    rw [this]
    simp
    omega
theorem sm_zero {f : Nat → Int} {n : Nat} (h : ∀ i, i < n → f i = 0) : sm f n = 0 := by
  rw [sm_congr (g := fun _ => 0) h]
  induction n with
  | zero => rfl
  | succ n ih => rw [sm, ih fun i hi => h i (by omega)]; rfl
/-- the number of x^n in a product -/
def cv (f g : Nat → Int) (n : Nat) : Int := sm (fun i => f i * g (n - i)) (n + 1)
theorem cv_comm (f g : Nat → Int) (n : Nat) : cv f g n = cv g f n := by
  unfold cv
  rw [sm_rev]
  refine sm_congr fun i hi => ?_
  rw [Int.mul_comm]
  congr 2
  omega
theorem cv_add_right (f g h : Nat → Int) (n : Nat) : cv f (fun i => g i + h i) n = cv f g n + cv f h n := by
  unfold cv
  rw [← sm_add]
  exact sm_congr fun i _ => Int.mul_add _ _ _
theorem cv_add_left (f g h : Nat → Int) (n : Nat) : cv (fun i => f i + g i) h n = cv f h n + cv g h n := by
  unfold cv
  rw [← sm_add]
  exact sm_congr fun i _ => Int.add_mul _ _ _
theorem cv_mul_left (x : Int) (f g : Nat → Int) (n : Nat) : cv (fun i => x * f i) g n = x * cv f g n := by
  unfold cv
  rw [← sm_mul]
  exact sm_congr fun i _ => Int.mul_assoc _ _ _
theorem cv_congr {f f' g g' : Nat → Int} (hf : ∀ i, f i = f' i) (hg : ∀ i, g i = g' i) (n : Nat) : cv f g n = cv f' g' n := by
  rw [show f = f' from funext hf, show g = g' from funext hg]
def sh (f : Nat → Int) : Nat → Int
  | 0 => 0
  | n + 1 => f n
theorem cv_sh_left (f g : Nat → Int) : ∀ n, cv (sh f) g n = sh (cv f g) n
  | 0 => by simp [cv, sm, sh]
  | n + 1 => by
    unfold cv
    rw [sm_first]
    show 0 * _ + _ = sm (fun i => f i * g (n - i)) (n + 1)
    rw [Int.zero_mul, Int.zero_add]
    exact sm_congr fun i _ => by
      show f i * _ = _
      congr 2
      omega
/-- one number alone times a line -/
theorem cv_one (x : Int) (g : Nat → Int) (n : Nat) : cv (cf [x]) g n = x * g n := by
  unfold cv
  rw [sm_first]
  show x * g (n - 0) + _ = _
  rw [sm_zero fun i _ => by rw [show cf [x] (i + 1) = 0 from cf_nil i, Int.zero_mul]]
  simp
theorem cf_cons (x : Int) (a : List Int) (n : Nat) : cf (x :: a) n = cf [x] n + sh (cf a) n := by
  cases n with
  | zero => simp [cf, sh]
  | succ n => simp [cf, sh]
theorem cv_cons (x : Int) (a : List Int) (g : Nat → Int) (n : Nat) : cv (cf (x :: a)) g n = x * g n + sh (cv (cf a) g) n := by
  rw [cv_congr (cf_cons x a) (fun _ => rfl), cv_add_left, cv_one, cv_sh_left]
theorem cv_nil (g : Nat → Int) (n : Nat) : cv (cf []) g n = 0 := sm_zero fun i _ => by rw [cf_nil, Int.zero_mul]
theorem sh_congr {f g : Nat → Int} (h : ∀ i, f i = g i) (n : Nat) : sh f n = sh g n := by rw [show f = g from funext h]
theorem sh_add (f g : Nat → Int) (n : Nat) : sh (fun i => f i + g i) n = sh f n + sh g n := by cases n <;> rfl
theorem cv_assoc : ∀ (a : List Int) (g h : Nat → Int) (n : Nat), cv (cv (cf a) g) h n = cv (cf a) (cv g h) n
  | [], g, h, n => by rw [cv_nil, cv_congr (cv_nil g) (fun _ => rfl)]; exact cv_nil h n ▸ (cv_congr (fun i => (cf_nil i).symm) (fun _ => rfl) n)
  | x :: a, g, h, n => by
    rw [cv_cons, cv_congr (cv_cons x a g) (fun _ => rfl), cv_add_left, cv_mul_left, cv_sh_left, sh_congr (cv_assoc a g h)]
/-! ### slopes -/
def dv (f : Nat → Int) (n : Nat) : Int := (n + 1 : Int) * f (n + 1)
theorem dv_add (f g : Nat → Int) (n : Nat) : dv (fun i => f i + g i) n = dv f n + dv g n := Int.mul_add _ _ _
theorem dv_mul (x : Int) (f : Nat → Int) (n : Nat) : dv (fun i => x * f i) n = x * dv f n := by unfold dv; rw [← Int.mul_assoc, ← Int.mul_assoc, Int.mul_comm x]
theorem dv_sh (f : Nat → Int) : ∀ n, dv (sh f) n = f n + sh (dv f) n
  | 0 => by simp [dv, sh]
  | n + 1 => by
    show ((n + 1 : Nat) + 1 : Int) * f (n + 1) = f (n + 1) + (n + 1 : Int) * f (n + 1)
    rw [Int.add_mul]
    push_cast
    omega
theorem dv_congr {f g : Nat → Int} (h : ∀ i, f i = g i) (n : Nat) : dv f n = dv g n := by rw [show f = g from funext h]
theorem dv_cv : ∀ (a : List Int) (g : Nat → Int) (n : Nat), dv (cv (cf a) g) n = cv (dv (cf a)) g n + cv (cf a) (dv g) n
  | [], g, n => by
    rw [dv_congr (cv_nil g), cv_nil, cv_congr (f' := cf []) (g' := g) (fun i => by rw [cf_nil, dv, cf_nil, Int.mul_zero]) (fun _ => rfl), cv_nil]
    simp [dv]
  | x :: a, g, n => by
    have hd : ∀ i, dv (cf (x :: a)) i = cf a i + sh (dv (cf a)) i := fun i => by
      rw [dv_congr (cf_cons x a), dv_add, dv_sh]
      have : dv (cf [x]) i = 0 := by unfold dv; rw [show cf [x] (i + 1) = 0 from cf_nil i, Int.mul_zero]
      rw [this, Int.zero_add]
    rw [dv_congr (cv_cons x a g), dv_add, dv_mul, dv_sh, sh_congr (dv_cv a g), sh_add, cv_congr hd (fun _ => rfl), cv_add_left, cv_sh_left, cv_cons]
    omega
/-! ### values -/
def vl (a : List Int) (x : Int) : Int := a.foldr (fun c r => r * x + c) 0
theorem vl_zero : ∀ {a : List Int} (x : Int), (∀ n, cf a n = 0) → vl a x = 0
  | [], _, _ => rfl
  | c :: a, x, h => by
    show vl a x * x + c = 0
    rw [vl_zero x fun n => h (n + 1), show c = 0 from h 0]
    simp
theorem vl_ext : ∀ {a b : List Int} (x : Int), (∀ n, cf a n = cf b n) → vl a x = vl b x
  | [], b, x, h => (vl_zero x fun n => by rw [← h n, cf_nil]).symm
  | c :: a, [], x, h => vl_zero x fun n => by rw [h n, cf_nil]
  | c :: a, d :: b, x, h => by
    show vl a x * x + c = vl b x * x + d
    rw [vl_ext x fun n => h (n + 1), show c = d from h 0]
def adS : List Int → List Int → List Int
  | [], b => b
  | a, [] => a
  | x :: a, y :: b => (x + y) :: adS a b
theorem cf_adS : ∀ (a b : List Int) (n : Nat), cf (adS a b) n = cf a n + cf b n
  | [], b, n => by cases b <;> simp [adS, cf_nil]
  | x :: a, [], n => by simp [adS, cf_nil]
  | x :: a, y :: b, 0 => rfl
  | x :: a, y :: b, n + 1 => cf_adS a b n
theorem vl_adS : ∀ (a b : List Int) (x : Int), vl (adS a b) x = vl a x + vl b x
  | [], b, x => by cases b <;> simp [adS, vl]
  | c :: a, [], x => by simp [adS, vl]
  | c :: a, d :: b, x => by
    show vl (adS a b) x * x + (c + d) = (vl a x * x + c) + (vl b x * x + d)
    rw [vl_adS a b x, Int.add_mul]
    omega
theorem vl_map (y : Int) : ∀ (a : List Int) (x : Int), vl (a.map (y * ·)) x = y * vl a x
  | [], x => by simp [vl]
  | c :: a, x => by
    show vl (a.map (y * ·)) x * x + y * c = y * (vl a x * x + c)
    rw [vl_map y a x, Int.mul_add, Int.mul_assoc]
def mlS : List Int → List Int → List Int
  | [], _ => []
  | x :: a, b => adS (b.map (x * ·)) (0 :: mlS a b)
theorem cf_mlS : ∀ (a b : List Int) (n : Nat), cf (mlS a b) n = cv (cf a) (cf b) n
  | [], b, n => by rw [cv_nil]; exact cf_nil n
  | x :: a, b, n => by
    show cf (adS _ _) n = _
    rw [cf_adS, cv_cons, cf_map (Int.mul_zero x)]
    congr 1
    cases n with
    | zero => rfl
    | succ n => exact cf_mlS a b n
theorem vl_mlS : ∀ (a b : List Int) (x : Int), vl (mlS a b) x = vl a x * vl b x
  | [], b, x => by simp [mlS, vl]
  | c :: a, b, x => by
    show vl (adS _ _) x = (vl a x * x + c) * vl b x
    rw [vl_adS, vl_map]
    show _ + (vl (mlS a b) x * x + 0) = _
    rw [vl_mlS a b x, Int.add_mul, Int.add_zero, Int.mul_right_comm]
    omega
end PL
end
section
set_option autoImplicit false
/-! products of lines by two walks; bounds of sums -/
namespace PL
def bump (F : List Int) (n : Nat) (v : Int) : List Int := F.set n (cf F n + v)
theorem bump_len (F : List Int) (n : Nat) (v : Int) : (bump F n v).length = F.length := List.length_set
theorem cf_bump {F : List Int} {n : Nat} (h : n < F.length) (v : Int) (m : Nat) : cf (bump F n v) m = cf F m + if m = n then v else 0 := by
  unfold bump
  rw [cf_get (F.set n _) m, List.getD_eq_getElem?_getD, List.getElem?_set]
  by_cases e : n = m
  · subst e
    rw [if_pos rfl, if_pos h, if_pos rfl]
    rfl
  · rw [if_neg e, if_neg (fun z => e z.symm), Int.add_zero, cf_get, List.getD_eq_getElem?_getD]
theorem bump_zero (F : List Int) (n : Nat) : bump F n 0 = F := by
  unfold bump
  rw [Int.add_zero]
  by_cases h : n < F.length
  · refine List.ext_getElem? fun i => ?_
    rw [List.getElem?_set]
    split
    · rename_i e
      subst e
      rw [cf_get, List.getD_eq_getElem?_getD, List.getElem?_eq_getElem h]
      simp [h]
    · rfl
  · exact List.set_eq_of_length_le (by omega)
/-- x times a line, added from place i on -/
def inL (i : Nat) (x : Int) (F : List Int) (q : Int × Nat) : List Int := bump F (i + q.2) (x * q.1)
theorem inL_len (i : Nat) (x : Int) : ∀ (l : List (Int × Nat)) (F : List Int), (l.foldl (inL i x) F).length = F.length
  | [], F => rfl
  | q :: l, F => by rw [List.foldl_cons, inL_len i x l, inL, bump_len]
theorem cf_inL (i : Nat) (x : Int) : ∀ (b : List Int) (j : Nat) (F : List Int), i + j + b.length ≤ F.length → ∀ n, cf ((b.zipIdx j).foldl (inL i x) F) n = cf F n + if i + j ≤ n then x * cf b (n - (i + j)) else 0
  | [], j, F, _, n => by
    rw [cf_nil, Int.mul_zero]
    simp
  | y :: b, j, F, h, n => by
    rw [List.length_cons] at h
    rw [List.zipIdx_cons, List.foldl_cons, cf_inL i x b (j + 1) _ (by rw [inL, bump_len]; omega), inL, cf_bump (by simp; omega)]
    by_cases h1 : n = i + j
    · subst h1
      rw [if_pos rfl, if_neg (by omega), if_pos (Nat.le_refl _), Nat.sub_self]
      simp [cf]
    · rw [if_neg h1]
      by_cases h2 : i + j ≤ n
      · rw [if_pos (by omega), if_pos h2, show n - (i + j) = n - (i + (j + 1)) + 1 by omega]
        simp [cf]
      · rw [if_neg (by omega), if_neg h2]
        simp
/-- the product of two lines, added up from place j on -/
def outL (b : List Int) (F : List Int) (p : Int × Nat) : List Int := b.zipIdx.foldl (inL p.2 p.1) F
theorem outL_len (b : List Int) : ∀ (l : List (Int × Nat)) (F : List Int), (l.foldl (outL b) F).length = F.length
  | [], F => rfl
  | q :: l, F => by rw [List.foldl_cons, outL_len b l, outL, inL_len]
theorem cf_outL (b : List Int) : ∀ (a : List Int) (j : Nat) (F : List Int), (a ≠ [] → j + a.length + b.length ≤ F.length + 1) → ∀ n, cf ((a.zipIdx j).foldl (outL b) F) n = cf F n + if j ≤ n then cv (cf a) (cf b) (n - j) else 0
  | [], j, F, _, n => by
    rw [cv_nil]
    simp
  | x :: a, j, F, h, n => by
    have h := h (by simp)
    rw [List.length_cons] at h
    rw [List.zipIdx_cons, List.foldl_cons, cf_outL b a (j + 1) _ (fun _ => by rw [outL, inL_len]; omega), outL]
    show cf (b.zipIdx.foldl (inL j x) F) n + _ = _
    rw [cf_inL j x b 0 F (by omega), cv_cons, Nat.add_zero, Int.add_assoc]
    congr 1
    by_cases h1 : j ≤ n
    · rw [if_pos h1, if_pos h1]
      congr 1
      by_cases h2 : n = j
      · subst h2
        rw [if_neg (by omega), Nat.sub_self]
        rfl
      · rw [if_pos (by omega), show n - j = n - (j + 1) + 1 by omega]
        rfl
    · rw [if_neg h1, if_neg h1, if_neg (by omega)]
      simp
def outL' (b : List Int) (F : List Int) (p : Int × Nat) : List Int := if p.1 ≠ 0 then outL b F p else F
theorem inL_zero (i : Nat) : ∀ (l : List (Int × Nat)) (F : List Int), l.foldl (inL i 0) F = F
  | [], F => rfl
  | q :: l, F => by rw [List.foldl_cons, inL, Int.zero_mul, bump_zero, inL_zero i l]
theorem outL'_eq (b F : List Int) (p : Int × Nat) : outL' b F p = outL b F p := by
  unfold outL'
  split
  · rfl
  · rename_i h
    have h : p.1 = 0 := Decidable.not_not.mp h
    rw [outL, h, inL_zero]
theorem cf_zeros (k n : Nat) : cf (List.replicate k 0) n = 0 := by
  rw [cf_get, List.getD_eq_getElem?_getD, List.getElem?_replicate]
  split <;> rfl
/-- the product -/
def tms (a b : List Int) : List Int := a.zipIdx.foldl (outL b) (List.replicate (a.length + b.length - 1) 0)
theorem cf_tms (a b : List Int) (n : Nat) : cf (tms a b) n = cv (cf a) (cf b) n := by
  unfold tms
  rw [cf_outL b a 0 _ (fun _ => by rw [List.length_replicate]; omega), cf_zeros]
  simp
theorem tms_len (a b : List Int) : (tms a b).length = a.length + b.length - 1 := by
  unfold tms
  rw [outL_len, List.length_replicate]
theorem nz_iff {a : List Int} : Nz a ↔ a = [] ∨ cf a (a.length - 1) ≠ 0 := by
  rcases List.eq_nil_or_concat a with rfl | ⟨c, x, rfl⟩
  · exact ⟨fun _ => .inl rfl, fun _ => nz_nil⟩
  · rw [List.concat_eq_append]
    have : cf (c ++ [x]) ((c ++ [x]).length - 1) = x := by
      rw [List.length_append, List.length_singleton, Nat.add_sub_cancel, cf_append_right (Nat.le_refl _), Nat.sub_self]
      rfl
    rw [this]
    exact ⟨fun h => .inr (h c x rfl), fun h => h.elim (fun z => by simp at z) nz_last⟩
theorem cv_top {f g : Nat → Int} {m n : Nat} (hf : ∀ i, m < i → f i = 0) (hg : ∀ i, n < i → g i = 0) : cv f g (m + n) = f m * g n := by
  unfold cv
  have key : ∀ k, k ≤ m + n + 1 → sm (fun i => f i * g (m + n - i)) k = if m < k then f m * g n else 0 := by
    intro k
    induction k with
    | zero => intro _; rfl
    | succ k ih =>
      intro hk
      rw [sm, ih (by omega)]
      by_cases h1 : m < k
      · rw [if_pos h1, if_pos (by omega), hf k h1, Int.zero_mul, Int.add_zero]
      · rw [if_neg h1, Int.zero_add]
        by_cases h2 : m = k
        · subst h2
          rw [if_pos (by omega), show m + n - m = n by omega]
        · rw [if_neg (by omega), hg _ (by omega), Int.mul_zero]
  rw [key _ (Nat.le_refl _), if_pos (by omega)]
theorem nz_tms {a b : List Int} (ha : Nz a) (hb : Nz b) (ha0 : a ≠ []) (hb0 : b ≠ []) : Nz (tms a b) := by
  have h1 := List.length_pos_iff.mpr ha0
  have h2 := List.length_pos_iff.mpr hb0
  refine nz_iff.mpr (.inr ?_)
  rw [tms_len, cf_tms, show a.length + b.length - 1 - 1 = (a.length - 1) + (b.length - 1) by omega, cv_top (fun i hi => cf_beyond (by omega)) (fun i hi => cf_beyond (by omega))]
  exact Int.mul_ne_zero ((nz_iff.mp ha).resolve_left ha0) ((nz_iff.mp hb).resolve_left hb0)
/-! ### bounds -/
def Bd (A : Nat) (a : List Int) : Prop := ∀ n, (cf a n).natAbs ≤ A
theorem bd_mem {A : Nat} {a : List Int} (h : ∀ x ∈ a, x.natAbs ≤ A) : Bd A a := fun n => by
  rw [cf_get, List.getD_eq_getElem?_getD]
  by_cases hn : n < a.length
  · rw [List.getElem?_eq_getElem hn]
    exact h _ (List.getElem_mem hn)
  · rw [List.getElem?_eq_none (by omega)]
    exact Nat.zero_le _
theorem mem_bd {A : Nat} {a : List Int} (h : Bd A a) : ∀ x ∈ a, x.natAbs ≤ A := fun x hx => by
  obtain ⟨i, hi, rfl⟩ := List.getElem_of_mem hx
  have := h i
  rw [cf_get, List.getD_eq_getElem?_getD, List.getElem?_eq_getElem hi] at this
  exact this
theorem sm_bd {f : Nat → Int} {A : Nat} (h : ∀ i, (f i).natAbs ≤ A) : ∀ n, (sm f n).natAbs ≤ n * A
  | 0 => by simp [sm]
  | n + 1 => by
    have h1 := sm_bd h n
    have h2 := h n
    have h3 := Int.natAbs_add_le (sm f n) (f n)
    rw [sm, Nat.succ_mul]
    omega
theorem cv_bd {f g : Nat → Int} {A B : Nat} (hf : ∀ i, (f i).natAbs ≤ A) (hg : ∀ i, (g i).natAbs ≤ B) (n : Nat) : (cv f g n).natAbs ≤ (n + 1) * (A * B) := sm_bd (fun i => by
  rw [Int.natAbs_mul]
  exact Nat.mul_le_mul (hf i) (hg _)) _
theorem bd_cv {a b c : List Int} {A B N : Nat} (ha : Bd A a) (hb : Bd B b) (h : ∀ n, cf c n = cv (cf a) (cf b) n) (hN : a.length + b.length ≤ N) : Bd (N * (A * B)) c := fun n => by
  rw [h]
  by_cases hn : n + 1 ≤ N
  · exact Nat.le_trans (cv_bd ha hb n) (Nat.mul_le_mul_right _ hn)
  · have : cv (cf a) (cf b) n = 0 := sm_zero fun i hi => by
      by_cases h1 : i < a.length
      · rw [cf_beyond (a := b) (by omega), Int.mul_zero]
      · rw [cf_beyond (a := a) (by omega), Int.zero_mul]
    rw [this]
    exact Nat.zero_le _
end PL
namespace PL
/-! ### how long Euclid's rests go on -/
def lg (n : Nat) : Nat := if n = 0 then 0 else n.log2 + 1
theorem lg_le {n k : Nat} : lg n ≤ k ↔ n < 2 ^ k := by
  unfold lg
  split
  · rename_i h
    subst h
    exact ⟨fun _ => Nat.pow_pos (by decide), fun _ => Nat.zero_le _⟩
  · rename_i h
    rw [Nat.succ_le_iff]
    exact Nat.log2_lt h
theorem lg_mono {m n : Nat} (h : m ≤ n) : lg m ≤ lg n := lg_le.mpr (Nat.lt_of_le_of_lt h (lg_le.mp (Nat.le_refl _)))
def mu (x y : Nat) : Nat := 2 * lg y + if lg (x % y) = lg y then 1 else 0
theorem mu_lt {x y : Nat} (h : y ≠ 0) : mu y (x % y) < mu x y := by
  unfold mu
  have hlt := Nat.mod_lt x (Nat.pos_of_ne_zero h)
  by_cases e : lg (x % y) = lg y
  · rw [if_pos e, e]
    have e2 : ¬ lg (y % (x % y)) = lg y := fun z => by
      have h1 : x % y ≠ 0 := fun q => by
        rw [q] at e
        unfold lg at e
        rw [if_neg h] at e
        simp at e
      -- y and x % y have the same length k + 1
      obtain ⟨k, hk⟩ : ∃ k, lg y = k + 1 := ⟨y.log2, by unfold lg; rw [if_neg h]⟩
      have a1 : y < 2 ^ (k + 1) := lg_le.mp (by omega)
      have a2 : ¬ x % y < 2 ^ k := fun q => by
        have := lg_le.mpr q
        omega
      have a3 : ¬ y % (x % y) < 2 ^ k := fun q => by
        have := lg_le.mpr q
        omega
      rw [Nat.pow_succ] at a1
      have a4 : y % (x % y) = (y - x % y) % (x % y) := Nat.mod_eq_sub_mod (by omega)
      have a5 := Nat.mod_le (y - x % y) (x % y)
      omega
    rw [if_neg e2]
    omega
  · rw [if_neg e]
    have : lg (x % y) ≤ lg y := lg_mono (by omega)
    split <;> omega
theorem mu_le {x y k : Nat} (h : y < 2 ^ k) : mu x y ≤ 2 * k + 1 := by
  have := lg_le.mpr h
  unfold mu
  split <;> omega
end PL
namespace PL
/-! ### without noughts at the end -/
def nrm : List Int → List Int
  | [] => []
  | x :: a => match nrm a with
    | [] => if x = 0 then [] else [x]
    | y :: r => x :: y :: r
theorem cf_nrm : ∀ (a : List Int) (n : Nat), cf (nrm a) n = cf a n
  | [], n => rfl
  | x :: a, n => by
    have ih := cf_nrm a
    unfold nrm
    split
    · rename_i h
      rw [h] at ih
      split
      · rename_i h0
        cases n with
        | zero => exact h0.symm
        | succ n => rw [cf_nil]; exact (cf_nil n).symm.trans (ih n)
      · cases n with
        | zero => rfl
        | succ n => exact ih n
    · rename_i y r h
      cases n with
      | zero => rfl
      | succ n =>
        rw [← h]
        exact ih n
theorem nz_cons {x : Int} {a : List Int} (h : Nz a) (h2 : a = [] → x ≠ 0) : Nz (x :: a) := fun b y e => by
  cases b with
  | nil =>
    rw [List.nil_append] at e
    injection e with e1 e2
    rw [← e1]
    exact h2 e2
  | cons z b =>
    rw [List.cons_append] at e
    injection e with e1 e2
    exact h b y e2
theorem nz_nrm : ∀ a : List Int, Nz (nrm a)
  | [] => nz_nil
  | x :: a => by
    have ih := nz_nrm a
    unfold nrm
    split
    · split
      · exact nz_nil
      · rename_i h
        exact nz_cons nz_nil fun _ => h
    · rename_i y r h
      rw [h] at ih
      exact nz_cons ih fun z => by cases z
theorem nrm_len (a : List Int) : (nrm a).length ≤ a.length := nz_len (nz_nrm a) fun n => (cf_nrm a n).symm
theorem adS_len : ∀ a b : List Int, (adS a b).length = max a.length b.length
  | [], b => by cases b <;> simp [adS]
  | x :: a, [] => by simp [adS]
  | x :: a, y :: b => by
    simp only [adS, List.length_cons, adS_len a b]
    omega
def ad (a b : List Int) : List Int := nrm (adS a b)
def su (a b : List Int) : List Int := nrm (adS a (b.map (-1 * ·)))
theorem cf_ad (a b : List Int) (n : Nat) : cf (ad a b) n = cf a n + cf b n := by rw [ad, cf_nrm, cf_adS]
theorem cf_su (a b : List Int) (n : Nat) : cf (su a b) n = cf a n - cf b n := by
  rw [su, cf_nrm, cf_adS, cf_map (by decide)]
  omega
theorem nz_ad (a b : List Int) : Nz (ad a b) := nz_nrm _
theorem nz_su (a b : List Int) : Nz (su a b) := nz_nrm _
theorem ad_len (a b : List Int) : (ad a b).length ≤ max a.length b.length := by rw [← adS_len]; exact nrm_len _
theorem su_len (a b : List Int) : (su a b).length ≤ max a.length b.length := by
  have := nrm_len (adS a (b.map (-1 * ·)))
  rw [adS_len, List.length_map] at this
  exact this
theorem bd_ad {A B : Nat} {a b : List Int} (ha : Bd A a) (hb : Bd B b) : Bd (A + B) (ad a b) := fun n => by
  have h1 := ha n
  have h2 := hb n
  rw [cf_ad]
  have := Int.natAbs_add_le (cf a n) (cf b n)
  omega
theorem bd_le {A B : Nat} {a : List Int} (h : A ≤ B) (ha : Bd A a) : Bd B a := fun n => Nat.le_trans (ha n) h
end PL
end
section
set_option maxRecDepth 100000
set_option maxHeartbeats 1000000
/-! lists of ints of one's own, changed at a place; zeros; zip and enumerate of ints -/
namespace DL
open PySem PySem.Spec L2
open PL (cf)
theorem get_ints {a : List Int} {k : Nat} (h : k < a.length) : (a.map PyData.int)[k]? = some (.int (cf a k)) := by
  rw [List.getElem?_map, List.getElem?_eq_getElem h, PL.cf_get, List.getD_eq_getElem?_getD, List.getElem?_eq_getElem h]
  rfl
theorem ix_ints {d : D} {a : List Int} (hd : seq? d = some (a.map .int)) {k : Nat} (h : k < a.length) : ixD d (.int (k : Nat)) = some (.fz (.int (cf a k))) := ix_nat hd (get_ints h)
theorem len_ints {d : D} {a : List Int} (hd : seq? d = some (a.map .int)) : lenD [d] = some (.fz (.int (a.length : Nat))) := by rw [len_seq hd, List.length_map]
theorem listAt_own {δ : DS} {j : Nat} {io : Bool} {l : List D} (h : δ[j]? = some (.own io (.list l))) : listAt δ j = some (io, l) := by
  unfold listAt
  rw [h]
theorem set_ints (F : List Int) (k : Nat) (v : Int) : (F.map PyData.int).set k (.int (cf F k + v)) = (PL.bump F k v).map .int := by
  unfold PL.bump
  rw [List.map_set]
theorem ixN_nat {n k : Nat} (h : k < n) : ixN n (k : Int) = some k := by
  unfold ixN
  rw [if_pos (by omega), if_pos (by omega)]
  simp
theorem augSub_bump {j : Nat} {fi fe : Me Val} {δ : DS} {io : Bool} {F : List Int} {k : Nat} {v : Int} (h : δ[j]? = some (.own io (IL F))) (hi : fi δ = some (.fz (.int (k : Nat)), δ)) (he : fe δ = some (.fz (.int v), δ)) (hk : k < F.length) :
    augSubS j fi addI fe δ = some (.nx, δ.set j (.own io (IL (PL.bump F k v)))) := by
  have hl := listAt_own h
  unfold augSubS
  rw [hl]
  simp only [Option.bind_some, hi, hl]
  rw [if_pos (decide_eq_true (by omega)), Int.toNat_natCast, get_ints hk]
  simp only [Option.bind_some, he, dv, addI, intB, Option.map_some, List.length_map, ixN_nat hk, set_ints, hl]
theorem asgSub_bump {j : Nat} {fi fe : Me Val} {δ : DS} {io : Bool} {F : List Int} {k : Nat} {v : Int} (h : δ[j]? = some (.own io (IL F))) (hi : fi δ = some (.fz (.int (k : Nat)), δ)) (he : fe δ = some (.fz (.int v), δ)) (hk : k < F.length) :
    asgS (binM addD (binM ixD (nameM j) fi) fe) (subG j fi) δ = some (.nx, δ.set j (.own io (IL (PL.bump F k v)))) := by
  have hl := listAt_own h
  have e1 : nameM j δ = some (.sl j, δ) := by
    unfold nameM
    rw [h]
  have e2 : dv δ (.sl j) = some (IL F) := by
    show ownAt δ j = _
    unfold ownAt
    rw [h]
  have e3 : binM ixD (nameM j) fi δ = some (.fz (.int (cf F k)), δ) := by
    unfold binM
    have e2' : ownAt δ j = some (IL F) := e2
    simp only [mb, mo, e1, hi, e2', dv, Option.bind_some, ix_ints (d := IL F) rfl hk]
  have e4 : binM addD (binM ixD (nameM j) fi) fe δ = some (.fz (.int (cf F k + v)), δ) := by
    rw [binM]
    simp only [mb, mo, e3, he, dv, Option.bind_some, addD]
  unfold asgS
  rw [e4]
  simp only [subG, hl, Option.bind_some, hi, List.length_map, ixN_nat hk, set_ints]
theorem enum_ints (a : List Int) : enumD (a.map .int) = a.zipIdx.map fun p => .tuple [.int (p.2 : Nat), .int p.1] := by
  unfold enumD
  rw [List.zipIdx_map, List.map_map]
  rfl
theorem zip_ints (a b : List Int) : zipD (a.map .int) (b.map .int) = (a.zip b).map fun p => .tuple [.int p.1, .int p.2] := by
  unfold zipD
  rw [List.zip_map, List.map_map]
  rfl
theorem rep_zeros (k : Nat) (h : k ≤ 16777216) : mulD (.list [.int 0]) (.int (k : Nat)) = some (.ow (IL (List.replicate k 0))) := by
  have e : (List.replicate k [PyData.int 0]).flatten = (List.replicate k (0 : Int)).map .int := by
    rw [List.map_replicate]
    exact List.flatten_replicate_singleton
  unfold mulD
  simp only [Int.toNat_natCast, List.length_singleton, Nat.one_mul, szOkL h, Bool.and_true, e]
  rw [if_pos]
  unfold ixOk
  simp only [Bool.and_eq_true, decide_eq_true_eq]
  omega
theorem rep_zeros_neg {k : Int} (h : k ≤ 0) (h2 : -1000 ≤ k) : mulD (.list [.int 0]) (.int k) = some (.ow (IL [])) := by
  unfold mulD
  simp only [show k.toNat = 0 by omega, List.length_singleton, Nat.mul_zero]
  rw [if_pos]
  · rfl
  · unfold ixOk
    simp only [Bool.and_eq_true, decide_eq_true_eq]
    exact ⟨⟨by omega, by omega⟩, rfl⟩
theorem zipIdx_mem {a : List Int} {k : Nat} {p : Int × Nat} (h : a.zipIdx[k]? = some p) : p.2 = k ∧ k < a.length ∧ p.1 = cf a k ∧ p.1 ∈ a := by
  rw [List.getElem?_zipIdx] at h
  obtain ⟨x, hx, rfl⟩ := Option.map_eq_some_iff.mp h
  obtain ⟨hk, e⟩ := List.getElem?_eq_some_iff.mp hx
  refine ⟨by simp, hk, ?_, List.mem_of_getElem? hx⟩
  rw [PL.cf_get, List.getD_eq_getElem?_getD, hx]
  rfl
end DL
namespace DL
open PySem PySem.Spec L2
open PL (cf)
theorem fdiv_nat (x y : Nat) : ((x : Int).fdiv (y : Int)) = ((x / y : Nat) : Int) := by
  rw [Int.fdiv_eq_ediv_of_nonneg _ (by omega)]
  rfl
theorem rest_nat (x y : Nat) : (x : Int) - ((x / y : Nat) : Int) * (y : Int) = ((x % y : Nat) : Int) := by
  have := Nat.div_add_mod x y
  rw [Nat.mul_comm] at this
  rw [← Int.natCast_mul]
  omega
theorem gcd_gen {c : Me Bool} {body : Ss} (fr : Int → Int → DS) (hc : ∀ x y : Int, c (fr x y) = some (!decide (y = 0), fr x y)) (hb : ∀ x y q p : Int, fdivD (.int x) (.int y) = some (.fz (.int q)) → mulD (.int q) (.int y) = some (.fz (.int p)) → body (fr x y) = some (.nx, fr y (x - p)))
    {a b : Nat} (ha : a < 2 ^ 200) (hb' : b < 2 ^ 200) {n : Nat} (hn : 1000 ≤ n) : whileN c body n (fr a b) = some (.nx, fr (Nat.gcd a b) 0) := by
  obtain ⟨s, r, h1, ⟨h2, -, -⟩, h3⟩ := while_fold (c := c) (body := body) (fun (s : Nat × Nat) (_ : Unit) => fr s.1 s.2) (fun s => Nat.gcd s.1 s.2 = Nat.gcd a b ∧ s.1 < 2 ^ 200 ∧ s.2 < 2 ^ 200) (fun s => !decide (s.2 = 0)) (fun s => (s.2, s.1 % s.2)) (fun s => PL.mu s.1 s.2) (fun s r p => by
    have : decide (((s.2 : Nat) : Int) = 0) = decide (s.2 = 0) := by
      rw [Bool.eq_iff_iff]
      simp
    rw [hc, this]) (fun s r p hq => by
    have h0 : s.2 ≠ 0 := by simpa using hq
    have e := hb s.1 s.2 _ _ (fdivD_lt (by omega) (by rw [Int.natAbs_natCast]; exact p.2.2)) (by rw [fdiv_nat s.1 s.2]; exact mulD_lt (by rw [Int.natAbs_natCast]; exact Nat.lt_of_le_of_lt (Nat.div_le_self _ _) p.2.1) (by rw [Int.natAbs_natCast]; exact p.2.2))
    rw [rest_nat] at e
    refine ⟨⟨r, e⟩, ⟨?_, p.2.2, Nat.lt_trans (Nat.mod_lt _ (Nat.pos_of_ne_zero h0)) p.2.2⟩, PL.mu_lt h0⟩
    show Nat.gcd s.2 (s.1 % s.2) = _
    rw [← p.1, Nat.gcd_comm s.1 s.2]
    exact (Nat.gcd_comm _ _).trans (Nat.gcd_rec s.2 s.1).symm) n (a, b) () ⟨rfl, ha, hb'⟩ (Nat.lt_of_lt_of_le (Nat.lt_of_le_of_lt (PL.mu_le hb') (show _ < 1000 by decide)) hn)
  have h4 : s.2 = 0 := by simpa using h3
  rw [h4, Nat.gcd_zero_right] at h2
  have h1 : whileN c body n (fr a b) = some (.nx, fr (s.1 : Nat) (s.2 : Nat)) := h1
  rw [h1, h2, h4]
  rfl
/-- the greatest divisor of a list -/
def gl (a : List Int) : Nat := a.foldl (fun g x => Nat.gcd g x.natAbs) 0
theorem absD_int (i : Int) : absD [.int i] = some (.fz (.int (i.natAbs : Nat))) := by
  show some (Val.fz (.int _)) = _
  congr 3
  split <;> omega
end DL
end
section
set_option maxRecDepth 100000
set_option maxHeartbeats 1000000
/-! comprehensions over one name, whatever the frame -/
namespace DL
open PySem PySem.Spec L2
theorem seq_as (a b c : Ss) : seqS a (seqS b c) = seqS (seqS a b) c := by
  funext δ
  unfold seqS
  cases a δ with
  | none => rfl
  | some p =>
    obtain ⟨f, δ1⟩ := p
    cases f <;> rfl
theorem set_self {δ : DS} {i : Nat} {s : Sl} (h : δ[i]? = some s) : δ.set i s = δ := by
  refine List.ext_getElem? fun j => ?_
  rw [List.getElem?_set]
  split
  · rename_i e
    subst e
    rw [h]
    rw [if_pos (List.getElem?_eq_some_iff.mp h).1]
  · rfl
theorem comp_one {α : Type} {δ : DS} {t : Nat} {fi : Me (List D)} {fe : Me Val} (l : List α) (e F : α → D) (hi : fi δ = some (l.map e, δ)) (ht : δ[t]? = some .un) (hz : l.length ≤ 16777216)
    (h : ∀ a ∈ l, ∃ v, fe (δ.set t (.dat (e a))) = some (v, δ.set t (.dat (e a))) ∧ treeV v = some (F a)) :
    compM fi (asg t) (mr true) fe [t] δ = some (.ow (.list (l.map F)), δ) := by
  have hw : wipeD δ [t] = δ := set_self ht
  have hl : t < δ.length := (List.getElem?_eq_some_iff.mp ht).1
  refine comp_map l e F (fun a => δ.set t (.dat (e a))) hi ?_ ?_ hz fun a ha => ⟨?_, h a ha, ?_⟩
  · show (plainAt δ t && true) = true
    unfold plainAt
    rw [ht]
    rfl
  · rw [hw]
    show δ.set t (δ.getD t .un) = δ
    rw [List.getD_eq_getElem?_getD, ht]
    exact set_self ht
  · rw [hw]
    unfold asg freeAt
    rw [ht]
    rfl
  · rw [hw]
    show (δ.set t (.dat (e a))).set t .un = δ
    rw [List.set_set]
    exact set_self ht
theorem comp_ints {δ : DS} {t : Nat} {fi : Me (List D)} {fe : Me Val} {a : List Int} (F : Int → Int) (hi : fi δ = some (a.map .int, δ)) (ht : δ[t]? = some .un) (hz : a.length ≤ 16777216)
    (h : ∀ x ∈ a, fe (δ.set t (.dat (.int x))) = some (.fz (.int (F x)), δ.set t (.dat (.int x)))) :
    compM fi (asg t) (mr true) fe [t] δ = some (.ow (IL (a.map F)), δ) := by
  rw [comp_one a .int (fun x => .int (F x)) hi ht hz fun x hx => ⟨_, h x hx, rfl⟩]
  unfold IL
  rw [List.map_map]
  rfl
end DL
end
section
set_option maxRecDepth 100000
set_option maxHeartbeats 1000000
/-! plain lines -/
namespace DL
open PL (cf Nz)
theorem foldl_gcd (a : List Int) : ∀ g : Nat, a.foldl (fun g x => Nat.gcd g x.natAbs) g = Nat.gcd g (gl a) := by
  unfold gl
  induction a with
  | nil => intro g; simp
  | cons x a ih =>
    intro g
    rw [List.foldl_cons, List.foldl_cons, ih, ih (Nat.gcd 0 x.natAbs), Nat.gcd_zero_left, Nat.gcd_assoc]
theorem gl_cons (x : Int) (a : List Int) : gl (x :: a) = Nat.gcd x.natAbs (gl a) := by
  show a.foldl _ (Nat.gcd 0 x.natAbs) = _
  rw [foldl_gcd, Nat.gcd_zero_left]
theorem gl_dvd : ∀ {a : List Int} {x : Int}, x ∈ a → gl a ∣ x.natAbs
  | y :: a, x, h => by
    rw [gl_cons]
    rcases List.mem_cons.mp h with rfl | h
    · exact Nat.gcd_dvd_left _ _
    · exact Nat.dvd_trans (Nat.gcd_dvd_right _ _) (gl_dvd h)
theorem gl_map (c : Int) : ∀ a : List Int, gl (a.map (c * ·)) = c.natAbs * gl a
  | [] => rfl
  | x :: a => by rw [List.map_cons, gl_cons, gl_cons, gl_map c a, Int.natAbs_mul, Nat.gcd_mul_left]
/-- the last number -/
def la (a : List Int) : Int := cf a (a.length - 1)
theorem la_last (a : List Int) (x : Int) : la (a ++ [x]) = x := by
  unfold la
  rw [List.length_append, List.length_singleton, Nat.add_sub_cancel, PL.cf_append_right (Nat.le_refl _), Nat.sub_self]
  rfl
theorem la_mem {a : List Int} (h : a ≠ []) : la a ∈ a := by
  rcases List.eq_nil_or_concat a with rfl | ⟨c, x, rfl⟩
  · exact absurd rfl h
  · rw [List.concat_eq_append, la_last]
    simp
theorem la_ne {a : List Int} (hn : Nz a) (h : a ≠ []) : la a ≠ 0 := (PL.nz_iff.mp hn).resolve_left h
theorem la_map {f : Int → Int} (h0 : f 0 = 0) (a : List Int) : la (a.map f) = f (la a) := by
  unfold la
  rw [List.length_map, PL.cf_map h0]
theorem gl_pos {a : List Int} (hn : Nz a) (h : a ≠ []) : 0 < gl a := Nat.pos_of_ne_zero fun z => by
  have := gl_dvd (la_mem h)
  rw [z] at this
  exact la_ne hn h (Int.natAbs_eq_zero.mp (Nat.eq_zero_of_zero_dvd this))
theorem gl_lt {a : List Int} (hn : Nz a) (h : a ≠ []) {k : Nat} (hb : ∀ x ∈ a, x.natAbs < k) : gl a < k :=
  Nat.lt_of_le_of_lt (Nat.le_of_dvd (Nat.pos_of_ne_zero fun z => la_ne hn h (Int.natAbs_eq_zero.mp z)) (gl_dvd (la_mem h))) (hb _ (la_mem h))
/-- by what a line is divided -/
def dg (a : List Int) : Int := if la a < 0 then 0 - (gl a : Int) else gl a
def pln (a : List Int) : List Int := if a = [] then [] else a.map fun x => x.fdiv (dg a)
theorem dg_abs (a : List Int) : (dg a).natAbs = gl a := by
  unfold dg
  split <;> omega
theorem dg_ne {a : List Int} (hn : Nz a) (h : a ≠ []) : dg a ≠ 0 := fun z => by
  have h1 := dg_abs a
  rw [z] at h1
  have := gl_pos hn h
  simp at h1
  omega
theorem dg_dvd {a : List Int} {x : Int} (h : x ∈ a) : dg a ∣ x := by
  rw [← Int.natAbs_dvd_natAbs, dg_abs]
  exact gl_dvd h
theorem dg_map {a : List Int} (hn : Nz a) (h : a ≠ []) {c : Int} (hc : c ≠ 0) : dg (a.map (c * ·)) = c * dg a := by
  have hl := la_ne hn h
  unfold dg
  rw [la_map (Int.mul_zero c), gl_map, Int.natCast_mul]
  rcases Int.lt_or_gt_of_ne hc with h1 | h1 <;> rcases Int.lt_or_gt_of_ne hl with h2 | h2
  · rw [if_neg (by have := Int.mul_pos_of_neg_of_neg h1 h2; omega), if_pos h2, Int.ofNat_natAbs_of_nonpos (by omega), Int.zero_sub, Int.neg_mul, Int.mul_neg]
  · rw [if_pos (Int.mul_neg_of_neg_of_pos h1 h2), if_neg (by omega), Int.ofNat_natAbs_of_nonpos (by omega), Int.zero_sub, Int.neg_mul, Int.neg_neg]
  · rw [if_pos (Int.mul_neg_of_pos_of_neg h1 h2), if_pos h2, Int.natAbs_of_nonneg (by omega), Int.zero_sub, Int.zero_sub, Int.mul_neg]
  · rw [if_neg (by have := Int.mul_pos h1 h2; omega), if_neg (by omega), Int.natAbs_of_nonneg (by omega)]
theorem pln_len (a : List Int) : (pln a).length = a.length := by
  unfold pln
  split
  · rename_i h
    rw [h]
  · rw [List.length_map]
theorem pln_map {a : List Int} (hn : Nz a) {c : Int} (hc : c ≠ 0) : pln (a.map (c * ·)) = pln a := by
  by_cases h : a = []
  · subst h; rfl
  · unfold pln
    rw [if_neg h, if_neg (by simpa using h), dg_map hn h hc, List.map_map]
    refine List.map_congr_left fun x hx => ?_
    obtain ⟨k, rfl⟩ := dg_dvd hx
    show (c * (dg a * k)).fdiv (c * dg a) = (dg a * k).fdiv (dg a)
    rw [← Int.mul_assoc, Int.mul_fdiv_cancel_left _ (Int.mul_ne_zero hc (dg_ne hn h)), Int.mul_fdiv_cancel_left _ (dg_ne hn h)]
/-- the line is its plain line, times a number -/
theorem pln_mul {a : List Int} (hn : Nz a) (h : a ≠ []) : (pln a).map (dg a * ·) = a := by
  unfold pln
  rw [if_neg h, List.map_map]
  conv => rhs; rw [← List.map_id a]
  refine List.map_congr_left fun x hx => ?_
  obtain ⟨k, rfl⟩ := dg_dvd hx
  show dg a * (dg a * k).fdiv (dg a) = dg a * k
  rw [Int.mul_fdiv_cancel_left _ (dg_ne hn h)]
theorem pln_ne {a : List Int} (h : a ≠ []) : pln a ≠ [] := fun z => h (List.eq_nil_of_length_eq_zero (by rw [← pln_len, z]; rfl))
theorem pln_la {a : List Int} (hn : Nz a) (h : a ≠ []) : 0 < la (pln a) := by
  have e : dg a * la (pln a) = la a := by rw [← la_map (f := (dg a * ·)) (Int.mul_zero _), pln_mul hn h]
  have hl := la_ne hn h
  have hg := gl_pos hn h
  unfold dg at e
  split at e
  · rename_i h1
    refine Int.not_le.mp fun q => ?_
    have := Int.mul_nonneg_of_nonpos_of_nonpos (show (0 : Int) - gl a ≤ 0 by omega) q
    omega
  · rename_i h1
    refine Int.not_le.mp fun q => ?_
    have := Int.mul_nonpos_of_nonneg_of_nonpos (show (0 : Int) ≤ gl a by omega) q
    omega
theorem pln_gl {a : List Int} (hn : Nz a) (h : a ≠ []) : gl (pln a) = 1 := by
  have e : gl a = gl a * gl (pln a) := by
    have := gl_map (dg a) (pln a)
    rw [pln_mul hn h, dg_abs] at this
    exact this
  have hg := gl_pos hn h
  exact Nat.eq_of_mul_eq_mul_left hg (by omega)
theorem pln_nz {a : List Int} (hn : Nz a) : Nz (pln a) := by
  by_cases h : a = []
  · subst h; exact PL.nz_nil
  · have h1 := pln_la hn h
    exact PL.nz_iff.mpr (.inr (show la (pln a) ≠ 0 by omega))
theorem pln_plain {a : List Int} (hn : Nz a) (hl : 0 < la a) (hg : gl a = 1) : pln a = a := by
  unfold pln
  split
  · rename_i h; exact h.symm
  · have : dg a = 1 := by
      unfold dg
      rw [if_neg (by omega), hg]
      rfl
    rw [this]
    conv => rhs; rw [← List.map_id a]
    exact List.map_congr_left fun x _ => by simp
theorem pln_pln {a : List Int} (hn : Nz a) : pln (pln a) = pln a := by
  by_cases h : a = []
  · subst h; rfl
  · exact pln_plain (pln_nz hn) (pln_la hn h) (pln_gl hn h)
end DL
namespace DL
open PySem PySem.Spec L2
open PL (cf Nz)
theorem ix_neg1 {d : D} {a : List Int} (hd : seq? d = some (a.map .int)) (h : a ≠ []) : ixD d (.int (-1)) = some (.fz (.int (la a))) := by
  rcases List.eq_nil_or_concat a with rfl | ⟨c, x, rfl⟩
  · exact absurd rfl h
  · rw [List.concat_eq_append] at hd ⊢
    rw [la_last]
    exact ix_last (by rw [hd, List.map_append]; rfl)
end DL
end
section
set_option autoImplicit false
/-! sequences of numbers of a commutative ring, added place by place and multiplied as polynomials are -/
namespace SR
open Lean.Grind
variable {R : Type} [CommRing R]
local instance natR : NatCast R := Semiring.natCast
local instance intR : IntCast R := Ring.intCast
def sm (f : Nat → R) : Nat → R
  | 0 => 0
  | n + 1 => sm f n + f n
theorem sm_congr {f g : Nat → R} : ∀ {n : Nat}, (∀ i, i < n → f i = g i) → sm f n = sm g n
  | 0, _ => rfl
  | n + 1, h => by rw [sm, sm, sm_congr fun i hi => h i (by omega), h n (by omega)]
theorem sm_add (f g : Nat → R) : ∀ n, sm (fun i => f i + g i) n = sm f n + sm g n
  | 0 => by simp only [sm]; grind
  | n + 1 => by rw [sm, sm, sm, sm_add f g n]; grind
theorem sm_mul (x : R) (f : Nat → R) : ∀ n, sm (fun i => x * f i) n = x * sm f n
  | 0 => by simp only [sm]; grind
  | n + 1 => by rw [sm, sm, sm_mul x f n]; grind
theorem sm_first (f : Nat → R) : ∀ n, sm f (n + 1) = f 0 + sm (fun i => f (i + 1)) n
  | 0 => by simp only [sm]; grind
  | n + 1 => by rw [sm, sm_first f n, sm]; grind
theorem sm_rev (f : Nat → R) : ∀ n, sm f n = sm (fun i => f (n - 1 - i)) n
  | 0 => rfl
  | n + 1 => by
    rw [sm_first (fun i => f (n + 1 - 1 - i)) n, sm, sm_rev f n]
    have : sm (fun i => f (n + 1 - 1 - (i + 1))) n = sm (fun i => f (n - 1 - i)) n := sm_congr fun i hi => by
      congr 1
      omega
    rw [this]
    show _ + f n = f n + _
    grind
theorem sm_zero {f : Nat → R} : ∀ {n : Nat}, (∀ i, i < n → f i = 0) → sm f n = 0
  | 0, _ => rfl
  | n + 1, h => by rw [sm, sm_zero fun i hi => h i (by omega), h n (by omega)]; grind
def cv (f g : Nat → R) (n : Nat) : R := sm (fun i => f i * g (n - i)) (n + 1)
theorem cv_zero (f g : Nat → R) : cv f g 0 = f 0 * g 0 := by simp only [cv, sm]; grind
theorem cv_succ (f g : Nat → R) (n : Nat) : cv f g (n + 1) = f 0 * g (n + 1) + cv (fun i => f (i + 1)) g n := by
  unfold cv
  rw [sm_first]
  congr 1
  exact sm_congr fun i hi => by
    congr 2
    omega
theorem cv_congr {f f' g g' : Nat → R} (hf : ∀ i, f i = f' i) (hg : ∀ i, g i = g' i) (n : Nat) : cv f g n = cv f' g' n := by
  rw [show f = f' from funext hf, show g = g' from funext hg]
theorem cv_comm (f g : Nat → R) (n : Nat) : cv f g n = cv g f n := by
  unfold cv
  rw [sm_rev]
  refine sm_congr fun i hi => ?_
  rw [CommSemiring.mul_comm]
  congr 2
  omega
theorem cv_add_left (f g h : Nat → R) (n : Nat) : cv (fun i => f i + g i) h n = cv f h n + cv g h n := by
  unfold cv
  rw [← sm_add]
  exact sm_congr fun i _ => by grind
theorem cv_add_right (f g h : Nat → R) (n : Nat) : cv f (fun i => g i + h i) n = cv f g n + cv f h n := by
  unfold cv
  rw [← sm_add]
  exact sm_congr fun i _ => by grind
theorem cv_mul_left (x : R) (f g : Nat → R) (n : Nat) : cv (fun i => x * f i) g n = x * cv f g n := by
  unfold cv
  rw [← sm_mul]
  exact sm_congr fun i _ => by grind
theorem cv_assoc : ∀ (n : Nat) (f g h : Nat → R), cv (cv f g) h n = cv f (cv g h) n
  | 0, f, g, h => by
    rw [cv_zero, cv_zero, cv_zero, cv_zero]
    grind
  | n + 1, f, g, h => by
    rw [cv_succ, cv_succ f, cv_succ g h n, cv_congr (cv_succ f g) (fun _ => rfl), cv_add_left, cv_mul_left, cv_assoc n (fun i => f (i + 1)) g h, cv_zero]
    grind
structure Ser (R : Type) where
  c : Nat → R
theorem Ser.ext {a b : Ser R} (h : ∀ n, a.c n = b.c n) : a = b := by
  cases a
  cases b
  congr
  exact funext h
def con (r : R) : Ser R := ⟨fun n => match n with
  | 0 => r
  | _ + 1 => 0⟩
instance : Add (Ser R) := ⟨fun a b => ⟨fun n => a.c n + b.c n⟩⟩
instance : Mul (Ser R) := ⟨fun a b => ⟨cv a.c b.c⟩⟩
instance : Neg (Ser R) := ⟨fun a => ⟨fun n => -a.c n⟩⟩
instance : Sub (Ser R) := ⟨fun a b => ⟨fun n => a.c n - b.c n⟩⟩
instance : NatCast (Ser R) := ⟨fun n => con (n : R)⟩
instance (n : Nat) : OfNat (Ser R) n := ⟨((n : Nat) : Ser R)⟩
instance : IntCast (Ser R) := ⟨fun n => con (n : R)⟩
instance : SMul Nat (Ser R) := ⟨fun n a => (n : Ser R) * a⟩
instance : SMul Int (Ser R) := ⟨fun n a => (n : Ser R) * a⟩
def pw (a : Ser R) : Nat → Ser R
  | 0 => 1
  | n + 1 => pw a n * a
instance : HPow (Ser R) Nat (Ser R) := ⟨pw⟩
theorem add_c (a b : Ser R) (n : Nat) : (a + b).c n = a.c n + b.c n := rfl
theorem sub_c (a b : Ser R) (n : Nat) : (a - b).c n = a.c n - b.c n := rfl
theorem neg_c (a : Ser R) (n : Nat) : (-a).c n = -a.c n := rfl
theorem mul_c (a b : Ser R) (n : Nat) : (a * b).c n = cv a.c b.c n := rfl
theorem con_0 (r : R) : (con r).c 0 = r := rfl
theorem con_s (r : R) (n : Nat) : (con r).c (n + 1) = 0 := rfl
theorem con_mul (r : R) (a : Ser R) (n : Nat) : (con r * a).c n = r * a.c n := by
  rw [mul_c]
  cases n with
  | zero => rw [cv_zero, con_0]
  | succ n =>
    rw [cv_succ, con_0]
    have : cv (fun i => (con r).c (i + 1)) a.c n = 0 := sm_zero fun i _ => by
      show (0 : R) * _ = 0
      grind
    rw [this]
    grind
theorem con_add (r s : R) : con (r + s) = con r + con s := Ser.ext fun n => by
  rw [add_c]
  cases n with
  | zero => rfl
  | succ n =>
    rw [con_s, con_s, con_s]
    grind
theorem con_neg (r : R) : con (-r) = -con r := Ser.ext fun n => by
  rw [neg_c]
  cases n with
  | zero => rfl
  | succ n =>
    rw [con_s, con_s]
    grind
theorem con_times (r s : R) : con (r * s) = con r * con s := Ser.ext fun n => by
  rw [con_mul]
  cases n with
  | zero => rfl
  | succ n =>
    rw [con_s, con_s]
    grind
theorem nat_c (n : Nat) : ((n : Nat) : Ser R) = con (n : R) := rfl
theorem int_c (n : Int) : ((n : Int) : Ser R) = con (n : R) := rfl
theorem of_c (n : Nat) : (OfNat.ofNat n : Ser R) = con (n : R) := rfl
theorem zero_c (n : Nat) : (0 : Ser R).c n = 0 := by
  cases n with
  | zero =>
    show ((0 : Nat) : R) = 0
    grind
  | succ n => rfl
theorem one_eq : (1 : Ser R) = con 1 := by
  show con ((1 : Nat) : R) = con 1
  congr 1
  grind
instance : CommRing (Ser R) where
  add_zero a := Ser.ext fun n => by rw [add_c, zero_c]; grind
  add_comm a b := Ser.ext fun n => by rw [add_c, add_c]; grind
  add_assoc a b c := Ser.ext fun n => by simp only [add_c]; grind
  mul_assoc a b c := Ser.ext fun n => cv_assoc n _ _ _
  mul_comm a b := Ser.ext fun n => cv_comm _ _ _
  mul_one a := Ser.ext fun n => by rw [mul_c, cv_comm, ← mul_c, one_eq, con_mul]; grind
  one_mul a := Ser.ext fun n => by rw [one_eq, con_mul]; grind
  left_distrib a b c := Ser.ext fun n => cv_add_right _ _ _ _
  right_distrib a b c := Ser.ext fun n => cv_add_left _ _ _ _
  zero_mul a := Ser.ext fun n => by
    rw [mul_c, zero_c]
    exact sm_zero fun i _ => by rw [zero_c]; grind
  mul_zero a := Ser.ext fun n => by
    rw [mul_c, zero_c]
    exact sm_zero fun i _ => by rw [zero_c]; grind
  pow_zero a := rfl
  pow_succ a n := rfl
  ofNat_succ n := by
    show con ((n + 1 : Nat) : R) = con ((n : Nat) : R) + 1
    rw [one_eq, ← con_add]
    congr 1
    grind
  neg_add_cancel a := Ser.ext fun n => by rw [add_c, neg_c, zero_c]; grind
  sub_eq_add_neg a b := Ser.ext fun n => by rw [add_c, neg_c, sub_c]; grind
  neg_zsmul i a := by
    show con ((-i : Int) : R) * a = -(con ((i : Int) : R) * a)
    refine Ser.ext fun n => ?_
    rw [con_mul, neg_c, con_mul]
    grind
  zsmul_natCast_eq_nsmul n a := by
    show con (((n : Nat) : Int) : R) * a = con ((n : Nat) : R) * a
    congr 2
    exact Ring.intCast_natCast n
  intCast_ofNat n := by
    show con (((OfNat.ofNat n : Int)) : R) = con ((n : Nat) : R)
    congr 1
    exact Ring.intCast_ofNat n |>.trans (Semiring.ofNat_eq_natCast n)
  intCast_neg i := by
    show con ((-i : Int) : R) = -con ((i : Int) : R)
    rw [← con_neg]
    congr 1
    grind
end SR
example (a b c : SR.Ser (SR.Ser Int)) (h : a * b = c) : a * (a * b + c) = a * c + c * a := by grind
end
section
set_option maxRecDepth 100000
set_option maxHeartbeats 1000000
set_option exponentiation.threshold 100000
/-! greater numbers: up to 8000 bits -/
namespace DL
open PySem PySem.Spec L2
theorem log2_big {n : Nat} (h : n < 2 ^ 8000) : n.log2 ≤ 8000 := by
  by_cases h0 : n = 0
  · subst h0; decide
  · have := (Nat.log2_lt h0).mpr h
    omega
theorem mulD_big {i j : Int} (hi : i.natAbs < 2 ^ 8000) (hj : j.natAbs < 2 ^ 8000) : mulD (.int i) (.int j) = some (.fz (.int (i * j))) := by
  show (if _ then _ else _) = _
  rw [if_pos]
  unfold mulOk
  have := log2_big hi
  have := log2_big hj
  exact decide_eq_true (by omega)
theorem fdivD_big {i j : Int} (h : j ≠ 0) (hj : j.natAbs < 2 ^ 8000) : fdivD (.int i) (.int j) = some (.fz (.int (i.fdiv j))) := by
  have h1 := log2_big hj
  unfold fdivD intB
  simp only [show (decide (j ≠ 0) && decide (j.natAbs.log2 < 9000)) = true from by rw [decide_eq_true h, decide_eq_true (by omega)]; rfl, if_true, Option.map_some]
theorem gcd_big {c : Me Bool} {body : Ss} (fr : Int → Int → DS) (hc : ∀ x y : Int, c (fr x y) = some (!decide (y = 0), fr x y)) (hb : ∀ x y q p : Int, fdivD (.int x) (.int y) = some (.fz (.int q)) → mulD (.int q) (.int y) = some (.fz (.int p)) → body (fr x y) = some (.nx, fr y (x - p)))
    {a b : Nat} (ha : a < 2 ^ 8000) (hb' : b < 2 ^ 8000) {n : Nat} (hn : 20000 ≤ n) : whileN c body n (fr a b) = some (.nx, fr (Nat.gcd a b) 0) := by
  obtain ⟨s, r, h1, ⟨h2, -, -⟩, h3⟩ := while_fold (c := c) (body := body) (fun (s : Nat × Nat) (_ : Unit) => fr s.1 s.2) (fun s => Nat.gcd s.1 s.2 = Nat.gcd a b ∧ s.1 < 2 ^ 8000 ∧ s.2 < 2 ^ 8000) (fun s => !decide (s.2 = 0)) (fun s => (s.2, s.1 % s.2)) (fun s => PL.mu s.1 s.2) (fun s r p => by
    have : decide (((s.2 : Nat) : Int) = 0) = decide (s.2 = 0) := by
      rw [Bool.eq_iff_iff]
      simp
    rw [hc, this]) (fun s r p hq => by
    have h0 : s.2 ≠ 0 := by simpa using hq
    have e := hb s.1 s.2 _ _ (fdivD_big (by omega) (by rw [Int.natAbs_natCast]; exact p.2.2)) (by rw [fdiv_nat s.1 s.2]; exact mulD_big (by rw [Int.natAbs_natCast]; exact Nat.lt_of_le_of_lt (Nat.div_le_self _ _) p.2.1) (by rw [Int.natAbs_natCast]; exact p.2.2))
    rw [rest_nat] at e
    refine ⟨⟨r, e⟩, ⟨?_, p.2.2, Nat.lt_trans (Nat.mod_lt _ (Nat.pos_of_ne_zero h0)) p.2.2⟩, PL.mu_lt h0⟩
    show Nat.gcd s.2 (s.1 % s.2) = _
    rw [← p.1, Nat.gcd_comm s.1 s.2]
    exact (Nat.gcd_comm _ _).trans (Nat.gcd_rec s.2 s.1).symm) n (a, b) () ⟨rfl, ha, hb'⟩ (Nat.lt_of_lt_of_le (Nat.lt_of_le_of_lt (PL.mu_le hb') (show _ < 20000 by decide)) hn)
  have h4 : s.2 = 0 := by simpa using h3
  rw [h4, Nat.gcd_zero_right] at h2
  have h1 : whileN c body n (fr a b) = some (.nx, fr (s.1 : Nat) (s.2 : Nat)) := h1
  rw [h1, h2, h4]
  rfl
end DL
end
section
set_option maxRecDepth 100000
set_option exponentiation.threshold 100000
set_option maxHeartbeats 1000000
namespace K16
open PySem PySem.Spec L2 DL
def isNil : D → Bool
  | .int i => decide (i = 0)
  | _ => false
def lineB (d : D) : Bool := match seq? d with
  | some l => decide (l.length ≤ 13) && l.all isI && (match l.getLast? with
    | some x => !isNil x
    | none => true)
  | none => false
def okV (d : D) : Prop := ty0 d ∧ ∀ l, seq? d = some l → ∀ x ∈ l, ty0 x
theorem r_is_integer {d : D} (h : ty0 d) : m_is_integer [d] = some (.fz (.bool (isI d))) := by
  obtain ⟨T, h⟩ := h
  rw [← isT_int h]
  simp only [m_is_integer, g_is_integer, g_is_integer_s1, mb, mr, mo, nameM, conM, binM, unM, boolM, ifM, DL.andM, DL.orM, DL.notM, andV, orV, notV, chainM, nilA, consA, dvs, dv, ownAt, fzs, lstM, tupM, callM, callP, permL, fzv, seqS, skipS, ifS, setS, asg, freeAt, retS, retV, dropS, frz, frzS, asgS, nilG, consG, tupG, subG, listAt, methM, augS, augSubS, forS, seqM, treeV, startD, endV, bodyF, bodyI, startI, ioAt, slM, partM, bors, callL, callI, callO, DL.flatV, DL.flat, List.filterMap_cons, List.filterMap_nil, List.map_cons, List.map_nil, List.getElem?_cons_zero, List.getElem?_cons_succ, List.getElem?_nil, List.set_cons_zero, List.set_cons_succ, List.cons_append, List.nil_append, List.length_cons, List.length_nil, Option.bind_some, Option.bind_none, Option.map_some, Option.map_none, Nat.reduceSub, Nat.reduceAdd, List.replicate_succ, List.replicate_zero, Bool.not_true, Bool.not_false, if_true, if_false, Bool.false_eq_true, reduceIte, decide_true, decide_false, Nat.reduceLT, Nat.reduceLeDiff, reduceCtorEq, Option.some.injEq, Prod.mk.injEq, itemsOf, enumA, rngM1, rngM2, zipM, intB, addD, subI, mulD, fdivD, modD, powD, ltI, leI, gtI, geI, negI, isD, isnotD, isNone, lenD, listD, tupleD, intD, absD, max2D, min2D, isiD, isiD2, h]
  cases isT T "int" <;> simp only [mb, mr, mo, nameM, conM, binM, unM, boolM, ifM, DL.andM, DL.orM, DL.notM, andV, orV, notV, chainM, nilA, consA, dvs, dv, ownAt, fzs, lstM, tupM, callM, callP, permL, fzv, seqS, skipS, ifS, setS, asg, freeAt, retS, retV, dropS, frz, frzS, asgS, nilG, consG, tupG, subG, listAt, methM, augS, augSubS, forS, seqM, treeV, startD, endV, bodyF, bodyI, startI, ioAt, slM, partM, bors, callL, callI, callO, DL.flatV, DL.flat, List.filterMap_cons, List.filterMap_nil, List.map_cons, List.map_nil, List.getElem?_cons_zero, List.getElem?_cons_succ, List.getElem?_nil, List.set_cons_zero, List.set_cons_succ, List.cons_append, List.nil_append, List.length_cons, List.length_nil, Option.bind_some, Option.bind_none, Option.map_some, Option.map_none, Nat.reduceSub, Nat.reduceAdd, List.replicate_succ, List.replicate_zero, Bool.not_true, Bool.not_false, if_true, if_false, Bool.false_eq_true, reduceIte, decide_true, decide_false, Nat.reduceLT, Nat.reduceLeDiff, reduceCtorEq, Option.some.injEq, Prod.mk.injEq, itemsOf, enumA, rngM1, rngM2, zipM, intB, addD, subI, mulD, fdivD, modD, powD, ltI, leI, gtI, geI, negI, isD, isnotD, isNone, lenD, listD, tupleD, intD, absD, max2D, min2D, isiD, isiD2, h] <;> rfl
theorem r_law_is_integer {d : D} (h : ty0 d) : m__law_is_integer [d] = some (.fz (.bool (isI d))) := by
  obtain ⟨T, h⟩ := h
  rw [← isT_int h]
  simp only [m__law_is_integer, g__law_is_integer, g__law_is_integer_s1, mb, mr, mo, nameM, conM, binM, unM, boolM, ifM, DL.andM, DL.orM, DL.notM, andV, orV, notV, chainM, nilA, consA, dvs, dv, ownAt, fzs, lstM, tupM, callM, callP, permL, fzv, seqS, skipS, ifS, setS, asg, freeAt, retS, retV, dropS, frz, frzS, asgS, nilG, consG, tupG, subG, listAt, methM, augS, augSubS, forS, seqM, treeV, startD, endV, bodyF, bodyI, startI, ioAt, slM, partM, bors, callL, callI, callO, DL.flatV, DL.flat, List.filterMap_cons, List.filterMap_nil, List.map_cons, List.map_nil, List.getElem?_cons_zero, List.getElem?_cons_succ, List.getElem?_nil, List.set_cons_zero, List.set_cons_succ, List.cons_append, List.nil_append, List.length_cons, List.length_nil, Option.bind_some, Option.bind_none, Option.map_some, Option.map_none, Nat.reduceSub, Nat.reduceAdd, List.replicate_succ, List.replicate_zero, Bool.not_true, Bool.not_false, if_true, if_false, Bool.false_eq_true, reduceIte, decide_true, decide_false, Nat.reduceLT, Nat.reduceLeDiff, reduceCtorEq, Option.some.injEq, Prod.mk.injEq, itemsOf, enumA, rngM1, rngM2, zipM, intB, addD, subI, mulD, fdivD, modD, powD, ltI, leI, gtI, geI, negI, isD, isnotD, isNone, lenD, listD, tupleD, intD, absD, max2D, min2D, isiD, isiD2, h]
  cases isT T "int" <;> simp only [mb, mr, mo, nameM, conM, binM, unM, boolM, ifM, DL.andM, DL.orM, DL.notM, andV, orV, notV, chainM, nilA, consA, dvs, dv, ownAt, fzs, lstM, tupM, callM, callP, permL, fzv, seqS, skipS, ifS, setS, asg, freeAt, retS, retV, dropS, frz, frzS, asgS, nilG, consG, tupG, subG, listAt, methM, augS, augSubS, forS, seqM, treeV, startD, endV, bodyF, bodyI, startI, ioAt, slM, partM, bors, callL, callI, callO, DL.flatV, DL.flat, List.filterMap_cons, List.filterMap_nil, List.map_cons, List.map_nil, List.getElem?_cons_zero, List.getElem?_cons_succ, List.getElem?_nil, List.set_cons_zero, List.set_cons_succ, List.cons_append, List.nil_append, List.length_cons, List.length_nil, Option.bind_some, Option.bind_none, Option.map_some, Option.map_none, Nat.reduceSub, Nat.reduceAdd, List.replicate_succ, List.replicate_zero, Bool.not_true, Bool.not_false, if_true, if_false, Bool.false_eq_true, reduceIte, decide_true, decide_false, Nat.reduceLT, Nat.reduceLeDiff, reduceCtorEq, Option.some.injEq, Prod.mk.injEq, itemsOf, enumA, rngM1, rngM2, zipM, intB, addD, subI, mulD, fdivD, modD, powD, ltI, leI, gtI, geI, negI, isD, isnotD, isNone, lenD, listD, tupleD, intD, absD, max2D, min2D, isiD, isiD2, h] <;> rfl
theorem isi2 {d : D} (h : ty0 d) : isiD2 "list" "tuple" d = some (.fz (.bool (seq? d).isSome)) := by
  obtain ⟨T, h⟩ := h
  unfold isiD2
  rw [h, ← isT_seq h]
  rfl
theorem r_is_list {d : D} (h : ty0 d) : m_is_list [d] = some (.fz (.bool (seq? d).isSome)) := by
  simp only [m_is_list, g_is_list, g_is_list_s1, mb, mr, mo, nameM, conM, binM, unM, boolM, ifM, DL.andM, DL.orM, DL.notM, andV, orV, notV, chainM, nilA, consA, dvs, dv, ownAt, fzs, lstM, tupM, callM, callP, permL, fzv, seqS, skipS, ifS, setS, asg, freeAt, retS, retV, dropS, frz, frzS, asgS, nilG, consG, tupG, subG, listAt, methM, augS, augSubS, forS, seqM, treeV, startD, endV, bodyF, bodyI, startI, ioAt, slM, partM, bors, callL, callI, callO, DL.flatV, DL.flat, List.filterMap_cons, List.filterMap_nil, List.map_cons, List.map_nil, List.getElem?_cons_zero, List.getElem?_cons_succ, List.getElem?_nil, List.set_cons_zero, List.set_cons_succ, List.cons_append, List.nil_append, List.length_cons, List.length_nil, Option.bind_some, Option.bind_none, Option.map_some, Option.map_none, Nat.reduceSub, Nat.reduceAdd, List.replicate_succ, List.replicate_zero, Bool.not_true, Bool.not_false, if_true, if_false, Bool.false_eq_true, reduceIte, decide_true, decide_false, Nat.reduceLT, Nat.reduceLeDiff, reduceCtorEq, Option.some.injEq, Prod.mk.injEq, isi2 h]
theorem it_seq {δ : DS} {i : Nat} {d : D} {l : List D} (h : seq? d = some l) (hd : δ[i]? = some (.dat d)) : seqM (nameM i) δ = some (l.map (fun x => x), δ) := by
  rw [List.map_id']
  rcases seq_cases h with rfl | rfl <;> simp only [mb, mr, mo, nameM, conM, binM, unM, boolM, ifM, DL.andM, DL.orM, DL.notM, andV, orV, notV, chainM, nilA, consA, dvs, dv, ownAt, fzs, lstM, tupM, callM, callP, permL, fzv, seqS, skipS, ifS, setS, asg, fr_z_un, fr_z_dat, fr_z_rw, fr_z_own, fr_s, turnF, retS, retV, dropS, frz, frzS, asgS, nilG, consG, tupG, subG, listAt, methM, augS, augSubS, forS, seqM, treeV, startD, endV, bodyF, bodyI, startI, ioAt, slM, partM, bors, callL, callI, callO, DL.flatV, DL.flat, List.filterMap_cons, List.filterMap_nil, List.map_cons, List.map_nil, List.getElem?_cons_zero, List.getElem?_cons_succ, List.getElem?_nil, List.set_cons_zero, List.set_cons_succ, List.cons_append, List.nil_append, List.length_cons, List.length_nil, Option.bind_some, Option.bind_none, Option.map_some, Option.map_none, Nat.reduceSub, Nat.reduceAdd, List.replicate_succ, List.replicate_zero, Bool.not_true, Bool.not_false, if_true, if_false, Bool.false_eq_true, reduceIte, decide_true, decide_false, Nat.reduceLT, Nat.reduceLeDiff, reduceCtorEq, Option.some.injEq, Prod.mk.injEq, hd, itemsOf]
theorem c_line {d : D} {l : List D} (hl : seq? d = some l) (hz : l.length ≤ 13) (ht : ∀ x ∈ l, ty0 x) : g_line_in_c1 [.dat d, .un] = some (.ow (.list (l.map fun x => .bool (isI x))), [.dat d, .un]) := by
  unfold g_line_in_c1
  refine comp_one l (fun x => x) _ (it_seq hl rfl) rfl (by omega) fun x hx => ⟨.fz (.bool (isI x)), ?_, rfl⟩
  simp only [mb, mr, mo, nameM, conM, binM, unM, boolM, ifM, DL.andM, DL.orM, DL.notM, andV, orV, notV, chainM, nilA, consA, dvs, dv, ownAt, fzs, lstM, tupM, callM, callP, permL, fzv, seqS, skipS, ifS, setS, asg, fr_z_un, fr_z_dat, fr_z_rw, fr_z_own, fr_s, turnF, retS, retV, dropS, frz, frzS, asgS, nilG, consG, tupG, subG, listAt, methM, augS, augSubS, forS, seqM, treeV, startD, endV, bodyF, bodyI, startI, ioAt, slM, partM, bors, callL, callI, callO, DL.flatV, DL.flat, List.filterMap_cons, List.filterMap_nil, List.map_cons, List.map_nil, List.getElem?_cons_zero, List.getElem?_cons_succ, List.getElem?_nil, List.set_cons_zero, List.set_cons_succ, List.cons_append, List.nil_append, List.length_cons, List.length_nil, Option.bind_some, Option.bind_none, Option.map_some, Option.map_none, Nat.reduceSub, Nat.reduceAdd, List.replicate_succ, List.replicate_zero, Bool.not_true, Bool.not_false, if_true, if_false, Bool.false_eq_true, reduceIte, decide_true, decide_false, Nat.reduceLT, Nat.reduceLeDiff, reduceCtorEq, Option.some.injEq, Prod.mk.injEq, r_is_integer (ht x hx)]
theorem c_law_line {d : D} {l : List D} (hl : seq? d = some l) (hz : l.length ≤ 13) (ht : ∀ x ∈ l, ty0 x) : g__law_is_line_c1 [.dat d, .un] = some (.ow (.list (l.map fun x => .bool (isI x))), [.dat d, .un]) := by
  unfold g__law_is_line_c1
  refine comp_one l (fun x => x) _ (it_seq hl rfl) rfl (by omega) fun x hx => ⟨.fz (.bool (isI x)), ?_, rfl⟩
  simp only [mb, mr, mo, nameM, conM, binM, unM, boolM, ifM, DL.andM, DL.orM, DL.notM, andV, orV, notV, chainM, nilA, consA, dvs, dv, ownAt, fzs, lstM, tupM, callM, callP, permL, fzv, seqS, skipS, ifS, setS, asg, fr_z_un, fr_z_dat, fr_z_rw, fr_z_own, fr_s, turnF, retS, retV, dropS, frz, frzS, asgS, nilG, consG, tupG, subG, listAt, methM, augS, augSubS, forS, seqM, treeV, startD, endV, bodyF, bodyI, startI, ioAt, slM, partM, bors, callL, callI, callO, DL.flatV, DL.flat, List.filterMap_cons, List.filterMap_nil, List.map_cons, List.map_nil, List.getElem?_cons_zero, List.getElem?_cons_succ, List.getElem?_nil, List.set_cons_zero, List.set_cons_succ, List.cons_append, List.nil_append, List.length_cons, List.length_nil, Option.bind_some, Option.bind_none, Option.map_some, Option.map_none, Nat.reduceSub, Nat.reduceAdd, List.replicate_succ, List.replicate_zero, Bool.not_true, Bool.not_false, if_true, if_false, Bool.false_eq_true, reduceIte, decide_true, decide_false, Nat.reduceLT, Nat.reduceLeDiff, reduceCtorEq, Option.some.injEq, Prod.mk.injEq, r_law_is_integer (ht x hx)]
theorem allD_isI (l : List D) : allD [.list (l.map fun x => .bool (isI x))] = some (.fz (.bool (l.all isI))) := by
  simp only [allD, boolsOf_isI, Option.bind_some, List.all_map, Function.comp_def, id]
/-- what both walks of a value want to know -/
structure Lk (d : D) : Prop where
  out : seq? d = none → lineB d = false
  long : ∀ l, seq? d = some l → 13 < l.length → lineB d = false
  odd : ∀ l, seq? d = some l → l.all isI = false → lineB d = false
  nil : seq? d = some [] → lineB d = true
  last : ∀ l i, seq? d = some (l ++ [.int i]) → (l ++ [PyData.int i]).length ≤ 13 → (l ++ [PyData.int i]).all isI = true → lineB d = !decide (i = 0)
theorem lk (d : D) : Lk d where
  out h := by unfold lineB; rw [h]
  long l h hz := by unfold lineB; rw [h]; simp [show ¬ l.length ≤ 13 from by omega]
  odd l h ha := by unfold lineB; rw [h]; simp only [ha, Bool.and_false, Bool.false_and]
  nil h := by unfold lineB; rw [h]; rfl
  last l i h hz ha := by
    unfold lineB
    rw [h]
    simp only [decide_eq_true hz, ha, List.getLast?_append, List.getLast?_singleton, Option.some_or, isNil, Bool.and_true, Bool.true_and]
theorem sr_line {d : D} (h : okV d) : m_is_line [d] = some (.fz (.bool (lineB d))) := by
  have L := lk d
  have hl := r_is_list h.1
  cases hq : seq? d with
  | none =>
    rw [hq] at hl
    rw [L.out hq]
    simp only [m_is_line, g_is_line, g_is_line_s1, m_line_in, g_line_in, g_line_in_s1, g_line_in_s2, mb, mr, mo, nameM, conM, binM, unM, boolM, ifM, DL.andM, DL.orM, DL.notM, andV, orV, notV, chainM, nilA, consA, dvs, dv, ownAt, fzs, lstM, tupM, callM, callP, permL, fzv, seqS, skipS, ifS, setS, asg, fr_z_un, fr_z_dat, fr_z_rw, fr_z_own, fr_s, turnF, retS, retV, dropS, frz, frzS, asgS, nilG, consG, tupG, subG, listAt, methM, augS, augSubS, forS, seqM, treeV, startD, endV, bodyF, bodyI, startI, ioAt, slM, partM, bors, callL, callI, callO, DL.flatV, DL.flat, List.filterMap_cons, List.filterMap_nil, List.map_cons, List.map_nil, List.getElem?_cons_zero, List.getElem?_cons_succ, List.getElem?_nil, List.set_cons_zero, List.set_cons_succ, List.cons_append, List.nil_append, List.length_cons, List.length_nil, Option.bind_some, Option.bind_none, Option.map_some, Option.map_none, Nat.reduceSub, Nat.reduceAdd, List.replicate_succ, List.replicate_zero, Bool.not_true, Bool.not_false, if_true, if_false, Bool.false_eq_true, reduceIte, decide_true, decide_false, Nat.reduceLT, Nat.reduceLeDiff, reduceCtorEq, Option.some.injEq, Prod.mk.injEq, hl, Option.isSome, isnotD, isNone]
  | some l =>
    rw [hq] at hl
    have hlen := len_seq hq
    by_cases hz : l.length ≤ 13
    · have hgt : decide (((12 : Int) + 1) < (l.length : Int)) = false := decide_eq_false (by omega)
      have hc := c_line hq hz (h.2 l hq)
      have hal := allD_isI l
      generalize (l.map fun x => PyData.bool (isI x)) = bs at hc hal
      cases ha : l.all isI with
      | false =>
        rw [ha] at hal
        rw [L.odd l hq ha]
        generalize ((l.length : Nat) : Int) = k at hlen hgt
        simp only [m_is_line, g_is_line, g_is_line_s1, m_line_in, g_line_in, g_line_in_s1, g_line_in_s2, mb, mr, mo, nameM, conM, binM, unM, boolM, ifM, DL.andM, DL.orM, DL.notM, andV, orV, notV, chainM, nilA, consA, dvs, dv, ownAt, fzs, lstM, tupM, callM, callP, permL, fzv, seqS, skipS, ifS, setS, asg, fr_z_un, fr_z_dat, fr_z_rw, fr_z_own, fr_s, turnF, retS, retV, dropS, frz, frzS, asgS, nilG, consG, tupG, subG, listAt, methM, augS, augSubS, forS, seqM, treeV, startD, endV, bodyF, bodyI, startI, ioAt, slM, partM, bors, callL, callI, callO, DL.flatV, DL.flat, List.filterMap_cons, List.filterMap_nil, List.map_cons, List.map_nil, List.getElem?_cons_zero, List.getElem?_cons_succ, List.getElem?_nil, List.set_cons_zero, List.set_cons_succ, List.cons_append, List.nil_append, List.length_cons, List.length_nil, Option.bind_some, Option.bind_none, Option.map_some, Option.map_none, Nat.reduceSub, Nat.reduceAdd, List.replicate_succ, List.replicate_zero, Bool.not_true, Bool.not_false, if_true, if_false, Bool.false_eq_true, reduceIte, decide_true, decide_false, Nat.reduceLT, Nat.reduceLeDiff, reduceCtorEq, Option.some.injEq, Prod.mk.injEq, hl, Option.isSome, isnotD, isNone, hlen, gtI, addD, intB, hgt, hc, hal]
      | true =>
        rw [ha] at hal
        have hld : listD [d] = some (.ow (.list l)) := by rcases seq_cases hq with rfl | rfl <;> rfl
        rcases List.eq_nil_or_concat l with rfl | ⟨ys, y, rfl⟩
        · rw [L.nil hq]
          have hlen : lenD [d] = some (.fz (.int 0)) := hlen
          simp only [m_is_line, g_is_line, g_is_line_s1, m_line_in, g_line_in, g_line_in_s1, g_line_in_s2, mb, mr, mo, nameM, conM, binM, unM, boolM, ifM, DL.andM, DL.orM, DL.notM, andV, orV, notV, chainM, nilA, consA, dvs, dv, ownAt, fzs, lstM, tupM, callM, callP, permL, fzv, seqS, skipS, ifS, setS, asg, fr_z_un, fr_z_dat, fr_z_rw, fr_z_own, fr_s, turnF, retS, retV, dropS, frz, frzS, asgS, nilG, consG, tupG, subG, listAt, methM, augS, augSubS, forS, seqM, treeV, startD, endV, bodyF, bodyI, startI, ioAt, slM, partM, bors, callL, callI, callO, DL.flatV, DL.flat, List.filterMap_cons, List.filterMap_nil, List.map_cons, List.map_nil, List.getElem?_cons_zero, List.getElem?_cons_succ, List.getElem?_nil, List.set_cons_zero, List.set_cons_succ, List.cons_append, List.nil_append, List.length_cons, List.length_nil, Option.bind_some, Option.bind_none, Option.map_some, Option.map_none, Nat.reduceSub, Nat.reduceAdd, List.replicate_succ, List.replicate_zero, Bool.not_true, Bool.not_false, if_true, if_false, Bool.false_eq_true, reduceIte, decide_true, decide_false, Nat.reduceLT, Nat.reduceLeDiff, reduceCtorEq, Option.some.injEq, Prod.mk.injEq, hl, Option.isSome, isnotD, isNone, hlen, gtI, addD, intB, show decide (((12 : Int) + 1) < 0) = false from rfl, hc, hal, eqD_int, hld]
        · rw [List.concat_eq_append] at *
          have hy : isI y = true := by simp at ha; exact ha.2
          have hix := ix_last hq
          cases y with
          | int i =>
            rw [L.last ys i hq hz ha]
            have h0 : decide (((ys ++ [PyData.int i]).length : Int) = 0) = false := decide_eq_false (by simp; omega)
            generalize (((ys ++ [PyData.int i]).length : Nat) : Int) = k at hlen hgt h0
            by_cases hi : i = 0
            · subst hi
              simp only [m_is_line, g_is_line, g_is_line_s1, m_line_in, g_line_in, g_line_in_s1, g_line_in_s2, mb, mr, mo, nameM, conM, binM, unM, boolM, ifM, DL.andM, DL.orM, DL.notM, andV, orV, notV, chainM, nilA, consA, dvs, dv, ownAt, fzs, lstM, tupM, callM, callP, permL, fzv, seqS, skipS, ifS, setS, asg, fr_z_un, fr_z_dat, fr_z_rw, fr_z_own, fr_s, turnF, retS, retV, dropS, frz, frzS, asgS, nilG, consG, tupG, subG, listAt, methM, augS, augSubS, forS, seqM, treeV, startD, endV, bodyF, bodyI, startI, ioAt, slM, partM, bors, callL, callI, callO, DL.flatV, DL.flat, List.filterMap_cons, List.filterMap_nil, List.map_cons, List.map_nil, List.getElem?_cons_zero, List.getElem?_cons_succ, List.getElem?_nil, List.set_cons_zero, List.set_cons_succ, List.cons_append, List.nil_append, List.length_cons, List.length_nil, Option.bind_some, Option.bind_none, Option.map_some, Option.map_none, Nat.reduceSub, Nat.reduceAdd, List.replicate_succ, List.replicate_zero, Bool.not_true, Bool.not_false, if_true, if_false, Bool.false_eq_true, reduceIte, decide_true, decide_false, Nat.reduceLT, Nat.reduceLeDiff, reduceCtorEq, Option.some.injEq, Prod.mk.injEq, hl, Option.isSome, isnotD, isNone, hlen, gtI, addD, intB, hgt, hc, hal, eqD_int, h0, negI, hix, neD_int]
            · simp only [m_is_line, g_is_line, g_is_line_s1, m_line_in, g_line_in, g_line_in_s1, g_line_in_s2, mb, mr, mo, nameM, conM, binM, unM, boolM, ifM, DL.andM, DL.orM, DL.notM, andV, orV, notV, chainM, nilA, consA, dvs, dv, ownAt, fzs, lstM, tupM, callM, callP, permL, fzv, seqS, skipS, ifS, setS, asg, fr_z_un, fr_z_dat, fr_z_rw, fr_z_own, fr_s, turnF, retS, retV, dropS, frz, frzS, asgS, nilG, consG, tupG, subG, listAt, methM, augS, augSubS, forS, seqM, treeV, startD, endV, bodyF, bodyI, startI, ioAt, slM, partM, bors, callL, callI, callO, DL.flatV, DL.flat, List.filterMap_cons, List.filterMap_nil, List.map_cons, List.map_nil, List.getElem?_cons_zero, List.getElem?_cons_succ, List.getElem?_nil, List.set_cons_zero, List.set_cons_succ, List.cons_append, List.nil_append, List.length_cons, List.length_nil, Option.bind_some, Option.bind_none, Option.map_some, Option.map_none, Nat.reduceSub, Nat.reduceAdd, List.replicate_succ, List.replicate_zero, Bool.not_true, Bool.not_false, if_true, if_false, Bool.false_eq_true, reduceIte, decide_true, decide_false, Nat.reduceLT, Nat.reduceLeDiff, reduceCtorEq, Option.some.injEq, Prod.mk.injEq, hl, Option.isSome, isnotD, isNone, hlen, gtI, addD, intB, hgt, hc, hal, eqD_int, h0, negI, hix, neD_int, decide_eq_false hi, hld]
          | _ => cases hy
    · have hgt : decide (((12 : Int) + 1) < (l.length : Int)) = true := decide_eq_true (by omega)
      rw [L.long l hq (by omega)]
      generalize ((l.length : Nat) : Int) = k at hlen hgt
      simp only [m_is_line, g_is_line, g_is_line_s1, m_line_in, g_line_in, g_line_in_s1, g_line_in_s2, mb, mr, mo, nameM, conM, binM, unM, boolM, ifM, DL.andM, DL.orM, DL.notM, andV, orV, notV, chainM, nilA, consA, dvs, dv, ownAt, fzs, lstM, tupM, callM, callP, permL, fzv, seqS, skipS, ifS, setS, asg, fr_z_un, fr_z_dat, fr_z_rw, fr_z_own, fr_s, turnF, retS, retV, dropS, frz, frzS, asgS, nilG, consG, tupG, subG, listAt, methM, augS, augSubS, forS, seqM, treeV, startD, endV, bodyF, bodyI, startI, ioAt, slM, partM, bors, callL, callI, callO, DL.flatV, DL.flat, List.filterMap_cons, List.filterMap_nil, List.map_cons, List.map_nil, List.getElem?_cons_zero, List.getElem?_cons_succ, List.getElem?_nil, List.set_cons_zero, List.set_cons_succ, List.cons_append, List.nil_append, List.length_cons, List.length_nil, Option.bind_some, Option.bind_none, Option.map_some, Option.map_none, Nat.reduceSub, Nat.reduceAdd, List.replicate_succ, List.replicate_zero, Bool.not_true, Bool.not_false, if_true, if_false, Bool.false_eq_true, reduceIte, decide_true, decide_false, Nat.reduceLT, Nat.reduceLeDiff, reduceCtorEq, Option.some.injEq, Prod.mk.injEq, hl, Option.isSome, isnotD, isNone, hlen, gtI, addD, intB, hgt]
theorem sr_law_line {d : D} (h : okV d) : m__law_is_line [d] = some (.fz (.bool (lineB d))) := by
  have L := lk d
  have hl := isi2 h.1
  cases hq : seq? d with
  | none =>
    rw [hq] at hl
    rw [L.out hq]
    simp only [m__law_is_line, g__law_is_line, g__law_is_line_s1, g__law_is_line_s2, mb, mr, mo, nameM, conM, binM, unM, boolM, ifM, DL.andM, DL.orM, DL.notM, andV, orV, notV, chainM, nilA, consA, dvs, dv, ownAt, fzs, lstM, tupM, callM, callP, permL, fzv, seqS, skipS, ifS, setS, asg, fr_z_un, fr_z_dat, fr_z_rw, fr_z_own, fr_s, turnF, retS, retV, dropS, frz, frzS, asgS, nilG, consG, tupG, subG, listAt, methM, augS, augSubS, forS, seqM, treeV, startD, endV, bodyF, bodyI, startI, ioAt, slM, partM, bors, callL, callI, callO, DL.flatV, DL.flat, List.filterMap_cons, List.filterMap_nil, List.map_cons, List.map_nil, List.getElem?_cons_zero, List.getElem?_cons_succ, List.getElem?_nil, List.set_cons_zero, List.set_cons_succ, List.cons_append, List.nil_append, List.length_cons, List.length_nil, Option.bind_some, Option.bind_none, Option.map_some, Option.map_none, Nat.reduceSub, Nat.reduceAdd, List.replicate_succ, List.replicate_zero, Bool.not_true, Bool.not_false, if_true, if_false, Bool.false_eq_true, reduceIte, decide_true, decide_false, Nat.reduceLT, Nat.reduceLeDiff, reduceCtorEq, Option.some.injEq, Prod.mk.injEq, hl, Option.isSome]
  | some l =>
    rw [hq] at hl
    have hlen := len_seq hq
    by_cases hz : l.length ≤ 13
    · have hgt : decide ((13 : Int) < (l.length : Int)) = false := decide_eq_false (by omega)
      have hc := c_law_line hq hz (h.2 l hq)
      have hal := allD_isI l
      generalize (l.map fun x => PyData.bool (isI x)) = bs at hc hal
      cases ha : l.all isI with
      | false =>
        rw [ha] at hal
        rw [L.odd l hq ha]
        generalize ((l.length : Nat) : Int) = k at hlen hgt
        simp only [m__law_is_line, g__law_is_line, g__law_is_line_s1, g__law_is_line_s2, mb, mr, mo, nameM, conM, binM, unM, boolM, ifM, DL.andM, DL.orM, DL.notM, andV, orV, notV, chainM, nilA, consA, dvs, dv, ownAt, fzs, lstM, tupM, callM, callP, permL, fzv, seqS, skipS, ifS, setS, asg, fr_z_un, fr_z_dat, fr_z_rw, fr_z_own, fr_s, turnF, retS, retV, dropS, frz, frzS, asgS, nilG, consG, tupG, subG, listAt, methM, augS, augSubS, forS, seqM, treeV, startD, endV, bodyF, bodyI, startI, ioAt, slM, partM, bors, callL, callI, callO, DL.flatV, DL.flat, List.filterMap_cons, List.filterMap_nil, List.map_cons, List.map_nil, List.getElem?_cons_zero, List.getElem?_cons_succ, List.getElem?_nil, List.set_cons_zero, List.set_cons_succ, List.cons_append, List.nil_append, List.length_cons, List.length_nil, Option.bind_some, Option.bind_none, Option.map_some, Option.map_none, Nat.reduceSub, Nat.reduceAdd, List.replicate_succ, List.replicate_zero, Bool.not_true, Bool.not_false, if_true, if_false, Bool.false_eq_true, reduceIte, decide_true, decide_false, Nat.reduceLT, Nat.reduceLeDiff, reduceCtorEq, Option.some.injEq, Prod.mk.injEq, hl, Option.isSome, hlen, gtI, intB, hgt, hc, hal]
      | true =>
        rw [ha] at hal
        rcases List.eq_nil_or_concat l with rfl | ⟨ys, y, rfl⟩
        · rw [L.nil hq]
          have hlen : lenD [d] = some (.fz (.int 0)) := hlen
          simp only [m__law_is_line, g__law_is_line, g__law_is_line_s1, g__law_is_line_s2, mb, mr, mo, nameM, conM, binM, unM, boolM, ifM, DL.andM, DL.orM, DL.notM, andV, orV, notV, chainM, nilA, consA, dvs, dv, ownAt, fzs, lstM, tupM, callM, callP, permL, fzv, seqS, skipS, ifS, setS, asg, fr_z_un, fr_z_dat, fr_z_rw, fr_z_own, fr_s, turnF, retS, retV, dropS, frz, frzS, asgS, nilG, consG, tupG, subG, listAt, methM, augS, augSubS, forS, seqM, treeV, startD, endV, bodyF, bodyI, startI, ioAt, slM, partM, bors, callL, callI, callO, DL.flatV, DL.flat, List.filterMap_cons, List.filterMap_nil, List.map_cons, List.map_nil, List.getElem?_cons_zero, List.getElem?_cons_succ, List.getElem?_nil, List.set_cons_zero, List.set_cons_succ, List.cons_append, List.nil_append, List.length_cons, List.length_nil, Option.bind_some, Option.bind_none, Option.map_some, Option.map_none, Nat.reduceSub, Nat.reduceAdd, List.replicate_succ, List.replicate_zero, Bool.not_true, Bool.not_false, if_true, if_false, Bool.false_eq_true, reduceIte, decide_true, decide_false, Nat.reduceLT, Nat.reduceLeDiff, reduceCtorEq, Option.some.injEq, Prod.mk.injEq, hl, Option.isSome, hlen, gtI, intB, show decide ((13 : Int) < 0) = false from rfl, hc, hal, eqD_int]
        · rw [List.concat_eq_append] at *
          have hy : isI y = true := by simp at ha; exact ha.2
          have hix := ix_last hq
          cases y with
          | int i =>
            rw [L.last ys i hq hz ha]
            have h0 : decide (((ys ++ [PyData.int i]).length : Int) = 0) = false := decide_eq_false (by simp; omega)
            generalize (((ys ++ [PyData.int i]).length : Nat) : Int) = k at hlen hgt h0
            simp only [m__law_is_line, g__law_is_line, g__law_is_line_s1, g__law_is_line_s2, mb, mr, mo, nameM, conM, binM, unM, boolM, ifM, DL.andM, DL.orM, DL.notM, andV, orV, notV, chainM, nilA, consA, dvs, dv, ownAt, fzs, lstM, tupM, callM, callP, permL, fzv, seqS, skipS, ifS, setS, asg, fr_z_un, fr_z_dat, fr_z_rw, fr_z_own, fr_s, turnF, retS, retV, dropS, frz, frzS, asgS, nilG, consG, tupG, subG, listAt, methM, augS, augSubS, forS, seqM, treeV, startD, endV, bodyF, bodyI, startI, ioAt, slM, partM, bors, callL, callI, callO, DL.flatV, DL.flat, List.filterMap_cons, List.filterMap_nil, List.map_cons, List.map_nil, List.getElem?_cons_zero, List.getElem?_cons_succ, List.getElem?_nil, List.set_cons_zero, List.set_cons_succ, List.cons_append, List.nil_append, List.length_cons, List.length_nil, Option.bind_some, Option.bind_none, Option.map_some, Option.map_none, Nat.reduceSub, Nat.reduceAdd, List.replicate_succ, List.replicate_zero, Bool.not_true, Bool.not_false, if_true, if_false, Bool.false_eq_true, reduceIte, decide_true, decide_false, Nat.reduceLT, Nat.reduceLeDiff, reduceCtorEq, Option.some.injEq, Prod.mk.injEq, hl, Option.isSome, hlen, gtI, intB, hgt, hc, hal, eqD_int, h0, negI, hix, neD_int]
          | _ => cases hy
    · have hgt : decide ((13 : Int) < (l.length : Int)) = true := decide_eq_true (by omega)
      rw [L.long l hq (by omega)]
      generalize ((l.length : Nat) : Int) = k at hlen hgt
      simp only [m__law_is_line, g__law_is_line, g__law_is_line_s1, g__law_is_line_s2, mb, mr, mo, nameM, conM, binM, unM, boolM, ifM, DL.andM, DL.orM, DL.notM, andV, orV, notV, chainM, nilA, consA, dvs, dv, ownAt, fzs, lstM, tupM, callM, callP, permL, fzv, seqS, skipS, ifS, setS, asg, fr_z_un, fr_z_dat, fr_z_rw, fr_z_own, fr_s, turnF, retS, retV, dropS, frz, frzS, asgS, nilG, consG, tupG, subG, listAt, methM, augS, augSubS, forS, seqM, treeV, startD, endV, bodyF, bodyI, startI, ioAt, slM, partM, bors, callL, callI, callO, DL.flatV, DL.flat, List.filterMap_cons, List.filterMap_nil, List.map_cons, List.map_nil, List.getElem?_cons_zero, List.getElem?_cons_succ, List.getElem?_nil, List.set_cons_zero, List.set_cons_succ, List.cons_append, List.nil_append, List.length_cons, List.length_nil, Option.bind_some, Option.bind_none, Option.map_some, Option.map_none, Nat.reduceSub, Nat.reduceAdd, List.replicate_succ, List.replicate_zero, Bool.not_true, Bool.not_false, if_true, if_false, Bool.false_eq_true, reduceIte, decide_true, decide_false, Nat.reduceLT, Nat.reduceLeDiff, reduceCtorEq, Option.some.injEq, Prod.mk.injEq, hl, Option.isSome, hlen, gtI, intB, hgt]
end K16
end
section
set_option maxRecDepth 100000
set_option exponentiation.threshold 100000
set_option maxHeartbeats 1000000
namespace K16
open PySem PySem.Spec L2 DL
/-! primes -/
theorem two_turns {i : Int} (h0 : 0 ≤ i) (h1 : i < 10000) : ∀ (n : Nat) (p : Int), 2 ≤ p → (101 - p).toNat < n → p ≤ 101 →
    (∃ q, whileN g_has_divisor_t1 g_has_divisor_b1 n [.dat (.int i), .dat (.int p)] = some (.nx, q) ∧ whileN g__law_is_prime_t1 g__law_is_prime_b1 n [.dat (.int i), .dat (.int p)] = some (.nx, q)) ∨
    (∃ q, whileN g_has_divisor_t1 g_has_divisor_b1 n [.dat (.int i), .dat (.int p)] = some (.rt (.fz (.bool true)), q) ∧ whileN g__law_is_prime_t1 g__law_is_prime_b1 n [.dat (.int i), .dat (.int p)] = some (.rt (.fz (.bool false)), q))
  | 0, _, _, h, _ => absurd h (Nat.not_lt_zero _)
  | n + 1, p, hp, hn, hp2 => by
    have hpp : mulD (.int p) (.int p) = some (.fz (.int (p * p))) := mulD_big (by omega) (by omega)
    by_cases hc : p * p ≤ i
    · have hp3 : p ≤ 99 := by
        by_cases h : p ≤ 99
        · exact h
        · have : 100 * 100 ≤ p * p := Int.mul_le_mul (by omega) (by omega) (by omega) (by omega)
          omega
      have ed : i.fdiv p = i / p := Int.fdiv_eq_ediv_of_nonneg _ (by omega)
      have hd : fdivD (.int i) (.int p) = some (.fz (.int (i / p))) := by rw [fdivD_big (by omega) (by omega), ed]
      have q0 : 0 ≤ i / p := Int.ediv_nonneg h0 (by omega)
      have q1 : i / p ≤ i := Int.ediv_le_self _ h0
      generalize i / p = q at hd q0 q1
      have hm : mulD (.int q) (.int p) = some (.fz (.int (q * p))) := mulD_big (by omega) (by omega)
      by_cases he : q * p = i
      · refine .inr ⟨[.dat (.int i), .dat (.int p)], ?_, ?_⟩
        · simp only [whileN, g_has_divisor_t1, g_has_divisor_b1, mb, mr, mo, nameM, conM, binM, unM, boolM, ifM, DL.andM, DL.orM, DL.notM, andV, orV, notV, chainM, nilA, consA, dvs, dv, ownAt, fzs, lstM, tupM, callM, callP, permL, fzv, seqS, skipS, ifS, setS, asg, fr_z_un, fr_z_dat, fr_z_rw, fr_z_own, fr_s, turnF, retS, retV, dropS, frz, frzS, asgS, nilG, consG, tupG, subG, listAt, methM, augS, augSubS, forS, seqM, treeV, startD, endV, bodyF, bodyI, startI, ioAt, slM, partM, bors, callL, callI, callO, DL.flatV, DL.flat, List.filterMap_cons, List.filterMap_nil, List.map_cons, List.map_nil, List.getElem?_cons_zero, List.getElem?_cons_succ, List.getElem?_nil, List.set_cons_zero, List.set_cons_succ, List.cons_append, List.nil_append, List.length_cons, List.length_nil, Option.bind_some, Option.bind_none, Option.map_some, Option.map_none, Nat.reduceSub, Nat.reduceAdd, List.replicate_succ, List.replicate_zero, Bool.not_true, Bool.not_false, if_true, if_false, Bool.false_eq_true, reduceIte, decide_true, decide_false, Nat.reduceLT, Nat.reduceLeDiff, reduceCtorEq, Option.some.injEq, Prod.mk.injEq, hpp, leI, intB, decide_eq_true hc, hd, hm, eqD_int, decide_eq_true he]
        · simp only [whileN, g__law_is_prime_t1, g__law_is_prime_b1, mb, mr, mo, nameM, conM, binM, unM, boolM, ifM, DL.andM, DL.orM, DL.notM, andV, orV, notV, chainM, nilA, consA, dvs, dv, ownAt, fzs, lstM, tupM, callM, callP, permL, fzv, seqS, skipS, ifS, setS, asg, fr_z_un, fr_z_dat, fr_z_rw, fr_z_own, fr_s, turnF, retS, retV, dropS, frz, frzS, asgS, nilG, consG, tupG, subG, listAt, methM, augS, augSubS, forS, seqM, treeV, startD, endV, bodyF, bodyI, startI, ioAt, slM, partM, bors, callL, callI, callO, DL.flatV, DL.flat, List.filterMap_cons, List.filterMap_nil, List.map_cons, List.map_nil, List.getElem?_cons_zero, List.getElem?_cons_succ, List.getElem?_nil, List.set_cons_zero, List.set_cons_succ, List.cons_append, List.nil_append, List.length_cons, List.length_nil, Option.bind_some, Option.bind_none, Option.map_some, Option.map_none, Nat.reduceSub, Nat.reduceAdd, List.replicate_succ, List.replicate_zero, Bool.not_true, Bool.not_false, if_true, if_false, Bool.false_eq_true, reduceIte, decide_true, decide_false, Nat.reduceLT, Nat.reduceLeDiff, reduceCtorEq, Option.some.injEq, Prod.mk.injEq, hpp, leI, intB, decide_eq_true hc, hd, hm, eqD_int, decide_eq_true he]
      · have a1 : g_has_divisor_b1 [.dat (.int i), .dat (.int p)] = some (.nx, [.dat (.int i), .dat (.int (p + 1))]) := by
          simp only [g_has_divisor_b1, mb, mr, mo, nameM, conM, binM, unM, boolM, ifM, DL.andM, DL.orM, DL.notM, andV, orV, notV, chainM, nilA, consA, dvs, dv, ownAt, fzs, lstM, tupM, callM, callP, permL, fzv, seqS, skipS, ifS, setS, asg, fr_z_un, fr_z_dat, fr_z_rw, fr_z_own, fr_s, turnF, retS, retV, dropS, frz, frzS, asgS, nilG, consG, tupG, subG, listAt, methM, augS, augSubS, forS, seqM, treeV, startD, endV, bodyF, bodyI, startI, ioAt, slM, partM, bors, callL, callI, callO, DL.flatV, DL.flat, List.filterMap_cons, List.filterMap_nil, List.map_cons, List.map_nil, List.getElem?_cons_zero, List.getElem?_cons_succ, List.getElem?_nil, List.set_cons_zero, List.set_cons_succ, List.cons_append, List.nil_append, List.length_cons, List.length_nil, Option.bind_some, Option.bind_none, Option.map_some, Option.map_none, Nat.reduceSub, Nat.reduceAdd, List.replicate_succ, List.replicate_zero, Bool.not_true, Bool.not_false, if_true, if_false, Bool.false_eq_true, reduceIte, decide_true, decide_false, Nat.reduceLT, Nat.reduceLeDiff, reduceCtorEq, Option.some.injEq, Prod.mk.injEq, hd, hm, eqD_int, decide_eq_false he, addD]
        have a2 : g__law_is_prime_b1 [.dat (.int i), .dat (.int p)] = some (.nx, [.dat (.int i), .dat (.int (p + 1))]) := by
          simp only [g__law_is_prime_b1, mb, mr, mo, nameM, conM, binM, unM, boolM, ifM, DL.andM, DL.orM, DL.notM, andV, orV, notV, chainM, nilA, consA, dvs, dv, ownAt, fzs, lstM, tupM, callM, callP, permL, fzv, seqS, skipS, ifS, setS, asg, fr_z_un, fr_z_dat, fr_z_rw, fr_z_own, fr_s, turnF, retS, retV, dropS, frz, frzS, asgS, nilG, consG, tupG, subG, listAt, methM, augS, augSubS, forS, seqM, treeV, startD, endV, bodyF, bodyI, startI, ioAt, slM, partM, bors, callL, callI, callO, DL.flatV, DL.flat, List.filterMap_cons, List.filterMap_nil, List.map_cons, List.map_nil, List.getElem?_cons_zero, List.getElem?_cons_succ, List.getElem?_nil, List.set_cons_zero, List.set_cons_succ, List.cons_append, List.nil_append, List.length_cons, List.length_nil, Option.bind_some, Option.bind_none, Option.map_some, Option.map_none, Nat.reduceSub, Nat.reduceAdd, List.replicate_succ, List.replicate_zero, Bool.not_true, Bool.not_false, if_true, if_false, Bool.false_eq_true, reduceIte, decide_true, decide_false, Nat.reduceLT, Nat.reduceLeDiff, reduceCtorEq, Option.some.injEq, Prod.mk.injEq, hd, hm, eqD_int, decide_eq_false he, addD]
        have t1 : g_has_divisor_t1 [.dat (.int i), .dat (.int p)] = some (true, [.dat (.int i), .dat (.int p)]) := by
          simp only [g_has_divisor_t1, mb, mr, mo, nameM, conM, binM, unM, boolM, ifM, DL.andM, DL.orM, DL.notM, andV, orV, notV, chainM, nilA, consA, dvs, dv, ownAt, fzs, lstM, tupM, callM, callP, permL, fzv, seqS, skipS, ifS, setS, asg, fr_z_un, fr_z_dat, fr_z_rw, fr_z_own, fr_s, turnF, retS, retV, dropS, frz, frzS, asgS, nilG, consG, tupG, subG, listAt, methM, augS, augSubS, forS, seqM, treeV, startD, endV, bodyF, bodyI, startI, ioAt, slM, partM, bors, callL, callI, callO, DL.flatV, DL.flat, List.filterMap_cons, List.filterMap_nil, List.map_cons, List.map_nil, List.getElem?_cons_zero, List.getElem?_cons_succ, List.getElem?_nil, List.set_cons_zero, List.set_cons_succ, List.cons_append, List.nil_append, List.length_cons, List.length_nil, Option.bind_some, Option.bind_none, Option.map_some, Option.map_none, Nat.reduceSub, Nat.reduceAdd, List.replicate_succ, List.replicate_zero, Bool.not_true, Bool.not_false, if_true, if_false, Bool.false_eq_true, reduceIte, decide_true, decide_false, Nat.reduceLT, Nat.reduceLeDiff, reduceCtorEq, Option.some.injEq, Prod.mk.injEq, hpp, leI, intB, decide_eq_true hc]
        have t2 : g__law_is_prime_t1 [.dat (.int i), .dat (.int p)] = some (true, [.dat (.int i), .dat (.int p)]) := by
          simp only [g__law_is_prime_t1, mb, mr, mo, nameM, conM, binM, unM, boolM, ifM, DL.andM, DL.orM, DL.notM, andV, orV, notV, chainM, nilA, consA, dvs, dv, ownAt, fzs, lstM, tupM, callM, callP, permL, fzv, seqS, skipS, ifS, setS, asg, fr_z_un, fr_z_dat, fr_z_rw, fr_z_own, fr_s, turnF, retS, retV, dropS, frz, frzS, asgS, nilG, consG, tupG, subG, listAt, methM, augS, augSubS, forS, seqM, treeV, startD, endV, bodyF, bodyI, startI, ioAt, slM, partM, bors, callL, callI, callO, DL.flatV, DL.flat, List.filterMap_cons, List.filterMap_nil, List.map_cons, List.map_nil, List.getElem?_cons_zero, List.getElem?_cons_succ, List.getElem?_nil, List.set_cons_zero, List.set_cons_succ, List.cons_append, List.nil_append, List.length_cons, List.length_nil, Option.bind_some, Option.bind_none, Option.map_some, Option.map_none, Nat.reduceSub, Nat.reduceAdd, List.replicate_succ, List.replicate_zero, Bool.not_true, Bool.not_false, if_true, if_false, Bool.false_eq_true, reduceIte, decide_true, decide_false, Nat.reduceLT, Nat.reduceLeDiff, reduceCtorEq, Option.some.injEq, Prod.mk.injEq, hpp, leI, intB, decide_eq_true hc]
        have ih := two_turns h0 h1 n (p + 1) (by omega) (by omega) (by omega)
        simp only [whileN, t1, t2, a1, a2]
        exact ih
    · refine .inl ⟨[.dat (.int i), .dat (.int p)], ?_, ?_⟩
      · simp only [whileN, g_has_divisor_t1, mb, mr, mo, nameM, conM, binM, unM, boolM, ifM, DL.andM, DL.orM, DL.notM, andV, orV, notV, chainM, nilA, consA, dvs, dv, ownAt, fzs, lstM, tupM, callM, callP, permL, fzv, seqS, skipS, ifS, setS, asg, fr_z_un, fr_z_dat, fr_z_rw, fr_z_own, fr_s, turnF, retS, retV, dropS, frz, frzS, asgS, nilG, consG, tupG, subG, listAt, methM, augS, augSubS, forS, seqM, treeV, startD, endV, bodyF, bodyI, startI, ioAt, slM, partM, bors, callL, callI, callO, DL.flatV, DL.flat, List.filterMap_cons, List.filterMap_nil, List.map_cons, List.map_nil, List.getElem?_cons_zero, List.getElem?_cons_succ, List.getElem?_nil, List.set_cons_zero, List.set_cons_succ, List.cons_append, List.nil_append, List.length_cons, List.length_nil, Option.bind_some, Option.bind_none, Option.map_some, Option.map_none, Nat.reduceSub, Nat.reduceAdd, List.replicate_succ, List.replicate_zero, Bool.not_true, Bool.not_false, if_true, if_false, Bool.false_eq_true, reduceIte, decide_true, decide_false, Nat.reduceLT, Nat.reduceLeDiff, reduceCtorEq, Option.some.injEq, Prod.mk.injEq, hpp, leI, intB, decide_eq_false hc]
      · simp only [whileN, g__law_is_prime_t1, mb, mr, mo, nameM, conM, binM, unM, boolM, ifM, DL.andM, DL.orM, DL.notM, andV, orV, notV, chainM, nilA, consA, dvs, dv, ownAt, fzs, lstM, tupM, callM, callP, permL, fzv, seqS, skipS, ifS, setS, asg, fr_z_un, fr_z_dat, fr_z_rw, fr_z_own, fr_s, turnF, retS, retV, dropS, frz, frzS, asgS, nilG, consG, tupG, subG, listAt, methM, augS, augSubS, forS, seqM, treeV, startD, endV, bodyF, bodyI, startI, ioAt, slM, partM, bors, callL, callI, callO, DL.flatV, DL.flat, List.filterMap_cons, List.filterMap_nil, List.map_cons, List.map_nil, List.getElem?_cons_zero, List.getElem?_cons_succ, List.getElem?_nil, List.set_cons_zero, List.set_cons_succ, List.cons_append, List.nil_append, List.length_cons, List.length_nil, Option.bind_some, Option.bind_none, Option.map_some, Option.map_none, Nat.reduceSub, Nat.reduceAdd, List.replicate_succ, List.replicate_zero, Bool.not_true, Bool.not_false, if_true, if_false, Bool.false_eq_true, reduceIte, decide_true, decide_false, Nat.reduceLT, Nat.reduceLeDiff, reduceCtorEq, Option.some.injEq, Prod.mk.injEq, hpp, leI, intB, decide_eq_false hc]
theorem r_prime {d : D} (h : ty0 d) : ∃ b, m_is_prime [d] = some (.fz (.bool b)) ∧ m__law_is_prime [d] = some (.fz (.bool b)) := by
  have e1 := r_is_integer h
  have e2 := r_law_is_integer h
  cases d with
  | int i =>
    have e1 : m_is_integer [.int i] = some (.fz (.bool true)) := e1
    have e2 : m__law_is_integer [.int i] = some (.fz (.bool true)) := e2
    by_cases h1 : (2 : Int) ≤ i
    · have h1' : decide ((1 : Int) < i) = true := decide_eq_true (by omega)
      by_cases h2 : i < 10000
      · rcases two_turns (i := i) (by omega) h2 fuel 2 (by omega) (by show 99 < 1000000000; omega) (by omega) with ⟨q, w1, w2⟩ | ⟨q, w1, w2⟩
        · refine ⟨true, ?_, ?_⟩
          · have : m_has_divisor [.int i] = some (.fz (.bool false)) := by
              simp only [m_has_divisor, g_has_divisor, g_has_divisor_s1, g_has_divisor_s2, mb, mr, mo, nameM, conM, binM, unM, boolM, ifM, DL.andM, DL.orM, DL.notM, andV, orV, notV, chainM, nilA, consA, dvs, dv, ownAt, fzs, lstM, tupM, callM, callP, permL, fzv, seqS, skipS, ifS, setS, asg, fr_z_un, fr_z_dat, fr_z_rw, fr_z_own, fr_s, turnF, retS, retV, dropS, frz, frzS, asgS, nilG, consG, tupG, subG, listAt, methM, augS, augSubS, forS, seqM, treeV, startD, endV, bodyF, bodyI, startI, ioAt, slM, partM, bors, callL, callI, callO, DL.flatV, DL.flat, List.filterMap_cons, List.filterMap_nil, List.map_cons, List.map_nil, List.getElem?_cons_zero, List.getElem?_cons_succ, List.getElem?_nil, List.set_cons_zero, List.set_cons_succ, List.cons_append, List.nil_append, List.length_cons, List.length_nil, Option.bind_some, Option.bind_none, Option.map_some, Option.map_none, Nat.reduceSub, Nat.reduceAdd, List.replicate_succ, List.replicate_zero, Bool.not_true, Bool.not_false, if_true, if_false, Bool.false_eq_true, reduceIte, decide_true, decide_false, Nat.reduceLT, Nat.reduceLeDiff, reduceCtorEq, Option.some.injEq, Prod.mk.injEq, g_has_divisor_w1, w1]
            simp only [m_is_prime, g_is_prime, g_is_prime_s1, mb, mr, mo, nameM, conM, binM, unM, boolM, ifM, DL.andM, DL.orM, DL.notM, andV, orV, notV, chainM, nilA, consA, dvs, dv, ownAt, fzs, lstM, tupM, callM, callP, permL, fzv, seqS, skipS, ifS, setS, asg, fr_z_un, fr_z_dat, fr_z_rw, fr_z_own, fr_s, turnF, retS, retV, dropS, frz, frzS, asgS, nilG, consG, tupG, subG, listAt, methM, augS, augSubS, forS, seqM, treeV, startD, endV, bodyF, bodyI, startI, ioAt, slM, partM, bors, callL, callI, callO, DL.flatV, DL.flat, List.filterMap_cons, List.filterMap_nil, List.map_cons, List.map_nil, List.getElem?_cons_zero, List.getElem?_cons_succ, List.getElem?_nil, List.set_cons_zero, List.set_cons_succ, List.cons_append, List.nil_append, List.length_cons, List.length_nil, Option.bind_some, Option.bind_none, Option.map_some, Option.map_none, Nat.reduceSub, Nat.reduceAdd, List.replicate_succ, List.replicate_zero, Bool.not_true, Bool.not_false, if_true, if_false, Bool.false_eq_true, reduceIte, decide_true, decide_false, Nat.reduceLT, Nat.reduceLeDiff, reduceCtorEq, Option.some.injEq, Prod.mk.injEq, e1, ltI, intB, h1', decide_eq_true h2, this]
          · simp only [m__law_is_prime, g__law_is_prime, g__law_is_prime_s1, g__law_is_prime_s2, g__law_is_prime_s3, mb, mr, mo, nameM, conM, binM, unM, boolM, ifM, DL.andM, DL.orM, DL.notM, andV, orV, notV, chainM, nilA, consA, dvs, dv, ownAt, fzs, lstM, tupM, callM, callP, permL, fzv, seqS, skipS, ifS, setS, asg, fr_z_un, fr_z_dat, fr_z_rw, fr_z_own, fr_s, turnF, retS, retV, dropS, frz, frzS, asgS, nilG, consG, tupG, subG, listAt, methM, augS, augSubS, forS, seqM, treeV, startD, endV, bodyF, bodyI, startI, ioAt, slM, partM, bors, callL, callI, callO, DL.flatV, DL.flat, List.filterMap_cons, List.filterMap_nil, List.map_cons, List.map_nil, List.getElem?_cons_zero, List.getElem?_cons_succ, List.getElem?_nil, List.set_cons_zero, List.set_cons_succ, List.cons_append, List.nil_append, List.length_cons, List.length_nil, Option.bind_some, Option.bind_none, Option.map_some, Option.map_none, Nat.reduceSub, Nat.reduceAdd, List.replicate_succ, List.replicate_zero, Bool.not_true, Bool.not_false, if_true, if_false, Bool.false_eq_true, reduceIte, decide_true, decide_false, Nat.reduceLT, Nat.reduceLeDiff, reduceCtorEq, Option.some.injEq, Prod.mk.injEq, e2, leI, ltI, intB, decide_eq_true h1, decide_eq_true h2, g__law_is_prime_w1, w2]
        · refine ⟨false, ?_, ?_⟩
          · have : m_has_divisor [.int i] = some (.fz (.bool true)) := by
              simp only [m_has_divisor, g_has_divisor, g_has_divisor_s1, g_has_divisor_s2, mb, mr, mo, nameM, conM, binM, unM, boolM, ifM, DL.andM, DL.orM, DL.notM, andV, orV, notV, chainM, nilA, consA, dvs, dv, ownAt, fzs, lstM, tupM, callM, callP, permL, fzv, seqS, skipS, ifS, setS, asg, fr_z_un, fr_z_dat, fr_z_rw, fr_z_own, fr_s, turnF, retS, retV, dropS, frz, frzS, asgS, nilG, consG, tupG, subG, listAt, methM, augS, augSubS, forS, seqM, treeV, startD, endV, bodyF, bodyI, startI, ioAt, slM, partM, bors, callL, callI, callO, DL.flatV, DL.flat, List.filterMap_cons, List.filterMap_nil, List.map_cons, List.map_nil, List.getElem?_cons_zero, List.getElem?_cons_succ, List.getElem?_nil, List.set_cons_zero, List.set_cons_succ, List.cons_append, List.nil_append, List.length_cons, List.length_nil, Option.bind_some, Option.bind_none, Option.map_some, Option.map_none, Nat.reduceSub, Nat.reduceAdd, List.replicate_succ, List.replicate_zero, Bool.not_true, Bool.not_false, if_true, if_false, Bool.false_eq_true, reduceIte, decide_true, decide_false, Nat.reduceLT, Nat.reduceLeDiff, reduceCtorEq, Option.some.injEq, Prod.mk.injEq, g_has_divisor_w1, w1]
            simp only [m_is_prime, g_is_prime, g_is_prime_s1, mb, mr, mo, nameM, conM, binM, unM, boolM, ifM, DL.andM, DL.orM, DL.notM, andV, orV, notV, chainM, nilA, consA, dvs, dv, ownAt, fzs, lstM, tupM, callM, callP, permL, fzv, seqS, skipS, ifS, setS, asg, fr_z_un, fr_z_dat, fr_z_rw, fr_z_own, fr_s, turnF, retS, retV, dropS, frz, frzS, asgS, nilG, consG, tupG, subG, listAt, methM, augS, augSubS, forS, seqM, treeV, startD, endV, bodyF, bodyI, startI, ioAt, slM, partM, bors, callL, callI, callO, DL.flatV, DL.flat, List.filterMap_cons, List.filterMap_nil, List.map_cons, List.map_nil, List.getElem?_cons_zero, List.getElem?_cons_succ, List.getElem?_nil, List.set_cons_zero, List.set_cons_succ, List.cons_append, List.nil_append, List.length_cons, List.length_nil, Option.bind_some, Option.bind_none, Option.map_some, Option.map_none, Nat.reduceSub, Nat.reduceAdd, List.replicate_succ, List.replicate_zero, Bool.not_true, Bool.not_false, if_true, if_false, Bool.false_eq_true, reduceIte, decide_true, decide_false, Nat.reduceLT, Nat.reduceLeDiff, reduceCtorEq, Option.some.injEq, Prod.mk.injEq, e1, ltI, intB, h1', decide_eq_true h2, this]
          · simp only [m__law_is_prime, g__law_is_prime, g__law_is_prime_s1, g__law_is_prime_s2, g__law_is_prime_s3, mb, mr, mo, nameM, conM, binM, unM, boolM, ifM, DL.andM, DL.orM, DL.notM, andV, orV, notV, chainM, nilA, consA, dvs, dv, ownAt, fzs, lstM, tupM, callM, callP, permL, fzv, seqS, skipS, ifS, setS, asg, fr_z_un, fr_z_dat, fr_z_rw, fr_z_own, fr_s, turnF, retS, retV, dropS, frz, frzS, asgS, nilG, consG, tupG, subG, listAt, methM, augS, augSubS, forS, seqM, treeV, startD, endV, bodyF, bodyI, startI, ioAt, slM, partM, bors, callL, callI, callO, DL.flatV, DL.flat, List.filterMap_cons, List.filterMap_nil, List.map_cons, List.map_nil, List.getElem?_cons_zero, List.getElem?_cons_succ, List.getElem?_nil, List.set_cons_zero, List.set_cons_succ, List.cons_append, List.nil_append, List.length_cons, List.length_nil, Option.bind_some, Option.bind_none, Option.map_some, Option.map_none, Nat.reduceSub, Nat.reduceAdd, List.replicate_succ, List.replicate_zero, Bool.not_true, Bool.not_false, if_true, if_false, Bool.false_eq_true, reduceIte, decide_true, decide_false, Nat.reduceLT, Nat.reduceLeDiff, reduceCtorEq, Option.some.injEq, Prod.mk.injEq, e2, leI, ltI, intB, decide_eq_true h1, decide_eq_true h2, g__law_is_prime_w1, w2]
      · refine ⟨false, ?_, ?_⟩
        · simp only [m_is_prime, g_is_prime, g_is_prime_s1, mb, mr, mo, nameM, conM, binM, unM, boolM, ifM, DL.andM, DL.orM, DL.notM, andV, orV, notV, chainM, nilA, consA, dvs, dv, ownAt, fzs, lstM, tupM, callM, callP, permL, fzv, seqS, skipS, ifS, setS, asg, fr_z_un, fr_z_dat, fr_z_rw, fr_z_own, fr_s, turnF, retS, retV, dropS, frz, frzS, asgS, nilG, consG, tupG, subG, listAt, methM, augS, augSubS, forS, seqM, treeV, startD, endV, bodyF, bodyI, startI, ioAt, slM, partM, bors, callL, callI, callO, DL.flatV, DL.flat, List.filterMap_cons, List.filterMap_nil, List.map_cons, List.map_nil, List.getElem?_cons_zero, List.getElem?_cons_succ, List.getElem?_nil, List.set_cons_zero, List.set_cons_succ, List.cons_append, List.nil_append, List.length_cons, List.length_nil, Option.bind_some, Option.bind_none, Option.map_some, Option.map_none, Nat.reduceSub, Nat.reduceAdd, List.replicate_succ, List.replicate_zero, Bool.not_true, Bool.not_false, if_true, if_false, Bool.false_eq_true, reduceIte, decide_true, decide_false, Nat.reduceLT, Nat.reduceLeDiff, reduceCtorEq, Option.some.injEq, Prod.mk.injEq, e1, ltI, intB, h1', decide_eq_false h2]
        · simp only [m__law_is_prime, g__law_is_prime, g__law_is_prime_s1, g__law_is_prime_s2, g__law_is_prime_s3, mb, mr, mo, nameM, conM, binM, unM, boolM, ifM, DL.andM, DL.orM, DL.notM, andV, orV, notV, chainM, nilA, consA, dvs, dv, ownAt, fzs, lstM, tupM, callM, callP, permL, fzv, seqS, skipS, ifS, setS, asg, fr_z_un, fr_z_dat, fr_z_rw, fr_z_own, fr_s, turnF, retS, retV, dropS, frz, frzS, asgS, nilG, consG, tupG, subG, listAt, methM, augS, augSubS, forS, seqM, treeV, startD, endV, bodyF, bodyI, startI, ioAt, slM, partM, bors, callL, callI, callO, DL.flatV, DL.flat, List.filterMap_cons, List.filterMap_nil, List.map_cons, List.map_nil, List.getElem?_cons_zero, List.getElem?_cons_succ, List.getElem?_nil, List.set_cons_zero, List.set_cons_succ, List.cons_append, List.nil_append, List.length_cons, List.length_nil, Option.bind_some, Option.bind_none, Option.map_some, Option.map_none, Nat.reduceSub, Nat.reduceAdd, List.replicate_succ, List.replicate_zero, Bool.not_true, Bool.not_false, if_true, if_false, Bool.false_eq_true, reduceIte, decide_true, decide_false, Nat.reduceLT, Nat.reduceLeDiff, reduceCtorEq, Option.some.injEq, Prod.mk.injEq, e2, leI, ltI, intB, decide_eq_true h1, decide_eq_false h2]
    · have h1' : decide ((1 : Int) < i) = false := decide_eq_false (by omega)
      refine ⟨false, ?_, ?_⟩
      · simp only [m_is_prime, g_is_prime, g_is_prime_s1, mb, mr, mo, nameM, conM, binM, unM, boolM, ifM, DL.andM, DL.orM, DL.notM, andV, orV, notV, chainM, nilA, consA, dvs, dv, ownAt, fzs, lstM, tupM, callM, callP, permL, fzv, seqS, skipS, ifS, setS, asg, fr_z_un, fr_z_dat, fr_z_rw, fr_z_own, fr_s, turnF, retS, retV, dropS, frz, frzS, asgS, nilG, consG, tupG, subG, listAt, methM, augS, augSubS, forS, seqM, treeV, startD, endV, bodyF, bodyI, startI, ioAt, slM, partM, bors, callL, callI, callO, DL.flatV, DL.flat, List.filterMap_cons, List.filterMap_nil, List.map_cons, List.map_nil, List.getElem?_cons_zero, List.getElem?_cons_succ, List.getElem?_nil, List.set_cons_zero, List.set_cons_succ, List.cons_append, List.nil_append, List.length_cons, List.length_nil, Option.bind_some, Option.bind_none, Option.map_some, Option.map_none, Nat.reduceSub, Nat.reduceAdd, List.replicate_succ, List.replicate_zero, Bool.not_true, Bool.not_false, if_true, if_false, Bool.false_eq_true, reduceIte, decide_true, decide_false, Nat.reduceLT, Nat.reduceLeDiff, reduceCtorEq, Option.some.injEq, Prod.mk.injEq, e1, ltI, intB, h1']
      · simp only [m__law_is_prime, g__law_is_prime, g__law_is_prime_s1, g__law_is_prime_s2, g__law_is_prime_s3, mb, mr, mo, nameM, conM, binM, unM, boolM, ifM, DL.andM, DL.orM, DL.notM, andV, orV, notV, chainM, nilA, consA, dvs, dv, ownAt, fzs, lstM, tupM, callM, callP, permL, fzv, seqS, skipS, ifS, setS, asg, fr_z_un, fr_z_dat, fr_z_rw, fr_z_own, fr_s, turnF, retS, retV, dropS, frz, frzS, asgS, nilG, consG, tupG, subG, listAt, methM, augS, augSubS, forS, seqM, treeV, startD, endV, bodyF, bodyI, startI, ioAt, slM, partM, bors, callL, callI, callO, DL.flatV, DL.flat, List.filterMap_cons, List.filterMap_nil, List.map_cons, List.map_nil, List.getElem?_cons_zero, List.getElem?_cons_succ, List.getElem?_nil, List.set_cons_zero, List.set_cons_succ, List.cons_append, List.nil_append, List.length_cons, List.length_nil, Option.bind_some, Option.bind_none, Option.map_some, Option.map_none, Nat.reduceSub, Nat.reduceAdd, List.replicate_succ, List.replicate_zero, Bool.not_true, Bool.not_false, if_true, if_false, Bool.false_eq_true, reduceIte, decide_true, decide_false, Nat.reduceLT, Nat.reduceLeDiff, reduceCtorEq, Option.some.injEq, Prod.mk.injEq, e2, leI, ltI, intB, decide_eq_false h1]
  | _ =>
    simp only [isI] at e1 e2
    refine ⟨false, ?_, ?_⟩
    · simp only [m_is_prime, g_is_prime, g_is_prime_s1, mb, mr, mo, nameM, conM, binM, unM, boolM, ifM, DL.andM, DL.orM, DL.notM, andV, orV, notV, chainM, nilA, consA, dvs, dv, ownAt, fzs, lstM, tupM, callM, callP, permL, fzv, seqS, skipS, ifS, setS, asg, fr_z_un, fr_z_dat, fr_z_rw, fr_z_own, fr_s, turnF, retS, retV, dropS, frz, frzS, asgS, nilG, consG, tupG, subG, listAt, methM, augS, augSubS, forS, seqM, treeV, startD, endV, bodyF, bodyI, startI, ioAt, slM, partM, bors, callL, callI, callO, DL.flatV, DL.flat, List.filterMap_cons, List.filterMap_nil, List.map_cons, List.map_nil, List.getElem?_cons_zero, List.getElem?_cons_succ, List.getElem?_nil, List.set_cons_zero, List.set_cons_succ, List.cons_append, List.nil_append, List.length_cons, List.length_nil, Option.bind_some, Option.bind_none, Option.map_some, Option.map_none, Nat.reduceSub, Nat.reduceAdd, List.replicate_succ, List.replicate_zero, Bool.not_true, Bool.not_false, if_true, if_false, Bool.false_eq_true, reduceIte, decide_true, decide_false, Nat.reduceLT, Nat.reduceLeDiff, reduceCtorEq, Option.some.injEq, Prod.mk.injEq, e1]
    · simp only [m__law_is_prime, g__law_is_prime, g__law_is_prime_s1, g__law_is_prime_s2, g__law_is_prime_s3, mb, mr, mo, nameM, conM, binM, unM, boolM, ifM, DL.andM, DL.orM, DL.notM, andV, orV, notV, chainM, nilA, consA, dvs, dv, ownAt, fzs, lstM, tupM, callM, callP, permL, fzv, seqS, skipS, ifS, setS, asg, fr_z_un, fr_z_dat, fr_z_rw, fr_z_own, fr_s, turnF, retS, retV, dropS, frz, frzS, asgS, nilG, consG, tupG, subG, listAt, methM, augS, augSubS, forS, seqM, treeV, startD, endV, bodyF, bodyI, startI, ioAt, slM, partM, bors, callL, callI, callO, DL.flatV, DL.flat, List.filterMap_cons, List.filterMap_nil, List.map_cons, List.map_nil, List.getElem?_cons_zero, List.getElem?_cons_succ, List.getElem?_nil, List.set_cons_zero, List.set_cons_succ, List.cons_append, List.nil_append, List.length_cons, List.length_nil, Option.bind_some, Option.bind_none, Option.map_some, Option.map_none, Nat.reduceSub, Nat.reduceAdd, List.replicate_succ, List.replicate_zero, Bool.not_true, Bool.not_false, if_true, if_false, Bool.false_eq_true, reduceIte, decide_true, decide_false, Nat.reduceLT, Nat.reduceLeDiff, reduceCtorEq, Option.some.injEq, Prod.mk.injEq, e2]
/-! repr of two truths -/
theorem repr_two (b : Bool) : ∃ x, reprZ [.list [.bool b, .bool b]] = some (.fz (.str x)) ∧ neD (.str x) (.str x) = some (.fz (.bool false)) := by
  refine ⟨(PyData.list [.bool b, .bool b]).shown, ?_, ?_⟩
  · have h : reprOkZ (.list [.bool b, .bool b]) = true := by cases b <;> decide +kernel
    unfold reprZ
    exact if_pos h
  · refine neD_refl ?_
    cases b <;> decide +kernel
theorem two_of (b : Bool) : mulD (.list [.bool b]) (.int 2) = some (.ow (.list [.bool b, .bool b])) := by cases b <;> rfl
end K16
end
section
set_option maxRecDepth 100000
set_option exponentiation.threshold 100000
set_option maxHeartbeats 1000000
namespace K16
open PySem PySem.Spec L2 DL
/-! ### draws -/
theorem fdivD_21 (i : Int) : fdivD (.int i) (.int 21) = some (.fz (.int (i / 21))) := by
  rw [fdivD_big (by decide) (by decide), Int.fdiv_eq_ediv_of_nonneg _ (show (0 : Int) ≤ 21 from by decide)]
def Pot (d : D) : Prop := ∃ a b : Int, d = .list [.int a, .int b] ∧ 0 ≤ a ∧ 0 ≤ b ∧ b < 2 ^ 32
theorem draw_ok {d : D} {n : Int} (hd : Pot d) (h0 : 0 < n) (h1 : n < 1073741824) : ∃ r d', m__law_draw d [.int n] = some (.fz (.int r), d') ∧ Pot d' ∧ 0 ≤ r ∧ r < n := by
  obtain ⟨a, b, rfl, ha, hb, hb2⟩ := hd
  by_cases ha0 : 0 < a
  · refine ⟨a % n, .list [.int (a / n), .int b], ?_, ⟨_, _, rfl, Int.ediv_nonneg ha (by omega), hb, hb2⟩, Int.emod_nonneg _ (by omega), Int.emod_lt_of_pos _ h0⟩
    simp only [m__law_draw, g__law_draw, g__law_draw_s1, g__law_draw_s2, g__law_draw_s3, mb, mr, mo, nameM, conM, binM, unM, boolM, ifM, DL.andM, DL.orM, DL.notM, andV, orV, notV, chainM, nilA, consA, dvs, dv, ownAt, fzs, lstM, tupM, callM, callP, permL, fzv, seqS, skipS, ifS, setS, asg, freeAt, retS, retV, dropS, frz, frzS, asgS, nilG, consG, tupG, subG, listAt, methM, augS, augSubS, forS, seqM, treeV, startD, endV, bodyF, bodyI, startI, ioAt, slM, partM, bors, callL, callI, callO, DL.flatV, DL.flat, List.filterMap_cons, List.filterMap_nil, List.map_cons, List.map_nil, List.getElem?_cons_zero, List.getElem?_cons_succ, List.getElem?_nil, List.set_cons_zero, List.set_cons_succ, List.cons_append, List.nil_append, List.length_cons, List.length_nil, Option.bind_some, Option.bind_none, Option.map_some, Option.map_none, Nat.reduceSub, Nat.reduceAdd, List.replicate_succ, List.replicate_zero, Bool.not_true, Bool.not_false, if_true, if_false, Bool.false_eq_true, reduceIte, decide_true, decide_false, Nat.reduceLT, Nat.reduceLeDiff, reduceCtorEq, Option.some.injEq, Prod.mk.injEq, ixL0, ixL1, gtI, intB, decide_eq_true ha0, divmodD, decide_eq_true h0, decide_eq_true h1, itemsOf, ixN20, ixN21, Bool.and_self, Bool.and_true]
  · obtain ⟨b', hb', q0, q1⟩ : ∃ b' : Int, (b * 40014 + 1109) % 2147483563 = b' ∧ 0 ≤ b' ∧ b' < 2147483563 := ⟨_, rfl, Int.emod_nonneg _ (by omega), Int.emod_lt_of_pos _ (by omega)⟩
    refine ⟨(b' * b') % 2147483587 / 21 % n, .list [.int a, .int b'], ?_, ⟨_, _, rfl, ha, q0, by omega⟩, Int.emod_nonneg _ (by omega), Int.emod_lt_of_pos _ h0⟩
    have m1 : mulD (.int b) (.int 40014) = some (.fz (.int (b * 40014))) := mulD_big (by omega) (by decide)
    have m2 : mulD (.int b') (.int b') = some (.fz (.int (b' * b'))) := mulD_big (by omega) (by omega)
    simp only [m__law_draw, g__law_draw, g__law_draw_s1, g__law_draw_s2, g__law_draw_s3, mb, mr, mo, nameM, conM, binM, unM, boolM, ifM, DL.andM, DL.orM, DL.notM, andV, orV, notV, chainM, nilA, consA, dvs, dv, ownAt, fzs, lstM, tupM, callM, callP, permL, fzv, seqS, skipS, ifS, setS, asg, freeAt, retS, retV, dropS, frz, frzS, asgS, nilG, consG, tupG, subG, listAt, methM, augS, augSubS, forS, seqM, treeV, startD, endV, bodyF, bodyI, startI, ioAt, slM, partM, bors, callL, callI, callO, DL.flatV, DL.flat, List.filterMap_cons, List.filterMap_nil, List.map_cons, List.map_nil, List.getElem?_cons_zero, List.getElem?_cons_succ, List.getElem?_nil, List.set_cons_zero, List.set_cons_succ, List.cons_append, List.nil_append, List.length_cons, List.length_nil, Option.bind_some, Option.bind_none, Option.map_some, Option.map_none, Nat.reduceSub, Nat.reduceAdd, List.replicate_succ, List.replicate_zero, Bool.not_true, Bool.not_false, if_true, if_false, Bool.false_eq_true, reduceIte, decide_true, decide_false, Nat.reduceLT, Nat.reduceLeDiff, reduceCtorEq, Option.some.injEq, Prod.mk.injEq, ixL0, ixL1, gtI, intB, decide_eq_false ha0, addD, fdivD_21, modD_pos _ h0, modD_pos _ (show (0 : Int) < 2147483587 from by decide), modD_pos _ (show (0 : Int) < 2147483563 from by decide), intD, m1, m2, hb', ixN20, ixN21]
theorem pot_s2 {s : D} {c : Int} (hc : 0 ≤ c) : ∃ d, g__law_pot_s2 [.dat s, .dat (.int 0), .dat (.int c)] = some (.rt (.ow d), [.dat s, .dat (.int 0), .dat (.int c)]) ∧ Pot d := by
  obtain ⟨r, hr, r0, r1⟩ : ∃ r : Int, c % 2147483549 = r ∧ 0 ≤ r ∧ r < 2147483549 := ⟨_, rfl, Int.emod_nonneg _ (by omega), Int.emod_lt_of_pos _ (by omega)⟩
  obtain ⟨b, hb, b0, b1⟩ : ∃ b : Int, (r * 41011 + 4021 * 0 + 557) % 2147483563 = b ∧ 0 ≤ b ∧ b < 2147483563 := ⟨_, rfl, Int.emod_nonneg _ (by omega), Int.emod_lt_of_pos _ (by omega)⟩
  have m1 : mulD (.int r) (.int 41011) = some (.fz (.int (r * 41011))) := mulD_big (by omega) (by decide)
  have m2 : mulD (.int 4021) (.int 0) = some (.fz (.int (4021 * 0))) := mulD_big (by decide) (by decide)
  refine ⟨_, ?_, ⟨if c - 1000000000000000000 > 0 then c - 1000000000000000000 else 0, b + 1, rfl, by split <;> omega, by omega, by omega⟩⟩
  simp only [g__law_pot_s2, mb, mr, mo, nameM, conM, binM, unM, boolM, ifM, DL.andM, DL.orM, DL.notM, andV, orV, notV, chainM, nilA, consA, dvs, dv, ownAt, fzs, lstM, tupM, callM, callP, permL, fzv, seqS, skipS, ifS, setS, asg, freeAt, retS, retV, dropS, frz, frzS, asgS, nilG, consG, tupG, subG, listAt, methM, augS, augSubS, forS, seqM, treeV, startD, endV, bodyF, bodyI, startI, ioAt, slM, partM, bors, callL, callI, callO, DL.flatV, DL.flat, List.filterMap_cons, List.filterMap_nil, List.map_cons, List.map_nil, List.getElem?_cons_zero, List.getElem?_cons_succ, List.getElem?_nil, List.set_cons_zero, List.set_cons_succ, List.cons_append, List.nil_append, List.length_cons, List.length_nil, Option.bind_some, Option.bind_none, Option.map_some, Option.map_none, Nat.reduceSub, Nat.reduceAdd, List.replicate_succ, List.replicate_zero, Bool.not_true, Bool.not_false, if_true, if_false, Bool.false_eq_true, reduceIte, decide_true, decide_false, Nat.reduceLT, Nat.reduceLeDiff, reduceCtorEq, Option.some.injEq, Prod.mk.injEq, max2D, subI, powE, intB, addD, modD_pos _ (show (0 : Int) < 2147483549 from by decide), modD_pos _ (show (0 : Int) < 2147483563 from by decide), intD, m1, m2, hr, hb, szOk2]
theorem pot_ok (ns : List Int) : ∃ d, m__law_pot [scrD ns, .int 0] = some (.ow d) ∧ Pot d := by
  cases ns with
  | nil =>
    obtain ⟨d, h, hp⟩ := pot_s2 (s := scrD []) (c := 541) (by decide)
    refine ⟨d, ?_, hp⟩
    have hl : lenD [scrD []] = some (.fz (.int 0)) := rfl
    have m2 : mulD (.int 577) (.int 0) = some (.fz (.int 0)) := mulD_big (by decide) (by decide)
    simp only [m__law_pot, g__law_pot, g__law_pot_s1, mb, mr, mo, nameM, conM, binM, unM, boolM, ifM, DL.andM, DL.orM, DL.notM, andV, orV, notV, chainM, nilA, consA, dvs, dv, ownAt, fzs, lstM, tupM, callM, callP, permL, fzv, seqS, skipS, ifS, setS, asg, freeAt, retS, retV, dropS, frz, frzS, asgS, nilG, consG, tupG, subG, listAt, methM, augS, augSubS, forS, seqM, treeV, startD, endV, bodyF, bodyI, startI, ioAt, slM, partM, bors, callL, callI, callO, DL.flatV, DL.flat, List.filterMap_cons, List.filterMap_nil, List.map_cons, List.map_nil, List.getElem?_cons_zero, List.getElem?_cons_succ, List.getElem?_nil, List.set_cons_zero, List.set_cons_succ, List.cons_append, List.nil_append, List.length_cons, List.length_nil, Option.bind_some, Option.bind_none, Option.map_some, Option.map_none, Nat.reduceSub, Nat.reduceAdd, List.replicate_succ, List.replicate_zero, Bool.not_true, Bool.not_false, if_true, if_false, Bool.false_eq_true, reduceIte, decide_true, decide_false, Nat.reduceLT, Nat.reduceLeDiff, reduceCtorEq, Option.some.injEq, Prod.mk.injEq, hl, ltI, intB, addD, m2, show decide ((0 : Int) < 0) = false from rfl, show (0 : Int) + 541 = 541 from rfl, h]
  | cons n r =>
    obtain ⟨d, h, hp⟩ := pot_s2 (s := scrD (n :: r)) (c := if n < 0 then -n else n) (by split <;> omega)
    refine ⟨d, ?_, hp⟩
    obtain ⟨k, hk, hl⟩ : ∃ k : Int, 0 < k ∧ lenD [scrD (n :: r)] = some (.fz (.int k)) := ⟨(((n :: r).map PyData.int).length : Nat), by simp, rfl⟩
    have hx : ixD (scrD (n :: r)) (.int 0) = some (.fz (.int n)) := by
      show (atI ((n :: r).map PyData.int) 0).bind _ = _
      have := atI_natI ((n :: r).map PyData.int) 0 (by simp)
      rw [show ((0 : Nat) : Int) = 0 from rfl] at this
      rw [this]; rfl
    generalize scrD (n :: r) = s at h hl hx ⊢
    simp only [m__law_pot, g__law_pot, g__law_pot_s1, mb, mr, mo, nameM, conM, binM, unM, boolM, ifM, DL.andM, DL.orM, DL.notM, andV, orV, notV, chainM, nilA, consA, dvs, dv, ownAt, fzs, lstM, tupM, callM, callP, permL, fzv, seqS, skipS, ifS, setS, asg, freeAt, retS, retV, dropS, frz, frzS, asgS, nilG, consG, tupG, subG, listAt, methM, augS, augSubS, forS, seqM, treeV, startD, endV, bodyF, bodyI, startI, ioAt, slM, partM, bors, callL, callI, callO, DL.flatV, DL.flat, List.filterMap_cons, List.filterMap_nil, List.map_cons, List.map_nil, List.getElem?_cons_zero, List.getElem?_cons_succ, List.getElem?_nil, List.set_cons_zero, List.set_cons_succ, List.cons_append, List.nil_append, List.length_cons, List.length_nil, Option.bind_some, Option.bind_none, Option.map_some, Option.map_none, Nat.reduceSub, Nat.reduceAdd, List.replicate_succ, List.replicate_zero, Bool.not_true, Bool.not_false, if_true, if_false, Bool.false_eq_true, reduceIte, decide_true, decide_false, Nat.reduceLT, Nat.reduceLeDiff, reduceCtorEq, Option.some.injEq, Prod.mk.injEq, hl, hx, decide_eq_true hk, absD, ltI, intB, h]
theorem pick_ok {d : D} {xs : List D} (hd : Pot d) (h0 : xs ≠ []) (h1 : xs.length < 1073741824) : ∃ x ∈ xs, ∃ d', m__law_pick d [.list xs] = some (.fz x, d') ∧ Pot d' := by
  have hp := List.length_pos_iff.mpr h0
  obtain ⟨r, d', h, hd', r0, r1⟩ := draw_ok hd (n := (xs.length : Nat)) (by omega) (by omega)
  obtain ⟨k, rfl⟩ : ∃ k : Nat, r = k := ⟨r.toNat, by omega⟩
  have hk : k < xs.length := by omega
  refine ⟨xs[k], List.getElem_mem hk, d', ?_, hd'⟩
  have hx : ixD (.list xs) (.int (k : Nat)) = some (.fz xs[k]) := ix_nat rfl (List.getElem?_eq_getElem hk)
  have hl : lenD [.list xs] = some (.fz (.int (xs.length : Nat))) := rfl
  generalize ((k : Nat) : Int) = r at h hx
  generalize ((xs.length : Nat) : Int) = n at h hl
  generalize xs[k] = y at hx ⊢
  simp only [m__law_pick, g__law_pick, g__law_pick_s1, mb, mr, mo, nameM, conM, binM, unM, boolM, ifM, DL.andM, DL.orM, DL.notM, andV, orV, notV, chainM, nilA, consA, dvs, dv, ownAt, fzs, lstM, tupM, callM, callP, permL, fzv, seqS, skipS, ifS, setS, asg, freeAt, retS, retV, dropS, frz, frzS, asgS, nilG, consG, tupG, subG, listAt, methM, augS, augSubS, forS, seqM, treeV, startD, endV, bodyF, bodyI, startI, ioAt, slM, partM, bors, callL, callI, callO, DL.flatV, DL.flat, List.filterMap_cons, List.filterMap_nil, List.map_cons, List.map_nil, List.getElem?_cons_zero, List.getElem?_cons_succ, List.getElem?_nil, List.set_cons_zero, List.set_cons_succ, List.cons_append, List.nil_append, List.length_cons, List.length_nil, Option.bind_some, Option.bind_none, Option.map_some, Option.map_none, Nat.reduceSub, Nat.reduceAdd, List.replicate_succ, List.replicate_zero, Bool.not_true, Bool.not_false, if_true, if_false, Bool.false_eq_true, reduceIte, decide_true, decide_false, Nat.reduceLT, Nat.reduceLeDiff, reduceCtorEq, Option.some.injEq, Prod.mk.injEq, hl, h, hx]
end K16
end
section
set_option maxRecDepth 100000
set_option maxHeartbeats 1000000
/-! repr: how long, and of what signs -/
namespace DL
open PySem PySem.Spec L2
def sOk (x : Str) : Bool := PyData.strOk x
theorem sOk_app {x y : Str} (h : sOk x = true) (k : sOk y = true) : sOk (x ++ y) = true := by
  unfold sOk PyData.strOk at *
  show (x.cps ++ y.cps).all _ = true
  rw [Array.all_append, h, k]
  rfl
theorem sOk_of (s : String) : sOk (Str.ofString s) = true := by
  unfold sOk PyData.strOk
  rw [Str.ofString_eq_toList]
  simp only [List.all_toArray, List.all_map, List.all_eq_true, Function.comp, decide_eq_true_eq]
  intro c _
  have := c.valid
  rcases this with h | h
  · exact Nat.lt_trans h (by decide)
  · exact h.2
theorem sOk_join {sep : Str} (hs : sOk sep = true) : ∀ {ts : List Str}, (∀ t ∈ ts, sOk t = true) → sOk (Str.join sep ts) = true
  | [], _ => by
    have e : Str.join sep [] = Str.empty := rfl
    rw [e]
    decide +kernel
  | [x], h => h x List.mem_cons_self
  | x :: y :: r, h => by
    show sOk (x ++ sep ++ Str.join sep (y :: r)) = true
    exact sOk_app (sOk_app (h x List.mem_cons_self) hs) (sOk_join hs fun t ht => h t (List.mem_cons_of_mem _ ht))
/-- what repr shows within bounds: depth at most n, at most w signs -/
structure Sh (n w : Nat) (d : D) : Prop where
  lay : d.canLay0 = true
  can : d.showable = true
  dep : d.depth ≤ n
  len : d.shown.length ≤ w
  ok : sOk d.shown = true
theorem Sh.mono {n w n' w' : Nat} {d : D} (h : Sh n w d) (hn : n ≤ n') (hw : w ≤ w') : Sh n' w' d := ⟨h.lay, h.can, Nat.le_trans h.dep hn, Nat.le_trans h.len hw, h.ok⟩
theorem sh_int {i : Int} {k : Nat} (hk : 0 < k) (h : i.natAbs < 2 ^ k) (hk2 : k ≤ 1900) : Sh 0 (k + 1) (.int i) := by
  have hl : i.natAbs.log2 < k := by
    by_cases h0 : i.natAbs = 0
    · rw [h0]
      simpa using hk
    · exact (Nat.log2_lt h0).mpr h
  refine ⟨by simp [PyData.canLay0], by simp [PyData.showable]; omega, by simp [PyData.depth], ?_, ?_⟩
  · rw [PyData.shown_int]
    have := int_text_length_le hk hl
    rw [ofString_length]
    exact this
  · rw [PyData.shown_int]
    exact sOk_of _
theorem sh_bool (b : Bool) : Sh 0 5 (.bool b) := ⟨by simp [PyData.canLay0], by simp [PyData.showable], by simp [PyData.depth], by cases b <;> decide +kernel, by cases b <;> decide +kernel⟩
theorem sh_none : Sh 0 4 .none := ⟨by simp [PyData.canLay0], by simp [PyData.showable], by simp [PyData.depth], by decide +kernel, by decide +kernel⟩
theorem layAll_of : ∀ {ds : List D}, (∀ d ∈ ds, d.canLay0 = true) → PyData.canLayAll0 ds = true
  | [], _ => by simp [PyData.canLayAll0]
  | x :: r, h => by simp [PyData.canLayAll0, h x List.mem_cons_self, layAll_of fun d hd => h d (List.mem_cons_of_mem _ hd)]
theorem canAll_of : ∀ {ds : List D}, (∀ d ∈ ds, d.showable = true) → PyData.showableAll ds = true
  | [], _ => by simp [PyData.showableAll]
  | x :: r, h => by simp [PyData.showableAll, h x List.mem_cons_self, canAll_of fun d hd => h d (List.mem_cons_of_mem _ hd)]
theorem depAll_of {n : Nat} : ∀ {ds : List D}, (∀ d ∈ ds, d.depth ≤ n) → PyData.depthAll ds ≤ n
  | [], _ => by simp [PyData.depthAll]
  | x :: r, h => by
    have h1 := h x List.mem_cons_self
    have h2 := depAll_of (n := n) (ds := r) fun d hd => h d (List.mem_cons_of_mem _ hd)
    simp only [PyData.depthAll]
    omega
theorem shownAll_mem : ∀ {ds : List D} {t : Str}, t ∈ PyData.shownAll ds → ∃ d ∈ ds, t = d.shown
  | [], t, h => by simp [PyData.shownAll] at h
  | x :: r, t, h => by
    rw [PyData.shownAll_cons] at h
    rcases List.mem_cons.mp h with e | e
    · exact ⟨x, List.mem_cons_self, e⟩
    · obtain ⟨d, hd, e⟩ := shownAll_mem e
      exact ⟨d, List.mem_cons_of_mem _ hd, e⟩
theorem sum_le {w : Nat} : ∀ {l : List Nat}, (∀ x ∈ l, x ≤ w) → l.sum ≤ l.length * w
  | [], _ => by simp
  | x :: r, h => by
    have h1 := h x List.mem_cons_self
    have h2 := sum_le fun y hy => h y (List.mem_cons_of_mem _ hy)
    rw [List.sum_cons, List.length_cons, Nat.succ_mul]
    omega
theorem join_le {w : Nat} {ds : List D} (h : ∀ d ∈ ds, d.shown.length ≤ w) : (Str.join ", " (PyData.shownAll ds)).length ≤ ds.length * (w + 2) := by
  have h1 := StrLaws.join_length_le ", " (PyData.shownAll ds)
  have h2 : ((PyData.shownAll ds).map (·.length)).sum ≤ ((PyData.shownAll ds).map (·.length)).length * w := sum_le fun x hx => by
    obtain ⟨t, ht, rfl⟩ := List.mem_map.mp hx
    obtain ⟨d, hd, rfl⟩ := shownAll_mem ht
    exact h d hd
  rw [List.length_map, PyData.shownAll_length] at h2
  rw [PyData.shownAll_length] at h1
  have e : ((", " : String) : Str).length = 2 := by decide +kernel
  rw [e] at h1
  rw [Nat.mul_add]
  omega
theorem sh_list {n w : Nat} {ds : List D} (h : ∀ d ∈ ds, Sh n w d) : Sh (n + 1) (ds.length * (w + 2) + 3) (.list ds) := by
  refine ⟨by simp [PyData.canLay0, layAll_of fun d hd => (h d hd).lay], by simp [PyData.showable, canAll_of fun d hd => (h d hd).can], ?_, ?_, ?_⟩
  · have := depAll_of fun d hd => (h d hd).dep
    simp only [PyData.depth]
    omega
  · rw [PyData.shown_list, Str.length_append, Str.length_append]
    have := join_le fun d hd => (h d hd).len
    have e1 : (("[" : String) : Str).length = 1 := by decide +kernel
    have e2 : (("]" : String) : Str).length = 1 := by decide +kernel
    omega
  · rw [PyData.shown_list]
    exact sOk_app (sOk_app (sOk_of _) (sOk_join (sOk_of _) fun t ht => by
      obtain ⟨d, hd, rfl⟩ := shownAll_mem ht
      exact (h d hd).ok)) (sOk_of _)
theorem sh_tuple {n w : Nat} {ds : List D} (h : ∀ d ∈ ds, Sh n w d) : Sh (n + 1) (ds.length * (w + 2) + 3) (.tuple ds) := by
  refine ⟨by simp [PyData.canLay0, layAll_of fun d hd => (h d hd).lay], by simp [PyData.showable, canAll_of fun d hd => (h d hd).can], ?_, ?_, ?_⟩
  · have := depAll_of fun d hd => (h d hd).dep
    simp only [PyData.depth]
    omega
  · rw [PyData.shown_tuple, Str.length_append, Str.length_append]
    have := join_le fun d hd => (h d hd).len
    have e1 : (("(" : String) : Str).length = 1 := by decide +kernel
    have e2 : ((if ds.length == 1 then ",)" else ")" : String) : Str).length ≤ 2 := by split <;> decide +kernel
    omega
  · rw [PyData.shown_tuple]
    exact sOk_app (sOk_app (sOk_of _) (sOk_join (sOk_of _) fun t ht => by
      obtain ⟨d, hd, rfl⟩ := shownAll_mem ht
      exact (h d hd).ok)) (sOk_of _)
theorem sh_two {n w : Nat} {a b : D} (ha : Sh n w a) (hb : Sh n w b) : ∀ d ∈ [a, b], Sh n w d := fun d hd => by
  simp only [List.mem_cons, List.not_mem_nil, or_false] at hd
  rcases hd with rfl | rfl
  · exact ha
  · exact hb
theorem Sh.repr {n w : Nat} {d : D} (h : Sh n w d) (hn : n ≤ 60) (hw : w ≤ 16777216) : reprD [d] = some (.fz (.str d.shown)) := by
  have : reprOk d = true := by
    unfold reprOk
    rw [h.lay, h.can, decide_eq_true (Nat.le_trans h.dep hn), szOkL (Nat.le_trans h.len hw)]
    rfl
  unfold reprD
  exact if_pos this
theorem Sh.shaped {n w : Nat} {d : D} (h : Sh n w d) (hn : n ≤ 60) : SeqAt.shaped d = true := by
  unfold SeqAt.shaped
  rw [h.lay, decide_eq_true (by have := h.dep; omega)]
  rfl
theorem Sh.str {n w : Nat} {d : D} (h : Sh n w d) : SeqAt.shaped (.str d.shown) = true := by
  have := h.ok
  unfold sOk at this
  unfold SeqAt.shaped
  simp [PyData.canLay0, PyData.depth, this]
theorem sh_ints {k : Nat} {a : List Int} (hk : 0 < k) (hk2 : k ≤ 1900) (h : ∀ y ∈ a, y.natAbs < 2 ^ k) : ∀ d ∈ a.map PyData.int, Sh 0 (k + 1) d := fun d hd => by
  obtain ⟨y, hy, rfl⟩ := List.mem_map.mp hd
  exact sh_int hk (h y hy) hk2
end DL
end
section
set_option maxRecDepth 100000
set_option exponentiation.threshold 100000
set_option maxHeartbeats 1000000
namespace K16
open PySem PySem.Spec L2 DL
/-! what repr shows of data with dicts -/
structure Sz (n w : Nat) (d : D) : Prop where
  pl : plainD d = true
  can : d.showable = true
  dep : d.depth ≤ n
  len : d.shown.length ≤ w
  ok : sOk d.shown = true
theorem Sz.of {n w : Nat} {d : D} (h : Sh n w d) : Sz n w d := ⟨plain_of_lay d h.lay, h.can, h.dep, h.len, h.ok⟩
theorem Sz.mono {n w n' w' : Nat} {d : D} (h : Sz n w d) (hn : n ≤ n') (hw : w ≤ w') : Sz n' w' d := ⟨h.pl, h.can, Nat.le_trans h.dep hn, Nat.le_trans h.len hw, h.ok⟩
theorem plainAll_of : ∀ {ds : List D}, (∀ d ∈ ds, plainD d = true) → plainAll ds = true
  | [], _ => by simp [plainAll]
  | x :: r, h => by simp [plainAll, h x List.mem_cons_self, plainAll_of fun d hd => h d (List.mem_cons_of_mem _ hd)]
theorem sz_list {n w : Nat} {ds : List D} (h : ∀ d ∈ ds, Sz n w d) : Sz (n + 1) (ds.length * (w + 2) + 3) (.list ds) := by
  refine ⟨by simp [plainD, plainAll_of fun d hd => (h d hd).pl], by simp [PyData.showable, canAll_of fun d hd => (h d hd).can], ?_, ?_, ?_⟩
  · have := depAll_of fun d hd => (h d hd).dep
    simp only [PyData.depth]
    omega
  · rw [PyData.shown_list, Str.length_append, Str.length_append]
    have := join_le fun d hd => (h d hd).len
    have e1 : (("[" : String) : Str).length = 1 := by decide +kernel
    have e2 : (("]" : String) : Str).length = 1 := by decide +kernel
    omega
  · rw [PyData.shown_list]
    exact sOk_app (sOk_app (sOk_of _) (sOk_join (sOk_of _) fun t ht => by
      obtain ⟨d, hd, rfl⟩ := shownAll_mem ht
      exact (h d hd).ok)) (sOk_of _)
theorem sz_tuple {n w : Nat} {ds : List D} (h : ∀ d ∈ ds, Sz n w d) : Sz (n + 1) (ds.length * (w + 2) + 3) (.tuple ds) := by
  refine ⟨by simp [plainD, plainAll_of fun d hd => (h d hd).pl], by simp [PyData.showable, canAll_of fun d hd => (h d hd).can], ?_, ?_, ?_⟩
  · have := depAll_of fun d hd => (h d hd).dep
    simp only [PyData.depth]
    omega
  · rw [PyData.shown_tuple, Str.length_append, Str.length_append]
    have := join_le fun d hd => (h d hd).len
    have e1 : (("(" : String) : Str).length = 1 := by decide +kernel
    have e2 : ((if ds.length == 1 then ",)" else ")" : String) : Str).length ≤ 2 := by split <;> decide +kernel
    omega
  · rw [PyData.shown_tuple]
    exact sOk_app (sOk_app (sOk_of _) (sOk_join (sOk_of _) fun t ht => by
      obtain ⟨d, hd, rfl⟩ := shownAll_mem ht
      exact (h d hd).ok)) (sOk_of _)
/-- a value that both looks take and repr shows -/
structure Gd (d : D) : Prop where
  v : okV d
  r : ∃ x, reprZ [d] = some (.fz (.str x)) ∧ neD (.str x) (.str x) = some (.fz (.bool false))
theorem gd_of {n w : Nat} {d : D} (v : okV d) (h : Sz n w d) (hn : n ≤ 60) (hw : w ≤ 16777216) : Gd d := by
  refine ⟨v, d.shown, ?_, neD_refl ?_⟩
  · have : reprOkZ d = true := by
      unfold reprOkZ
      rw [h.pl, h.can, decide_eq_true (Nat.le_trans h.dep hn), szOkL (Nat.le_trans h.len hw)]
      rfl
    unfold reprZ
    exact if_pos this
  · have := h.ok
    unfold sOk at this
    unfold SeqAt.shaped
    simp [PyData.canLay0, PyData.depth, this]
/-- an item of a list -/
def It (d : D) : Prop := ty0 d ∧ Sz 1 200 d
theorem it_int {i : Int} (h : i.natAbs < 2 ^ 90) : It (.int i) := ⟨⟨_, rfl⟩, (Sz.of (sh_int (k := 90) (by decide) h (by decide))).mono (by decide) (by decide)⟩
theorem gd_list {ds : List D} (h : ∀ d ∈ ds, It d) (hz : ds.length ≤ 60) : Gd (.list ds) := gd_of ⟨⟨_, rfl⟩, fun l e x hx => by cases e; exact (h x hx).1⟩ (sz_list fun d hd => (h d hd).2) (by decide) (by
  have := Nat.mul_le_mul_right (200 + 2) hz
  omega)
theorem gd_tuple {ds : List D} (h : ∀ d ∈ ds, It d) (hz : ds.length ≤ 60) : Gd (.tuple ds) := gd_of ⟨⟨_, rfl⟩, fun l e x hx => by cases e; exact (h x hx).1⟩ (sz_tuple fun d hd => (h d hd).2) (by decide) (by
  have := Nat.mul_le_mul_right (200 + 2) hz
  omega)
theorem it_nil : It (.list []) := ⟨⟨_, rfl⟩, (sz_list (n := 0) (w := 0) (ds := []) nofun).mono (by decide) (by decide)⟩
theorem it_one : It (.list [.int 1]) := ⟨⟨_, rfl⟩, (sz_list (n := 0) (w := 3) (ds := [.int 1]) fun d hd => by
  rw [List.mem_singleton.mp hd]
  exact (Sz.of (sh_int (k := 2) (by decide) (by decide) (by decide)))).mono (by decide) (by decide)⟩
theorem it_none : It .none := ⟨⟨_, rfl⟩, (Sz.of sh_none).mono (by decide) (by decide)⟩
theorem it_bool (b : Bool) : It (.bool b) := ⟨⟨_, rfl⟩, (Sz.of (sh_bool b)).mono (by decide) (by decide)⟩
theorem it_dict : It (.dict []) := ⟨⟨_, rfl⟩, by decide +kernel, by decide +kernel, by decide +kernel, by decide +kernel, by decide +kernel⟩
theorem it_dict1 : It (.dict [(.int 0, .int 1)]) := ⟨⟨_, rfl⟩, by decide +kernel, by decide +kernel, by decide +kernel, by decide +kernel, by decide +kernel⟩
theorem it_tup0 : It (.tuple []) := ⟨⟨_, rfl⟩, (sz_tuple (n := 0) (w := 0) (ds := []) nofun).mono (by decide) (by decide)⟩
theorem it_s1 : It (.str "1") := ⟨⟨_, rfl⟩, by decide +kernel, by decide +kernel, by decide +kernel, by decide +kernel, by decide +kernel⟩
theorem it_s7 : It (.str "7") := ⟨⟨_, rfl⟩, by decide +kernel, by decide +kernel, by decide +kernel, by decide +kernel, by decide +kernel⟩
theorem it_s0 : It (.str "") := ⟨⟨_, rfl⟩, by decide +kernel, by decide +kernel, by decide +kernel, by decide +kernel, by decide +kernel⟩
theorem gd_flat {d : D} (h : It d) (hq : seq? d = none) : Gd d := gd_of ⟨h.1, fun l e => by rw [hq] at e; cases e⟩ h.2 (by decide) (by decide)
/-! one value's turn -/
theorem lines_b {p ln a o vs v : D} {y : Option D} {io : Bool} (h : Gd v) : ∃ y', g__law_lines_right_b1 [.own true p, .dat ln, .dat a, .dat o, .own io vs, .dat v, rw' y] = some (.nx, [.own true p, .dat ln, .dat a, .dat o, .own io vs, .dat v, rw' (some y')]) := by
  obtain ⟨x, h1, h2⟩ := h.r
  obtain ⟨z, h3, h4⟩ := repr_two (lineB v)
  have h5 := sr_line h.v
  have h6 := sr_law_line h.v
  have h7 := two_of (lineB v)
  generalize lineB v = b at h3 h5 h6 h7
  refine ⟨.str x, ?_⟩
  simp only [g__law_lines_right_b1, mb, mr, mo, nameM, conM, binM, unM, boolM, ifM, DL.andM, DL.orM, DL.notM, andV, orV, notV, chainM, nilA, consA, dvs, dv, ownAt, fzs, lstM, tupM, callM, callP, permL, fzv, seqS, skipS, ifS, setS, asg, fr_z_un, fr_z_dat, fr_z_rw, fr_z_own, fr_s, turnF, retS, retV, dropS, frz, frzS, asgS, nilG, consG, tupG, subG, listAt, methM, augS, augSubS, forS, seqM, treeV, startD, endV, bodyF, bodyI, startI, ioAt, slM, partM, bors, callL, callI, callO, DL.flatV, DL.flat, List.filterMap_cons, List.filterMap_nil, List.map_cons, List.map_nil, List.getElem?_cons_zero, List.getElem?_cons_succ, List.getElem?_nil, List.set_cons_zero, List.set_cons_succ, List.cons_append, List.nil_append, List.length_cons, List.length_nil, Option.bind_some, Option.bind_none, Option.map_some, Option.map_none, Nat.reduceSub, Nat.reduceAdd, List.replicate_succ, List.replicate_zero, Bool.not_true, Bool.not_false, if_true, if_false, Bool.false_eq_true, reduceIte, decide_true, decide_false, Nat.reduceLT, Nat.reduceLeDiff, reduceCtorEq, Option.some.injEq, Prod.mk.injEq, h1, h5, h6, h7, h3, szOk1, szOk2, h4, h2]
  exact ⟨trivial, rfl⟩
theorem primes_b {p vs v : D} {y : Option D} {io : Bool} (h : ty0 v) {s : Sl} (hs : s = .own io vs ∨ s = .dat vs) : g__law_primes_right_b2 [.own true p, s, rw' y, .dat v] = some (.nx, [.own true p, s, rw' y, .dat v]) := by
  obtain ⟨b, h5, h6⟩ := r_prime h
  obtain ⟨z, h3, h4⟩ := repr_two b
  have h7 := two_of b
  rcases hs with rfl | rfl <;> simp only [g__law_primes_right_b2, mb, mr, mo, nameM, conM, binM, unM, boolM, ifM, DL.andM, DL.orM, DL.notM, andV, orV, notV, chainM, nilA, consA, dvs, dv, ownAt, fzs, lstM, tupM, callM, callP, permL, fzv, seqS, skipS, ifS, setS, asg, fr_z_un, fr_z_dat, fr_z_rw, fr_z_own, fr_s, turnF, retS, retV, dropS, frz, frzS, asgS, nilG, consG, tupG, subG, listAt, methM, augS, augSubS, forS, seqM, treeV, startD, endV, bodyF, bodyI, startI, ioAt, slM, partM, bors, callL, callI, callO, DL.flatV, DL.flat, List.filterMap_cons, List.filterMap_nil, List.map_cons, List.map_nil, List.getElem?_cons_zero, List.getElem?_cons_succ, List.getElem?_nil, List.set_cons_zero, List.set_cons_succ, List.cons_append, List.nil_append, List.length_cons, List.length_nil, Option.bind_some, Option.bind_none, Option.map_some, Option.map_none, Nat.reduceSub, Nat.reduceAdd, List.replicate_succ, List.replicate_zero, Bool.not_true, Bool.not_false, if_true, if_false, Bool.false_eq_true, reduceIte, decide_true, decide_false, Nat.reduceLT, Nat.reduceLeDiff, reduceCtorEq, Option.some.injEq, Prod.mk.injEq, h5, h6, h7, h3, szOk1, szOk2, h4]
end K16
end
section
set_option maxRecDepth 100000
set_option exponentiation.threshold 100000
set_option maxHeartbeats 1000000
namespace K16
open PySem PySem.Spec L2 DL
theorem append_L {xs : List D} {y : D} (hz : xs.length ≤ 900) : appendL xs [y] = some (.none, xs ++ [y]) := by
  unfold appendL
  simp only [szOkL (show xs.length + 1 ≤ 16777216 by omega), if_true]
theorem addL (x y : List D) (h : x.length + y.length ≤ 16777216) : addD (.list x) (.list y) = some (.ow (.list (x ++ y))) := by
  unfold addD
  simp only [szOkL h, if_true]
theorem line_b1 {d d' : D} {m w v n : Int} {xs : List D} {x y : Int} {r : Option D} (hw : mulD (.int 2) (.int w) = some (.fz (.int v))) (hn : v + 1 = n) (h : m__law_draw d [.int n] = some (.fz (.int x), d')) (hy : x - w = y) (ha : appendL xs [.int y] = some (.none, xs ++ [.int y])) : g__law_line_b1 [.own true d, .dat (.int m), .dat (.int w), .own false (.list xs), rw' r] = some (.nx, [.own true d', .dat (.int m), .dat (.int w), .own false (.list (xs ++ [.int y])), rw' r]) := by
  simp only [g__law_line_b1, mb, mr, mo, nameM, conM, binM, unM, boolM, ifM, DL.andM, DL.orM, DL.notM, andV, orV, notV, chainM, nilA, consA, dvs, dv, ownAt, fzs, lstM, tupM, callM, callP, permL, fzv, seqS, skipS, ifS, setS, asg, fr_z_un, fr_z_dat, fr_z_rw, fr_z_own, fr_s, turnF, retS, retV, dropS, frz, frzS, asgS, nilG, consG, tupG, subG, listAt, methM, augS, augSubS, forS, seqM, treeV, startD, endV, bodyF, bodyI, startI, ioAt, slM, partM, bors, callL, callI, callO, DL.flatV, DL.flat, List.filterMap_cons, List.filterMap_nil, List.map_cons, List.map_nil, List.getElem?_cons_zero, List.getElem?_cons_succ, List.getElem?_nil, List.set_cons_zero, List.set_cons_succ, List.cons_append, List.nil_append, List.length_cons, List.length_nil, Option.bind_some, Option.bind_none, Option.map_some, Option.map_none, Nat.reduceSub, Nat.reduceAdd, List.replicate_succ, List.replicate_zero, Bool.not_true, Bool.not_false, if_true, if_false, Bool.false_eq_true, reduceIte, decide_true, decide_false, Nat.reduceLT, Nat.reduceLeDiff, reduceCtorEq, Option.some.injEq, Prod.mk.injEq, hw, addD, hn, h, subI, intB, hy, ha]
theorem line_end {d d' d'' x xs : D} {m w u : Int} {δ : DS} {ys : List D} (hf : g__law_line_f1 [.own true d, .dat (.int m), .dat (.int w), .own false (.list []), .un] = some (.nx, .own true d' :: .dat (.int m) :: .dat (.int w) :: .own false xs :: δ)) (hu : 1 - w = u) (hp : m__law_pick d' [.list [.int 1, .int (-1), .int 2, .int 3, .int u]] = some (.fz x, d''))
    (ha : addD xs (.list [x]) = some (.ow (.list ys))) : m__law_line d [.int m, .int w] = some (.ow (.list ys), d'') := by
  simp only [m__law_line, g__law_line, g__law_line_s1, g__law_line_s2, mb, mr, mo, nameM, conM, binM, unM, boolM, ifM, DL.andM, DL.orM, DL.notM, andV, orV, notV, chainM, nilA, consA, dvs, dv, ownAt, fzs, lstM, tupM, callM, callP, permL, fzv, seqS, skipS, ifS, setS, asg, freeAt, retS, retV, dropS, frz, frzS, asgS, nilG, consG, tupG, subG, listAt, methM, augS, augSubS, forS, seqM, treeV, startD, endV, bodyF, bodyI, startI, ioAt, slM, partM, bors, callL, callI, callO, DL.flatV, DL.flat, List.filterMap_cons, List.filterMap_nil, List.map_cons, List.map_nil, List.getElem?_cons_zero, List.getElem?_cons_succ, List.getElem?_nil, List.set_cons_zero, List.set_cons_succ, List.cons_append, List.nil_append, List.length_cons, List.length_nil, Option.bind_some, Option.bind_none, Option.map_some, Option.map_none, Nat.reduceSub, Nat.reduceAdd, List.replicate_succ, List.replicate_zero, Bool.not_true, Bool.not_false, if_true, if_false, Bool.false_eq_true, reduceIte, decide_true, decide_false, Nat.reduceLT, Nat.reduceLeDiff, reduceCtorEq, Option.some.injEq, Prod.mk.injEq, szOk0, hf, negI, subI, intB, hu, szOkL (show 5 ≤ 16777216 by decide), hp, szOk1, ha]
/-- a drawn line -/
structure Dr (a : List D) : Prop where
  len : 1 ≤ a.length ∧ a.length ≤ 13
  it : ∀ d ∈ a, It d
theorem r_law_line {d : D} {m : Int} (hd : Pot d) (h0 : 0 ≤ m) (h1 : m < 12) : ∃ a d', m__law_line d [.int m, .int 9] = some (.ow (.list a), d') ∧ Pot d' ∧ Dr a := by
  obtain ⟨s, r, e, p⟩ := for_ex (δ0 := [.own true d, .dat (.int m), .dat (.int 9), .own false (.list []), rw' none]) (fi := rngM1 (consA (nameM 1) nilA)) (gt := asg 4) (body := g__law_line_b1) (fun i : Nat => .int ((0 : Int) + (i : Nat))) (fun (s : D × List D) (r : Option D) => [.own true s.1, .dat (.int m), .dat (.int 9), .own false (.list s.2), rw' r]) (fun k s => Pot s.1 ∧ s.2.length = k ∧ ∀ y ∈ s.2, It y) (List.range m.toNat) (s0 := (d, [])) (r0 := none) rfl (rng_1 (by simp only [mb, mr, mo, nameM, conM, binM, unM, boolM, ifM, DL.andM, DL.orM, DL.notM, andV, orV, notV, chainM, nilA, consA, dvs, dv, ownAt, fzs, lstM, tupM, callM, callP, permL, fzv, seqS, skipS, ifS, setS, asg, fr_z_un, fr_z_dat, fr_z_rw, fr_z_own, fr_s, turnF, retS, retV, dropS, frz, frzS, asgS, nilG, consG, tupG, subG, listAt, methM, augS, augSubS, forS, seqM, treeV, startD, endV, bodyF, bodyI, startI, ioAt, slM, partM, bors, callL, callI, callO, DL.flatV, DL.flat, List.filterMap_cons, List.filterMap_nil, List.map_cons, List.map_nil, List.getElem?_cons_zero, List.getElem?_cons_succ, List.getElem?_nil, List.set_cons_zero, List.set_cons_succ, List.cons_append, List.nil_append, List.length_cons, List.length_nil, Option.bind_some, Option.bind_none, Option.map_some, Option.map_none, Nat.reduceSub, Nat.reduceAdd, List.replicate_succ, List.replicate_zero, Bool.not_true, Bool.not_false, if_true, if_false, Bool.false_eq_true, reduceIte, decide_true, decide_false, Nat.reduceLT, Nat.reduceLeDiff, reduceCtorEq, Option.some.injEq, Prod.mk.injEq]) ⟨h0, by omega⟩) ⟨hd, rfl, by intro y hy; cases hy⟩ (fun k i s r hk p => by
    have hkl : k < m.toNat := by simpa using (List.getElem?_eq_some_iff.mp hk).1
    obtain ⟨x, d', hx, hd', x0, x1⟩ := draw_ok p.1 (n := 19) (by omega) (by omega)
    refine ⟨(d', s.2 ++ [.int (x - 9)]), some (.int ((0 : Int) + (i : Nat))), ?_, hd', by simp [p.2.1], fun y hy => ?_⟩
    · have e := line_b1 (m := m) (r := some (.int ((0 : Int) + (i : Nat)))) (mulD_lt (j := 9) (by decide) (by decide)) rfl hx rfl (append_L (by omega : s.2.length ≤ 900))
      generalize (0 : Int) + (i : Nat) = j at e ⊢
      generalize s.2 ++ [.int (x - 9)] = ys at e ⊢
      unfold rw' at e
      simp only [mb, mr, mo, nameM, conM, binM, unM, boolM, ifM, DL.andM, DL.orM, DL.notM, andV, orV, notV, chainM, nilA, consA, dvs, dv, ownAt, fzs, lstM, tupM, callM, callP, permL, fzv, seqS, skipS, ifS, setS, asg, fr_z_un, fr_z_dat, fr_z_rw, fr_z_own, fr_s, turnF, retS, retV, dropS, frz, frzS, asgS, nilG, consG, tupG, subG, listAt, methM, augS, augSubS, forS, seqM, treeV, startD, endV, bodyF, bodyI, startI, ioAt, slM, partM, bors, callL, callI, callO, DL.flatV, DL.flat, List.filterMap_cons, List.filterMap_nil, List.map_cons, List.map_nil, List.getElem?_cons_zero, List.getElem?_cons_succ, List.getElem?_nil, List.set_cons_zero, List.set_cons_succ, List.cons_append, List.nil_append, List.length_cons, List.length_nil, Option.bind_some, Option.bind_none, Option.map_some, Option.map_none, Nat.reduceSub, Nat.reduceAdd, List.replicate_succ, List.replicate_zero, Bool.not_true, Bool.not_false, if_true, if_false, Bool.false_eq_true, reduceIte, decide_true, decide_false, Nat.reduceLT, Nat.reduceLeDiff, reduceCtorEq, Option.some.injEq, Prod.mk.injEq, e]
      rfl
    · rcases List.mem_append.mp hy with h | h
      · exact p.2.2 y h
      · rw [List.mem_singleton.mp h]
        exact it_int (by omega))
  rw [List.length_range] at p
  obtain ⟨x, hx, d', hp, hd'⟩ := pick_ok (xs := [.int 1, .int (-1), .int 2, .int 3, .int (-8)]) p.1 (by simp) (by show 5 < _; decide)
  have hix : It x := by
    simp only [List.mem_cons, List.not_mem_nil, or_false] at hx
    rcases hx with rfl | rfl | rfl | rfl | rfl <;> exact it_int (by decide)
  refine ⟨s.2 ++ [x], d', line_end e rfl hp (addL s.2 [x] (by simp; omega)), hd', ⟨by simp, by simp; omega⟩, fun z hz => ?_⟩
  rcases List.mem_append.mp hz with h | h
  · exact p.2.2 z h
  · rw [List.mem_singleton.mp h]
    exact hix
/-! the values -/
theorem lr_s1 {p p1 p2 a : D} {k : Int} (h1 : m__law_draw p [.int 12] = some (.fz (.int k), p1)) (h2 : m__law_line p1 [.int k, .int 9] = some (.ow a, p2)) : g__law_lines_right_s1 [.own true p, .un, .un, .un, .un, .un, .un] = some (.nx, [.own true p2, .own false a, .un, .un, .un, .un, .un]) := by
  simp only [g__law_lines_right_s1, mb, mr, mo, nameM, conM, binM, unM, boolM, ifM, DL.andM, DL.orM, DL.notM, andV, orV, notV, chainM, nilA, consA, dvs, dv, ownAt, fzs, lstM, tupM, callM, callP, permL, fzv, seqS, skipS, ifS, setS, asg, fr_z_un, fr_z_dat, fr_z_rw, fr_z_own, fr_s, turnF, retS, retV, dropS, frz, frzS, asgS, nilG, consG, tupG, subG, listAt, methM, augS, augSubS, forS, seqM, treeV, startD, endV, bodyF, bodyI, startI, ioAt, slM, partM, bors, callL, callI, callO, DL.flatV, DL.flat, List.filterMap_cons, List.filterMap_nil, List.map_cons, List.map_nil, List.getElem?_cons_zero, List.getElem?_cons_succ, List.getElem?_nil, List.set_cons_zero, List.set_cons_succ, List.cons_append, List.nil_append, List.length_cons, List.length_nil, Option.bind_some, Option.bind_none, Option.map_some, Option.map_none, Nat.reduceSub, Nat.reduceAdd, List.replicate_succ, List.replicate_zero, Bool.not_true, Bool.not_false, if_true, if_false, Bool.false_eq_true, reduceIte, decide_true, decide_false, Nat.reduceLT, Nat.reduceLeDiff, reduceCtorEq, Option.some.injEq, Prod.mk.injEq, h1, h2]
theorem lr_s2 {p p1 p2 a o : D} {n k : Int} (hl : lenD [a] = some (.fz (.int n))) (h1 : m__law_draw p [.int n] = some (.fz (.int k), p1)) (h2 : m__law_pick p1 [.list [.none, .bool true, .bool false, .str "1", .list [.int 1], .dict [], .tuple []]] = some (.fz o, p2)) : g__law_lines_right_s2 [.own true p, .own false a, .un, .un, .un, .un, .un] = some (.nx, [.own true p2, .own false a, .dat (.int k), .dat o, .un, .un, .un]) := by
  simp only [g__law_lines_right_s2, parS, parO, dnewM, mb, mr, mo, nameM, conM, binM, unM, boolM, ifM, DL.andM, DL.orM, DL.notM, andV, orV, notV, chainM, nilA, consA, dvs, dv, ownAt, fzs, lstM, tupM, callM, callP, permL, fzv, seqS, skipS, ifS, setS, asg, fr_z_un, fr_z_dat, fr_z_rw, fr_z_own, fr_s, turnF, retS, retV, dropS, frz, frzS, asgS, nilG, consG, tupG, subG, listAt, methM, augS, augSubS, forS, seqM, treeV, startD, endV, bodyF, bodyI, startI, ioAt, slM, partM, bors, callL, callI, callO, DL.flatV, DL.flat, List.filterMap_cons, List.filterMap_nil, List.map_cons, List.map_nil, List.getElem?_cons_zero, List.getElem?_cons_succ, List.getElem?_nil, List.set_cons_zero, List.set_cons_succ, List.cons_append, List.nil_append, List.length_cons, List.length_nil, Option.bind_some, Option.bind_none, Option.map_some, Option.map_none, Nat.reduceSub, Nat.reduceAdd, List.replicate_succ, List.replicate_zero, Bool.not_true, Bool.not_false, if_true, if_false, Bool.false_eq_true, reduceIte, decide_true, decide_false, Nat.reduceLT, Nat.reduceLeDiff, reduceCtorEq, Option.some.injEq, Prod.mk.injEq, hl, h1, szOk0, szOk1, szOkL (show 7 ≤ 16777216 by decide), h2]
theorem lr_s3 {p a o t a1 b1 z12 z13 b2 a2 a3 c1 c2 e1 e2 a4 a5 : D} {k k1 : Int} (h1 : tupleD [a] = some (.fz t)) (h2 : addD a (.list [.int 0]) = some (.ow a1)) (h3 : slD a none (some (-1)) = some (.ow b1)) (h4 : mulD (.list [.int 0]) (.int 12) = some (.ow z12)) (h5 : slD a (some (-1)) none = some (.ow b2)) (h6 : addD z12 b2 = some (.ow a2)) (h7 : mulD (.list [.int 0]) (.int 13) = some (.ow z13)) (h8 : addD z13 b2 = some (.ow a3))
    (h9 : slD a none (some k) = some (.ow c1)) (h10 : addD c1 (.list [o]) = some (.ow e1)) (h11 : addD (.int k) (.int 1) = some (.fz (.int k1))) (h12 : slD a (some k1) none = some (.ow c2)) (h13 : addD e1 c2 = some (.ow a4)) (h14 : addD c1 (.list [.int 0]) = some (.ow e2)) (h15 : addD e2 c2 = some (.ow a5)) :
    g__law_lines_right_s3 [.own true p, .own false a, .dat (.int k), .dat o, .un, .un, .un] = some (.nx, [.own true p, .dat a, .dat (.int k), .dat o, .own false (.list [a, t, a1, b1, a2, a3, a4, a5]), .un, .un]) := by
  simp only [g__law_lines_right_s3, mb, mr, mo, nameM, conM, binM, unM, boolM, ifM, DL.andM, DL.orM, DL.notM, andV, orV, notV, chainM, nilA, consA, dvs, dv, ownAt, fzs, lstM, tupM, callM, callP, permL, fzv, seqS, skipS, ifS, setS, asg, fr_z_un, fr_z_dat, fr_z_rw, fr_z_own, fr_s, turnF, retS, retV, dropS, frz, frzS, asgS, nilG, consG, tupG, subG, listAt, methM, augS, augSubS, forS, seqM, treeV, startD, endV, bodyF, bodyI, startI, ioAt, slM, partM, bors, callL, callI, callO, DL.flatV, DL.flat, List.filterMap_cons, List.filterMap_nil, List.map_cons, List.map_nil, List.getElem?_cons_zero, List.getElem?_cons_succ, List.getElem?_nil, List.set_cons_zero, List.set_cons_succ, List.cons_append, List.nil_append, List.length_cons, List.length_nil, Option.bind_some, Option.bind_none, Option.map_some, Option.map_none, Nat.reduceSub, Nat.reduceAdd, List.replicate_succ, List.replicate_zero, Bool.not_true, Bool.not_false, if_true, if_false, Bool.false_eq_true, reduceIte, decide_true, decide_false, Nat.reduceLT, Nat.reduceLeDiff, reduceCtorEq, Option.some.injEq, Prod.mk.injEq, partM, szOk1, szOkL (show 8 ≤ 16777216 by decide), negI, h1, h2, h3, h4, h5, h6, h7, h8, h9, h10, h11, h12, h13, h14, h15]
def fixedV : List D := [.list [], .tuple [], .list [.int 0], .list [.int 0, .int 0], .none, .int 0, .int 5, .bool true, .str "", .str "7", .dict [], .dict [(.int 0, .int 1)], .list [.list []], .list [.list [.int 1]], .list [.int 10000000000000000000000000], .tuple [.int 0, .int 10000000000000000000000000], .list (List.replicate 13 (.int 1)), .list (List.replicate 14 (.int 1))]
theorem one13 : mulD (.list [.int 1]) (.int 13) = some (.ow (.list (List.replicate 13 (.int 1)))) := rfl
theorem one14 : mulD (.list [.int 1]) (.int 14) = some (.ow (.list (List.replicate 14 (.int 1)))) := rfl
theorem pow25 : powD (.int 10) (.int 25) = some (.fz (.int 10000000000000000000000000)) := rfl
theorem lr_items {p a o vs ws : D} {k : Int} (xs : List D) (h : addD vs (.list fixedV) = some (.ow (.list xs))) : seqM (binM addD (nameM 4) (lstM (consA (lstM nilA) (consA (tupM nilA) (consA (lstM (consA (conM (.int 0)) nilA)) (consA (lstM (consA (conM (.int 0)) (consA (conM (.int 0)) nilA))) (consA (conM .none) (consA (conM (.int 0)) (consA (conM (.int 5)) (consA (conM (.bool true)) (consA (conM (.str "")) (consA (conM (.str "7")) (consA dnewM (consA (ddispM 0 1) (consA (lstM (consA (lstM nilA) nilA)) (consA (lstM (consA (lstM (consA (conM (.int 1)) nilA)) nilA)) (consA (lstM (consA (binM powD (conM (.int 10)) (conM (.int 25))) nilA)) (consA (tupM (consA (conM (.int 0)) (consA (binM powD (conM (.int 10)) (conM (.int 25))) nilA))) (consA (binM mulD (lstM (consA (conM (.int 1)) nilA)) (conM (.int 13))) (consA (binM mulD (lstM (consA (conM (.int 1)) nilA)) (conM (.int 14))) nilA))))))))))))))))))))
    [.own true p, .dat a, .dat (.int k), .dat o, .own false vs, .un, .un] = some (xs, [.own true p, .dat a, .dat (.int k), .dat o, .own false vs, .un, .un]) := by
  unfold fixedV at h
  have e1 := one13
  have e2 := one14
  generalize List.replicate 13 (PyData.int 1) = r1 at h e1
  generalize List.replicate 14 (PyData.int 1) = r2 at h e2
  simp only [mb, mr, mo, nameM, conM, binM, unM, boolM, ifM, DL.andM, DL.orM, DL.notM, andV, orV, notV, chainM, nilA, consA, dvs, dv, ownAt, fzs, lstM, tupM, callM, callP, permL, fzv, seqS, skipS, ifS, setS, asg, fr_z_un, fr_z_dat, fr_z_rw, fr_z_own, fr_s, turnF, retS, retV, dropS, frz, frzS, asgS, nilG, consG, tupG, subG, listAt, methM, augS, augSubS, forS, seqM, treeV, startD, endV, bodyF, bodyI, startI, ioAt, slM, partM, bors, callL, callI, callO, DL.flatV, DL.flat, List.filterMap_cons, List.filterMap_nil, List.map_cons, List.map_nil, List.getElem?_cons_zero, List.getElem?_cons_succ, List.getElem?_nil, List.set_cons_zero, List.set_cons_succ, List.cons_append, List.nil_append, List.length_cons, List.length_nil, Option.bind_some, Option.bind_none, Option.map_some, Option.map_none, Nat.reduceSub, Nat.reduceAdd, List.replicate_succ, List.replicate_zero, Bool.not_true, Bool.not_false, if_true, if_false, Bool.false_eq_true, reduceIte, decide_true, decide_false, Nat.reduceLT, Nat.reduceLeDiff, reduceCtorEq, Option.some.injEq, Prod.mk.injEq, dnewM, ddispM, szOk0, szOk1, szOk2, szOkL (show 18 ≤ 16777216 by decide), pow25, e1, e2, h, itemsOf]
theorem gd_fixed : ∀ d ∈ fixedV, Gd d := by
  intro d hd
  have i0 : It (.int 0) := it_int (by decide)
  have i1 : It (.int 1) := it_int (by decide)
  have i25 : It (.int 10000000000000000000000000) := it_int (by decide)
  unfold fixedV at hd
  simp only [List.mem_cons, List.not_mem_nil, or_false] at hd
  rcases hd with rfl | rfl | rfl | rfl | rfl | rfl | rfl | rfl | rfl | rfl | rfl | rfl | rfl | rfl | rfl | rfl | rfl | rfl
  · exact gd_list nofun (by decide)
  · exact gd_tuple nofun (by decide)
  · exact gd_list (by intro d h; rw [List.mem_singleton.mp h]; exact i0) (by decide)
  · exact gd_list (by intro d h; simp only [List.mem_cons, List.not_mem_nil, or_false, or_self] at h; rw [h]; exact i0) (by decide)
  · exact gd_flat it_none rfl
  · exact gd_flat i0 rfl
  · exact gd_flat (it_int (by decide)) rfl
  · exact gd_flat (it_bool true) rfl
  · exact gd_flat it_s0 rfl
  · exact gd_flat it_s7 rfl
  · exact gd_flat it_dict rfl
  · exact gd_flat it_dict1 rfl
  · exact gd_list (by intro d h; rw [List.mem_singleton.mp h]; exact it_nil) (by decide)
  · exact gd_list (by intro d h; rw [List.mem_singleton.mp h]; exact it_one) (by decide)
  · exact gd_list (by intro d h; rw [List.mem_singleton.mp h]; exact i25) (by decide)
  · exact gd_tuple (by intro d h; simp only [List.mem_cons, List.not_mem_nil, or_false] at h; rcases h with rfl | rfl; exact i0; exact i25) (by decide)
  · exact gd_list (by intro d h; rw [(List.mem_replicate.mp h).2]; exact i1) (by simp)
  · exact gd_list (by intro d h; rw [(List.mem_replicate.mp h).2]; exact i1) (by simp)
theorem cut_mem {ds : List D} {lo hi : Option Int} : ∀ d ∈ cutD ds lo hi, d ∈ ds := fun d h => List.mem_of_mem_drop (List.mem_of_mem_take h)
theorem cut_len (ds : List D) (lo hi : Option Int) : (cutD ds lo hi).length ≤ ds.length := by
  unfold cutD
  rw [List.length_take, List.length_drop]
  omega
theorem it_app {x y : List D} (hx : ∀ d ∈ x, It d) (hy : ∀ d ∈ y, It d) : ∀ d ∈ x ++ y, It d := fun d h => by
  rcases List.mem_append.mp h with h | h
  · exact hx d h
  · exact hy d h
theorem it_cut {x : List D} (hx : ∀ d ∈ x, It d) (lo hi : Option Int) : ∀ d ∈ cutD x lo hi, It d := fun d h => hx d (cut_mem d h)
theorem it_sg {x : D} (hx : It x) : ∀ d ∈ [x], It d := fun d h => by rw [List.mem_singleton.mp h]; exact hx
theorem zeros12 : mulD (.list [.int 0]) (.int 12) = some (.ow (.list (List.replicate 12 (.int 0)))) := rfl
theorem zeros13 : mulD (.list [.int 0]) (.int 13) = some (.ow (.list (List.replicate 13 (.int 0)))) := rfl
theorem lr_all {p p1 p2 a o vs : D} {k : Int} {δ : DS} (h1 : g__law_lines_right_s1 [.own true p, .un, .un, .un, .un, .un, .un] = some (.nx, [.own true p1, .own false a, .un, .un, .un, .un, .un])) (h2 : g__law_lines_right_s2 [.own true p1, .own false a, .un, .un, .un, .un, .un] = some (.nx, [.own true p2, .own false a, .dat (.int k), .dat o, .un, .un, .un]))
    (h3 : g__law_lines_right_s3 [.own true p2, .own false a, .dat (.int k), .dat o, .un, .un, .un] = some (.nx, [.own true p2, .dat a, .dat (.int k), .dat o, .own false vs, .un, .un])) (h4 : g__law_lines_right_f1 [.own true p2, .dat a, .dat (.int k), .dat o, .own false vs, .un, .un] = some (.nx, .own true p2 :: δ)) :
    m__law_lines_right p [] = some (.fz (.bool true), p2) := by
  simp only [m__law_lines_right, g__law_lines_right, g__law_lines_right_s4, mb, mr, mo, nameM, conM, binM, unM, boolM, ifM, DL.andM, DL.orM, DL.notM, andV, orV, notV, chainM, nilA, consA, dvs, dv, ownAt, fzs, lstM, tupM, callM, callP, permL, fzv, seqS, skipS, ifS, setS, asg, freeAt, retS, retV, dropS, frz, frzS, asgS, nilG, consG, tupG, subG, listAt, methM, augS, augSubS, forS, seqM, treeV, startD, endV, bodyF, bodyI, startI, ioAt, slM, partM, bors, callL, callI, callO, DL.flatV, DL.flat, List.filterMap_cons, List.filterMap_nil, List.map_cons, List.map_nil, List.getElem?_cons_zero, List.getElem?_cons_succ, List.getElem?_nil, List.set_cons_zero, List.set_cons_succ, List.cons_append, List.nil_append, List.length_cons, List.length_nil, Option.bind_some, Option.bind_none, Option.map_some, Option.map_none, Nat.reduceSub, Nat.reduceAdd, List.replicate_succ, List.replicate_zero, Bool.not_true, Bool.not_false, if_true, if_false, Bool.false_eq_true, reduceIte, decide_true, decide_false, Nat.reduceLT, Nat.reduceLeDiff, reduceCtorEq, Option.some.injEq, Prod.mk.injEq, h1, h2, h3, h4]
theorem r_lines {p : D} (hp : Pot p) : ∃ p', m__law_lines_right p [] = some (.fz (.bool true), p') ∧ Pot p' := by
  obtain ⟨k0, p1, h1, hp1, k00, k01⟩ := draw_ok hp (n := 12) (by decide) (by decide)
  obtain ⟨a, p2, h2, hp2, da⟩ := r_law_line hp1 k00 k01
  obtain ⟨l0, l1⟩ := da.len
  obtain ⟨k, p3, h3, hp3, k0, k1⟩ := draw_ok hp2 (n := (a.length : Nat)) (by omega) (by omega)
  obtain ⟨o, ho, p4, h4, hp4⟩ := pick_ok (xs := [.none, .bool true, .bool false, .str "1", .list [.int 1], .dict [], .tuple []]) hp3 (by simp) (by show 7 < _; decide)
  have io : It o := by
    simp only [List.mem_cons, List.not_mem_nil, or_false] at ho
    rcases ho with rfl | rfl | rfl | rfl | rfl | rfl | rfl
    · exact it_none
    · exact it_bool _
    · exact it_bool _
    · exact it_s1
    · exact it_one
    · exact it_dict
    · exact it_tup0
  have i0 : It (.int 0) := it_int (by decide)
  have z12 : ∀ d ∈ List.replicate 12 (PyData.int 0), It d := fun d h => by rw [(List.mem_replicate.mp h).2]; exact i0
  have z13 : ∀ d ∈ List.replicate 13 (PyData.int 0), It d := fun d h => by rw [(List.mem_replicate.mp h).2]; exact i0
  have cl := cut_len a
  have s1 := lr_s1 h1 h2
  have s2 := lr_s2 (a := .list a) rfl h3 h4
  have len12 : (List.replicate 12 (PyData.int 0)).length = 12 := List.length_replicate
  have len13 : (List.replicate 13 (PyData.int 0)).length = 13 := List.length_replicate
  have b1 := cl (some (-1)) none
  have b2 := cl none (some k)
  have b3 := cl (some (k + 1)) none
  have s3 := lr_s3 (p := p4) (a := .list a) (o := o) (k := k) (k1 := k + 1) (t := .tuple a) (a1 := .list (a ++ [.int 0])) (b1 := .list (cutD a none (some (-1)))) (z12 := .list (List.replicate 12 (.int 0))) (z13 := .list (List.replicate 13 (.int 0))) (b2 := .list (cutD a (some (-1)) none)) (a2 := .list (List.replicate 12 (.int 0) ++ cutD a (some (-1)) none)) (a3 := .list (List.replicate 13 (.int 0) ++ cutD a (some (-1)) none))
    (c1 := .list (cutD a none (some k))) (e1 := .list (cutD a none (some k) ++ [o])) (c2 := .list (cutD a (some (k + 1)) none)) (a4 := .list (cutD a none (some k) ++ [o] ++ cutD a (some (k + 1)) none)) (e2 := .list (cutD a none (some k) ++ [.int 0])) (a5 := .list (cutD a none (some k) ++ [.int 0] ++ cutD a (some (k + 1)) none))
    rfl (addL a _ (by simp; omega)) rfl zeros12 rfl (addL _ _ (by rw [len12]; omega)) zeros13 (addL _ _ (by rw [len13]; omega)) rfl (addL _ _ (by simp; omega)) rfl rfl (addL _ _ (by simp; omega)) (addL _ _ (by simp; omega)) (addL _ _ (by simp; omega))
  have gl : ∀ {x : List D}, (∀ d ∈ x, It d) → x.length ≤ 40 → Gd (.list x) := fun h hz => gd_list h (by omega)
  have good : ∀ d ∈ [PyData.list a, .tuple a, .list (a ++ [.int 0]), .list (cutD a none (some (-1))), .list (List.replicate 12 (.int 0) ++ cutD a (some (-1)) none), .list (List.replicate 13 (.int 0) ++ cutD a (some (-1)) none), .list (cutD a none (some k) ++ [o] ++ cutD a (some (k + 1)) none), .list (cutD a none (some k) ++ [.int 0] ++ cutD a (some (k + 1)) none)] ++ fixedV, Gd d := by
    intro d hd
    rcases List.mem_append.mp hd with hd | hd
    · simp only [List.mem_cons, List.not_mem_nil, or_false] at hd
      rcases hd with rfl | rfl | rfl | rfl | rfl | rfl | rfl | rfl
      · exact gl da.it (by omega)
      · exact gd_tuple da.it (by omega)
      · exact gl (it_app da.it (it_sg i0)) (by simp; omega)
      · exact gl (it_cut da.it _ _) (by have := cl none (some (-1)); omega)
      · exact gl (it_app z12 (it_cut da.it _ _)) (by rw [List.length_append, len12]; omega)
      · exact gl (it_app z13 (it_cut da.it _ _)) (by rw [List.length_append, len13]; omega)
      · exact gl (it_app (it_app (it_cut da.it _ _) (it_sg io)) (it_cut da.it _ _)) (by rw [List.length_append, List.length_append, List.length_singleton]; omega)
      · exact gl (it_app (it_app (it_cut da.it _ _) (it_sg i0)) (it_cut da.it _ _)) (by rw [List.length_append, List.length_append, List.length_singleton]; omega)
    · exact gd_fixed d hd
  refine ⟨p4, ?_, hp4⟩
  generalize hvs : [PyData.list a, .tuple a, .list (a ++ [.int 0]), .list (cutD a none (some (-1))), .list (List.replicate 12 (.int 0) ++ cutD a (some (-1)) none), .list (List.replicate 13 (.int 0) ++ cutD a (some (-1)) none), .list (cutD a none (some k) ++ [o] ++ cutD a (some (k + 1)) none), .list (cutD a none (some k) ++ [.int 0] ++ cutD a (some (k + 1)) none)] = vs at s3 good
  have vl : vs.length = 8 := by rw [← hvs]; rfl
  have hadd : addD (.list vs) (.list fixedV) = some (.ow (.list (vs ++ fixedV))) := addL _ _ (by rw [vl]; decide)
  obtain ⟨r', e, -⟩ := for_fold (body := g__law_lines_right_b1) (gt := asg 5) (fun x : D => x) (fun (_ : Unit) (r : Option D × Option D) => [.own true p4, .dat (.list a), .dat (.int k), .dat o, .own false (.list vs), rw' r.1, rw' r.2]) (fun u _ => u) (fun _ _ => True) (vs ++ fixedV) (s0 := ()) (r0 := (none, none)) rfl (by rw [List.map_id']; exact lr_items (ws := .none) _ hadd) trivial (fun j v u r hj _ => ⟨by
    obtain ⟨y, e⟩ := lines_b (p := p4) (ln := .list a) (a := .int k) (o := o) (vs := .list vs) (y := r.2) (io := false) (good v (List.mem_of_getElem? hj))
    refine ⟨(some v, some y), ?_⟩
    simp only [mb, mr, mo, nameM, conM, binM, unM, boolM, ifM, DL.andM, DL.orM, DL.notM, andV, orV, notV, chainM, nilA, consA, dvs, dv, ownAt, fzs, lstM, tupM, callM, callP, permL, fzv, seqS, skipS, ifS, setS, asg, fr_z_un, fr_z_dat, fr_z_rw, fr_z_own, fr_s, turnF, retS, retV, dropS, frz, frzS, asgS, nilG, consG, tupG, subG, listAt, methM, augS, augSubS, forS, seqM, treeV, startD, endV, bodyF, bodyI, startI, ioAt, slM, partM, bors, callL, callI, callO, DL.flatV, DL.flat, List.filterMap_cons, List.filterMap_nil, List.map_cons, List.map_nil, List.getElem?_cons_zero, List.getElem?_cons_succ, List.getElem?_nil, List.set_cons_zero, List.set_cons_succ, List.cons_append, List.nil_append, List.length_cons, List.length_nil, Option.bind_some, Option.bind_none, Option.map_some, Option.map_none, Nat.reduceSub, Nat.reduceAdd, List.replicate_succ, List.replicate_zero, Bool.not_true, Bool.not_false, if_true, if_false, Bool.false_eq_true, reduceIte, decide_true, decide_false, Nat.reduceLT, Nat.reduceLeDiff, reduceCtorEq, Option.some.injEq, Prod.mk.injEq, e]
    rfl, trivial⟩)
  exact lr_all s1 s2 s3 e
end K16
end
section
set_option maxRecDepth 100000
set_option exponentiation.threshold 100000
set_option maxHeartbeats 1000000
namespace K16
open PySem PySem.Spec L2 DL
/-! ### two numbers mixed to their common divisor: plain -/
/-- near, far with their mixes -/
structure Mx where
  n : Int
  n1 : Int
  n2 : Int
  f : Int
  f1 : Int
  f2 : Int
def Mx.step (s : Mx) : Mx := ⟨s.f, s.f1, s.f2, s.n - s.n.fdiv s.f * s.f, s.n1 - s.n.fdiv s.f * s.f1, s.n2 - s.n.fdiv s.f * s.f2⟩
/-- numbers told at the t-th turn -/
structure Mz (a b : Int) (t : Nat) (s : Mx) : Prop where
  en : s.n = s.n1 * a + s.n2 * b
  ef : s.f = s.f1 * a + s.f2 * b
  dv : ∀ e : Int, (e ∣ s.n ∧ e ∣ s.f) ↔ (e ∣ a ∧ e ∣ b)
  bn : s.n.natAbs ≤ 2 ^ 18
  bf : s.f.natAbs ≤ 2 ^ 18
  c1 : s.n1.natAbs ≤ 2 ^ (20 * t)
  c2 : s.n2.natAbs ≤ 2 ^ (20 * t)
  c3 : s.f1.natAbs ≤ 2 ^ (20 * t)
  c4 : s.f2.natAbs ≤ 2 ^ (20 * t)
theorem rest_sign {n f : Int} (hf : f ≠ 0) : (0 < f → 0 ≤ n - n.fdiv f * f ∧ n - n.fdiv f * f < f) ∧ (f < 0 → f < n - n.fdiv f * f ∧ n - n.fdiv f * f ≤ 0) := by
  constructor
  · intro h
    have h1 := Int.fmod_nonneg_of_pos n h
    have h2 := Int.fmod_lt_of_pos n h
    rw [Int.fmod_def, Int.mul_comm] at h1 h2
    exact ⟨h1, h2⟩
  · intro h
    have h' : 0 < -f := by omega
    have h1 := Int.fmod_nonneg_of_pos (-n) h'
    have h2 := Int.fmod_lt_of_pos (-n) h'
    rw [Int.fmod_def, Int.mul_comm, Int.neg_fdiv_neg, Int.mul_neg] at h1 h2
    omega
theorem le2 {x q y : Int} {t : Nat} (hx : x.natAbs ≤ 2 ^ (20 * t)) (hy : y.natAbs ≤ 2 ^ (20 * t)) (hq : q.natAbs ≤ 2 ^ 18) : (x - q * y).natAbs ≤ 2 ^ (20 * (t + 1)) := by
  have h1 : (x - q * y).natAbs ≤ x.natAbs + (q * y).natAbs := by omega
  rw [Int.natAbs_mul] at h1
  have h2 : q.natAbs * y.natAbs ≤ 2 ^ 18 * 2 ^ (20 * t) := Nat.mul_le_mul hq hy
  have h3 : (2 : Nat) ^ (20 * (t + 1)) = 2 ^ 20 * 2 ^ (20 * t) := by rw [← Nat.pow_add]; congr 1; omega
  rw [h3]
  generalize (2 : Nat) ^ (20 * t) = z at *
  have e1 : (2 : Nat) ^ 18 = 262144 := by decide
  have e2 : (2 : Nat) ^ 20 = 1048576 := by decide
  rw [e1] at h2
  rw [e2]
  omega
theorem Mz.step {a b : Int} {t : Nat} {s : Mx} (h : Mz a b t s) (hf : s.f ≠ 0) : Mz a b (t + 1) s.step := by
  have hq : (s.n.fdiv s.f).natAbs ≤ 2 ^ 18 := Nat.le_trans (Int.natAbs_fdiv_le_natAbs _ _) h.bn
  obtain ⟨r1, r2⟩ := rest_sign (n := s.n) hf
  have up : (2 : Nat) ^ (20 * t) ≤ 2 ^ (20 * (t + 1)) := Nat.pow_le_pow_right (by decide) (by omega)
  have bf := h.bf
  refine ⟨h.ef, ?_, ?_, h.bf, ?_, Nat.le_trans h.c3 up, Nat.le_trans h.c4 up, le2 h.c1 h.c3 hq, le2 h.c2 h.c4 hq⟩
  · show s.n - s.n.fdiv s.f * s.f = (s.n1 - s.n.fdiv s.f * s.f1) * a + (s.n2 - s.n.fdiv s.f * s.f2) * b
    have e1 := h.en
    have e2 := h.ef
    generalize s.n.fdiv s.f = q
    grind
  · intro e
    rw [← h.dv e]
    show (e ∣ s.f ∧ e ∣ s.n - s.n.fdiv s.f * s.f) ↔ _
    generalize s.n.fdiv s.f = q
    constructor
    · rintro ⟨x, y⟩
      refine ⟨?_, x⟩
      have := Int.dvd_add y (Int.dvd_mul_of_dvd_right (b := q) x)
      rwa [Int.sub_add_cancel] at this
    · rintro ⟨x, y⟩
      exact ⟨y, Int.dvd_sub x (Int.dvd_mul_of_dvd_right (b := q) y)⟩
  · show (s.n - s.n.fdiv s.f * s.f).natAbs ≤ 2 ^ 18
    generalize s.n - s.n.fdiv s.f * s.f = r at r1 r2
    omega
/-- from the second turn on: of one sign, falling -/
def Fl2 (t : Nat) (s : Mx) : Prop := 0 ≤ s.n * s.f ∧ s.n * s.f * 2 ^ t ≤ 2 ^ 40 ∧ s.f.natAbs < s.n.natAbs
theorem sq_le {x : Int} (h : x.natAbs ≤ 2 ^ 18) : x * x ≤ 2 ^ 36 := by
  have : (x * x).natAbs ≤ 2 ^ 18 * 2 ^ 18 := by rw [Int.natAbs_mul]; exact Nat.mul_le_mul h h
  have e : (2 : Nat) ^ 18 * 2 ^ 18 = 2 ^ 36 := by decide
  omega
theorem prod_step {n f : Int} (hf : f ≠ 0) : 0 ≤ f * (n - n.fdiv f * f) ∧ f * (n - n.fdiv f * f) ≤ f * f ∧ (n - n.fdiv f * f).natAbs < f.natAbs := by
  obtain ⟨r1, r2⟩ := rest_sign (n := n) hf
  generalize n - n.fdiv f * f = r at r1 r2
  rcases Int.lt_or_gt_of_ne hf with h | h
  · obtain ⟨a, b⟩ := r2 h
    exact ⟨Int.mul_nonneg_of_nonpos_of_nonpos (by omega) b, Int.mul_le_mul_of_nonpos_left (by omega) (by omega), by omega⟩
  · obtain ⟨a, b⟩ := r1 h
    exact ⟨Int.mul_nonneg (by omega) a, Int.mul_le_mul_of_nonneg_left (by omega) (by omega), by omega⟩
theorem fl_first {a b : Int} {s : Mx} (h : Mz a b 0 s) (hf : s.f ≠ 0) : Fl2 1 s.step := by
  obtain ⟨p1, p2, p3⟩ := prod_step (n := s.n) hf
  have := sq_le h.bf
  refine ⟨p1, ?_, p3⟩
  show s.f * (s.n - s.n.fdiv s.f * s.f) * 2 ^ 1 ≤ 2 ^ 40
  generalize s.f * (s.n - s.n.fdiv s.f * s.f) = z at *
  omega
theorem fl_step {t : Nat} {s : Mx} (h : Fl2 t s) (hf : s.f ≠ 0) : Fl2 (t + 1) s.step ∧ t < 41 := by
  obtain ⟨h1, h2, h3⟩ := h
  obtain ⟨p1, p2, p3⟩ := prod_step (n := s.n) hf
  have pos : 1 ≤ s.n * s.f := by
    have : s.n * s.f ≠ 0 := Int.mul_ne_zero (by omega) hf
    omega
  have half : 2 * (s.f * (s.n - s.n.fdiv s.f * s.f)) ≤ s.n * s.f := by
    obtain ⟨r1, r2⟩ := rest_sign (n := s.n) hf
    -- the quotient is at least one
    have hr : s.n - s.n.fdiv s.f * s.f = s.n.fmod s.f := by rw [Int.fmod_def, Int.mul_comm]
    rcases Int.lt_or_gt_of_ne hf with h | h
    · have hn : s.n < 0 := by
        by_cases z : s.n < 0
        · exact z
        · have : s.n * s.f ≤ 0 := Int.mul_nonpos_of_nonneg_of_nonpos (by omega) (by omega)
          omega
      have q1 : 1 ≤ s.n.fdiv s.f := by
        rw [← Int.neg_fdiv_neg, Int.fdiv_eq_ediv_of_nonneg _ (by omega)]
        exact (Int.le_ediv_iff_mul_le (by omega)).mpr (by omega)
      obtain ⟨a, b⟩ := r2 h
      have k1 : s.n ≤ s.f + (s.n - s.n.fdiv s.f * s.f) := by
        have := Int.mul_le_mul_of_nonpos_right q1 (show s.f ≤ 0 by omega)
        omega
      generalize s.n - s.n.fdiv s.f * s.f = r at *
      have k2 := Int.mul_le_mul_of_nonpos_left (show s.f ≤ 0 by omega) k1
      have k3 := Int.mul_le_mul_of_nonpos_left (show s.f ≤ 0 by omega) (show s.f ≤ r by omega)
      rw [Int.mul_add] at k2
      rw [Int.mul_comm s.n]
      omega
    · have hn : 0 < s.n := by
        by_cases z : 0 < s.n
        · exact z
        · have : s.n * s.f ≤ 0 := Int.mul_nonpos_of_nonpos_of_nonneg (by omega) (by omega)
          omega
      have q1 : 1 ≤ s.n.fdiv s.f := by
        rw [Int.fdiv_eq_ediv_of_nonneg _ (by omega)]
        exact (Int.le_ediv_iff_mul_le (by omega)).mpr (by omega)
      obtain ⟨a, b⟩ := r1 h
      have k1 : s.f + (s.n - s.n.fdiv s.f * s.f) ≤ s.n := by
        have := Int.mul_le_mul_of_nonneg_right q1 (show 0 ≤ s.f by omega)
        omega
      generalize s.n - s.n.fdiv s.f * s.f = r at *
      have k2 := Int.mul_le_mul_of_nonneg_left k1 (show 0 ≤ s.f by omega)
      have k3 := Int.mul_le_mul_of_nonneg_left (show r ≤ s.f by omega) (show 0 ≤ s.f by omega)
      rw [Int.mul_add] at k2
      rw [Int.mul_comm s.n]
      omega
  refine ⟨⟨p1, ?_, p3⟩, ?_⟩
  · show s.f * (s.n - s.n.fdiv s.f * s.f) * 2 ^ (t + 1) ≤ 2 ^ 40
    rw [Int.pow_succ, Int.mul_comm ((2 : Int) ^ t) 2, ← Int.mul_assoc, Int.mul_comm _ 2]
    exact Int.le_trans (Int.mul_le_mul_of_nonneg_right half (Int.pow_nonneg (by decide))) h2
  · by_cases ht : t < 41
    · exact ht
    · have e1 : (2 : Int) ^ 41 ≤ 2 ^ t := by
        have := Nat.pow_le_pow_right (n := 2) (by decide) (show 41 ≤ t by omega)
        exact_mod_cast this
      have e2 := Int.mul_le_mul_of_nonneg_right pos (show (0 : Int) ≤ 2 ^ t from Int.pow_nonneg (by decide))
      rw [Int.one_mul] at e2
      have e3 : (2 : Int) ^ 40 < 2 ^ 41 := by decide
      omega
/-- the walk's claim -/
def Ok (a b : Int) (s : Mx) : Prop := ∃ t, t ≤ 41 ∧ Mz a b t s ∧ (t = 0 ∨ Fl2 t s)
theorem ok_step {a b : Int} {s : Mx} (h : Ok a b s) (hf : s.f ≠ 0) : Ok a b s.step := by
  obtain ⟨t, h1, h2, h3⟩ := h
  rcases h3 with rfl | h3
  · exact ⟨1, by decide, h2.step hf, .inr (fl_first h2 hf)⟩
  · obtain ⟨h4, h5⟩ := fl_step h3 hf
    exact ⟨t + 1, by omega, h2.step hf, .inr h4⟩
theorem ok_big {a b : Int} {s : Mx} (h : Ok a b s) : s.n.natAbs < 2 ^ 8000 ∧ s.f.natAbs < 2 ^ 8000 ∧ s.n1.natAbs < 2 ^ 4000 ∧ s.n2.natAbs < 2 ^ 4000 ∧ s.f1.natAbs < 2 ^ 4000 ∧ s.f2.natAbs < 2 ^ 4000 := by
  obtain ⟨t, h1, h2, -⟩ := h
  have e : (2 : Nat) ^ (20 * t) ≤ 2 ^ 820 := Nat.pow_le_pow_right (by decide) (by omega)
  have k1 : (2 : Nat) ^ 820 < 2 ^ 4000 := Nat.pow_lt_pow_right (by decide) (by decide)
  have k2 : (2 : Nat) ^ 18 < 2 ^ 8000 := Nat.pow_lt_pow_right (by decide) (by decide)
  have := h2.bn
  have := h2.bf
  have := h2.c1
  have := h2.c2
  have := h2.c3
  have := h2.c4
  refine ⟨?_, ?_, ?_, ?_, ?_, ?_⟩ <;> omega
theorem ok_start {a b : Int} (ha : a.natAbs ≤ 2 ^ 18) (hb : b.natAbs ≤ 2 ^ 18) : Ok a b ⟨a, 1, 0, b, 0, 1⟩ := ⟨0, by decide, ⟨by show a = 1 * a + 0 * b; omega, by show b = 0 * a + 1 * b; omega, fun e => Iff.rfl, ha, hb, show (1 : Int).natAbs ≤ 2 ^ (20 * 0) by decide, show (0 : Int).natAbs ≤ 2 ^ (20 * 0) by decide, show (0 : Int).natAbs ≤ 2 ^ (20 * 0) by decide, show (1 : Int).natAbs ≤ 2 ^ (20 * 0) by decide⟩, .inl rfl⟩
theorem ok_end {a b : Int} {s : Mx} (h : Ok a b s) (hf : s.f = 0) : s.n.natAbs = Nat.gcd a.natAbs b.natAbs ∧ s.n = s.n1 * a + s.n2 * b := by
  obtain ⟨t, h1, h2, -⟩ := h
  refine ⟨Nat.dvd_antisymm ?_ ?_, h2.en⟩
  · have := (h2.dv s.n).mp ⟨Int.dvd_refl _, by rw [hf]; exact Int.dvd_zero _⟩
    exact Nat.dvd_gcd (Int.natAbs_dvd_natAbs.mpr this.1) (Int.natAbs_dvd_natAbs.mpr this.2)
  · have := (h2.dv (Nat.gcd a.natAbs b.natAbs : Nat)).mpr ⟨Int.natAbs_dvd_natAbs.mp (by rw [Int.natAbs_natCast]; exact Nat.gcd_dvd_left _ _), Int.natAbs_dvd_natAbs.mp (by rw [Int.natAbs_natCast]; exact Nat.gcd_dvd_right _ _)⟩
    have := Int.natAbs_dvd_natAbs.mpr this.1
    rwa [Int.natAbs_natCast] at this
end K16
end
section
set_option maxRecDepth 100000
set_option exponentiation.threshold 100000
set_option maxHeartbeats 1000000
namespace K16
open PySem PySem.Spec L2 DL
/-! greatest -/
theorem gcd_w {d e : D} {a b : Nat} (ha : a < 2 ^ 8000) (hb : b < 2 ^ 8000) : g_divisor_of_w1 [.dat d, .dat e, .dat (.int a), .dat (.int b)] = some (.nx, [.dat d, .dat e, .dat (.int (Nat.gcd a b)), .dat (.int 0)]) := by
  unfold g_divisor_of_w1
  refine gcd_big (fun x y => [.dat d, .dat e, .dat (.int x), .dat (.int y)]) (fun x y => ?_) (fun x y q p h1 h2 => ?_) ha hb (by decide)
  · simp only [g_divisor_of_t1, mb, mr, mo, nameM, conM, binM, unM, boolM, ifM, DL.andM, DL.orM, DL.notM, andV, orV, notV, chainM, nilA, consA, dvs, dv, ownAt, fzs, lstM, tupM, callM, callP, permL, fzv, seqS, skipS, ifS, setS, asg, freeAt, retS, retV, dropS, frz, frzS, asgS, nilG, consG, tupG, subG, listAt, methM, augS, augSubS, forS, seqM, treeV, startD, endV, bodyF, bodyI, startI, ioAt, slM, partM, bors, callL, callI, callO, DL.flatV, DL.flat, List.filterMap_cons, List.filterMap_nil, List.map_cons, List.map_nil, List.getElem?_cons_zero, List.getElem?_cons_succ, List.getElem?_nil, List.set_cons_zero, List.set_cons_succ, List.cons_append, List.nil_append, List.length_cons, List.length_nil, Option.bind_some, Option.bind_none, Option.map_some, Option.map_none, Nat.reduceSub, Nat.reduceAdd, List.replicate_succ, List.replicate_zero, Bool.not_true, Bool.not_false, if_true, if_false, Bool.false_eq_true, reduceIte, decide_true, decide_false, Nat.reduceLT, Nat.reduceLeDiff, reduceCtorEq, Option.some.injEq, Prod.mk.injEq, neD_int]
  · simp only [g_divisor_of_b1, parS, mb, mr, mo, nameM, conM, binM, unM, boolM, ifM, DL.andM, DL.orM, DL.notM, andV, orV, notV, chainM, nilA, consA, dvs, dv, ownAt, fzs, lstM, tupM, callM, callP, permL, fzv, seqS, skipS, ifS, setS, asg, freeAt, retS, retV, dropS, frz, frzS, asgS, nilG, consG, tupG, subG, listAt, methM, augS, augSubS, forS, seqM, treeV, startD, endV, bodyF, bodyI, startI, ioAt, slM, partM, bors, callL, callI, callO, DL.flatV, DL.flat, List.filterMap_cons, List.filterMap_nil, List.map_cons, List.map_nil, List.getElem?_cons_zero, List.getElem?_cons_succ, List.getElem?_nil, List.set_cons_zero, List.set_cons_succ, List.cons_append, List.nil_append, List.length_cons, List.length_nil, Option.bind_some, Option.bind_none, Option.map_some, Option.map_none, Nat.reduceSub, Nat.reduceAdd, List.replicate_succ, List.replicate_zero, Bool.not_true, Bool.not_false, if_true, if_false, Bool.false_eq_true, reduceIte, decide_true, decide_false, Nat.reduceLT, Nat.reduceLeDiff, reduceCtorEq, Option.some.injEq, Prod.mk.injEq, h1, h2, subI, intB]
theorem div_end {i j a b c : Int} (h1 : absD [.int i] = some (.fz (.int a))) (h2 : absD [.int j] = some (.fz (.int b))) (hw : g_divisor_of_w1 [.dat (.int i), .dat (.int j), .dat (.int a), .dat (.int b)] = some (.nx, [.dat (.int i), .dat (.int j), .dat (.int c), .dat (.int 0)])) : m_divisor_of [.int i, .int j] = some (.fz (.int c)) := by
  simp only [m_divisor_of, g_divisor_of, g_divisor_of_s1, g_divisor_of_s2, parS, mb, mr, mo, nameM, conM, binM, unM, boolM, ifM, DL.andM, DL.orM, DL.notM, andV, orV, notV, chainM, nilA, consA, dvs, dv, ownAt, fzs, lstM, tupM, callM, callP, permL, fzv, seqS, skipS, ifS, setS, asg, freeAt, retS, retV, dropS, frz, frzS, asgS, nilG, consG, tupG, subG, listAt, methM, augS, augSubS, forS, seqM, treeV, startD, endV, bodyF, bodyI, startI, ioAt, slM, partM, bors, callL, callI, callO, DL.flatV, DL.flat, List.filterMap_cons, List.filterMap_nil, List.map_cons, List.map_nil, List.getElem?_cons_zero, List.getElem?_cons_succ, List.getElem?_nil, List.set_cons_zero, List.set_cons_succ, List.cons_append, List.nil_append, List.length_cons, List.length_nil, Option.bind_some, Option.bind_none, Option.map_some, Option.map_none, Nat.reduceSub, Nat.reduceAdd, List.replicate_succ, List.replicate_zero, Bool.not_true, Bool.not_false, if_true, if_false, Bool.false_eq_true, reduceIte, decide_true, decide_false, Nat.reduceLT, Nat.reduceLeDiff, reduceCtorEq, Option.some.injEq, Prod.mk.injEq, h1, h2, hw]
theorem r_divisor {i j : Int} (hi : i.natAbs < 2 ^ 8000) (hj : j.natAbs < 2 ^ 8000) : m_divisor_of [.int i, .int j] = some (.fz (.int (Nat.gcd i.natAbs j.natAbs))) := div_end (absD_int i) (absD_int j) (gcd_w hi hj)
theorem great_ev {i j g : Int} (h1 : m_is_integer [.int i] = some (.fz (.bool true))) (h2 : m_is_integer [.int j] = some (.fz (.bool true))) (h3 : m_divisor_of [.int i, .int j] = some (.fz (.int g))) : m_greatest [.int i, .int j] = some (.fz (.int g)) := by
  have w1 : m_want_number [.int i] = some (.fz .none) := by simp only [m_want_number, g_want_number, g_want_number_s1, mb, mr, mo, nameM, conM, binM, unM, boolM, ifM, DL.andM, DL.orM, DL.notM, andV, orV, notV, chainM, nilA, consA, dvs, dv, ownAt, fzs, lstM, tupM, callM, callP, permL, fzv, seqS, skipS, ifS, setS, asg, freeAt, retS, retV, dropS, frz, frzS, asgS, nilG, consG, tupG, subG, listAt, methM, augS, augSubS, forS, seqM, treeV, startD, endV, bodyF, bodyI, startI, ioAt, slM, partM, bors, callL, callI, callO, DL.flatV, DL.flat, List.filterMap_cons, List.filterMap_nil, List.map_cons, List.map_nil, List.getElem?_cons_zero, List.getElem?_cons_succ, List.getElem?_nil, List.set_cons_zero, List.set_cons_succ, List.cons_append, List.nil_append, List.length_cons, List.length_nil, Option.bind_some, Option.bind_none, Option.map_some, Option.map_none, Nat.reduceSub, Nat.reduceAdd, List.replicate_succ, List.replicate_zero, Bool.not_true, Bool.not_false, if_true, if_false, Bool.false_eq_true, reduceIte, decide_true, decide_false, Nat.reduceLT, Nat.reduceLeDiff, reduceCtorEq, Option.some.injEq, Prod.mk.injEq, h1]
  have w2 : m_want_number [.int j] = some (.fz .none) := by simp only [m_want_number, g_want_number, g_want_number_s1, mb, mr, mo, nameM, conM, binM, unM, boolM, ifM, DL.andM, DL.orM, DL.notM, andV, orV, notV, chainM, nilA, consA, dvs, dv, ownAt, fzs, lstM, tupM, callM, callP, permL, fzv, seqS, skipS, ifS, setS, asg, freeAt, retS, retV, dropS, frz, frzS, asgS, nilG, consG, tupG, subG, listAt, methM, augS, augSubS, forS, seqM, treeV, startD, endV, bodyF, bodyI, startI, ioAt, slM, partM, bors, callL, callI, callO, DL.flatV, DL.flat, List.filterMap_cons, List.filterMap_nil, List.map_cons, List.map_nil, List.getElem?_cons_zero, List.getElem?_cons_succ, List.getElem?_nil, List.set_cons_zero, List.set_cons_succ, List.cons_append, List.nil_append, List.length_cons, List.length_nil, Option.bind_some, Option.bind_none, Option.map_some, Option.map_none, Nat.reduceSub, Nat.reduceAdd, List.replicate_succ, List.replicate_zero, Bool.not_true, Bool.not_false, if_true, if_false, Bool.false_eq_true, reduceIte, decide_true, decide_false, Nat.reduceLT, Nat.reduceLeDiff, reduceCtorEq, Option.some.injEq, Prod.mk.injEq, h2]
  simp only [m_greatest, g_greatest, g_greatest_s1, g_greatest_s2, g_greatest_s3, mb, mr, mo, nameM, conM, binM, unM, boolM, ifM, DL.andM, DL.orM, DL.notM, andV, orV, notV, chainM, nilA, consA, dvs, dv, ownAt, fzs, lstM, tupM, callM, callP, permL, fzv, seqS, skipS, ifS, setS, asg, freeAt, retS, retV, dropS, frz, frzS, asgS, nilG, consG, tupG, subG, listAt, methM, augS, augSubS, forS, seqM, treeV, startD, endV, bodyF, bodyI, startI, ioAt, slM, partM, bors, callL, callI, callO, DL.flatV, DL.flat, List.filterMap_cons, List.filterMap_nil, List.map_cons, List.map_nil, List.getElem?_cons_zero, List.getElem?_cons_succ, List.getElem?_nil, List.set_cons_zero, List.set_cons_succ, List.cons_append, List.nil_append, List.length_cons, List.length_nil, Option.bind_some, Option.bind_none, Option.map_some, Option.map_none, Nat.reduceSub, Nat.reduceAdd, List.replicate_succ, List.replicate_zero, Bool.not_true, Bool.not_false, if_true, if_false, Bool.false_eq_true, reduceIte, decide_true, decide_false, Nat.reduceLT, Nat.reduceLeDiff, reduceCtorEq, Option.some.injEq, Prod.mk.injEq, w1, w2, h3]
theorem r_great {i j : Int} (hi : i.natAbs < 2 ^ 8000) (hj : j.natAbs < 2 ^ 8000) : m_greatest [.int i, .int j] = some (.fz (.int (Nat.gcd i.natAbs j.natAbs))) := great_ev (r_is_integer ⟨_, rfl⟩) (r_is_integer ⟨_, rfl⟩) (r_divisor hi hj)
/-! mixed -/
abbrev T3 (a b c : Int) : D := .tuple [.int a, .int b, .int c]
theorem ix30 (a b c : Int) : ixD (T3 a b c) (.int 0) = some (.fz (.int a)) := rfl
theorem ix31 (a b c : Int) : ixD (T3 a b c) (.int 1) = some (.fz (.int b)) := rfl
theorem ix32 (a b c : Int) : ixD (T3 a b c) (.int 2) = some (.fz (.int c)) := rfl
theorem mix_c {d e : D} {n n1 n2 f f1 f2 q p p1 p2 : Int} (m0 : mulD (.int q) (.int f) = some (.fz (.int p))) (m1 : mulD (.int q) (.int f1) = some (.fz (.int p1))) (m2 : mulD (.int q) (.int f2) = some (.fz (.int p2))) :
    g__law_mixed_c1 [.dat d, .dat e, .dat (T3 n n1 n2), .dat (T3 f f1 f2), .dat (.int q), .un, .un] = some (.ow (.list [.int (n - p), .int (n1 - p1), .int (n2 - p2)]), [.dat d, .dat e, .dat (T3 n n1 n2), .dat (T3 f f1 f2), .dat (.int q), .un, .un]) := by
  unfold g__law_mixed_c1
  have hb : ∀ x y z : Int, mulD (.int q) (.int y) = some (.fz (.int z)) → ∀ {xs ys : List D}, True := fun _ _ _ _ _ _ => trivial
  refine comp_map (δ := [.dat d, .dat e, .dat (T3 n n1 n2), .dat (T3 f f1 f2), .dat (.int q), .un, .un]) (vs := [5, 6]) [(n, f, p), (n1, f1, p1), (n2, f2, p2)] (fun t => .tuple [.int t.1, .int t.2.1]) (fun t => .int (t.1 - t.2.2)) (fun t => [.dat d, .dat e, .dat (T3 n n1 n2), .dat (T3 f f1 f2), .dat (.int q), .dat (.int t.1), .dat (.int t.2.1)]) ?_ rfl rfl (by simp) fun t ht => ?_
  · simp only [zipA, mb, mr, mo, nameM, conM, binM, unM, boolM, ifM, DL.andM, DL.orM, DL.notM, andV, orV, notV, chainM, nilA, consA, dvs, dv, ownAt, fzs, lstM, tupM, callM, callP, permL, fzv, seqS, skipS, ifS, setS, asg, fr_z_un, fr_z_dat, fr_z_rw, fr_z_own, fr_s, turnF, retS, retV, dropS, frz, frzS, asgS, nilG, consG, tupG, subG, listAt, methM, augS, augSubS, forS, seqM, treeV, startD, endV, bodyF, bodyI, startI, ioAt, slM, partM, bors, callL, callI, callO, DL.flatV, DL.flat, List.filterMap_cons, List.filterMap_nil, List.map_cons, List.map_nil, List.getElem?_cons_zero, List.getElem?_cons_succ, List.getElem?_nil, List.set_cons_zero, List.set_cons_succ, List.cons_append, List.nil_append, List.length_cons, List.length_nil, Option.bind_some, Option.bind_none, Option.map_some, Option.map_none, Nat.reduceSub, Nat.reduceAdd, List.replicate_succ, List.replicate_zero, Bool.not_true, Bool.not_false, if_true, if_false, Bool.false_eq_true, reduceIte, decide_true, decide_false, Nat.reduceLT, Nat.reduceLeDiff, reduceCtorEq, Option.some.injEq, Prod.mk.injEq, itemsOf]
    exact ⟨rfl, trivial⟩
  · have hm : mulD (.int q) (.int t.2.1) = some (.fz (.int t.2.2)) := by
      simp only [List.mem_cons, List.not_mem_nil, or_false] at ht
      rcases ht with rfl | rfl | rfl
      · exact m0
      · exact m1
      · exact m2
    refine ⟨?_, ⟨.fz (.int (t.1 - t.2.2)), ?_, rfl⟩, rfl⟩
    · simp only [wipeD, mb, mr, mo, nameM, conM, binM, unM, boolM, ifM, DL.andM, DL.orM, DL.notM, andV, orV, notV, chainM, nilA, consA, dvs, dv, ownAt, fzs, lstM, tupM, callM, callP, permL, fzv, seqS, skipS, ifS, setS, asg, fr_z_un, fr_z_dat, fr_z_rw, fr_z_own, fr_s, turnF, retS, retV, dropS, frz, frzS, asgS, nilG, consG, tupG, subG, listAt, methM, augS, augSubS, forS, seqM, treeV, startD, endV, bodyF, bodyI, startI, ioAt, slM, partM, bors, callL, callI, callO, DL.flatV, DL.flat, List.filterMap_cons, List.filterMap_nil, List.map_cons, List.map_nil, List.getElem?_cons_zero, List.getElem?_cons_succ, List.getElem?_nil, List.set_cons_zero, List.set_cons_succ, List.cons_append, List.nil_append, List.length_cons, List.length_nil, Option.bind_some, Option.bind_none, Option.map_some, Option.map_none, Nat.reduceSub, Nat.reduceAdd, List.replicate_succ, List.replicate_zero, Bool.not_true, Bool.not_false, if_true, if_false, Bool.false_eq_true, reduceIte, decide_true, decide_false, Nat.reduceLT, Nat.reduceLeDiff, reduceCtorEq, Option.some.injEq, Prod.mk.injEq, itemsOf]
    · simp only [mb, mr, mo, nameM, conM, binM, unM, boolM, ifM, DL.andM, DL.orM, DL.notM, andV, orV, notV, chainM, nilA, consA, dvs, dv, ownAt, fzs, lstM, tupM, callM, callP, permL, fzv, seqS, skipS, ifS, setS, asg, fr_z_un, fr_z_dat, fr_z_rw, fr_z_own, fr_s, turnF, retS, retV, dropS, frz, frzS, asgS, nilG, consG, tupG, subG, listAt, methM, augS, augSubS, forS, seqM, treeV, startD, endV, bodyF, bodyI, startI, ioAt, slM, partM, bors, callL, callI, callO, DL.flatV, DL.flat, List.filterMap_cons, List.filterMap_nil, List.map_cons, List.map_nil, List.getElem?_cons_zero, List.getElem?_cons_succ, List.getElem?_nil, List.set_cons_zero, List.set_cons_succ, List.cons_append, List.nil_append, List.length_cons, List.length_nil, Option.bind_some, Option.bind_none, Option.map_some, Option.map_none, Nat.reduceSub, Nat.reduceAdd, List.replicate_succ, List.replicate_zero, Bool.not_true, Bool.not_false, if_true, if_false, Bool.false_eq_true, reduceIte, decide_true, decide_false, Nat.reduceLT, Nat.reduceLeDiff, reduceCtorEq, Option.some.injEq, Prod.mk.injEq, hm, subI, intB]
theorem mix_b {d e : D} {n n1 n2 f f1 f2 q p p1 p2 : Int} {x : Option D} (hq : fdivD (.int n) (.int f) = some (.fz (.int q))) (m0 : mulD (.int q) (.int f) = some (.fz (.int p))) (m1 : mulD (.int q) (.int f1) = some (.fz (.int p1))) (m2 : mulD (.int q) (.int f2) = some (.fz (.int p2))) :
    g__law_mixed_b1 [.dat d, .dat e, .dat (T3 n n1 n2), .dat (T3 f f1 f2), rw' x, .un, .un] = some (.nx, [.dat d, .dat e, .dat (T3 f f1 f2), .dat (T3 (n - p) (n1 - p1) (n2 - p2)), .dat (.int q), .un, .un]) := by
  have hc := mix_c (d := d) (e := e) (n := n) (n1 := n1) (n2 := n2) m0 m1 m2
  have ht : tupleD [.list [.int (n - p), .int (n1 - p1), .int (n2 - p2)]] = some (.fz (T3 (n - p) (n1 - p1) (n2 - p2))) := rfl
  have i1 := ix30 n n1 n2
  have i2 := ix30 f f1 f2
  generalize T3 n n1 n2 = nn at *
  generalize T3 f f1 f2 = ff at *
  generalize T3 (n - p) (n1 - p1) (n2 - p2) = rr at *
  simp only [g__law_mixed_b1, parS, parO, mb, mr, mo, nameM, conM, binM, unM, boolM, ifM, DL.andM, DL.orM, DL.notM, andV, orV, notV, chainM, nilA, consA, dvs, dv, ownAt, fzs, lstM, tupM, callM, callP, permL, fzv, seqS, skipS, ifS, setS, asg, fr_z_un, fr_z_dat, fr_z_rw, fr_z_own, fr_s, turnF, retS, retV, dropS, frz, frzS, asgS, nilG, consG, tupG, subG, listAt, methM, augS, augSubS, forS, seqM, treeV, startD, endV, bodyF, bodyI, startI, ioAt, slM, partM, bors, callL, callI, callO, DL.flatV, DL.flat, List.filterMap_cons, List.filterMap_nil, List.map_cons, List.map_nil, List.getElem?_cons_zero, List.getElem?_cons_succ, List.getElem?_nil, List.set_cons_zero, List.set_cons_succ, List.cons_append, List.nil_append, List.length_cons, List.length_nil, Option.bind_some, Option.bind_none, Option.map_some, Option.map_none, Nat.reduceSub, Nat.reduceAdd, List.replicate_succ, List.replicate_zero, Bool.not_true, Bool.not_false, if_true, if_false, Bool.false_eq_true, reduceIte, decide_true, decide_false, Nat.reduceLT, Nat.reduceLeDiff, reduceCtorEq, Option.some.injEq, Prod.mk.injEq, i1, i2, hq, hc, ht]
theorem mix_t {d e : D} {nn : D} {f f1 f2 : Int} {x : Option D} : g__law_mixed_t1 [.dat d, .dat e, .dat nn, .dat (T3 f f1 f2), rw' x, .un, .un] = some (!decide (f = 0), [.dat d, .dat e, .dat nn, .dat (T3 f f1 f2), rw' x, .un, .un]) := by
  have i2 := ix30 f f1 f2
  generalize T3 f f1 f2 = ff at *
  simp only [g__law_mixed_t1, mb, mr, mo, nameM, conM, binM, unM, boolM, ifM, DL.andM, DL.orM, DL.notM, andV, orV, notV, chainM, nilA, consA, dvs, dv, ownAt, fzs, lstM, tupM, callM, callP, permL, fzv, seqS, skipS, ifS, setS, asg, fr_z_un, fr_z_dat, fr_z_rw, fr_z_own, fr_s, turnF, retS, retV, dropS, frz, frzS, asgS, nilG, consG, tupG, subG, listAt, methM, augS, augSubS, forS, seqM, treeV, startD, endV, bodyF, bodyI, startI, ioAt, slM, partM, bors, callL, callI, callO, DL.flatV, DL.flat, List.filterMap_cons, List.filterMap_nil, List.map_cons, List.map_nil, List.getElem?_cons_zero, List.getElem?_cons_succ, List.getElem?_nil, List.set_cons_zero, List.set_cons_succ, List.cons_append, List.nil_append, List.length_cons, List.length_nil, Option.bind_some, Option.bind_none, Option.map_some, Option.map_none, Nat.reduceSub, Nat.reduceAdd, List.replicate_succ, List.replicate_zero, Bool.not_true, Bool.not_false, if_true, if_false, Bool.false_eq_true, reduceIte, decide_true, decide_false, Nat.reduceLT, Nat.reduceLeDiff, reduceCtorEq, Option.some.injEq, Prod.mk.injEq, i2, neD_int]
theorem mix_end {a b : Int} {nn : D} {f g : Sl} (hw : g__law_mixed_w1 [.dat (.int a), .dat (.int b), .dat (T3 a 1 0), .dat (T3 b 0 1), .un, .un, .un] = some (.nx, [.dat (.int a), .dat (.int b), .dat nn, f, g, .un, .un])) : m__law_mixed [.int a, .int b] = some (.fz nn) := by
  simp only [m__law_mixed, g__law_mixed, g__law_mixed_s1, g__law_mixed_s2, parS, parO, mb, mr, mo, nameM, conM, binM, unM, boolM, ifM, DL.andM, DL.orM, DL.notM, andV, orV, notV, chainM, nilA, consA, dvs, dv, ownAt, fzs, lstM, tupM, callM, callP, permL, fzv, seqS, skipS, ifS, setS, asg, freeAt, retS, retV, dropS, frz, frzS, asgS, nilG, consG, tupG, subG, listAt, methM, augS, augSubS, forS, seqM, treeV, startD, endV, bodyF, bodyI, startI, ioAt, slM, partM, bors, callL, callI, callO, DL.flatV, DL.flat, List.filterMap_cons, List.filterMap_nil, List.map_cons, List.map_nil, List.getElem?_cons_zero, List.getElem?_cons_succ, List.getElem?_nil, List.set_cons_zero, List.set_cons_succ, List.cons_append, List.nil_append, List.length_cons, List.length_nil, Option.bind_some, Option.bind_none, Option.map_some, Option.map_none, Nat.reduceSub, Nat.reduceAdd, List.replicate_succ, List.replicate_zero, Bool.not_true, Bool.not_false, if_true, if_false, Bool.false_eq_true, reduceIte, decide_true, decide_false, Nat.reduceLT, Nat.reduceLeDiff, reduceCtorEq, Option.some.injEq, Prod.mk.injEq, szOkL (show 3 ≤ 16777216 by decide), hw]
theorem r_mixed {a b : Int} (ha : a.natAbs ≤ 2 ^ 18) (hb : b.natAbs ≤ 2 ^ 18) : ∃ n n1 n2 : Int, m__law_mixed [.int a, .int b] = some (.fz (T3 n n1 n2)) ∧ n.natAbs = Nat.gcd a.natAbs b.natAbs ∧ n = n1 * a + n2 * b ∧ n1.natAbs < 2 ^ 4000 ∧ n2.natAbs < 2 ^ 4000 := by
  obtain ⟨s, r, e1, e2, e3⟩ := while_fold (c := g__law_mixed_t1) (body := g__law_mixed_b1) (fun (s : Mx) (r : Option D) => [.dat (.int a), .dat (.int b), .dat (T3 s.n s.n1 s.n2), .dat (T3 s.f s.f1 s.f2), rw' r, .un, .un]) (Ok a b) (fun s => !decide (s.f = 0)) Mx.step (fun s => s.f.natAbs) (fun s r p => mix_t) (fun s r p hc => by
    have hf : s.f ≠ 0 := by simpa using hc
    obtain ⟨b1, b2, b3, b4, b5, b6⟩ := ok_big p
    have hq : (s.n.fdiv s.f).natAbs < 2 ^ 4000 := by
      obtain ⟨t, -, h, -⟩ := p
      have := Int.natAbs_fdiv_le_natAbs s.n s.f
      have := h.bn
      have k2 : (2 : Nat) ^ 18 < 2 ^ 4000 := Nat.pow_lt_pow_right (by decide) (by decide)
      omega
    have k : (2 : Nat) ^ 4000 ≤ 2 ^ 8000 := Nat.pow_le_pow_right (by decide) (by decide)
    refine ⟨⟨some (.int (s.n.fdiv s.f)), mix_b (fdivD_big hf b2) (mulD_big (by omega) b2) (mulD_big (by omega) (by omega)) (mulD_big (by omega) (by omega))⟩, ok_step p hf, (prod_step hf).2.2⟩) fuel ⟨a, 1, 0, b, 0, 1⟩ none (ok_start ha hb) (by
      show b.natAbs < 1000000000
      have e : (2 : Nat) ^ 18 = 262144 := by decide
      omega)
  have hf : s.f = 0 := by simpa using e3
  obtain ⟨h1, h2⟩ := ok_end e2 hf
  obtain ⟨-, -, b3, b4, -, -⟩ := ok_big e2
  exact ⟨s.n, s.n1, s.n2, mix_end e1, h1, h2, b3, b4⟩
end K16
end
section
set_option maxRecDepth 100000
set_option exponentiation.threshold 100000
set_option maxHeartbeats 1000000
namespace K16
open PySem PySem.Spec L2 DL
theorem fw (g : Int) : flatW (.fz (.int g)) = true := rfl
theorem gr_s1 {p p' : D} {s : Int} (h : m__law_pick p [.list [.int 1, .int 6, .int 35, .int 1001]] = some (.fz (.int s), p')) : g__law_greatest_right_s1 [.own true p, .un, .un, .un, .un, .un] = some (.nx, [.own true p', .dat (.int s), .un, .un, .un, .un]) := by
  simp only [g__law_greatest_right_s1, mb, mr, mo, nameM, conM, binM, unM, boolM, ifM, DL.andM, DL.orM, DL.notM, andV, orV, notV, chainM, nilA, consA, dvs, dv, ownAt, fzs, lstM, tupM, callM, callP, permL, fzv, seqS, skipS, ifS, setS, asg, fr_z_un, fr_z_dat, fr_z_rw, fr_z_own, fr_s, turnF, retS, retV, dropS, frz, frzS, asgS, nilG, consG, tupG, subG, listAt, methM, augS, augSubS, forS, seqM, treeV, startD, endV, bodyF, bodyI, startI, ioAt, slM, partM, bors, callL, callI, callO, DL.flatV, DL.flat, List.filterMap_cons, List.filterMap_nil, List.map_cons, List.map_nil, List.getElem?_cons_zero, List.getElem?_cons_succ, List.getElem?_nil, List.set_cons_zero, List.set_cons_succ, List.cons_append, List.nil_append, List.length_cons, List.length_nil, Option.bind_some, Option.bind_none, Option.map_some, Option.map_none, Nat.reduceSub, Nat.reduceAdd, List.replicate_succ, List.replicate_zero, Bool.not_true, Bool.not_false, if_true, if_false, Bool.false_eq_true, reduceIte, decide_true, decide_false, Nat.reduceLT, Nat.reduceLeDiff, reduceCtorEq, Option.some.injEq, Prod.mk.injEq, szOkL (show 4 ≤ 16777216 by decide), h]
theorem gr_s2 {p p1 p2 : D} {s k1 k2 a b : Int} (h1 : m__law_draw p [.int 401] = some (.fz (.int k1), p1)) (h2 : m__law_draw p1 [.int 401] = some (.fz (.int k2), p2)) (m1 : mulD (.int s) (.int (k1 - 200)) = some (.fz (.int a))) (m2 : mulD (.int s) (.int (k2 - 200)) = some (.fz (.int b))) :
    g__law_greatest_right_s2 [.own true p, .dat (.int s), .un, .un, .un, .un] = some (.nx, [.own true p2, .dat (.int s), .dat (.int a), .dat (.int b), .un, .un]) := by
  simp only [g__law_greatest_right_s2, parS, parO, mb, mr, mo, nameM, conM, binM, unM, boolM, ifM, DL.andM, DL.orM, DL.notM, andV, orV, notV, chainM, nilA, consA, dvs, dv, ownAt, fzs, lstM, tupM, callM, callP, permL, fzv, seqS, skipS, ifS, setS, asg, fr_z_un, fr_z_dat, fr_z_rw, fr_z_own, fr_s, turnF, retS, retV, dropS, frz, frzS, asgS, nilG, consG, tupG, subG, listAt, methM, augS, augSubS, forS, seqM, treeV, startD, endV, bodyF, bodyI, startI, ioAt, slM, partM, bors, callL, callI, callO, DL.flatV, DL.flat, List.filterMap_cons, List.filterMap_nil, List.map_cons, List.map_nil, List.getElem?_cons_zero, List.getElem?_cons_succ, List.getElem?_nil, List.set_cons_zero, List.set_cons_succ, List.cons_append, List.nil_append, List.length_cons, List.length_nil, Option.bind_some, Option.bind_none, Option.map_some, Option.map_none, Nat.reduceSub, Nat.reduceAdd, List.replicate_succ, List.replicate_zero, Bool.not_true, Bool.not_false, if_true, if_false, Bool.false_eq_true, reduceIte, decide_true, decide_false, Nat.reduceLT, Nat.reduceLeDiff, reduceCtorEq, Option.some.injEq, Prod.mk.injEq, h1, h2, subI, intB, m1, m2]
theorem gr_s3 {p s m : D} {a b g : Int} (h1 : m_greatest [.int a, .int b] = some (.fz (.int g))) (h2 : m__law_mixed [.int a, .int b] = some (.fz m)) :
    g__law_greatest_right_s3 [.own true p, .dat s, .dat (.int a), .dat (.int b), .un, .un] = some (.nx, [.own true p, .dat s, .dat (.int a), .dat (.int b), .dat (.int g), .dat m]) := by
  simp only [g__law_greatest_right_s3, parS, parO, mb, mr, mo, nameM, conM, binM, unM, boolM, ifM, DL.andM, DL.orM, DL.notM, andV, orV, notV, chainM, nilA, consA, dvs, dv, ownAt, fzs, lstM, tupM, callM, callP, permL, fzv, seqS, skipS, ifS, setS, asg, fr_z_un, fr_z_dat, fr_z_rw, fr_z_own, fr_s, turnF, retS, retV, dropS, frz, frzS, asgS, nilG, consG, tupG, subG, listAt, methM, augS, augSubS, forS, seqM, treeV, startD, endV, bodyF, bodyI, startI, ioAt, slM, partM, bors, callL, callI, callO, DL.flatV, DL.flat, List.filterMap_cons, List.filterMap_nil, List.map_cons, List.map_nil, List.getElem?_cons_zero, List.getElem?_cons_succ, List.getElem?_nil, List.set_cons_zero, List.set_cons_succ, List.cons_append, List.nil_append, List.length_cons, List.length_nil, Option.bind_some, Option.bind_none, Option.map_some, Option.map_none, Nat.reduceSub, Nat.reduceAdd, List.replicate_succ, List.replicate_zero, Bool.not_true, Bool.not_false, if_true, if_false, Bool.false_eq_true, reduceIte, decide_true, decide_false, Nat.reduceLT, Nat.reduceLeDiff, reduceCtorEq, Option.some.injEq, Prod.mk.injEq, h1, h2, fw]
theorem gr_s4 {p s m : D} {a b g x y z : Int} (h1 : ixD m (.int 0) = some (.fz (.int x))) (h2 : absD [.int x] = some (.fz (.int g))) (h3 : m_greatest [.int b, .int a] = some (.fz (.int g))) (hy : 0 - a = y) (h4 : m_greatest [.int y, .int b] = some (.fz (.int g))) (h5 : m_greatest [.int a, .int 0] = some (.fz (.int z))) (h6 : absD [.int a] = some (.fz (.int z))) :
    g__law_greatest_right_s4 [.own true p, .dat s, .dat (.int a), .dat (.int b), .dat (.int g), .dat m] = some (.nx, [.own true p, .dat s, .dat (.int a), .dat (.int b), .dat (.int g), .dat m]) := by
  simp only [g__law_greatest_right_s4, mb, mr, mo, nameM, conM, binM, unM, boolM, ifM, DL.andM, DL.orM, DL.notM, andV, orV, notV, chainM, nilA, consA, dvs, dv, ownAt, fzs, lstM, tupM, callM, callP, permL, fzv, seqS, skipS, ifS, setS, asg, fr_z_un, fr_z_dat, fr_z_rw, fr_z_own, fr_s, turnF, retS, retV, dropS, frz, frzS, asgS, nilG, consG, tupG, subG, listAt, methM, augS, augSubS, forS, seqM, treeV, startD, endV, bodyF, bodyI, startI, ioAt, slM, partM, bors, callL, callI, callO, DL.flatV, DL.flat, List.filterMap_cons, List.filterMap_nil, List.map_cons, List.map_nil, List.getElem?_cons_zero, List.getElem?_cons_succ, List.getElem?_nil, List.set_cons_zero, List.set_cons_succ, List.cons_append, List.nil_append, List.length_cons, List.length_nil, Option.bind_some, Option.bind_none, Option.map_some, Option.map_none, Nat.reduceSub, Nat.reduceAdd, List.replicate_succ, List.replicate_zero, Bool.not_true, Bool.not_false, if_true, if_false, Bool.false_eq_true, reduceIte, decide_true, decide_false, Nat.reduceLT, Nat.reduceLeDiff, reduceCtorEq, Option.some.injEq, Prod.mk.injEq, fw, h1, h2, neD_int, h3, subI, intB, hy, h4, h5, h6]
theorem gr_s5 {p s m : D} : g__law_greatest_right_s5 [.own true p, .dat s, .dat (.int 0), .dat (.int 0), .dat (.int 0), .dat m] = some (.rt (.fz (.bool true)), [.own true p, .dat s, .dat (.int 0), .dat (.int 0), .dat (.int 0), .dat m]) := by
  simp only [g__law_greatest_right_s5, mb, mr, mo, nameM, conM, binM, unM, boolM, ifM, DL.andM, DL.orM, DL.notM, andV, orV, notV, chainM, nilA, consA, dvs, dv, ownAt, fzs, lstM, tupM, callM, callP, permL, fzv, seqS, skipS, ifS, setS, asg, fr_z_un, fr_z_dat, fr_z_rw, fr_z_own, fr_s, turnF, retS, retV, dropS, frz, frzS, asgS, nilG, consG, tupG, subG, listAt, methM, augS, augSubS, forS, seqM, treeV, startD, endV, bodyF, bodyI, startI, ioAt, slM, partM, bors, callL, callI, callO, DL.flatV, DL.flat, List.filterMap_cons, List.filterMap_nil, List.map_cons, List.map_nil, List.getElem?_cons_zero, List.getElem?_cons_succ, List.getElem?_nil, List.set_cons_zero, List.set_cons_succ, List.cons_append, List.nil_append, List.length_cons, List.length_nil, Option.bind_some, Option.bind_none, Option.map_some, Option.map_none, Nat.reduceSub, Nat.reduceAdd, List.replicate_succ, List.replicate_zero, Bool.not_true, Bool.not_false, if_true, if_false, Bool.false_eq_true, reduceIte, decide_true, decide_false, Nat.reduceLT, Nat.reduceLeDiff, reduceCtorEq, Option.some.injEq, Prod.mk.injEq, eqD_int]
theorem gr_s56 {p s m : D} {a b g q1 q2 n1 n2 u v z : Int} (h0 : g ≠ 0) (h1 : fdivD (.int a) (.int g) = some (.fz (.int q1))) (h2 : mulD (.int q1) (.int g) = some (.fz (.int a))) (h3 : fdivD (.int b) (.int g) = some (.fz (.int q2))) (h4 : mulD (.int q2) (.int g) = some (.fz (.int b)))
    (h5 : ixD m (.int 1) = some (.fz (.int n1))) (h6 : ixD m (.int 2) = some (.fz (.int n2))) (h7 : mulD (.int n1) (.int a) = some (.fz (.int u))) (h8 : mulD (.int n2) (.int b) = some (.fz (.int v))) (h9 : 0 - g = z) (h10 : inI (.int (u + v)) (.tuple [.int g, .int z]) = some (.fz (.bool true))) :
    seqS g__law_greatest_right_s5 g__law_greatest_right_s6 [.own true p, .dat s, .dat (.int a), .dat (.int b), .dat (.int g), .dat m] = some (.rt (.fz (.bool true)), [.own true p, .dat s, .dat (.int a), .dat (.int b), .dat (.int g), .dat m]) := by
  simp only [g__law_greatest_right_s5, g__law_greatest_right_s6, mb, mr, mo, nameM, conM, binM, unM, boolM, ifM, DL.andM, DL.orM, DL.notM, andV, orV, notV, chainM, nilA, consA, dvs, dv, ownAt, fzs, lstM, tupM, callM, callP, permL, fzv, seqS, skipS, ifS, setS, asg, fr_z_un, fr_z_dat, fr_z_rw, fr_z_own, fr_s, turnF, retS, retV, dropS, frz, frzS, asgS, nilG, consG, tupG, subG, listAt, methM, augS, augSubS, forS, seqM, treeV, startD, endV, bodyF, bodyI, startI, ioAt, slM, partM, bors, callL, callI, callO, DL.flatV, DL.flat, List.filterMap_cons, List.filterMap_nil, List.map_cons, List.map_nil, List.getElem?_cons_zero, List.getElem?_cons_succ, List.getElem?_nil, List.set_cons_zero, List.set_cons_succ, List.cons_append, List.nil_append, List.length_cons, List.length_nil, Option.bind_some, Option.bind_none, Option.map_some, Option.map_none, Nat.reduceSub, Nat.reduceAdd, List.replicate_succ, List.replicate_zero, Bool.not_true, Bool.not_false, if_true, if_false, Bool.false_eq_true, reduceIte, decide_true, decide_false, Nat.reduceLT, Nat.reduceLeDiff, reduceCtorEq, Option.some.injEq, Prod.mk.injEq, eqD_int, decide_eq_false h0, h1, h2, h3, h4, h5, h6, h7, h8, addD, subI, intB, h9, szOk2, h10]
theorem gr_all {p p1 p2 : D} {δ : DS} {s a b g m : D} (h1 : g__law_greatest_right_s1 [.own true p, .un, .un, .un, .un, .un] = some (.nx, [.own true p1, .dat s, .un, .un, .un, .un])) (h2 : g__law_greatest_right_s2 [.own true p1, .dat s, .un, .un, .un, .un] = some (.nx, [.own true p2, .dat s, .dat a, .dat b, .un, .un]))
    (h3 : g__law_greatest_right_s3 [.own true p2, .dat s, .dat a, .dat b, .un, .un] = some (.nx, [.own true p2, .dat s, .dat a, .dat b, .dat g, .dat m])) (h4 : g__law_greatest_right_s4 [.own true p2, .dat s, .dat a, .dat b, .dat g, .dat m] = some (.nx, [.own true p2, .dat s, .dat a, .dat b, .dat g, .dat m]))
    (h5 : seqS g__law_greatest_right_s5 g__law_greatest_right_s6 [.own true p2, .dat s, .dat a, .dat b, .dat g, .dat m] = some (.rt (.fz (.bool true)), .own true p2 :: δ)) : m__law_greatest_right p [] = some (.fz (.bool true), p2) := by
  unfold m__law_greatest_right g__law_greatest_right bodyI
  rw [show startI 6 p [] = [.own true p, .un, .un, .un, .un, .un] from rfl]
  rw [seq_ok h1, seq_ok h2, seq_ok h3, seq_ok h4, h5]
  rfl
theorem r_greatest_right {p : D} (hp : Pot p) : ∃ p', m__law_greatest_right p [] = some (.fz (.bool true), p') ∧ Pot p' := by
  obtain ⟨sd, hs, p1, h1, hp1⟩ := pick_ok (xs := [.int 1, .int 6, .int 35, .int 1001]) hp (by simp) (by show 4 < _; decide)
  obtain ⟨s, rfl, s0, s1⟩ : ∃ s : Int, sd = .int s ∧ 0 < s ∧ s ≤ 1001 := by
    simp only [List.mem_cons, List.not_mem_nil, or_false] at hs
    rcases hs with rfl | rfl | rfl | rfl <;> exact ⟨_, rfl, by decide, by decide⟩
  obtain ⟨k1, p2, h2, hp2, k10, k11⟩ := draw_ok hp1 (n := 401) (by decide) (by decide)
  obtain ⟨k2, p3, h3, hp3, k20, k21⟩ := draw_ok hp2 (n := 401) (by decide) (by decide)
  have bd : ∀ k : Int, 0 ≤ k → k < 401 → (s * (k - 200)).natAbs ≤ 200200 := fun k h0 h1 => by
    rw [Int.natAbs_mul]
    have := Nat.mul_le_mul (show s.natAbs ≤ 1001 by omega) (show (k - 200).natAbs ≤ 200 by omega)
    omega
  have ba := bd k1 k10 k11
  have bb := bd k2 k20 k21
  have m1 : mulD (.int s) (.int (k1 - 200)) = some (.fz (.int (s * (k1 - 200)))) := mulD_lt (by omega) (by omega)
  have m2 : mulD (.int s) (.int (k2 - 200)) = some (.fz (.int (s * (k2 - 200)))) := mulD_lt (by omega) (by omega)
  have e2 := gr_s2 h2 h3 m1 m2
  generalize s * (k1 - 200) = a at ba e2
  generalize s * (k2 - 200) = b at bb e2
  have e18 : (2 : Nat) ^ 18 = 262144 := by decide
  have big : ∀ x : Int, x.natAbs ≤ 200200 → x.natAbs < 2 ^ 8000 := fun x h => Nat.lt_of_le_of_lt h (Nat.lt_of_lt_of_le (show 200200 < 2 ^ 18 by decide) (Nat.pow_le_pow_right (by decide) (by decide)))
  obtain ⟨n, n1, n2, hm, hg, hn, c1, c2⟩ := r_mixed (a := a) (b := b) (by omega) (by omega)
  have g1 := r_great (big a ba) (big b bb)
  have g2 := r_great (big b bb) (big a ba)
  have g3 := r_great (i := 0 - a) (j := b) (big _ (by omega)) (big b bb)
  have g4 := r_great (i := a) (j := 0) (big a ba) (by decide)
  rw [Nat.gcd_comm] at g2
  rw [show (0 - a).natAbs = a.natAbs by omega] at g3
  rw [Int.natAbs_zero, Nat.gcd_zero_right] at g4
  have dl := Nat.gcd_dvd_left a.natAbs b.natAbs
  have dr := Nat.gcd_dvd_right a.natAbs b.natAbs
  have gz : Nat.gcd a.natAbs b.natAbs = 0 → a = 0 ∧ b = 0 := fun h => by
    have := Nat.gcd_eq_zero_iff.mp h
    omega
  have hgle : Nat.gcd a.natAbs b.natAbs ≤ 200200 := by
    by_cases z : a.natAbs = 0
    · rw [z, Nat.gcd_zero_left]; exact bb
    · exact Nat.le_trans (Nat.le_of_dvd (by omega) dl) ba
  have e3 := gr_s3 (p := p3) (s := .int s) g1 hm
  have habs := absD_int n
  rw [hg] at habs
  generalize hG : Nat.gcd a.natAbs b.natAbs = g at *
  have e4 := gr_s4 (p := p3) (s := .int s) (ix30 n n1 n2) habs g2 rfl g3 g4 (absD_int a)
  refine ⟨p3, ?_, hp3⟩
  by_cases h0 : g = 0
  · obtain ⟨rfl, rfl⟩ := gz h0
    subst h0
    refine gr_all (δ := [.dat (.int s), .dat (.int 0), .dat (.int 0), .dat (.int 0), .dat (T3 n n1 n2)]) (gr_s1 h1) e2 e3 e4 ?_
    have e5 := gr_s5 (p := p3) (s := .int s) (m := T3 n n1 n2)
    show seqS _ _ [.own true p3, .dat (.int s), .dat (.int 0), .dat (.int 0), .dat (.int 0), .dat (T3 n n1 n2)] = _
    unfold seqS
    rw [e5]
  · have div : ∀ x : Int, g ∣ x.natAbs → x.natAbs ≤ 200200 → fdivD (.int x) (.int (g : Nat)) = some (.fz (.int (x.fdiv (g : Nat)))) ∧ mulD (.int (x.fdiv (g : Nat))) (.int (g : Nat)) = some (.fz (.int x)) := fun x hd hx => by
      refine ⟨fdivD_big (by omega) (by rw [Int.natAbs_natCast]; exact Nat.lt_of_le_of_lt hgle (by have := big 200200 (by decide); exact this)), ?_⟩
      have hq := Int.natAbs_fdiv_le_natAbs x (g : Nat)
      rw [mulD_lt (Nat.lt_of_le_of_lt (Nat.le_trans hq hx) (by decide)) (by rw [Int.natAbs_natCast]; exact Nat.lt_of_le_of_lt hgle (by decide))]
      rw [Int.fdiv_mul_cancel (Int.natAbs_dvd_natAbs.mp (by rw [Int.natAbs_natCast]; exact hd))]
    obtain ⟨d1, d2⟩ := div a dl ba
    obtain ⟨d3, d4⟩ := div b dr bb
    have k : (2 : Nat) ^ 4000 ≤ 2 ^ 8000 := Nat.pow_le_pow_right (by decide) (by decide)
    refine gr_all (gr_s1 h1) e2 e3 e4 (gr_s56 (by omega) d1 d2 d3 d4 (ix31 n n1 n2) (ix32 n n1 n2) (mulD_big (by omega) (big a ba)) (mulD_big (by omega) (big b bb)) rfl ?_)
    rw [← hn]
    simp only [inI, allI, Option.map_some, Option.some.injEq, Val.fz.injEq, PyData.bool.injEq]
    have : n = (g : Nat) ∨ n = 0 - (g : Nat) := by omega
    rcases this with h | h <;> simp [h]
/-! primes -/
def firstV : List D := [.int 0, .int 1, .int 2, .int 3, .int 4, .int (-2), .int (-7), .int 9973, .int 9991, .int 9999, .int 10000, .int 10007, .int 1000003, .bool true, .bool false, .none, .str "7", .list [.int 7], .dict []]
theorem pow6 : powD (.int 10) (.int 6) = some (.fz (.int 1000000)) := rfl
theorem pr_s1 {p : D} : g__law_primes_right_s1 [.own true p, .un, .un, .un] = some (.nx, [.own true p, .own false (.list firstV), .un, .un]) := by
  simp only [g__law_primes_right_s1, firstV, mb, mr, mo, nameM, conM, binM, unM, boolM, ifM, DL.andM, DL.orM, DL.notM, andV, orV, notV, chainM, nilA, consA, dvs, dv, ownAt, fzs, lstM, tupM, callM, callP, permL, fzv, seqS, skipS, ifS, setS, asg, fr_z_un, fr_z_dat, fr_z_rw, fr_z_own, fr_s, turnF, retS, retV, dropS, frz, frzS, asgS, nilG, consG, tupG, subG, listAt, methM, augS, augSubS, forS, seqM, treeV, startD, endV, bodyF, bodyI, startI, ioAt, slM, partM, bors, callL, callI, callO, DL.flatV, DL.flat, List.filterMap_cons, List.filterMap_nil, List.map_cons, List.map_nil, List.getElem?_cons_zero, List.getElem?_cons_succ, List.getElem?_nil, List.set_cons_zero, List.set_cons_succ, List.cons_append, List.nil_append, List.length_cons, List.length_nil, Option.bind_some, Option.bind_none, Option.map_some, Option.map_none, Nat.reduceSub, Nat.reduceAdd, List.replicate_succ, List.replicate_zero, Bool.not_true, Bool.not_false, if_true, if_false, Bool.false_eq_true, reduceIte, decide_true, decide_false, Nat.reduceLT, Nat.reduceLeDiff, reduceCtorEq, Option.some.injEq, Prod.mk.injEq, dnewM, negI, pow6, addD, szOk1, szOkL (show 19 ≤ 16777216 by decide), Int.reduceAdd]
theorem pr_b1 {p p' : D} {x : Int} {xs : List D} {r : Option D} (h : m__law_draw p [.int 12000] = some (.fz (.int x), p')) (ha : appendL xs [.int x] = some (.none, xs ++ [.int x])) : g__law_primes_right_b1 [.own true p, .own false (.list xs), rw' r, .un] = some (.nx, [.own true p', .own false (.list (xs ++ [.int x])), rw' r, .un]) := by
  simp only [g__law_primes_right_b1, mb, mr, mo, nameM, conM, binM, unM, boolM, ifM, DL.andM, DL.orM, DL.notM, andV, orV, notV, chainM, nilA, consA, dvs, dv, ownAt, fzs, lstM, tupM, callM, callP, permL, fzv, seqS, skipS, ifS, setS, asg, fr_z_un, fr_z_dat, fr_z_rw, fr_z_own, fr_s, turnF, retS, retV, dropS, frz, frzS, asgS, nilG, consG, tupG, subG, listAt, methM, augS, augSubS, forS, seqM, treeV, startD, endV, bodyF, bodyI, startI, ioAt, slM, partM, bors, callL, callI, callO, DL.flatV, DL.flat, List.filterMap_cons, List.filterMap_nil, List.map_cons, List.map_nil, List.getElem?_cons_zero, List.getElem?_cons_succ, List.getElem?_nil, List.set_cons_zero, List.set_cons_succ, List.cons_append, List.nil_append, List.length_cons, List.length_nil, Option.bind_some, Option.bind_none, Option.map_some, Option.map_none, Nat.reduceSub, Nat.reduceAdd, List.replicate_succ, List.replicate_zero, Bool.not_true, Bool.not_false, if_true, if_false, Bool.false_eq_true, reduceIte, decide_true, decide_false, Nat.reduceLT, Nat.reduceLeDiff, reduceCtorEq, Option.some.injEq, Prod.mk.injEq, h, ha]
theorem pr_all {p p' : D} {vs : D} {r : Option D} {δ : DS} (h1 : g__law_primes_right_f1 [.own true p, .own false (.list firstV), .un, .un] = some (.nx, [.own true p', .own false vs, rw' r, .un])) (h2 : g__law_primes_right_f2 [.own true p', .dat vs, rw' r, .un] = some (.nx, .own true p' :: δ)) : m__law_primes_right p [] = some (.fz (.bool true), p') := by
  have hs1 := pr_s1 (p := p)
  unfold m__law_primes_right g__law_primes_right bodyI
  rw [show startI 4 p [] = [.own true p, .un, .un, .un] from rfl]
  rw [seq_ok hs1, seq_ok h1, seq_ok (b := g__law_primes_right_s3) (show g__law_primes_right_s2 _ = some (.nx, .own true p' :: δ) from by
    unfold g__law_primes_right_s2
    cases r <;> simp only [mb, mr, mo, nameM, conM, binM, unM, boolM, ifM, DL.andM, DL.orM, DL.notM, andV, orV, notV, chainM, nilA, consA, dvs, dv, ownAt, fzs, lstM, tupM, callM, callP, permL, fzv, seqS, skipS, ifS, setS, asg, fr_z_un, fr_z_dat, fr_z_rw, fr_z_own, fr_s, turnF, retS, retV, dropS, frz, frzS, asgS, nilG, consG, tupG, subG, listAt, methM, augS, augSubS, forS, seqM, treeV, startD, endV, bodyF, bodyI, startI, ioAt, slM, partM, bors, callL, callI, callO, DL.flatV, DL.flat, List.filterMap_cons, List.filterMap_nil, List.map_cons, List.map_nil, List.getElem?_cons_zero, List.getElem?_cons_succ, List.getElem?_nil, List.set_cons_zero, List.set_cons_succ, List.cons_append, List.nil_append, List.length_cons, List.length_nil, Option.bind_some, Option.bind_none, Option.map_some, Option.map_none, Nat.reduceSub, Nat.reduceAdd, List.replicate_succ, List.replicate_zero, Bool.not_true, Bool.not_false, if_true, if_false, Bool.false_eq_true, reduceIte, decide_true, decide_false, Nat.reduceLT, Nat.reduceLeDiff, reduceCtorEq, Option.some.injEq, Prod.mk.injEq] at h2 ⊢ <;> exact h2)]
  rfl
theorem r_primes {p : D} (hp : Pot p) : ∃ p', m__law_primes_right p [] = some (.fz (.bool true), p') ∧ Pot p' := by
  have f0 : ∀ d ∈ firstV, ty0 d := by
    intro d hd
    unfold firstV at hd
    simp only [List.mem_cons, List.not_mem_nil, or_false] at hd
    rcases hd with rfl | rfl | rfl | rfl | rfl | rfl | rfl | rfl | rfl | rfl | rfl | rfl | rfl | rfl | rfl | rfl | rfl | rfl | rfl <;> exact ⟨_, rfl⟩
  obtain ⟨s, r, e, q⟩ := for_ex (δ0 := [.own true p, .own false (.list firstV), rw' none, .un]) (fi := rngM1 (consA (conM (.int 12)) nilA)) (gt := asg 2) (body := g__law_primes_right_b1) (fun i : Nat => .int ((0 : Int) + (i : Nat))) (fun (s : D × List D) (r : Option D) => [.own true s.1, .own false (.list s.2), rw' r, .un]) (fun k s => Pot s.1 ∧ s.2.length = 19 + k ∧ ∀ y ∈ s.2, ty0 y) (List.range 12) (s0 := (p, firstV)) (r0 := none) rfl (rng_1 (j := 12) (by simp only [mb, mr, mo, nameM, conM, binM, unM, boolM, ifM, DL.andM, DL.orM, DL.notM, andV, orV, notV, chainM, nilA, consA, dvs, dv, ownAt, fzs, lstM, tupM, callM, callP, permL, fzv, seqS, skipS, ifS, setS, asg, fr_z_un, fr_z_dat, fr_z_rw, fr_z_own, fr_s, turnF, retS, retV, dropS, frz, frzS, asgS, nilG, consG, tupG, subG, listAt, methM, augS, augSubS, forS, seqM, treeV, startD, endV, bodyF, bodyI, startI, ioAt, slM, partM, bors, callL, callI, callO, DL.flatV, DL.flat, List.filterMap_cons, List.filterMap_nil, List.map_cons, List.map_nil, List.getElem?_cons_zero, List.getElem?_cons_succ, List.getElem?_nil, List.set_cons_zero, List.set_cons_succ, List.cons_append, List.nil_append, List.length_cons, List.length_nil, Option.bind_some, Option.bind_none, Option.map_some, Option.map_none, Nat.reduceSub, Nat.reduceAdd, List.replicate_succ, List.replicate_zero, Bool.not_true, Bool.not_false, if_true, if_false, Bool.false_eq_true, reduceIte, decide_true, decide_false, Nat.reduceLT, Nat.reduceLeDiff, reduceCtorEq, Option.some.injEq, Prod.mk.injEq]) (by decide)) ⟨hp, rfl, f0⟩ (fun k i s r hk q => by
    have hkl : k < 12 := by simpa using (List.getElem?_eq_some_iff.mp hk).1
    obtain ⟨x, d', hx, hd', x0, x1⟩ := draw_ok q.1 (n := 12000) (by decide) (by decide)
    have ql := q.2.1
    refine ⟨(d', s.2 ++ [.int x]), some (.int ((0 : Int) + (i : Nat))), ?_, hd', by simp [q.2.1]; omega, fun y hy => ?_⟩
    · have e := pr_b1 (r := some (.int ((0 : Int) + (i : Nat)))) hx (append_L (by omega : s.2.length ≤ 900))
      generalize (0 : Int) + (i : Nat) = j at e ⊢
      generalize s.2 ++ [.int x] = ys at e ⊢
      unfold rw' at e
      simp only [mb, mr, mo, nameM, conM, binM, unM, boolM, ifM, DL.andM, DL.orM, DL.notM, andV, orV, notV, chainM, nilA, consA, dvs, dv, ownAt, fzs, lstM, tupM, callM, callP, permL, fzv, seqS, skipS, ifS, setS, asg, fr_z_un, fr_z_dat, fr_z_rw, fr_z_own, fr_s, turnF, retS, retV, dropS, frz, frzS, asgS, nilG, consG, tupG, subG, listAt, methM, augS, augSubS, forS, seqM, treeV, startD, endV, bodyF, bodyI, startI, ioAt, slM, partM, bors, callL, callI, callO, DL.flatV, DL.flat, List.filterMap_cons, List.filterMap_nil, List.map_cons, List.map_nil, List.getElem?_cons_zero, List.getElem?_cons_succ, List.getElem?_nil, List.set_cons_zero, List.set_cons_succ, List.cons_append, List.nil_append, List.length_cons, List.length_nil, Option.bind_some, Option.bind_none, Option.map_some, Option.map_none, Nat.reduceSub, Nat.reduceAdd, List.replicate_succ, List.replicate_zero, Bool.not_true, Bool.not_false, if_true, if_false, Bool.false_eq_true, reduceIte, decide_true, decide_false, Nat.reduceLT, Nat.reduceLeDiff, reduceCtorEq, Option.some.injEq, Prod.mk.injEq, e]
      rfl
    · rcases List.mem_append.mp hy with h | h
      · exact q.2.2 y h
      · rw [List.mem_singleton.mp h]
        exact ⟨_, rfl⟩)
  obtain ⟨q1, -, q3⟩ := q
  obtain ⟨r', e', -⟩ := for_fold (body := g__law_primes_right_b2) (gt := asg 3) (fi := seqM (nameM 1)) (δ0 := [.own true s.1, .dat (.list s.2), rw' r, .un]) (fun x : D => x) (fun (_ : Unit) (z : Option D) => [.own true s.1, .dat (.list s.2), rw' r, rw' z]) (fun u _ => u) (fun _ _ => True) s.2 (s0 := ()) (r0 := none) rfl (by
    rw [List.map_id']
    cases r <;> simp only [mb, mr, mo, nameM, conM, binM, unM, boolM, ifM, DL.andM, DL.orM, DL.notM, andV, orV, notV, chainM, nilA, consA, dvs, dv, ownAt, fzs, lstM, tupM, callM, callP, permL, fzv, seqS, skipS, ifS, setS, asg, fr_z_un, fr_z_dat, fr_z_rw, fr_z_own, fr_s, turnF, retS, retV, dropS, frz, frzS, asgS, nilG, consG, tupG, subG, listAt, methM, augS, augSubS, forS, seqM, treeV, startD, endV, bodyF, bodyI, startI, ioAt, slM, partM, bors, callL, callI, callO, DL.flatV, DL.flat, List.filterMap_cons, List.filterMap_nil, List.map_cons, List.map_nil, List.getElem?_cons_zero, List.getElem?_cons_succ, List.getElem?_nil, List.set_cons_zero, List.set_cons_succ, List.cons_append, List.nil_append, List.length_cons, List.length_nil, Option.bind_some, Option.bind_none, Option.map_some, Option.map_none, Nat.reduceSub, Nat.reduceAdd, List.replicate_succ, List.replicate_zero, Bool.not_true, Bool.not_false, if_true, if_false, Bool.false_eq_true, reduceIte, decide_true, decide_false, Nat.reduceLT, Nat.reduceLeDiff, reduceCtorEq, Option.some.injEq, Prod.mk.injEq, rw', itemsOf]) trivial (fun j v u z hj _ => ⟨by
    have e := primes_b (p := s.1) (vs := .list s.2) (v := v) (y := r) (io := false) (q3 v (List.mem_of_getElem? hj)) (.inr rfl)
    refine ⟨some v, ?_⟩
    cases r <;> cases z <;> simp only [mb, mr, mo, nameM, conM, binM, unM, boolM, ifM, DL.andM, DL.orM, DL.notM, andV, orV, notV, chainM, nilA, consA, dvs, dv, ownAt, fzs, lstM, tupM, callM, callP, permL, fzv, seqS, skipS, ifS, setS, asg, fr_z_un, fr_z_dat, fr_z_rw, fr_z_own, fr_s, turnF, retS, retV, dropS, frz, frzS, asgS, nilG, consG, tupG, subG, listAt, methM, augS, augSubS, forS, seqM, treeV, startD, endV, bodyF, bodyI, startI, ioAt, slM, partM, bors, callL, callI, callO, DL.flatV, DL.flat, List.filterMap_cons, List.filterMap_nil, List.map_cons, List.map_nil, List.getElem?_cons_zero, List.getElem?_cons_succ, List.getElem?_nil, List.set_cons_zero, List.set_cons_succ, List.cons_append, List.nil_append, List.length_cons, List.length_nil, Option.bind_some, Option.bind_none, Option.map_some, Option.map_none, Nat.reduceSub, Nat.reduceAdd, List.replicate_succ, List.replicate_zero, Bool.not_true, Bool.not_false, if_true, if_false, Bool.false_eq_true, reduceIte, decide_true, decide_false, Nat.reduceLT, Nat.reduceLeDiff, reduceCtorEq, Option.some.injEq, Prod.mk.injEq, rw'] at e ⊢ <;> simp only [e], trivial⟩)
  exact ⟨s.1, pr_all e e', q1⟩
theorem right_ev {p p1 p2 p3 : D} (h1 : m__law_lines_right p [] = some (.fz (.bool true), p1)) (h2 : m__law_primes_right p1 [] = some (.fz (.bool true), p2)) (h3 : m__law_greatest_right p2 [] = some (.fz (.bool true), p3)) (h4 : m_greatest [.int 12, .int (-18)] = some (.fz (.int 6))) (h5 : m_greatest [.int 0, .int 0] = some (.fz (.int 0))) : m__law_right p [] = some (.fz (.bool true), p3) := by
  simp only [m__law_right, g__law_right, g__law_right_s1, mb, mr, mo, nameM, conM, binM, unM, boolM, ifM, DL.andM, DL.orM, DL.notM, andV, orV, notV, chainM, nilA, consA, dvs, dv, ownAt, fzs, lstM, tupM, callM, callP, permL, fzv, seqS, skipS, ifS, setS, asg, freeAt, retS, retV, dropS, frz, frzS, asgS, nilG, consG, tupG, subG, listAt, methM, augS, augSubS, forS, seqM, treeV, startD, endV, bodyF, bodyI, startI, ioAt, slM, partM, bors, callL, callI, callO, DL.flatV, DL.flat, List.filterMap_cons, List.filterMap_nil, List.map_cons, List.map_nil, List.getElem?_cons_zero, List.getElem?_cons_succ, List.getElem?_nil, List.set_cons_zero, List.set_cons_succ, List.cons_append, List.nil_append, List.length_cons, List.length_nil, Option.bind_some, Option.bind_none, Option.map_some, Option.map_none, Nat.reduceSub, Nat.reduceAdd, List.replicate_succ, List.replicate_zero, Bool.not_true, Bool.not_false, if_true, if_false, Bool.false_eq_true, reduceIte, decide_true, decide_false, Nat.reduceLT, Nat.reduceLeDiff, reduceCtorEq, Option.some.injEq, Prod.mk.injEq, h1, h2, h3, negI, h4, h5, eqD_int]
theorem law_ev {s p d' : D} (h1 : m__law_pot [s, .int 0] = some (.ow p)) (h2 : m__law_right p [] = some (.fz (.bool true), d')) : m_law [s] = some (.fz (.bool true)) := by
  simp only [m_law, g_law, g_law_s1, mb, mr, mo, nameM, conM, binM, unM, boolM, ifM, DL.andM, DL.orM, DL.notM, andV, orV, notV, chainM, nilA, consA, dvs, dv, ownAt, fzs, lstM, tupM, callM, callP, permL, fzv, seqS, skipS, ifS, setS, asg, freeAt, retS, retV, dropS, frz, frzS, asgS, nilG, consG, tupG, subG, listAt, methM, augS, augSubS, forS, seqM, treeV, startD, endV, bodyF, bodyI, startI, ioAt, slM, partM, bors, callL, callI, callO, DL.flatV, DL.flat, List.filterMap_cons, List.filterMap_nil, List.map_cons, List.map_nil, List.getElem?_cons_zero, List.getElem?_cons_succ, List.getElem?_nil, List.set_cons_zero, List.set_cons_succ, List.cons_append, List.nil_append, List.length_cons, List.length_nil, Option.bind_some, Option.bind_none, Option.map_some, Option.map_none, Nat.reduceSub, Nat.reduceAdd, List.replicate_succ, List.replicate_zero, Bool.not_true, Bool.not_false, if_true, if_false, Bool.false_eq_true, reduceIte, decide_true, decide_false, Nat.reduceLT, Nat.reduceLeDiff, reduceCtorEq, Option.some.injEq, Prod.mk.injEq, h1, h2]
theorem law_true : ∀ ns : List Int, ns.length ≤ 63 → (∀ z ∈ ns, Builtin.Int.intBits z ≤ 1048576) → m_law [scrD ns] = some (.fz (.bool true)) := fun ns _ _ => by
  obtain ⟨p, h1, hp⟩ := pot_ok ns
  obtain ⟨p1, h2, hp1⟩ := r_lines hp
  obtain ⟨p2, h3, hp2⟩ := r_primes hp1
  obtain ⟨p3, h4, hp3⟩ := r_greatest_right hp2
  exact law_ev h1 (right_ev h2 h3 h4 (r_great (i := 12) (j := -18) (by decide) (by decide)) (r_great (i := 0) (j := 0) (by decide) (by decide)))
end K16
end
open PySem PySem.W PyProof.Rows
set_option maxHeartbeats 0 in
theorem PySem.Challenge.cw_curvepieces_k16_any_value_as_line_or_pri_holds : PySem.Challenge.rw_curvepieces_k16_any_value_as_line_or_pri.Holds := by
  w_on; o_law; k_head; (case hw => w_witness2)
  k_fill
  refine DL.walk_ofG (l := PySem.Challenge.rw_curvepieces_k16_any_value_as_line_or_pri) (n := 63) (k := 6) (x := "_law_script") (F := K16.m_law) rfl (by decide) rfl ⟨rfl, by decide, by decide⟩ (fun w h Y => PySem.W.kIn_of Y) ?F K16.law_true
  case F =>
    intro w mg fa h KX G hmg
    refine' K16.all_mk KX G hmg ?a1 ?l1 ?c1 ?k1 ?a2 ?l2 ?c2 ?k2 ?a3 ?l3 ?c3 ?k3 ?a4 ?l4 ?c4 ?k4 ?a5 ?l5 ?c5 ?k5 ?a6 ?l6 ?c6 ?k6 ?a7 ?l7 ?c7 ?k7 ?a8 ?l8 ?c8 ?k8 ?a9 ?l9 ?c9 ?k9 ?a10 ?l10 ?c10 ?k10 ?a11 ?l11 ?c11 ?k11 ?a12 ?l12 ?c12 ?k12 ?a13 ?l13 ?c13 ?k13 ?a14 ?l14 ?c14 ?k14 ?a15 ?l15 ?c15 ?k15 ?a16 ?l16 ?c16 ?k16 ?a17 ?l17 ?c17 ?k17 ?a18 ?l18 ?c18 ?k18 ?a19 ?l19 ?c19 ?k19 ?a20 ?l20 ?c20 ?k20 ?a21 ?l21 ?c21 ?k21 ?a22 ?l22 ?c22 ?k22 ?e_MOST_DEGREE ?e_PRIME_BOUND ?z_abs ?z_all ?z_bool ?z_divmod ?z_int ?z_isinstance ?z_len ?z_list ?z_max ?z_range ?z_repr ?z_tuple ?z_zip
    (case a1 => k_is); (case l1 => k_is); (case c1 => k_is); (case k1 => k_is); (case a2 => k_is); (case l2 => k_is); (case c2 => k_is); (case k2 => k_is); (case a3 => k_is); (case l3 => k_is); (case c3 => k_is); (case k3 => k_is); (case a4 => k_is); (case l4 => k_is); (case c4 => k_is); (case k4 => k_is); (case a5 => k_is); (case l5 => k_is); (case c5 => k_is); (case k5 => k_is); (case a6 => k_is); (case l6 => k_is); (case c6 => k_is); (case k6 => k_is); (case a7 => k_is); (case l7 => k_is); (case c7 => k_is); (case k7 => k_is); (case a8 => k_is); (case l8 => k_is); (case c8 => k_is); (case k8 => k_is); (case a9 => k_is); (case l9 => k_is); (case c9 => k_is); (case k9 => k_is); (case a10 => k_is); (case l10 => k_is); (case c10 => k_is); (case k10 => k_is); (case a11 => k_is); (case l11 => k_is); (case c11 => k_is); (case k11 => k_is); (case a12 => k_is); (case l12 => k_is); (case c12 => k_is); (case k12 => k_is); (case a13 => k_is); (case l13 => k_is); (case c13 => k_is); (case k13 => k_is); (case a14 => k_is); (case l14 => k_is); (case c14 => k_is); (case k14 => k_is); (case a15 => k_is); (case l15 => k_is); (case c15 => k_is); (case k15 => k_is); (case a16 => k_is); (case l16 => k_is); (case c16 => k_is); (case k16 => k_is); (case a17 => k_is); (case l17 => k_is); (case c17 => k_is); (case k17 => k_is); (case a18 => k_is); (case l18 => k_is); (case c18 => k_is); (case k18 => k_is); (case a19 => k_is); (case l19 => k_is); (case c19 => k_is); (case k19 => k_is); (case a20 => k_is); (case l20 => k_is); (case c20 => k_is); (case k20 => k_is); (case a21 => k_is); (case l21 => k_is); (case c21 => k_is); (case k21 => k_is); (case a22 => k_is); (case l22 => k_is); (case c22 => k_is); (case k22 => k_is); (case e_MOST_DEGREE => k_is); (case e_PRIME_BOUND => k_is); (case z_abs => k_is); (case z_all => k_is); (case z_bool => k_is); (case z_divmod => k_is); (case z_int => k_is); (case z_isinstance => k_is); (case z_len => k_is); (case z_list => k_is); (case z_max => k_is); (case z_range => k_is); (case z_repr => k_is); (case z_tuple => k_is); (case z_zip => k_is)
