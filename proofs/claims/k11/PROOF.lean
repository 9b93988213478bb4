import PyProof.Rows.All
import Wide.All
import OpenK.AllK
import Wide.FinOn
import HandS.ForMost
import HandS.IsInst
import HandS.Wide
import HandS.WideBits
import HandS.Defaults
import PyProof.ReprRoads
import HandS.TupAny
import HandS.Style
import HandS.Zip
import HandS.EndBits
import KE.GoesMore
import KE.GoesEnum
import HandS.TryOnly
import PySem.Challenge.RW_curvepieces_k11_whole_sums_products_valu
set_option Elab.async false
set_option linter.all false
section
set_option maxRecDepth 100000
set_option maxHeartbeats 4000000
/-! data layer: values as trees, frames as lists of slots -/
namespace DL
open PySem PySem.Spec L2
open PyProof.Rows hiding St

abbrev D := PyData
abbrev Fg := PySem.W.Frag

def keyD : Key → D
  | .inl i => .int i
  | .inr x => .str x

mutual
inductive Tr (K : Fg) (H : Hp) : V → D → Prop
  | non : Tr K H .non .none
  | bl (b : Bool) : Tr K H (.bl b) (.bool b)
  | int (i : Int) : Tr K H (.int i) (.int i)
  | str (x : Str) : Tr K H (.str x) (.str x)
  | lst {a : Addr} {xs : List V} {ds : List D} : H a = some (.lst xs) → TrAll K H xs ds → Tr K H (.ref a) (.list ds)
  | tup {a : Addr} {xs : List V} {ds : List D} : SqT K H a xs → TrAll K H xs ds → Tr K H (.ref a) (.tuple ds)
  | dic {a : Addr} {kvs : List (Key × V)} {es : List (D × D)} : H a = some (.dK kvs) → TrKV K H kvs es → Tr K H (.ref a) (.dict es)
  | scr {a : Addr} {ns : List Int} : SqL K H a (ns.map V.int) → Tr K H (.ref a) (.dict [(.none, .list (ns.map .int))])
inductive TrAll (K : Fg) (H : Hp) : List V → List D → Prop
  | nil : TrAll K H [] []
  | cons {v : V} {vs : List V} {d : D} {ds : List D} : Tr K H v d → TrAll K H vs ds → TrAll K H (v :: vs) (d :: ds)
inductive TrKV (K : Fg) (H : Hp) : List (Key × V) → List (D × D) → Prop
  | nil : TrKV K H [] []
  | cons {k : Key} {v : V} {vs : List (Key × V)} {d : D} {ds : List (D × D)} : Tr K H v d → TrKV K H vs ds → TrKV K H ((k, v) :: vs) ((keyD k, d) :: ds)
end

theorem Same.tup {K : Fg} {H H' : Hp} {a : Addr} {xs : List V} (e : Same H H') (h : SqT K H a xs) : SqT K H' a xs := by
  rcases h with (h | ⟨o, h⟩) | h
  · exact .inl (.inl (e _ _ h))
  · exact .inl (.inr ⟨o, e _ _ h⟩)
  · exact .inr h
theorem Same.rd {H H' : Hp} {a : Addr} {u : HO} (e : Same H H') (h : Rd H a u) : Rd H' a u := by
  rcases h with h | ⟨o, h⟩
  · exact .inl (e _ _ h)
  · exact .inr ⟨o, e _ _ h⟩

mutual
theorem Tr.mono {K : Fg} {H H' : Hp} (s : Same H H') : ∀ {v : V} {d : D}, Tr K H v d → Tr K H' v d
  | _, _, .non => .non
  | _, _, .bl b => .bl b
  | _, _, .int i => .int i
  | _, _, .str x => .str x
  | _, _, .lst a b => .lst (s _ _ a) (TrAll.mono s b)
  | _, _, .tup a b => .tup (Same.tup s a) (TrAll.mono s b)
  | _, _, .dic a b => .dic (s _ _ a) (TrKV.mono s b)
  | _, _, .scr a => .scr (s.seq a)
theorem TrAll.mono {K : Fg} {H H' : Hp} (s : Same H H') : ∀ {v : List V} {d : List D}, TrAll K H v d → TrAll K H' v d
  | _, _, .nil => .nil
  | _, _, .cons a b => .cons (Tr.mono s a) (TrAll.mono s b)
theorem TrKV.mono {K : Fg} {H H' : Hp} (s : Same H H') : ∀ {v : List (Key × V)} {d : List (D × D)}, TrKV K H v d → TrKV K H' v d
  | _, _, .nil => .nil
  | _, _, .cons a b => .cons (Tr.mono s a) (TrKV.mono s b)
end

section
variable {K : Fg} {H : Hp}
theorem TrAll.len : ∀ {vs : List V} {ds : List D}, TrAll K H vs ds → vs.length = ds.length
  | _, _, .nil => rfl
  | _, _, .cons _ b => by simp [TrAll.len b]
theorem TrAll.get : ∀ {vs : List V} {ds : List D} {i : Nat} {d : D}, TrAll K H vs ds → ds[i]? = some d → ∃ v, vs[i]? = some v ∧ Tr K H v d
  | _, _, _, _, .nil, h => by simp at h
  | _, _, 0, _, .cons a _, h => by
    simp only [List.getElem?_cons_zero, Option.some.injEq] at h
    subst h
    exact ⟨_, rfl, a⟩
  | _, _, i + 1, _, .cons _ b, h => by
    simp only [List.getElem?_cons_succ] at h
    obtain ⟨v, e, t⟩ := TrAll.get b h
    exact ⟨v, by simpa using e, t⟩
theorem TrAll.getV : ∀ {vs : List V} {ds : List D} {i : Nat} {v : V}, TrAll K H vs ds → vs[i]? = some v → ∃ d, ds[i]? = some d ∧ Tr K H v d
  | _, _, _, _, .nil, h => by simp at h
  | _, _, 0, _, .cons a _, h => by
    simp only [List.getElem?_cons_zero, Option.some.injEq] at h
    subst h
    exact ⟨_, rfl, a⟩
  | _, _, i + 1, _, .cons _ b, h => by
    simp only [List.getElem?_cons_succ] at h
    obtain ⟨v, e, t⟩ := TrAll.getV b h
    exact ⟨v, by simpa using e, t⟩
theorem TrAll.append : ∀ {vs ws : List V} {ds es : List D}, TrAll K H vs ds → TrAll K H ws es → TrAll K H (vs ++ ws) (ds ++ es)
  | _, _, _, _, .nil, h => h
  | _, _, _, _, .cons a b, h => .cons a (TrAll.append b h)
theorem TrAll.take (n : Nat) : ∀ {vs : List V} {ds : List D}, TrAll K H vs ds → TrAll K H (vs.take n) (ds.take n) := by
  induction n with
  | zero => intro _ _ _; exact .nil
  | succ n ih =>
    intro vs ds h
    cases h with
    | nil => exact .nil
    | cons a b => exact .cons a (ih b)
theorem TrAll.drop (n : Nat) : ∀ {vs : List V} {ds : List D}, TrAll K H vs ds → TrAll K H (vs.drop n) (ds.drop n) := by
  induction n with
  | zero => intro _ _ h; exact h
  | succ n ih =>
    intro vs ds h
    cases h with
    | nil => exact .nil
    | cons a b => exact ih b
theorem TrAll.set {v : V} {d : D} (t : Tr K H v d) : ∀ {vs : List V} {ds : List D} (i : Nat), TrAll K H vs ds → TrAll K H (vs.set i v) (ds.set i d)
  | _, _, _, .nil => .nil
  | _, _, 0, .cons _ b => .cons t b
  | _, _, i + 1, .cons a b => .cons a (TrAll.set t i b)
theorem TrAll.reverse : ∀ {vs : List V} {ds : List D}, TrAll K H vs ds → TrAll K H vs.reverse ds.reverse
  | _, _, .nil => .nil
  | _, _, .cons a b => by
    rw [List.reverse_cons, List.reverse_cons]
    exact TrAll.append (TrAll.reverse b) (.cons a .nil)
theorem TrAll.replicate {vs : List V} {ds : List D} (h : TrAll K H vs ds) : ∀ n : Nat, TrAll K H (List.replicate n vs).flatten (List.replicate n ds).flatten
  | 0 => .nil
  | n + 1 => by
    rw [List.replicate_succ, List.replicate_succ, List.flatten_cons, List.flatten_cons]
    exact TrAll.append h (TrAll.replicate h n)
theorem TrAll.ints : ∀ {ns : List Int}, TrAll K H (ns.map V.int) (ns.map PyData.int)
  | [] => .nil
  | n :: r => .cons (.int n) TrAll.ints
end

theorem keyD_ne (k : Key) : keyD k ≠ .none := by cases k <;> exact fun h => nomatch h
theorem TrKV.key {K : Fg} {H : Hp} : ∀ {kvs : List (Key × V)} {es : List (D × D)}, TrKV K H kvs es → ∀ p ∈ es, p.1 ≠ .none
  | _, _, .nil, p, h => by cases h
  | _, _, .cons (k := k) (ds := ds) a b, p, h => by
    rcases List.mem_cons.mp h with h | h
    · rw [h]; exact keyD_ne k
    · exact TrKV.key b p h
/-- the root of a value in H, what hangs on it in G -/
inductive View (K : Fg) (G H : Hp) : V → D → Prop
  | sc {v : V} {d : D} : Tr K G v d → View K G H v d
  | lst {a : Addr} {xs : List V} {ds : List D} : H a = some (.lst xs) → TrAll K G xs ds → View K G H (.ref a) (.list ds)
  | dic {a : Addr} {kvs : List (Key × V)} {es : List (D × D)} : H a = some (.dK kvs) → TrKV K G kvs es → View K G H (.ref a) (.dict es)

section
variable {K : Fg} {G H : Hp}
theorem View.tr (s : Same G H) {v : V} {d : D} (h : View K G H v d) : Tr K H v d := by
  cases h with
  | sc h => exact Tr.mono s h
  | lst a b => exact .lst a (TrAll.mono s b)
  | dic a b => exact .dic a (TrKV.mono s b)
theorem View.list (s : Same G H) {v : V} {ds : List D} (h : View K G H v (.list ds)) : ∃ a xs, v = .ref a ∧ H a = some (.lst xs) ∧ TrAll K G xs ds := by
  cases h with
  | sc h =>
    cases h with
    | lst a b => exact ⟨_, _, rfl, s _ _ a, b⟩
  | lst a b => exact ⟨_, _, rfl, a, b⟩
theorem View.tuple (s : Same G H) {v : V} {ds : List D} (h : View K G H v (.tuple ds)) : ∃ a xs, v = .ref a ∧ SqT K H a xs ∧ TrAll K G xs ds := by
  cases h with
  | sc h =>
    cases h with
    | tup a b => exact ⟨_, _, rfl, Same.tup s a, b⟩
/-- the script: a list of ints that is read alone -/
def scrD (ns : List Int) : D := .dict [(.none, .list (ns.map .int))]
theorem ints_inj : ∀ {a b : List Int}, a.map PyData.int = b.map PyData.int → a = b
  | [], [], _ => rfl
  | [], _ :: _, h => by cases h
  | _ :: _, [], h => by cases h
  | x :: a, y :: b, h => by
    rw [List.map_cons, List.map_cons] at h
    injection h with h1 h2
    injection h1 with h1
    rw [h1, ints_inj h2]
theorem View.scr (s : Same G H) {v : V} {ns : List Int} (h : View K G H v (scrD ns)) : ∃ a, v = .ref a ∧ SqL K H a (ns.map V.int) := by
  unfold scrD at h
  generalize hz : (PyData.dict [(.none, .list (ns.map .int))]) = z at h
  cases h with
  | sc h =>
    cases h with
    | dic a b =>
      injection hz with hz
      subst hz
      exact (TrKV.key b _ List.mem_cons_self rfl).elim
    | scr a =>
      injection hz with hz
      injection hz with hz
      injection hz with _ hz
      injection hz with hz
      rw [ints_inj hz]
      exact ⟨_, rfl, s.seq a⟩
    | _ => cases hz
  | lst a b => cases hz
  | dic a b =>
    injection hz with hz
    subst hz
    exact (TrKV.key b _ List.mem_cons_self rfl).elim
theorem View.tupT {v : V} {ds : List D} (h : View K G H v (.tuple ds)) : Tr K G v (.tuple ds) := by cases h with | sc h => exact h
theorem View.up {H' : Hp} (s : Same H H') {v : V} {d : D} (h : View K G H v d) : View K G H' v d := by
  cases h with
  | sc h => exact .sc h
  | lst a b => exact .lst (s _ _ a) b
  | dic a b => exact .dic (s _ _ a) b
theorem View.int {v : V} {i : Int} (h : View K G H v (.int i)) : v = .int i := by
  cases h with | sc h => cases h; rfl
theorem View.bool {v : V} {b : Bool} (h : View K G H v (.bool b)) : v = .bl b := by
  cases h with | sc h => cases h; rfl
theorem View.str {v : V} {x : Str} (h : View K G H v (.str x)) : v = .str x := by
  cases h with | sc h => cases h; rfl
theorem View.none {v : V} (h : View K G H v .none) : v = .non := by
  cases h with | sc h => cases h; rfl
end

/-- the heap has grown -/
structure Ex (G H G' H' : Hp) : Prop where
  g : Same G G'
  gh : Same G' H'
  h : Same H H'
  nw : ∀ a o, G' a = some o → G a = none → H a = none
theorem Ex.refl {G H : Hp} (s : Same G H) : Ex G H G H := ⟨Same.refl _, s, Same.refl _, fun a o h n => by rw [h] at n; cases n⟩
theorem same_upd {H : Hp} {p : Addr} {o : HO} (free : H p = none) : Same H (upd H p o) := fun b x e => by
  rw [upd_ne (ne_of_none e free)]
  exact e
theorem Ex.push {G H : Hp} (s : Same G H) {p : Addr} (o : HO) (h : H p = none) : Ex G H G (upd H p o) := ⟨Same.refl _, s.trans (same_upd h), same_upd h, fun a o h n => by rw [h] at n; cases n⟩
theorem same_upd2 {G H : Hp} (s : Same G H) {p : Addr} {o : HO} : Same (upd G p o) (upd H p o) := fun b x e => by
  by_cases hb : b = p
  · subst hb
    rw [upd_same] at e ⊢
    exact e
  · rw [upd_ne hb] at e ⊢
    exact s _ _ e
theorem Ex.pushF {G H : Hp} (s : Same G H) {p : Addr} (o : HO) (h : H p = none) : Ex G H (upd G p o) (upd H p o) where
  g := same_upd (s.free h)
  gh := same_upd2 s
  h := same_upd h
  nw := fun a u e n => by
    by_cases hb : a = p
    · rw [hb]; exact h
    · rw [upd_ne hb] at e
      rw [e] at n
      cases n
/-- an object of H is given to G -/
theorem Ex.give {G H : Hp} (s : Same G H) {p : Addr} {o : HO} (h : H p = some o) : Same (upd G p o) H := fun b x e => by
  by_cases hb : b = p
  · subst hb
    rw [upd_same] at e
    rw [h]
    exact e
  · rw [upd_ne hb] at e
    exact s _ _ e

/-- a slot: unset; a tree that stays; a list, a dict of one's own (b: handed in, given back) -/
inductive Sl where
  | un
  | dat (d : D)
  | own (b : Bool) (d : D)
inductive Val where
  | fz (d : D)
  | ow (d : D)
  | sl (i : Nat)
abbrev DS := List Sl
abbrev Me (α : Type) := DS → Option (α × DS)

structure Bs where
  G0 : Hp
  H0 : Hp
  io : List (Nat × Addr)
  lo : Addr → Prop

inductive Root (K : Fg) (G H : Hp) (a : Addr) : D → Prop
  | lst {xs : List V} {ds : List D} : H a = some (.lst xs) → TrAll K G xs ds → Root K G H a (.list ds)
  | dic {kvs : List (Key × V)} {es : List (D × D)} : H a = some (.dK kvs) → TrKV K G kvs es → Root K G H a (.dict es)
theorem Root.mono {K : Fg} {G H G' H' : Hp} (s : Same G G') {a : Addr} (e : ∀ o, H a = some o → H' a = some o) {d : D} (h : Root K G H a d) : Root K G' H' a d := by
  cases h with
  | lst x y => exact .lst (e _ x) (TrAll.mono s y)
  | dic x y => exact .dic (e _ x) (TrKV.mono s y)
theorem Root.ex {K : Fg} {G H : Hp} {a : Addr} {d : D} (h : Root K G H a d) : ∃ o, H a = some o := by
  cases h with
  | lst x y => exact ⟨_, x⟩
  | dic x y => exact ⟨_, x⟩
theorem Root.view {K : Fg} {G H : Hp} {a : Addr} {d : D} (h : Root K G H a d) : View K G H (.ref a) d := by
  cases h with
  | lst x y => exact .lst x y
  | dic x y => exact .dic x y
/-- given to G the root is a tree -/
theorem Root.give {K : Fg} {G H : Hp} {a : Addr} {d : D} (s : Same G H) (n : G a = none) (h : Root K G H a d) : ∃ o, H a = some o ∧ Tr K (upd G a o) (.ref a) d := by
  cases h with
  | lst x y => exact ⟨_, x, .lst upd_same (TrAll.mono (same_upd n) y)⟩
  | dic x y => exact ⟨_, x, .dic upd_same (TrKV.mono (same_upd n) y)⟩

structure RelS (K : Fg) (B : Bs) (G H : Hp) (δ : DS) (σ : L2.St) : Prop where
  len : δ.length = σ.length
  same : Same G H
  g0 : Same B.G0 G
  nw : ∀ a o, G a = some o → B.G0 a = none → (B.H0 a = none ∨ B.lo a)
  frame : ∀ b o, B.H0 b = some o → (∀ p ∈ B.io, p.2 ≠ b) → ¬ B.lo b → H b = some o
  dom : ∀ b o, B.H0 b = some o → ∃ o', H b = some o'
  iod : ∀ p ∈ B.io, ∃ o, B.H0 p.2 = some o
  dat : ∀ (i : Nat) (d : D), δ[i]? = some (.dat d) → ∃ v, σ[i]? = some (some v) ∧ Tr K G v d
  own : ∀ (i : Nat) (b : Bool) (d : D), δ[i]? = some (.own b d) → ∃ a, σ[i]? = some (some (V.ref a)) ∧ G a = none ∧ (if b = true then (i, a) ∈ B.io else (B.H0 a = none ∨ B.lo a)) ∧ Root K G H a d
  inj : ∀ (i j : Nat) (b b' : Bool) (a : Addr) (d d' : D), δ[i]? = some (.own b d) → δ[j]? = some (.own b' d') → σ[i]? = some (some (V.ref a)) → σ[j]? = some (some (V.ref a)) → i = j

section
variable {K : Fg} {B : Bs} {G H G' H' : Hp} {δ δ' : DS} {σ : L2.St}
theorem RelS.none0 (R : RelS K B G H δ σ) {a : Addr} (h : H a = none) : B.H0 a = none := by
  cases e : B.H0 a with
  | none => rfl
  | some o =>
    obtain ⟨o', e'⟩ := R.dom a o e
    rw [h] at e'
    cases e'
theorem RelS.ex (R : RelS K B G H δ σ) (x : Ex G H G' H') : RelS K B G' H' δ σ where
  len := R.len
  same := x.gh
  g0 := R.g0.trans x.g
  nw := fun a o e n => by
    cases q : G a with
    | some u => exact R.nw a u q n
    | none => exact .inl (R.none0 (x.nw a o e q))
  frame := fun b o e n l => x.h _ _ (R.frame b o e n l)
  iod := R.iod
  dom := fun b o e => by
    obtain ⟨o', e'⟩ := R.dom b o e
    exact ⟨o', x.h _ _ e'⟩
  dat := fun i d e => by
    obtain ⟨v, e1, t⟩ := R.dat i d e
    exact ⟨v, e1, Tr.mono x.g t⟩
  own := fun i b d e => by
    obtain ⟨a, e1, n, m, r⟩ := R.own i b d e
    refine ⟨a, e1, ?_, m, Root.mono x.g (fun o q => x.h _ _ q) r⟩
    cases q : G' a with
    | none => rfl
    | some o =>
      obtain ⟨o', e'⟩ := r.ex
      rw [x.nw a o q n] at e'
      cases e'
  inj := R.inj
end

/-- a value's relation -/
def RV (K : Fg) (B : Bs) (G H : Hp) (δ : DS) (σ : L2.St) : V → Val → Prop
  | v, .fz d => Tr K G v d
  | v, .sl i => σ[i]? = some (some v)
  | v, .ow d => ∃ a, v = .ref a ∧ G a = none ∧ (B.H0 a = none ∨ B.lo a) ∧ Root K G H a d ∧ ∀ (i : Nat) (b : Bool) (d' : D), δ[i]? = some (.own b d') → σ[i]? ≠ some (some (V.ref a))

def ownAt (δ : DS) (i : Nat) : Option D := match δ[i]? with
  | some (.own _ d) => some d
  | _ => none
def dv (δ : DS) : Val → Option D
  | .fz d => some d
  | .ow d => some d
  | .sl i => ownAt δ i
def fzv : Val → Val
  | .ow d => .fz d
  | v => v

def tOf (K : Fg) (B : Bs) (f : Me Val) : TE := fun σ H Q => ∃ G δ r δ', RelS K B G H δ σ ∧ f δ = some (r, δ') ∧
  ∀ v G' H', Same G G' → RelS K B G' H' δ' σ → RV K B G' H' δ' σ v r → Q v H'
def ttOf (K : Fg) (B : Bs) (f : Me Bool) : TT := fun σ H Q => ∃ G δ r δ', RelS K B G H δ σ ∧ f δ = some (r, δ') ∧
  ∀ G' H', Same G G' → RelS K B G' H' δ' σ → Q r H'
def RVs (K : Fg) (B : Bs) (G H : Hp) (δ : DS) (σ : L2.St) : List V → List Val → Prop := Paired fun v r => RV K B G H δ σ v (fzv r)
def taOf (K : Fg) (B : Bs) (f : Me (List Val)) : TA := fun σ H Q => ∃ G δ r δ', RelS K B G H δ σ ∧ f δ = some (r, δ') ∧
  ∀ vs G' H', Same G G' → RelS K B G' H' δ' σ → RVs K B G' H' δ' σ vs r → Q vs H'

abbrev DE (X : Cx) (B : Bs) (e : Expr) (f : Me Val) : Prop := PE X e (tOf X.K B f)
abbrev DT (X : Cx) (B : Bs) (e : Expr) (f : Me Bool) : Prop := PT X e (ttOf X.K B f)
abbrev DA (X : Cx) (B : Bs) (es : List Expr) (f : Me (List Val)) : Prop := PA X es (taOf X.K B f)

section
variable {K : Fg} {B : Bs} {G H G' H' : Hp} {δ δ' : DS} {σ : L2.St}
theorem RV.view (R : RelS K B G H δ σ) {v : V} {r : Val} {d : D} (h : RV K B G H δ σ v r) (e : dv δ r = some d) : View K G H v d := by
  cases r with
  | fz c =>
    cases e
    exact .sc h
  | ow c =>
    cases e
    obtain ⟨a, rfl, _, _, r, _⟩ := h
    exact r.view
  | sl i =>
    have e : ownAt δ i = some d := e
    unfold ownAt at e
    cases q : δ[i]? with
    | none => rw [q] at e; cases e
    | some s =>
      rw [q] at e
      cases s with
      | own b c =>
        cases e
        obtain ⟨a, e1, _, _, r⟩ := R.own i b _ q
        have h' : σ[i]? = some (some v) := h
        rw [e1] at h'
        cases h'
        exact r.view
      | un => cases e
      | dat c => cases e
/-- a new root is frozen -/
theorem RV.freeze (R : RelS K B G H δ σ) {v : V} {r : Val} (h : RV K B G H δ σ v r) : ∃ G', Same G G' ∧ RelS K B G' H δ σ ∧ RV K B G' H δ σ v (fzv r) := by
  cases r with
  | fz c => exact ⟨G, Same.refl _, R, h⟩
  | sl i => exact ⟨G, Same.refl _, R, h⟩
  | ow c =>
    obtain ⟨a, rfl, n, n0, r, u⟩ := h
    obtain ⟨o, e, t⟩ := r.give R.same n
    refine ⟨upd G a o, same_upd n, ⟨R.len, Ex.give R.same e, R.g0.trans (same_upd n), fun b p q m => ?_, R.frame, R.dom, R.iod, fun i d q => ?_, fun i b d q => ?_, R.inj⟩, t⟩
    · by_cases hb : b = a
      · rw [hb]; exact n0
      · rw [upd_ne hb] at q
        exact R.nw b p q m
    · obtain ⟨v, e1, t⟩ := R.dat i d q
      exact ⟨v, e1, Tr.mono (same_upd n) t⟩
    · obtain ⟨c, e1, m, k, r'⟩ := R.own i b d q
      have hc : c ≠ a := fun z => u i b d q (z ▸ e1)
      exact ⟨c, e1, by rw [upd_ne hc]; exact m, k, Root.mono (same_upd n) (fun _ z => z) r'⟩
theorem dv_fzv (δ : DS) (r : Val) : dv δ (fzv r) = dv δ r := by cases r <;> rfl
/-- what stays of a value that is no new root -/
theorem RV.stay {r : Val} {v : V} (s : Same G G') (h : RV K B G H δ σ v (fzv r)) : RV K B G' H' δ' σ v (fzv r) := by
  cases r with
  | fz c => exact Tr.mono s h
  | ow c => exact Tr.mono s h
  | sl i => exact h
end
end DL
end
section
set_option maxRecDepth 100000
set_option maxHeartbeats 4000000
namespace DL
open PySem PySem.Spec L2
open PyProof.Rows hiding St

def mr {α : Type} (a : α) : Me α := fun δ => some (a, δ)
def mb {α β : Type} (f : Me α) (g : α → Me β) : Me β := fun δ => match f δ with
  | some (a, δ') => g a δ'
  | none => none
theorem mb_some {α β : Type} {f : Me α} {g : α → Me β} {δ δ' : DS} {b : β} (h : mb f g δ = some (b, δ')) : ∃ a δ1, f δ = some (a, δ1) ∧ g a δ1 = some (b, δ') := by
  unfold mb at h
  cases q : f δ with
  | none => rw [q] at h; cases h
  | some p =>
    obtain ⟨a, δ1⟩ := p
    rw [q] at h
    exact ⟨a, δ1, rfl, h⟩
/-- a value reckoned of others, the frame as it is -/
def mo {α : Type} (f : DS → Option α) : Me α := fun δ => match f δ with
  | some a => some (a, δ)
  | none => none
theorem mo_some {α : Type} {f : DS → Option α} {δ δ' : DS} {b : α} (h : mo f δ = some (b, δ')) : f δ = some b ∧ δ' = δ := by
  unfold mo at h
  cases q : f δ with
  | none => rw [q] at h; cases h
  | some p => rw [q] at h; cases h; exact ⟨rfl, rfl⟩

theorem ite_some {α : Type} {c : Bool} {a r : α} (h : (if c = true then some a else none) = some r) : c = true ∧ a = r := by
  cases c with
  | true => rw [if_pos rfl] at h; exact ⟨rfl, Option.some.inj h⟩
  | false => rw [if_neg Bool.false_ne_true] at h; cases h
theorem PE.weak {X : Cx} {e : Expr} {t t' : TE} (h : PE X e t) (i : ∀ σ H Q, t' σ H Q → t σ H Q) : PE X e t' := ⟨fun pins s σ H Q I w => h.run pins s σ H Q I (i _ _ _ w)⟩
theorem PT.weak {X : Cx} {e : Expr} {t t' : TT} (h : PT X e t) (i : ∀ σ H Q, t' σ H Q → t σ H Q) : PT X e t' := ⟨fun pins s σ H Q I w => h.run pins s σ H Q I (i _ _ _ w)⟩
theorem PW.weak {X : Cx} {e : Expr} {t t' : TT} (h : PW X e t) (i : ∀ σ H Q, t' σ H Q → t σ H Q) : PW X e t' := ⟨fun wh pins s σ H Q I w => h.run wh pins s σ H Q I (i _ _ _ w)⟩
theorem PA.weak {X : Cx} {e : List Expr} {t t' : TA} (h : PA X e t) (i : ∀ σ H Q, t' σ H Q → t σ H Q) : PA X e t' := ⟨fun p pins s σ H Q I w => h.run p pins s σ H Q I (i _ _ _ w)⟩
theorem PS.weak {X : Cx} {e : Stmt} {t t' : TS} (h : PS X e t) (i : ∀ D σ H, t' D σ H → t D σ H) : PS X e t' := ⟨fun pins s σ H D I w => h.run pins s σ H D I (i _ _ _ w)⟩
theorem PSs.weak {X : Cx} {e : List Stmt} {t t' : TS} (h : PSs X e t) (i : ∀ D σ H, t' D σ H → t D σ H) : PSs X e t' := ⟨fun pins s σ H D I w => h.run pins s σ H D I (i _ _ _ w)⟩

section
variable {X : Cx} {B : Bs} {pos : Pos}

/-! ### names, constants -/
def nameM (i : Nat) : Me Val := fun δ => match δ[i]? with
  | some (.dat d) => some (.fz d, δ)
  | some (.own _ _) => some (.sl i, δ)
  | _ => none
theorem de_name (i : Nat) {x : Str} (hN : X.N[i]? = some x := by rfl) (hv : Vis X.env.scope x := by first | exact Or.inl rfl | exact Or.inr (Or.inl rfl) | exact Or.inr (Or.inr rfl)) (hd : (x == ("__debug__" : Str)) = false := by decide)
    (hcd : (x == ("__classdict__" : Str)) = false := by decide) : DE X B (.Name x pos) (nameM i) := by
  refine PE.weak (pe_var hN hv hd hcd) fun σ H Q h => ?_
  obtain ⟨G, δ, r, δ', R, e, k⟩ := h
  unfold nameM at e
  split at e
  · rename_i d q
    cases e
    obtain ⟨v, e1, t⟩ := R.dat i d q
    exact ⟨v, e1, k v G H (Same.refl _) R t⟩
  · rename_i b d q
    cases e
    obtain ⟨a, e1, _⟩ := R.own i b d q
    exact ⟨_, e1, k _ G H (Same.refl _) R e1⟩
  · cases e
def conM (d : D) : Me Val := fun δ => some (.fz d, δ)
theorem de_con {e : Expr} {v : V} {d : D} (h : PE X e (tC v)) (t : ∀ G : Hp, Tr X.K G v d) : DE X B e (conM d) := by
  refine PE.weak h fun σ H Q h => ?_
  obtain ⟨G, δ, r, δ', R, e, k⟩ := h
  cases e
  exact k v G H (Same.refl _) R (t G)
theorem de_int {i j} : DE X B (.Constant (.int i) j pos) (conM (.int i)) := de_con pe_int fun _ => .int i
theorem de_bl {i j} : DE X B (.Constant (.bool i) j pos) (conM (.bool i)) := de_con pe_bl fun _ => .bl i
theorem de_str {i j} : DE X B (.Constant (.str i) j pos) (conM (.str i)) := de_con pe_str fun _ => .str i
theorem de_non {j} : DE X B (.Constant .none j pos) (conM .none) := de_con pe_non fun _ => .non
/-- a module's int, text -/
theorem de_gint {x : Str} {n : Int} {u : Value} (hg : Gl X x) (hm : X.mg x = some u) (r : ∃ t, u = .int n t) (hd : (x == ("__debug__" : Str)) = false := by decide) : DE X B (.Name x pos) (conM (.int n)) := de_con (pe_glob (v := .int n) hg hm r hd) fun _ => .int n
theorem de_gstr {x : Str} {n : Str} {u : Value} (hg : Gl X x) (hm : X.mg x = some u) (r : ∃ t, u = .str n t) (hd : (x == ("__debug__" : Str)) = false := by decide) : DE X B (.Name x pos) (conM (.str n)) := de_con (pe_glob (v := .str n) hg hm r hd) fun _ => .str n

/-! ### operators -/
/-- a result: what a rule hands back -/
def RO (K : Fg) (G' H H' : Hp) (v : V) : Val → Prop
  | .fz d => Tr K G' v d
  | .ow d => ∃ a, v = .ref a ∧ H a = none ∧ G' a = none ∧ Root K G' H' a d
  | .sl _ => False
theorem RO.rv {K : Fg} {G H G' H' : Hp} {δ : DS} {σ : L2.St} (R : RelS K B G H δ σ) {v : V} {r : Val} (h : RO K G' H H' v r) : RV K B G' H' δ σ v r := by
  cases r with
  | fz d => exact h
  | sl i => exact h.elim
  | ow d =>
    obtain ⟨a, rfl, n, n', r⟩ := h
    refine ⟨a, rfl, n', .inl (R.none0 n), r, fun i b d' q z => ?_⟩
    obtain ⟨c, e1, _, _, r'⟩ := R.own i b d' q
    rw [e1] at z
    cases z
    obtain ⟨o, e⟩ := r'.ex
    rw [n] at e
    cases e
/-- flat: no address -/
def flat : D → Bool
  | .none => true
  | .bool _ => true
  | .int _ => true
  | .str _ => true
  | _ => false
theorem Tr.flat {K : Fg} {H H' : Hp} {v : V} {d : D} (h : Tr K H v d) (f : DL.flat d = true) : Tr K H' v d := by
  cases h with
  | non => exact .non
  | bl b => exact .bl b
  | int i => exact .int i
  | str x => exact .str x
  | lst _ _ => cases f
  | tup _ _ => cases f
  | dic _ _ => cases f
  | scr _ => cases f

def OpD (K : Fg) (r : R2) (h : D → D → Option Val) : Prop := ∀ (G H : Hp) (x y : V) (d e : D) (res : Val) (Q : VK), Same G H → View K G H x d → View K G H y e → h d e = some res →
  (∀ v G' H', Ex G H G' H' → RO K G' H H' v res → Q v H') → r x y H Q
def binM (h : D → D → Option Val) (f g : Me Val) : Me Val := mb f fun x => mb g fun y => mo fun δ => (dv δ x).bind fun a => (dv δ y).bind fun b => h a b
theorem tOp_of {K : Fg} {r : R2} {h : D → D → Option Val} {f g : Me Val} (hd : OpD K r h) : ∀ σ H Q, tOf K B (binM h f g) σ H Q → tOp r (tOf K B f) (tOf K B g) σ H Q := by
  intro σ H Q hq
  obtain ⟨G, δ, res, δ', R, e, k⟩ := hq
  obtain ⟨x, δ1, e1, e⟩ := mb_some e
  obtain ⟨y, δ2, e2, e⟩ := mb_some e
  obtain ⟨e3, rfl⟩ := mo_some e
  obtain ⟨a, ea, e3⟩ := Option.bind_eq_some_iff.mp e3
  obtain ⟨b, eb, e3⟩ := Option.bind_eq_some_iff.mp e3
  refine ⟨G, δ, x, δ1, R, e1, fun v G1 H1 s1 R1 v1 => ?_⟩
  obtain ⟨G1', s1', R1', v1'⟩ := v1.freeze R1
  refine ⟨G1', δ1, y, δ', R1', e2, fun w G2 H2 s2 R2 v2 => ?_⟩
  have v1'' := RV.stay (B := B) (G' := G2) (H' := H2) (δ' := δ') s2 v1'
  refine hd G2 H2 v w a b res Q R2.same (v1''.view R2 (by rw [dv_fzv]; exact ea)) (v2.view R2 eb) e3 fun u G' H' x ro => ?_
  exact k u G' H' (((s1.trans s1').trans s2).trans x.g) (R2.ex x) (ro.rv R2)
theorem de_op {a b : Expr} {op : Operator} {r : R2} {h : D → D → Option Val} {f g : Me Val} (ho : OpR X (binaryOp op) r) (hd : OpD X.K r h) (ha : DE X B a f) (hb : DE X B b g) : DE X B (.BinOp a op b pos) (binM h f g) :=
  PE.weak (pe_op ho ha hb) (tOp_of hd)
theorem de_cmp {a b : Expr} {op : CmpOp} {r : R2} {h : D → D → Option Val} {f g : Me Val} (ho : OpR X (compareOp op) r) (hd : OpD X.K r h) (ha : DE X B a f) (hb : DE X B b g) (hm : behindInMarks op b = false := by first | exact nomark _ | rfl) :
    DE X B (.Compare a [op] [b] pos) (binM h f g) := PE.weak (pe_cmpR ho ha hb hm) (tOp_of hd)
/-- a test's bool -/
def boolM (f : Me Val) : Me Bool := fun δ => match f δ with
  | some (.fz (.bool b), δ') => some (b, δ')
  | _ => none
theorem boolM_some {f : Me Val} {δ δ' : DS} {b : Bool} (h : boolM f δ = some (b, δ')) : f δ = some (.fz (.bool b), δ') := by
  unfold boolM at h
  split at h
  · rename_i b' δ1 q
    cases h
    exact q
  · cases h
theorem tTest_of {K : Fg} {f : Me Val} : ∀ σ H Q, ttOf K B (boolM f) σ H Q → tOf K B f σ H fun x H' => ∃ k, x = .bl k ∧ Q k H' := by
  intro σ H Q h
  obtain ⟨G, δ, r, δ', R, e, k⟩ := h
  refine ⟨G, δ, _, δ', R, boolM_some e, fun v G' H' s R' t => ?_⟩
  have t : Tr K G' v (.bool r) := t
  cases t
  exact ⟨r, rfl, k G' H' s R'⟩
theorem dt_cmp {a b : Expr} {op : CmpOp} {r : R2} {h : D → D → Option Val} {f g : Me Val} (ho : OpR X (compareOp op) r) (hd : OpD X.K r h) (ha : DE X B a f) (hb : DE X B b g) (hm : behindInMarks op b = false := by first | exact nomark _ | rfl) :
    DT X B (.Compare a [op] [b] pos) (boolM (binM h f g)) := PT.weak (pt_cmpR ho ha hb hm) fun σ H Q q => tOp_of hd σ H _ (tTest_of σ H Q q)
theorem dt_val {e : Expr} {f : Me Val} (h : DE X B e f) (he : ∀ whole, isTrue e X.env whole = (do let v ← whole; standAt e.pos; holding [v] (truthy v)) := by intro _; rfl) : DT X B e (boolM f) :=
  PT.weak (pt_val h he) fun σ H Q q => tTest_of σ H Q q
/-- unary -/
def UnD (K : Fg) (r : V → Hp → VK → Prop) (h : D → Option Val) : Prop := ∀ (G H : Hp) (x : V) (d : D) (res : Val) (Q : VK), Same G H → View K G H x d → h d = some res →
  (∀ v G' H', Ex G H G' H' → RO K G' H H' v res → Q v H') → r x H Q
def unM (h : D → Option Val) (f : Me Val) : Me Val := mb f fun x => mo fun δ => (dv δ x).bind h
theorem tUn_of {K : Fg} {r : V → Hp → VK → Prop} {h : D → Option Val} {f : Me Val} (hd : UnD K r h) : ∀ σ H Q, tOf K B (unM h f) σ H Q → tUn r (tOf K B f) σ H Q := by
  intro σ H Q hq
  obtain ⟨G, δ, res, δ', R, e, k⟩ := hq
  obtain ⟨x, δ1, e1, e⟩ := mb_some e
  obtain ⟨e3, rfl⟩ := mo_some e
  obtain ⟨a, ea, e3⟩ := Option.bind_eq_some_iff.mp e3
  refine ⟨G, δ, x, _, R, e1, fun v G1 H1 s1 R1 v1 => ?_⟩
  refine hd G1 H1 v a res Q R1.same (v1.view R1 ea) e3 fun u G' H' x ro => ?_
  exact k u G' H' (s1.trans x.g) (R1.ex x) (ro.rv R1)
theorem de_un {a : Expr} {op : UnaryOp} {r : V → Hp → VK → Prop} {h : D → Option Val} {f : Me Val} (ho : UnR X (unaryOp op) r) (hd : UnD X.K r h) (ha : DE X B a f) : DE X B (.UnaryOp op a pos) (unM h f) :=
  PE.weak (pe_un ho ha) (tUn_of hd)

/-! ### the operators by kinds -/
def intB (g : Int → Int → Option D) : D → D → Option Val
  | .int i, .int j => (g i j).map .fz
  | _, _ => none
theorem opd_int {K : Fg} {C : Int → Int → Prop} {g : Int → Int → V} {h : Int → Int → Option D} (hh : ∀ i j d, h i j = some d → C i j ∧ ∀ G, Tr K G (g i j) d) : OpD K (rI C g) (intB h) := by
  intro G H x y d e res Q s vx vy hr k
  cases d with
  | int i =>
    cases e with
    | int j =>
      obtain ⟨z, hz, rfl⟩ := Option.map_eq_some_iff.mp hr
      obtain ⟨c, t⟩ := hh i j z hz
      exact ⟨i, j, vx.int, vy.int, c, k _ G H (Ex.refl s) (t G)⟩
    | _ => cases hr
  | _ => cases hr
theorem opd_int0 {K : Fg} {g : Int → Int → V} {h : Int → Int → Option D} (hh : ∀ i j d, h i j = some d → ∀ G, Tr K G (g i j) d) : OpD K (rI0 g) (intB h) := by
  intro G H x y d e res Q s vx vy hr k
  cases d with
  | int i =>
    cases e with
    | int j =>
      obtain ⟨z, hz, rfl⟩ := Option.map_eq_some_iff.mp hr
      exact ⟨i, j, vx.int, vy.int, k _ G H (Ex.refl s) (hh i j z hz G)⟩
    | _ => cases hr
  | _ => cases hr
def addI : D → D → Option Val := intB fun i j => some (.int (i + j))
def subI : D → D → Option Val := intB fun i j => some (.int (i - j))
/-- both together below a million bits -/
def mulOk (i j : Int) : Bool := decide (i.natAbs.log2 + j.natAbs.log2 < 1000000)
def mulI : D → D → Option Val := intB fun i j => if mulOk i j then some (.int (i * j)) else none
def divOk (j : Int) : Bool := decide (0 < j) && decide (j.natAbs.log2 < 9000)
def fdivI : D → D → Option Val := intB fun i j => if divOk j then some (.int (i / j)) else none
def modI : D → D → Option Val := intB fun i j => if decide (0 < j) then some (.int (i % j)) else none
def ltI : D → D → Option Val := intB fun i j => some (.bool (decide (i < j)))
def leI : D → D → Option Val := intB fun i j => some (.bool (decide (i ≤ j)))
def gtI : D → D → Option Val := intB fun i j => some (.bool (decide (j < i)))
def geI : D → D → Option Val := intB fun i j => some (.bool (decide (j ≤ i)))
theorem od_add {K : Fg} : OpD K (rI0 fun i j => .int (i + j)) addI := opd_int0 fun i j d h G => by cases h; exact .int _
theorem od_sub {K : Fg} : OpD K (rI0 fun i j => .int (i - j)) subI := opd_int0 fun i j d h G => by cases h; exact .int _
theorem od_mul {K : Fg} : OpD K (rI CMulW fun i j => .int (i * j)) mulI := opd_int fun i j d h => by
  split at h
  · rename_i c
    cases h
    have c2 : i.natAbs.log2 + j.natAbs.log2 < 1000000 := of_decide_eq_true c
    exact ⟨c2, fun _ => .int _⟩
  · cases h
theorem od_fdiv {K : Fg} : OpD K (rI CDivW fun i j => .int (i / j)) fdivI := opd_int fun i j d h => by
  split at h
  · rename_i c
    cases h
    unfold divOk at c
    rw [Bool.and_eq_true] at c
    exact ⟨⟨of_decide_eq_true c.1, of_decide_eq_true c.2⟩, fun _ => .int _⟩
  · cases h
theorem od_mod {K : Fg} : OpD K (rI (fun _ j => 0 < j) fun i j => .int (i % j)) modI := opd_int fun i j d h => by
  split at h
  · rename_i c
    cases h
    exact ⟨of_decide_eq_true c, fun _ => .int _⟩
  · cases h
theorem od_lt {K : Fg} : OpD K (rI0 fun i j => .bl (decide (i < j))) ltI := opd_int0 fun i j d h G => by cases h; exact .bl _
theorem od_le {K : Fg} : OpD K (rI0 fun i j => .bl (decide (i ≤ j))) leI := opd_int0 fun i j d h G => by cases h; exact .bl _
theorem od_gt {K : Fg} : OpD K (rI0 fun i j => .bl (decide (j < i))) gtI := opd_int0 fun i j d h G => by cases h; exact .bl _
theorem od_ge {K : Fg} : OpD K (rI0 fun i j => .bl (decide (j ≤ i))) geI := opd_int0 fun i j d h G => by cases h; exact .bl _
def negI : D → Option Val
  | .int i => some (.fz (.int (-i)))
  | _ => none
theorem ud_neg {K : Fg} : UnD K (rU fun i => .int (-i)) negI := by
  intro G H x d res Q s vx hr k
  cases d with
  | int i =>
    cases hr
    exact ⟨i, vx.int, k _ G H (Ex.refl s) (.int _)⟩
  | _ => cases hr
def szOk (n : Nat) : Bool := decide (n ≤ 16777216)
theorem szOk_le {n : Nat} (h : szOk n = true) : n ≤ sizeLine := by
  rw [sizeLine_eq]
  exact of_decide_eq_true h
end

/-! ### either of two rules -/
def orD (h h' : D → D → Option Val) : D → D → Option Val := fun a b => match h a b with
  | some r => some r
  | none => h' a b
theorem OpD.or {K : Fg} {r r' : R2} {h h' : D → D → Option Val} (a : OpD K r h) (b : OpD K r' h') : OpD K (fun x y H Q => r x y H Q ∨ r' x y H Q) (orD h h') := by
  intro G H x y d e res Q s vx vy hr k
  unfold orD at hr
  split at hr
  · rename_i z q
    cases hr
    exact .inl (a G H x y d e _ Q s vx vy q k)
  · exact .inr (b G H x y d e _ Q s vx vy hr k)
theorem OpD.eq {K : Fg} {r : R2} {h h' : D → D → Option Val} (a : OpD K r h) (e : ∀ x y z, h' x y = some z → h x y = some z) : OpD K r h' :=
  fun G H x y d e' res Q s vx vy hr k => a G H x y d e' res Q s vx vy (e _ _ _ hr) k
/-- a new list, a new tuple of trees -/
theorem RO.newL {K : Fg} {G H : Hp} (s : Same G H) {xs : List V} {ds : List D} (t : TrAll K G xs ds) {p : Addr} (n : H p = none) : RO K G H (upd H p (.lst xs)) (.ref p) (.ow (.list ds)) := ⟨p, rfl, n, s.free n, .lst upd_same t⟩
theorem RO.newT {K : Fg} {G H : Hp} (s : Same G H) {xs : List V} {ds : List D} (t : TrAll K G xs ds) {p : Addr} (n : H p = none) : RO K (upd G p (.tup xs)) H (upd H p (.tup xs)) (.ref p) (.fz (.tuple ds)) :=
  Tr.tup (.inl (.inl upd_same)) (TrAll.mono (same_upd (s.free n)) t)

def addD : D → D → Option Val
  | .int i, .int j => some (.fz (.int (i + j)))
  | .list a, .list b => if szOk (a.length + b.length) then some (.ow (.list (a ++ b))) else none
  | .tuple a, .tuple b => if szOk (a.length + b.length) then some (.fz (.tuple (a ++ b))) else none
  | .str a, .str b => if szOk (a.length + b.length) then some (.fz (.str (a ++ b))) else none
  | _, _ => none
def rAdd (K : Fg) : R2 := fun x y H Q => rI0 (fun i j => .int (i + j)) x y H Q ∨ rCat x y H Q ∨ rCatA K x y H Q ∨ (∃ i j, x = .str i ∧ y = .str j ∧ i.length + j.length ≤ sizeLine ∧ Q (.str (i ++ j)) H)
theorem op_addA {X : Cx} : OpR X (binaryOp .Add) (rAdd X.K) := op_add.or (op_cat.or (op_catA.or op_add_str))
theorem od_addA {K : Fg} : OpD K (rAdd K) addD := by
  intro G H x y d e res Q s vx vy hr k
  cases d with
  | int i =>
    cases e with
    | int j => cases hr; exact .inl ⟨i, j, vx.int, vy.int, k _ G H (Ex.refl s) (.int _)⟩
    | _ => cases hr
  | list a =>
    cases e with
    | list b =>
      obtain ⟨c, hr⟩ := ite_some hr
      subst hr
      obtain ⟨p, xs, rfl, hx, tx⟩ := vx.list s
      obtain ⟨q, ys, rfl, hy, ty⟩ := vy.list s
      refine .inr (.inl ⟨p, q, xs, ys, rfl, rfl, hx, hy, by rw [tx.len, ty.len]; exact szOk_le c, fun z n => ?_⟩)
      exact k _ G _ (Ex.push s _ n) (RO.newL s (tx.append ty) n)
    | _ => cases hr
  | tuple a =>
    cases e with
    | tuple b =>
      obtain ⟨c, hr⟩ := ite_some hr
      subst hr
      obtain ⟨p, xs, ep, hx, tx⟩ := vx.tuple s
      obtain ⟨q, ys, eq, hy, ty⟩ := vy.tuple s
      have fx : Tr K G x (.tuple a) := by cases vx with | sc h => exact h
      have fy : Tr K G y (.tuple b) := by cases vy with | sc h => exact h
      subst ep eq
      refine .inr (.inr (.inl ⟨p, q, xs, ys, rfl, rfl, hx, hy, by rw [tx.len, ty.len]; exact szOk_le c, fun z => ?_, fun _ z => ?_, fun _ _ z n => ?_⟩))
      · subst z
        cases tx
        exact k _ G H (Ex.refl s) fy
      · subst z
        cases ty
        rw [List.append_nil] at k
        exact k _ G H (Ex.refl s) fx
      · exact k _ _ _ (Ex.pushF s _ n) (RO.newT s (tx.append ty) n)
    | _ => cases hr
  | str a =>
    cases e with
    | str b =>
      obtain ⟨c, hr⟩ := ite_some hr
      subst hr
      exact .inr (.inr (.inr ⟨a, b, vx.str, vy.str, szOk_le c, k _ G H (Ex.refl s) (.str _)⟩))
    | _ => cases hr
  | _ => cases hr
def ixOk (k : Int) : Bool := decide (-(2 ^ 63) ≤ k) && decide (k < 2 ^ 63)
theorem ixOk_le {k : Int} (h : ixOk k = true) : -(2 ^ 63) ≤ k ∧ k < 2 ^ 63 := by
  unfold ixOk at h
  rw [Bool.and_eq_true] at h
  exact ⟨of_decide_eq_true h.1, of_decide_eq_true h.2⟩
def mulD : D → D → Option Val
  | .int i, .int j => if mulOk i j then some (.fz (.int (i * j))) else none
  | .list a, .int k => if ixOk k && szOk (a.length * k.toNat) then some (.ow (.list (List.replicate k.toNat a).flatten)) else none
  | _, _ => none
def rMulA : R2 := fun x y H Q => rI CMulW (fun i j => .int (i * j)) x y H Q ∨ rRep x y H Q
theorem op_mulA {X : Cx} : OpR X (binaryOp .Mult) rMulA := op_mulW.or op_rep
theorem od_mulA {K : Fg} : OpD K rMulA mulD := by
  intro G H x y d e res Q s vx vy hr k
  cases d with
  | int i =>
    cases e with
    | int j =>
      obtain ⟨c, hr⟩ := ite_some hr
      subst hr
      have c2 : i.natAbs.log2 + j.natAbs.log2 < 1000000 := of_decide_eq_true c
      exact .inl ⟨i, j, vx.int, vy.int, c2, k _ G H (Ex.refl s) (.int _)⟩
    | _ => cases hr
  | list a =>
    cases e with
    | int j =>
      obtain ⟨c, hr⟩ := ite_some hr
      subst hr
      rw [Bool.and_eq_true] at c
      obtain ⟨p, xs, rfl, hx, tx⟩ := vx.list s
      have b := ixOk_le c.1
      refine .inr ⟨p, j, xs, rfl, vy.int, hx, b.1, b.2, by rw [tx.len]; exact szOk_le c.2, fun z n => ?_⟩
      exact k _ G _ (Ex.push s _ n) (RO.newL s (tx.replicate _) n)
    | _ => cases hr
  | _ => cases hr
/-- // and % of any signs -/
def CDivZ (_ j : Int) : Prop := j ≠ 0 ∧ j.natAbs.log2 < 9000
theorem op_fdivZ {X : Cx} : OpR X (binaryOp .FloorDiv) (rI CDivZ fun i j => .int (i.fdiv j)) := opI fun i j _ _ _ _ _ hc q => floordiv_int hc.1 q (.inl (PyProof.noPylong_of_log2 hc.2))
def fdivD : D → D → Option Val := intB fun i j => if decide (j ≠ 0) && decide (j.natAbs.log2 < 9000) then some (.int (i.fdiv j)) else none
theorem od_fdivZ {K : Fg} : OpD K (rI CDivZ fun i j => .int (i.fdiv j)) fdivD := opd_int fun i j d h => by
  obtain ⟨c, rfl⟩ := ite_some h
  rw [Bool.and_eq_true] at c
  exact ⟨⟨of_decide_eq_true c.1, of_decide_eq_true c.2⟩, fun _ => .int _⟩
def modD : D → D → Option Val := intB fun i j => if decide (j ≠ 0) then some (.int (i.fmod j)) else none
theorem od_modN {K : Fg} : OpD K (rI (fun _ j => j ≠ 0) fun i j => .int (i.fmod j)) modD := opd_int fun i j d h => by
  obtain ⟨c, rfl⟩ := ite_some h
  exact ⟨of_decide_eq_true c, fun _ => .int _⟩
def powD : D → D → Option Val := intB fun i j => if decide (0 ≤ j) && decide (j ≤ 1000000) && decide (i.natAbs < 2 ^ 64) then some (.int (i ^ j.toNat)) else none
theorem od_pow {K : Fg} : OpD K (rI CPow fun i j => .int (i ^ j.toNat)) powD := opd_int fun i j d h => by
  obtain ⟨c, rfl⟩ := ite_some h
  rw [Bool.and_eq_true, Bool.and_eq_true] at c
  exact ⟨⟨of_decide_eq_true c.1.1, of_decide_eq_true c.1.2, of_decide_eq_true c.2⟩, fun _ => .int _⟩

/-! ### == and != -/
mutual
theorem Tr.dp {K : Fg} {H : Hp} : ∀ {v : V} {d : D}, Tr K H v d → d.canLay0 = true → Dp K H v d
  | _, _, .non, _ => .non
  | _, _, .bl b, _ => .bl b
  | _, _, .int i, _ => .int i
  | _, _, .str x, _ => .str x
  | _, _, .lst a b, h => .lst (.inl (.inl a)) (TrAll.dp b (by simpa [PyData.canLay0] using h))
  | _, _, .tup a b, h => .tup a (TrAll.dp b (by simpa [PyData.canLay0] using h))
  | _, _, .dic _ _, h => by simp [PyData.canLay0] at h
  | _, _, .scr _, h => by simp [PyData.canLay0] at h
theorem TrAll.dp {K : Fg} {H : Hp} : ∀ {v : List V} {d : List D}, TrAll K H v d → PyData.canLayAll0 d = true → DpAll K H v d
  | _, _, .nil, _ => .nil
  | _, _, .cons (d := d) (ds := ds) a b, h => by
    have h' : d.canLay0 = true ∧ PyData.canLayAll0 ds = true := by simpa [PyData.canLayAll0] using h
    exact .cons (Tr.dp a h'.1) (TrAll.dp b h'.2)
end
def eqD : D → D → Option Val := fun d e => if SeqAt.shaped d && SeqAt.shaped e then some (.fz (.bool (PyData.eqv d e))) else none
def neD : D → D → Option Val := fun d e => if SeqAt.shaped d && SeqAt.shaped e then some (.fz (.bool (!PyData.eqv d e))) else none
theorem od_eq {K : Fg} : OpD K (rEqD K) eqD := by
  intro G H x y d e res Q s vx vy hr k
  obtain ⟨c, rfl⟩ := ite_some hr
  rw [Bool.and_eq_true] at c
  exact ⟨d, e, Tr.dp (vx.tr s) (SeqAt.canLay_of_shaped c.1), Tr.dp (vy.tr s) (SeqAt.canLay_of_shaped c.2), c.1, c.2, k _ G H (Ex.refl s) (.bl _)⟩
theorem od_ne {K : Fg} : OpD K (rNeD K) neD := by
  intro G H x y d e res Q s vx vy hr k
  obtain ⟨c, rfl⟩ := ite_some hr
  rw [Bool.and_eq_true] at c
  exact ⟨d, e, Tr.dp (vx.tr s) (SeqAt.canLay_of_shaped c.1), Tr.dp (vy.tr s) (SeqAt.canLay_of_shaped c.2), c.1, c.2, k _ G H (Ex.refl s) (.bl _)⟩
def isNone : D → Bool
  | .none => true
  | _ => false
theorem View.isNone {K : Fg} {G H : Hp} {v : V} {d : D} (h : View K G H v d) : decide (v = .non) = DL.isNone d := by
  cases h with
  | sc h => cases h <;> rfl
  | lst _ _ => rfl
  | dic _ _ => rfl
def isD : D → D → Option Val
  | d, .none => some (.fz (.bool (isNone d)))
  | _, _ => none
def isnotD : D → D → Option Val
  | d, .none => some (.fz (.bool (!isNone d)))
  | _, _ => none
theorem od_is {K : Fg} : OpD K (fun x y H Q => y = .non ∧ Q (.bl (decide (x = .non))) H) isD := by
  intro G H x y d e res Q s vx vy hr k
  cases e with
  | none => cases hr; exact ⟨vy.none, k _ G H (Ex.refl s) (by rw [vx.isNone]; exact .bl _)⟩
  | _ => cases hr
theorem od_isnot {K : Fg} : OpD K (fun x y H Q => y = .non ∧ Q (.bl (!decide (x = .non))) H) isnotD := by
  intro G H x y d e res Q s vx vy hr k
  cases e with
  | none => cases hr; exact ⟨vy.none, k _ G H (Ex.refl s) (by rw [vx.isNone]; exact .bl _)⟩
  | _ => cases hr
end DL
end
section
set_option maxRecDepth 100000
set_option maxHeartbeats 4000000
namespace DL
open PySem PySem.Spec L2
open PyProof.Rows hiding St

section
variable {X : Cx} {B : Bs} {pos : Pos}

/-! ### if, and, or, not -/
def ifM {α : Type} (c : Me Bool) (f g : Me α) : Me α := mb c fun b => if b = true then f else g
theorem de_if {c a b : Expr} {fc : Me Bool} {f g : Me Val} (hc : DT X B c fc) (ha : DE X B a f) (hb : DE X B b g) : DE X B (.IfExp c a b pos) (ifM fc f g) := by
  refine PE.weak (pe_ifExp hc ha hb) fun σ H Q h => ?_
  obtain ⟨G, δ, r, δ', R, e, k⟩ := h
  obtain ⟨x, δ1, e1, e⟩ := mb_some e
  refine ⟨G, δ, x, δ1, R, e1, fun G1 H1 s1 R1 => ?_⟩
  cases x with
  | true => exact ⟨G1, δ1, r, δ', R1, e, fun v G' H' s R' q => k v G' H' (s1.trans s) R' q⟩
  | false => exact ⟨G1, δ1, r, δ', R1, e, fun v G' H' s R' q => k v G' H' (s1.trans s) R' q⟩
def andM (f g : Me Bool) : Me Bool := mb f fun b => if b = true then g else mr false
def orM (f g : Me Bool) : Me Bool := mb f fun b => if b = true then mr true else g
def notM (f : Me Bool) : Me Bool := mb f fun b => mr (!b)
abbrev DW (X : Cx) (B : Bs) (e : Expr) (f : Me Bool) : Prop := PW X e (ttOf X.K B f)
theorem dw_pt {e : Expr} {f : Me Bool} (h : DW X B e f) : DT X B e f := PW.pt h
theorem dw_and1 {a : Expr} {f : Me Bool} (ha : DT X B a f) : DW X B (.BoolOp .And [a] pos) f := pw_and1 ha
theorem dw_or1 {a : Expr} {f : Me Bool} (ha : DT X B a f) : DW X B (.BoolOp .Or [a] pos) f := pw_or1 ha
theorem dw_and {a b : Expr} {rest : List Expr} {f g : Me Bool} (ha : DT X B a f) (hb : DW X B (.BoolOp .And (b :: rest) pos) g) : DW X B (.BoolOp .And (a :: b :: rest) pos) (andM f g) := by
  refine PW.weak (pw_and ha hb) fun σ H Q h => ?_
  obtain ⟨G, δ, r, δ', R, e, k⟩ := h
  obtain ⟨x, δ1, e1, e⟩ := mb_some e
  refine ⟨G, δ, x, δ1, R, e1, fun G1 H1 s1 R1 => ?_⟩
  cases x with
  | true => exact ⟨G1, δ1, r, δ', R1, e, fun G' H' s R' => k G' H' (s1.trans s) R'⟩
  | false =>
    cases e
    exact k G1 H1 s1 R1
theorem dw_or {a b : Expr} {rest : List Expr} {f g : Me Bool} (ha : DT X B a f) (hb : DW X B (.BoolOp .Or (b :: rest) pos) g) : DW X B (.BoolOp .Or (a :: b :: rest) pos) (orM f g) := by
  refine PW.weak (pw_or ha hb) fun σ H Q h => ?_
  obtain ⟨G, δ, r, δ', R, e, k⟩ := h
  obtain ⟨x, δ1, e1, e⟩ := mb_some e
  refine ⟨G, δ, x, δ1, R, e1, fun G1 H1 s1 R1 => ?_⟩
  cases x with
  | false => exact ⟨G1, δ1, r, δ', R1, e, fun G' H' s R' => k G' H' (s1.trans s) R'⟩
  | true =>
    cases e
    exact k G1 H1 s1 R1
theorem dt_not {a : Expr} {f : Me Bool} (ha : DT X B a f) : DT X B (.UnaryOp .Not a pos) (notM f) := by
  refine PT.weak (pt_not ha) fun σ H Q h => ?_
  obtain ⟨G, δ, r, δ', R, e, k⟩ := h
  obtain ⟨x, δ1, e1, e⟩ := mb_some e
  cases e
  exact ⟨G, δ, x, _, R, e1, fun G1 H1 s1 R1 => k G1 H1 s1 R1⟩
/-- a bool as a value -/
def valM (f : Me Bool) : Me Val := mb f fun b => mr (.fz (.bool b))
theorem valM_bool {f : Me Val} : ∀ {δ δ' : DS} {b : Bool}, f δ = some (.fz (.bool b), δ') → boolM f δ = some (b, δ') := fun h => by
  unfold boolM
  rw [h]
theorem tOf_bool {K : Fg} {f : Me Val} {σ : L2.St} {H : Hp} {Q : Bool → Hp → Prop} (h : ttOf K B (boolM f) σ H Q) : tOf K B f σ H fun x H' => ∃ k, x = .bl k ∧ Q k H' := tTest_of σ H Q h
/-- and, or, not as values -/
def andV (f g : Me Val) : Me Val := mb (boolM f) fun b => if b = true then g else mr (.fz (.bool false))
def orV (f g : Me Val) : Me Val := mb (boolM f) fun b => if b = true then mr (.fz (.bool true)) else g
def notV (f : Me Val) : Me Val := mb (boolM f) fun b => mr (.fz (.bool (!b)))
theorem de_one {op : BoolOp} {a : Expr} {f : Me Val} (h : DE X B a f) : DE X B (.BoolOp op [a] pos) f := pe_one h
theorem boolM_of {K : Fg} {f : Me Val} {σ : L2.St} {H : Hp} {δ δ1 : DS} {b : Bool} {G : Hp} {Q : VK} (R : RelS K B G H δ σ) (e1 : boolM f δ = some (b, δ1)) (k : ∀ G' H', Same G G' → RelS K B G' H' δ1 σ → Q (.bl b) H') : tOf K B f σ H Q := by
  refine ⟨G, δ, _, δ1, R, boolM_some e1, fun v G' H' s R' t => ?_⟩
  have t : Tr K G' v (.bool b) := t
  cases t
  exact k G' H' s R'
theorem de_and {a b : Expr} {rest : List Expr} {f g : Me Val} (ha : DE X B a f) (hb : DE X B (.BoolOp .And (b :: rest) pos) g) : DE X B (.BoolOp .And (a :: b :: rest) pos) (andV f g) := by
  refine PE.weak (pe_and ha hb) fun σ H Q h => ?_
  obtain ⟨G, δ, r, δ', R, e, k⟩ := h
  obtain ⟨x, δ1, e1, e⟩ := mb_some e
  refine boolM_of R e1 fun G1 H1 s1 R1 => ⟨x, rfl, ?_⟩
  cases x with
  | true => exact ⟨G1, δ1, r, δ', R1, e, fun v G' H' s R' q => k v G' H' (s1.trans s) R' q⟩
  | false =>
    cases e
    exact k _ G1 H1 s1 R1 (.bl false)
theorem de_or {a b : Expr} {rest : List Expr} {f g : Me Val} (ha : DE X B a f) (hb : DE X B (.BoolOp .Or (b :: rest) pos) g) : DE X B (.BoolOp .Or (a :: b :: rest) pos) (orV f g) := by
  refine PE.weak (pe_or ha hb) fun σ H Q h => ?_
  obtain ⟨G, δ, r, δ', R, e, k⟩ := h
  obtain ⟨x, δ1, e1, e⟩ := mb_some e
  refine boolM_of R e1 fun G1 H1 s1 R1 => ⟨x, rfl, ?_⟩
  cases x with
  | false => exact ⟨G1, δ1, r, δ', R1, e, fun v G' H' s R' q => k v G' H' (s1.trans s) R' q⟩
  | true =>
    cases e
    exact k _ G1 H1 s1 R1 (.bl true)
theorem de_not {a : Expr} {f : Me Val} (ha : DE X B a f) : DE X B (.UnaryOp .Not a pos) (notV f) := by
  refine PE.weak (pe_not ha) fun σ H Q h => ?_
  obtain ⟨G, δ, r, δ', R, e, k⟩ := h
  obtain ⟨x, δ1, e1, e⟩ := mb_some e
  cases e
  exact boolM_of R e1 fun G1 H1 s1 R1 => ⟨x, rfl, k _ G1 H1 s1 R1 (.bl _)⟩
/-- a < b < c -/
def chainM (h h' : D → D → Option Val) (f g m : Me Val) : Me Val := mb f fun x => mb g fun y => mb (boolM (mo fun δ => (dv δ x).bind fun a => (dv δ y).bind fun b => h a b)) fun c =>
  if c = true then mb m fun z => mo fun δ => (dv δ y).bind fun a => (dv δ z).bind fun b => h' a b else mr (.fz (.bool false))
theorem tChain_of {K : Fg} {r r' : R2} {h h' : D → D → Option Val} {f g m : Me Val} (hd : OpD K r h) (hd' : OpD K r' h') : ∀ σ H Q, tOf K B (chainM h h' f g m) σ H Q → tChain r r' (tOf K B f) (tOf K B g) (tOf K B m) σ H Q := by
  intro σ H Q hq
  obtain ⟨G, δ, res, δ', R, e, k⟩ := hq
  obtain ⟨x, δ1, e1, e⟩ := mb_some e
  obtain ⟨y, δ2, e2, e⟩ := mb_some e
  obtain ⟨c, δ3, e3, e⟩ := mb_some e
  obtain ⟨e3, rfl⟩ := mo_some (boolM_some e3)
  obtain ⟨a, ea, e3⟩ := Option.bind_eq_some_iff.mp e3
  obtain ⟨b, eb, e3⟩ := Option.bind_eq_some_iff.mp e3
  refine ⟨G, δ, x, δ1, R, e1, fun v G1 H1 s1 R1 v1 => ?_⟩
  obtain ⟨G1', s1', R1', v1'⟩ := v1.freeze R1
  refine ⟨G1', δ1, y, _, R1', e2, fun w G2 H2 s2 R2 v2 => ?_⟩
  obtain ⟨G2', s2', R2', v2'⟩ := v2.freeze R2
  have v1'' := RV.stay (B := B) (G' := G2') (H' := H2) (δ' := δ3) (s2.trans s2') v1'
  refine hd G2' H2 v w a b _ _ R2'.same (v1''.view R2' (by rw [dv_fzv]; exact ea)) (v2'.view R2' (by rw [dv_fzv]; exact eb)) e3 fun u G3 H3 x3 ro => ?_
  have ro : Tr K G3 u (.bool c) := ro
  cases ro
  refine ⟨c, rfl, ?_⟩
  have R3 := R2'.ex x3
  cases c with
  | false =>
    cases e
    exact k _ G3 H3 ((((s1.trans s1').trans s2).trans s2').trans x3.g) R3 (.bl false)
  | true =>
    obtain ⟨z, δ4, e4, e⟩ := mb_some e
    obtain ⟨e5, rfl⟩ := mo_some e
    obtain ⟨a', ea', e5⟩ := Option.bind_eq_some_iff.mp e5
    obtain ⟨b', eb', e5⟩ := Option.bind_eq_some_iff.mp e5
    refine ⟨G3, δ3, z, _, R3, e4, fun w4 G4 H4 s4 R4 v4 => ?_⟩
    have v2'' := RV.stay (B := B) (G' := G4) (H' := H4) (δ' := δ') (x3.g.trans s4) v2'
    refine hd' G4 H4 w w4 a' b' _ _ R4.same (v2''.view R4 (by rw [dv_fzv]; exact ea')) (v4.view R4 eb') e5 fun u5 G5 H5 x5 ro5 => ?_
    exact k u5 G5 H5 ((((((s1.trans s1').trans s2).trans s2').trans x3.g).trans s4).trans x5.g) (R4.ex x5) (ro5.rv R4)
theorem de_chain {a b c : Expr} {op op' : CmpOp} {r r' : R2} {h h' : D → D → Option Val} {f g m : Me Val} (ho : OpR X (compareOp op) r) (hd : OpD X.K r h) (ho' : OpR X (compareOp op') r') (hd' : OpD X.K r' h') (ha : DE X B a f) (hb : DE X B b g) (hc : DE X B c m)
    (hm : lastMarks [op, op'] [b, c] = false := by with_unfolding_all rfl) : DE X B (.Compare a [op, op'] [b, c] pos) (chainM h h' f g m) := PE.weak (pe_chain ho ho' ha hb hc hm) (tChain_of hd hd')
theorem dt_chain {a b c : Expr} {op op' : CmpOp} {r r' : R2} {h h' : D → D → Option Val} {f g m : Me Val} (ho : OpR X (compareOp op) r) (hd : OpD X.K r h) (ho' : OpR X (compareOp op') r') (hd' : OpD X.K r' h') (ha : DE X B a f) (hb : DE X B b g) (hc : DE X B c m)
    (hm : lastMarks [op, op'] [b, c] = false := by with_unfolding_all rfl) : DT X B (.Compare a [op, op'] [b, c] pos) (boolM (chainM h h' f g m)) := PT.weak (pt_chain ho ho' ha hb hc hm) fun σ H Q q => tChain_of hd hd' σ H _ (tTest_of σ H Q q)

/-! ### argument lists -/
theorem RVs.stay {K : Fg} {G G' H H' : Hp} {δ δ' : DS} {σ : L2.St} (s : Same G G') : ∀ {vs : List V} {rs : List Val}, RVs K B G H δ σ vs rs → RVs K B G' H' δ' σ vs rs
  | _, _, .nil => .nil
  | _, _, .cons a b => .cons (RV.stay s a) (RVs.stay s b)
def nilA : Me (List Val) := mr []
def consA (f : Me Val) (g : Me (List Val)) : Me (List Val) := mb f fun x => mb g fun xs => mr (x :: xs)
theorem da_nil : DA X B [] nilA := by
  refine PA.weak pa_nil fun σ H Q h => ?_
  obtain ⟨G, δ, r, δ', R, e, k⟩ := h
  cases e
  exact k [] G H (Same.refl _) R .nil
theorem da_cons {e : Expr} {es : List Expr} {f : Me Val} {g : Me (List Val)} (ha : DE X B e f) (hr : DA X B es g) (hs : starEach (e :: es) X.env = (false, eval e X.env) :: starEach es X.env := by rfl) : DA X B (e :: es) (consA f g) := by
  refine PA.weak (pa_cons ha hr hs) fun σ H Q h => ?_
  obtain ⟨G, δ, r, δ', R, e, k⟩ := h
  obtain ⟨x, δ1, e1, e⟩ := mb_some e
  obtain ⟨xs, δ2, e2, e⟩ := mb_some e
  cases e
  refine ⟨G, δ, x, δ1, R, e1, fun v G1 H1 s1 R1 v1 => ?_⟩
  obtain ⟨G1', s1', R1', v1'⟩ := v1.freeze R1
  refine ⟨G1', δ1, xs, _, R1', e2, fun vs G2 H2 s2 R2 v2 => ?_⟩
  exact k (v :: vs) G2 H2 ((s1.trans s1').trans s2) R2 (.cons (RV.stay s2 v1') v2)
def dvs (δ : DS) : List Val → Option (List D)
  | [] => some []
  | r :: rs => (dv δ r).bind fun d => (dvs δ rs).bind fun ds => some (d :: ds)
theorem RVs.view {K : Fg} {G H : Hp} {δ : DS} {σ : L2.St} (R : RelS K B G H δ σ) : ∀ {vs : List V} {rs : List Val} {ds : List D}, RVs K B G H δ σ vs rs → dvs δ rs = some ds → Paired (View K G H) vs ds
  | _, _, _, .nil, h => by cases h; exact .nil
  | _, _, _, .cons a b, h => by
    obtain ⟨d, h1, h⟩ := Option.bind_eq_some_iff.mp h
    obtain ⟨es, h2, h⟩ := Option.bind_eq_some_iff.mp h
    cases h
    exact .cons (a.view R (by rw [dv_fzv]; exact h1)) (RVs.view R b h2)
/-- all trees -/
def fzs : List Val → Option (List D)
  | [] => some []
  | .sl _ :: _ => none
  | .fz d :: rs => (fzs rs).bind fun ds => some (d :: ds)
  | .ow d :: rs => (fzs rs).bind fun ds => some (d :: ds)
theorem RVs.trees {K : Fg} {G H : Hp} {δ : DS} {σ : L2.St} : ∀ {vs : List V} {rs : List Val} {ds : List D}, RVs K B G H δ σ vs rs → fzs rs = some ds → TrAll K G vs ds
  | _, _, _, .nil, h => by cases h; exact .nil
  | _, _, _, .cons (b := r) a b, h => by
    cases r with
    | sl i => cases h
    | fz d =>
      obtain ⟨es, h2, h⟩ := Option.bind_eq_some_iff.mp h
      cases h
      exact .cons a (RVs.trees b h2)
    | ow d =>
      obtain ⟨es, h2, h⟩ := Option.bind_eq_some_iff.mp h
      cases h
      exact .cons a (RVs.trees b h2)
/-! ### displays -/
def lstM (fa : Me (List Val)) : Me Val := mb fa fun xs => mo fun _ => (fzs xs).bind fun ds => if szOk ds.length then some (.ow (.list ds)) else none
def tupM (fa : Me (List Val)) : Me Val := mb fa fun xs => mo fun _ => (fzs xs).bind fun ds => if szOk ds.length then some (.fz (.tuple ds)) else none
theorem de_lst {es : List Expr} {fa : Me (List Val)} (h : DA X B es fa) : DE X B (.List es pos) (lstM fa) := by
  refine PE.weak (pe_lst h) fun σ H Q h => ?_
  obtain ⟨G, δ, r, δ', R, e, k⟩ := h
  obtain ⟨xs, δ1, e1, e⟩ := mb_some e
  obtain ⟨e2, rfl⟩ := mo_some e
  obtain ⟨ds, ed, e2⟩ := Option.bind_eq_some_iff.mp e2
  obtain ⟨c, rfl⟩ := ite_some e2
  refine ⟨G, δ, xs, _, R, e1, fun vs G1 H1 s1 R1 v1 => ?_⟩
  have t := v1.trees ed
  refine ⟨by rw [t.len]; exact szOk_le c, fun p n => ?_⟩
  have x := Ex.push R1.same (.lst vs) n
  exact k _ _ _ (s1.trans x.g) (R1.ex x) ((RO.newL R1.same t n).rv R1)
theorem de_tup {es : List Expr} {x1} {fa : Me (List Val)} (h : DA X B es fa) : DE X B (.Tuple es x1 pos) (tupM fa) := by
  refine PE.weak (pe_tup h) fun σ H Q h => ?_
  obtain ⟨G, δ, r, δ', R, e, k⟩ := h
  obtain ⟨xs, δ1, e1, e⟩ := mb_some e
  obtain ⟨e2, rfl⟩ := mo_some e
  obtain ⟨ds, ed, e2⟩ := Option.bind_eq_some_iff.mp e2
  obtain ⟨c, rfl⟩ := ite_some e2
  refine ⟨G, δ, xs, _, R, e1, fun vs G1 H1 s1 R1 v1 => ?_⟩
  have t := v1.trees ed
  refine ⟨by rw [t.len]; exact szOk_le c, fun p n => ?_⟩
  have x := Ex.pushF R1.same (.tup vs) n
  exact k _ _ _ (s1.trans x.g) (R1.ex x) (RO.rv (H := H1) R1 (RO.newT R1.same t n))

/-! ### built-in functions -/
def FnD (K : Fg) (r : List V → Hp → VK → Prop) (h : List D → Option Val) : Prop := ∀ (G H : Hp) (vs : List V) (ds : List D) (res : Val) (Q : VK), Same G H → Paired (View K G H) vs ds → h ds = some res →
  (∀ v G' H', Ex G H G' H' → RO K G' H H' v res → Q v H') → r vs H Q
def callM (h : List D → Option Val) (fa : Me (List Val)) : Me Val := mb fa fun xs => mo fun δ => (dvs δ xs).bind h
theorem tCB_of {K : Fg} {r : List V → Hp → VK → Prop} {h : List D → Option Val} {fa : Me (List Val)} (hd : FnD K r h) : ∀ σ H Q, tOf K B (callM h fa) σ H Q → tCB r (taOf K B fa) σ H Q := by
  intro σ H Q hq
  obtain ⟨G, δ, res, δ', R, e, k⟩ := hq
  obtain ⟨xs, δ1, e1, e⟩ := mb_some e
  obtain ⟨e2, rfl⟩ := mo_some e
  obtain ⟨ds, ed, e2⟩ := Option.bind_eq_some_iff.mp e2
  refine ⟨G, δ, xs, _, R, e1, fun vs G1 H1 s1 R1 v1 => ?_⟩
  refine hd G1 H1 vs ds res Q R1.same (v1.view R1 ed) e2 fun u G' H' x ro => ?_
  exact k u G' H' (s1.trans x.g) (R1.ex x) (ro.rv R1)
theorem de_callB {x : Str} {id : String} {r : List V → Hp → VK → Prop} {h : List D → Option Val} {e : Expr} {es : List Expr} {fa : Me (List Val)} {p : Pos} (hc : CallR X (.builtin id) r) (hd : FnD X.K r h) (hg : Gl X x) (hm : X.mg x = none) (hv : bootBuiltins x = some (.builtin id)) (ha : DA X B (e :: es) fa) (hn : x ≠ "__name__" := by decide) (hdb : (x == ("__debug__" : Str)) = false := by decide)
    (he : starEach (e :: es) X.env = (false, eval e X.env) :: starEach es X.env := by rfl) (hpl : (backTo pos (starEach es X.env)).any (·.1) = false := by rfl) : DE X B (.Call (.Name x p) (e :: es) [] pos) (callM h fa) :=
  PE.weak (pe_callB hc hg hm hv ha hn hdb he hpl) (tCB_of hd)
theorem de_callT {x : Str} {T : String} {r : List V → Hp → VK → Prop} {h : List D → Option Val} {e : Expr} {es : List Expr} {fa : Me (List Val)} {p : Pos} (hc : CallR X (.type T) r) (hd : FnD X.K r h) (hg : Gl X x) (hm : X.mg x = none) (hv : bootBuiltins x = some (.type T)) (ha : DA X B (e :: es) fa) (hn : x ≠ "__name__" := by decide) (hdb : (x == ("__debug__" : Str)) = false := by decide)
    (he : starEach (e :: es) X.env = (false, eval e X.env) :: starEach es X.env := by rfl) (hpl : (backTo pos (starEach es X.env)).any (·.1) = false := by rfl) : DE X B (.Call (.Name x p) (e :: es) [] pos) (callM h fa) :=
  PE.weak (pe_callTy hc hg hm hv ha hn hdb he hpl) (tCB_of hd)
theorem view1 {K : Fg} {G H : Hp} {vs : List V} {d : D} (h : Paired (View K G H) vs [d]) : ∃ v, vs = [v] ∧ View K G H v d := by
  cases h with
  | cons a b => cases b; exact ⟨_, rfl, a⟩
theorem view2 {K : Fg} {G H : Hp} {vs : List V} {d e : D} (h : Paired (View K G H) vs [d, e]) : ∃ v w, vs = [v, w] ∧ View K G H v d ∧ View K G H w e := by
  cases h with
  | cons a b =>
    obtain ⟨w, rfl, c⟩ := view1 b
    exact ⟨_, _, rfl, a, c⟩
/-- len -/
def lenD : List D → Option Val
  | [.list ds] => some (.fz (.int ds.length))
  | [.tuple ds] => some (.fz (.int ds.length))
  | [.str x] => if szOk x.length then some (.fz (.int x.length)) else none
  | [.dict [(.none, .list ds)]] => some (.fz (.int ds.length))
  | _ => none
theorem ints_of : ∀ {ds : List D} {vs : List V} {K : Fg} {H : Hp}, TrAll K H vs ds → ∀ {ns : List Int}, vs = ns.map V.int → ds = ns.map PyData.int
  | _, _, _, _, .nil, [], _ => rfl
  | _, _, _, _, .nil, _ :: _, h => by cases h
  | _, _, _, _, .cons a b, [], h => by cases h
  | _, _, _, _, .cons a b, n :: r, h => by
    rw [List.map_cons] at h
    injection h with h1 h2
    subst h1
    cases a
    rw [List.map_cons, ints_of b h2]
theorem View.scr' {K : Fg} {G H : Hp} (s : Same G H) {v : V} {ds : List D} (h : View K G H v (.dict [(.none, .list ds)])) : ∃ (a : Addr) (ns : List Int), v = .ref a ∧ SqL K H a (ns.map V.int) ∧ ds = ns.map PyData.int := by
  generalize hz : (PyData.dict [(PyData.none, PyData.list ds)]) = z at h
  cases h with
  | sc h =>
    cases h with
    | dic a b =>
      injection hz with hz
      subst hz
      exact (TrKV.key b _ List.mem_cons_self rfl).elim
    | scr a =>
      injection hz with hz
      injection hz with hz
      injection hz with _ hz
      injection hz with hz
      exact ⟨_, _, rfl, s.seq a, hz⟩
    | _ => cases hz
  | lst a b => cases hz
  | dic a b =>
    injection hz with hz
    subst hz
    exact (TrKV.key b _ List.mem_cons_self rfl).elim
theorem fd_len {K : Fg} : FnD K (fun xs H Q => ∃ x n, xs = [x] ∧ LenV K x H n ∧ Q (.int n) H) lenD := by
  intro G H vs ds res Q s vv hr k
  unfold lenD at hr
  split at hr
  · cases hr
    obtain ⟨v, rfl, v1⟩ := view1 vv
    obtain ⟨a, xs, rfl, hx, t⟩ := v1.list s
    exact ⟨_, _, rfl, .inl ⟨xs, .inl (.inl hx), t.len.symm⟩, k _ G H (Ex.refl s) (.int _)⟩
  · cases hr
    obtain ⟨v, rfl, v1⟩ := view1 vv
    obtain ⟨a, xs, rfl, hx, t⟩ := v1.tuple s
    exact ⟨_, _, rfl, .inr ⟨xs, hx, t.len.symm⟩, k _ G H (Ex.refl s) (.int _)⟩
  · obtain ⟨c, rfl⟩ := ite_some hr
    obtain ⟨v, rfl, v1⟩ := view1 vv
    cases v1.str
    exact ⟨_, _, rfl, ⟨szOk_le c, rfl⟩, k _ G H (Ex.refl s) (.int _)⟩
  · cases hr
    obtain ⟨v, rfl, v1⟩ := view1 vv
    obtain ⟨a, ns, rfl, hx, rfl⟩ := v1.scr' s
    refine ⟨_, _, rfl, .inl ⟨_, hx, rfl⟩, ?_⟩
    rw [List.length_map] at k ⊢
    exact k _ G H (Ex.refl s) (.int _)
  · cases hr
/-- list(x), tuple(x) -/
def listD : List D → Option Val
  | [.list ds] => some (.ow (.list ds))
  | [.tuple ds] => some (.ow (.list ds))
  | _ => none
theorem fd_list {K : Fg} : FnD K (fun xs H Q => ∃ p ys, xs = [.ref p] ∧ (SqL K H p ys ∨ SqT K H p ys) ∧ ∀ l, H l = none → Q (.ref l) (upd H l (.lst ys))) listD := by
  intro G H vs ds res Q s vv hr k
  unfold listD at hr
  split at hr
  · cases hr
    obtain ⟨v, rfl, v1⟩ := view1 vv
    obtain ⟨a, xs, rfl, hx, t⟩ := v1.list s
    exact ⟨a, xs, rfl, .inl (.inl (.inl hx)), fun l n => k _ G _ (Ex.push s _ n) (RO.newL s t n)⟩
  · cases hr
    obtain ⟨v, rfl, v1⟩ := view1 vv
    obtain ⟨a, xs, rfl, hx, t⟩ := v1.tuple s
    exact ⟨a, xs, rfl, .inr hx, fun l n => k _ G _ (Ex.push s _ n) (RO.newL s t n)⟩
  · cases hr
def tupleD : List D → Option Val
  | [.list ds] => some (.fz (.tuple ds))
  | [.tuple ds] => some (.fz (.tuple ds))
  | _ => none
theorem fd_tuple {K : Fg} : FnD K (fun xs H Q => ∃ p ys, xs = [.ref p] ∧ ((SqL K H p ys ∧ ∀ l, H l = none → Q (.ref l) (upd H l (.tup ys))) ∨ (SqT K H p ys ∧ Q (.ref p) H))) tupleD := by
  intro G H vs ds res Q s vv hr k
  unfold tupleD at hr
  split at hr
  · cases hr
    obtain ⟨v, rfl, v1⟩ := view1 vv
    obtain ⟨a, xs, rfl, hx, t⟩ := v1.list s
    exact ⟨a, xs, rfl, .inl ⟨.inl (.inl hx), fun l n => k _ _ _ (Ex.pushF s _ n) (RO.newT s t n)⟩⟩
  · cases hr
    obtain ⟨v, rfl, v1⟩ := view1 vv
    have f := v1.tupT
    obtain ⟨a, xs, rfl, hx, t⟩ := v1.tuple s
    exact ⟨a, xs, rfl, .inr ⟨hx, k _ G H (Ex.refl s) f⟩⟩
  · cases hr
/-- int(x), abs(x), max(a, b), min(a, b), divmod(a, b) -/
def intD : List D → Option Val
  | [.int i] => some (.fz (.int i))
  | [.bool b] => some (.fz (.int (if b then 1 else 0)))
  | _ => none
theorem fd_int {K : Fg} : FnD K (fun xs H Q => (∃ i, xs = [.int i] ∧ Q (.int i) H) ∨ ∃ k, xs = [.bl k] ∧ Q (.int (if k then 1 else 0)) H) intD := by
  intro G H vs ds res Q s vv hr k
  unfold intD at hr
  split at hr
  · cases hr
    obtain ⟨v, rfl, v1⟩ := view1 vv
    cases v1.int
    exact .inl ⟨_, rfl, k _ G H (Ex.refl s) (.int _)⟩
  · cases hr
    obtain ⟨v, rfl, v1⟩ := view1 vv
    cases v1.bool
    exact .inr ⟨_, rfl, k _ G H (Ex.refl s) (.int _)⟩
  · cases hr
def absD : List D → Option Val
  | [.int i] => some (.fz (.int (if i < 0 then -i else i)))
  | _ => none
theorem fd_abs {K : Fg} : FnD K (fun xs H Q => ∃ i, xs = [.int i] ∧ Q (.int (if i < 0 then -i else i)) H) absD := by
  intro G H vs ds res Q s vv hr k
  unfold absD at hr
  split at hr
  · cases hr
    obtain ⟨v, rfl, v1⟩ := view1 vv
    cases v1.int
    exact ⟨_, rfl, k _ G H (Ex.refl s) (.int _)⟩
  · cases hr
def max2D : List D → Option Val
  | [.int i, .int j] => some (.fz (.int (if j > i then j else i)))
  | _ => none
theorem fd_max2 {K : Fg} : FnD K (fun xs H Q => ∃ i j, xs = [.int i, .int j] ∧ Q (.int (if j > i then j else i)) H) max2D := by
  intro G H vs ds res Q s vv hr k
  unfold max2D at hr
  split at hr
  · cases hr
    obtain ⟨v, w, rfl, v1, v2⟩ := view2 vv
    cases v1.int
    cases v2.int
    exact ⟨_, _, rfl, k _ G H (Ex.refl s) (.int _)⟩
  · cases hr
def min2D : List D → Option Val
  | [.int i, .int j] => some (.fz (.int (if j < i then j else i)))
  | _ => none
theorem fd_min2 {K : Fg} : FnD K (fun xs H Q => ∃ i j, xs = [.int i, .int j] ∧ Q (.int (if j < i then j else i)) H) min2D := by
  intro G H vs ds res Q s vv hr k
  unfold min2D at hr
  split at hr
  · cases hr
    obtain ⟨v, w, rfl, v1, v2⟩ := view2 vv
    cases v1.int
    cases v2.int
    exact ⟨_, _, rfl, k _ G H (Ex.refl s) (.int _)⟩
  · cases hr
def divmodD : List D → Option Val
  | [.int i, .int j] => if decide (0 < j) && decide (j < 1073741824) then some (.fz (.tuple [.int (i / j), .int (i % j)])) else none
  | _ => none
theorem fd_divmod {K : Fg} : FnD K (fun xs H Q => ∃ i j, xs = [.int i, .int j] ∧ CDiv i j ∧ ∀ p, H p = none → Q (.ref p) (upd H p (.tup [.int (i / j), .int (i % j)]))) divmodD := by
  intro G H vs ds res Q s vv hr k
  unfold divmodD at hr
  split at hr
  · obtain ⟨c, rfl⟩ := ite_some hr
    rw [Bool.and_eq_true] at c
    obtain ⟨v, w, rfl, v1, v2⟩ := view2 vv
    cases v1.int
    cases v2.int
    exact ⟨_, _, rfl, ⟨of_decide_eq_true c.1, of_decide_eq_true c.2⟩, fun p n => k _ _ _ (Ex.pushF s _ n) (RO.newT s (.cons (.int _) (.cons (.int _) .nil)) n)⟩
  · cases hr
/-- lists of ints, of bools -/
def intsOf : List D → Option (List Int)
  | [] => some []
  | .int i :: r => (intsOf r).bind fun l => some (i :: l)
  | _ => none
def boolsOf : List D → Option (List Bool)
  | [] => some []
  | .bool i :: r => (boolsOf r).bind fun l => some (i :: l)
  | _ => none
theorem intsOf_map : ∀ ns : List Int, intsOf (ns.map PyData.int) = some ns
  | [] => rfl
  | n :: r => by rw [List.map_cons]; unfold intsOf; rw [intsOf_map r]; rfl
theorem boolsOf_map : ∀ ns : List Bool, boolsOf (ns.map PyData.bool) = some ns
  | [] => rfl
  | n :: r => by rw [List.map_cons]; unfold boolsOf; rw [boolsOf_map r]; rfl
theorem TrAll.intsOf {K : Fg} {G : Hp} : ∀ {vs : List V} {ds : List D} {ns : List Int}, TrAll K G vs ds → DL.intsOf ds = some ns → vs = ns.map V.int
  | _, _, _, .nil, h => by cases h; rfl
  | _, _, _, .cons a b, h => by
    cases a with
    | int i =>
      obtain ⟨l, h1, h⟩ := Option.bind_eq_some_iff.mp h
      cases h
      rw [TrAll.intsOf b h1]
      rfl
    | _ => cases h
theorem TrAll.boolsOf {K : Fg} {G : Hp} : ∀ {vs : List V} {ds : List D} {ns : List Bool}, TrAll K G vs ds → DL.boolsOf ds = some ns → vs = ns.map V.bl
  | _, _, _, .nil, h => by cases h; rfl
  | _, _, _, .cons a b, h => by
    cases a with
    | bl i =>
      obtain ⟨l, h1, h⟩ := Option.bind_eq_some_iff.mp h
      cases h
      rw [TrAll.boolsOf b h1]
      rfl
    | _ => cases h
def allD : List D → Option Val
  | [.list ds] => (boolsOf ds).bind fun bs => some (.fz (.bool (bs.all id)))
  | _ => none
def anyD : List D → Option Val
  | [.list ds] => (boolsOf ds).bind fun bs => some (.fz (.bool (bs.any id)))
  | _ => none
def sumD : List D → Option Val
  | [.list ds] => (intsOf ds).bind fun bs => some (.fz (.int bs.sum))
  | _ => none
theorem fd_all {K : Fg} : FnD K (rAll K) allD := by
  intro G H vs ds res Q s vv hr k
  unfold allD at hr
  split at hr
  · obtain ⟨bs, hb, hr⟩ := Option.bind_eq_some_iff.mp hr
    cases hr
    obtain ⟨v, rfl, v1⟩ := view1 vv
    obtain ⟨a, xs, rfl, hx, t⟩ := v1.list s
    cases t.boolsOf hb
    exact ⟨a, bs, rfl, .inl (.inl hx), k _ G H (Ex.refl s) (.bl _)⟩
  · cases hr
theorem fd_any {K : Fg} : FnD K (rAny K) anyD := by
  intro G H vs ds res Q s vv hr k
  unfold anyD at hr
  split at hr
  · obtain ⟨bs, hb, hr⟩ := Option.bind_eq_some_iff.mp hr
    cases hr
    obtain ⟨v, rfl, v1⟩ := view1 vv
    obtain ⟨a, xs, rfl, hx, t⟩ := v1.list s
    cases t.boolsOf hb
    exact ⟨a, bs, rfl, .inl (.inl hx), k _ G H (Ex.refl s) (.bl _)⟩
  · cases hr
theorem fd_sum {K : Fg} : FnD K (rSum K) sumD := by
  intro G H vs ds res Q s vv hr k
  unfold sumD at hr
  split at hr
  · obtain ⟨bs, hb, hr⟩ := Option.bind_eq_some_iff.mp hr
    cases hr
    obtain ⟨v, rfl, v1⟩ := view1 vv
    obtain ⟨a, xs, rfl, hx, t⟩ := v1.list s
    cases t.intsOf hb
    exact ⟨a, bs, rfl, .inl (.inl hx), k _ G H (Ex.refl s) (.int _)⟩
  · cases hr
/-- the greatest of a list -/
def maxOf : List Int → Option Int
  | [] => none
  | n :: r => match maxOf r with
    | none => some n
    | some m => some (if n ≤ m then m else n)
theorem maxOf_spec : ∀ {ns : List Int} {m : Int}, maxOf ns = some m → m ∈ ns ∧ ∀ y ∈ ns, y ≤ m
  | [], _, h => by cases h
  | n :: r, m, h => by
    unfold maxOf at h
    cases q : maxOf r with
    | none =>
      rw [q] at h
      cases h
      cases r with
      | nil => exact ⟨List.mem_cons_self, fun y hy => by cases hy with | head => exact Int.le_refl _ | tail _ h => cases h⟩
      | cons a b =>
        unfold maxOf at q
        split at q <;> cases q
    | some k =>
      rw [q] at h
      obtain ⟨h1, h2⟩ := maxOf_spec q
      have h : (if n ≤ k then k else n) = m := Option.some.inj h
      by_cases c : n ≤ k
      · rw [if_pos c] at h
        subst h
        exact ⟨List.mem_cons_of_mem _ h1, fun y hy => by cases hy with | head => exact c | tail _ z => exact h2 y z⟩
      · rw [if_neg c] at h
        subst h
        exact ⟨List.mem_cons_self, fun y hy => by
          cases hy with
          | head => exact Int.le_refl _
          | tail _ z => have := h2 y z; omega⟩
theorem maxOf_eq {ns : List Int} {m k : Int} (h : maxOf ns = some m) (h1 : k ∈ ns) (h2 : ∀ y ∈ ns, y ≤ k) : k = m := by
  obtain ⟨a, b⟩ := maxOf_spec h
  have := h2 m a
  have := b k h1
  omega
def maxLD : List D → Option Val
  | [.list ds] => (intsOf ds).bind fun ns => (maxOf ns).bind fun m => some (.fz (.int m))
  | _ => none
theorem fd_maxL {K : Fg} : FnD K (rMax K) maxLD := by
  intro G H vs ds res Q s vv hr k
  unfold maxLD at hr
  split at hr
  · obtain ⟨ns, hb, hr⟩ := Option.bind_eq_some_iff.mp hr
    obtain ⟨m, hm, hr⟩ := Option.bind_eq_some_iff.mp hr
    cases hr
    obtain ⟨v, rfl, v1⟩ := view1 vv
    obtain ⟨a, xs, rfl, hx, t⟩ := v1.list s
    cases t.intsOf hb
    refine ⟨a, ns, rfl, .inl (.inl hx), ?_, fun j h1 h2 => ?_⟩
    · cases ns with
      | nil => cases hm
      | cons => exact Nat.zero_lt_succ _
    · rw [maxOf_eq hm h1 h2]
      exact k _ G H (Ex.refl s) (.int _)
  · cases hr

/-! ### isinstance -/
def tyName : D → Option String
  | .none => some "NoneType"
  | .bool _ => some "bool"
  | .int _ => some "int"
  | .str _ => some "str"
  | .list _ => some "list"
  | .tuple _ => some "tuple"
  | .dict [] => some "dict"
  | .dict ((.none, _) :: _) => none
  | .dict _ => some "dict"
theorem View.ty {K : Fg} {G H : Hp} (s : Same G H) {v : V} {d : D} {T : String} (h : View K G H v d) (e : tyName d = some T) : TyX K H v (.type T) := by
  cases h with
  | sc h =>
    cases h with
    | non => cases e; exact .base .non
    | bl b => cases e; exact .base (.bl b)
    | int i => cases e; exact .base (.int i)
    | str x => cases e; exact .base (.str x)
    | lst a b => cases e; exact .base (.lst (s _ _ a))
    | tup a b =>
      cases e
      rcases a with (a | ⟨o, a⟩) | ⟨o, its, n, a, c, _⟩
      · exact .base (.tup (s _ _ a))
      · exact .fTuple (s _ _ a)
      · exact .kTuple a c
    | dic a b =>
      cases b with
      | nil => cases e; exact .base (.dK (s _ _ a))
      | @cons q _ _ _ _ t r => cases q <;> (cases e; exact .base (.dK (s _ _ a)))
    | scr a => cases e
  | lst a b => cases e; exact .base (.lst a)
  | dic a b =>
    cases b with
    | nil => cases e; exact .base (.dK a)
    | @cons q _ _ _ _ t r => cases q <;> (cases e; exact .base (.dK a))
def isT (a b : String) : Bool := a == b || (a == "bool" && b == "int")
theorem kit_table : (["NoneType", "bool", "int", "str", "list", "tuple", "dict"].all fun a => ["bool", "int", "str", "list", "tuple", "dict"].all fun b => kitB a b == some (isT a b)) = true := by decide +kernel
theorem kit_isT {a b : String} (ha : a ∈ ["NoneType", "bool", "int", "str", "list", "tuple", "dict"]) (hb : b ∈ ["bool", "int", "str", "list", "tuple", "dict"]) : kitB a b = some (isT a b) := by
  have h := List.all_eq_true.mp (List.all_eq_true.mp kit_table a ha) b hb
  exact eq_of_beq h
theorem tyName_mem {d : D} {T : String} (e : tyName d = some T) : T ∈ ["NoneType", "bool", "int", "str", "list", "tuple", "dict"] := by
  unfold tyName at e
  split at e <;> first | (cases e; simp; done) | cases e
def isiD (T : String) (d : D) : Option Val := (tyName d).bind fun t => some (.fz (.bool (isT t T)))
theorem de_isi {e : Expr} {f : Me Val} {p p2 : Pos} {T : Str} {Ts : String} (hg : Gl X "isinstance") (hm : X.mg "isinstance" = none) (ha : DE X B e f) (hg2 : Gl X T) (hm2 : X.mg T = none) (hv : bootBuiltins T = some (.type Ts)) (hT : Ts ∈ ["bool", "int", "str", "list", "tuple", "dict"] := by decide)
    (hn : T ≠ "__name__" := by decide) (hd : (T == ("__debug__" : Str)) = false := by decide)
    (he : starEach [e, .Name T p2] X.env = (false, eval e X.env) :: starEach [.Name T p2] X.env := by rfl) (he2 : starEach [.Name T p2] X.env = (false, eval (.Name T p2) X.env) :: starEach [] X.env := by rfl) (hpl : (backTo pos (starEach [.Name T p2] X.env)).any (·.1) = false := by rfl) :
    DE X B (.Call (.Name "isinstance" p) [e, .Name T p2] [] pos) (unM (isiD Ts) f) := by
  refine PE.weak (pe_callB call_isi hg hm (by decide +kernel) (pa_cons ha (pa_cons (pe_bltn (v := .ty Ts) hg2 hm2 hv rfl hn hd) pa_nil he2) he) (by decide) (by decide) he hpl) fun σ H Q h => ?_
  obtain ⟨G, δ, res, δ', R, e, k⟩ := h
  obtain ⟨x, δ1, e1, e⟩ := mb_some e
  obtain ⟨e3, rfl⟩ := mo_some e
  obtain ⟨a, ea, e3⟩ := Option.bind_eq_some_iff.mp e3
  obtain ⟨t, et, e3⟩ := Option.bind_eq_some_iff.mp e3
  cases e3
  refine ⟨G, δ, x, _, R, e1, fun v G1 H1 s1 R1 v1 => ?_⟩
  exact ⟨v, .ty Ts, .type t, .type Ts, _, rfl, .ty Ts, (v1.view R1 ea).ty R1.same et, kit_ty (kit_isT (tyName_mem et) hT), k _ G1 H1 s1 R1 (.bl _)⟩
def isiD2 (T U : String) (d : D) : Option Val := (tyName d).bind fun t => some (.fz (.bool (isT t T || isT t U)))
theorem de_isi2 {e : Expr} {f : Me Val} {p p2 p3 pt : Pos} {kt} {T U : Str} {Ts Us : String} (hg : Gl X "isinstance") (hm : X.mg "isinstance" = none) (ha : DE X B e f) (hg2 : Gl X T) (hm2 : X.mg T = none) (hv : bootBuiltins T = some (.type Ts)) (hg3 : Gl X U) (hm3 : X.mg U = none) (hv3 : bootBuiltins U = some (.type Us)) (hT : Ts ∈ ["bool", "int", "str", "list", "tuple", "dict"] := by decide) (hU : Us ∈ ["bool", "int", "str", "list", "tuple", "dict"] := by decide)
    (hn : T ≠ "__name__" := by decide) (hd : (T == ("__debug__" : Str)) = false := by decide) (hn3 : U ≠ "__name__" := by decide) (hd3 : (U == ("__debug__" : Str)) = false := by decide)
    (he : starEach [e, .Tuple [.Name T p2, .Name U p3] kt pt] X.env = (false, eval e X.env) :: starEach [.Tuple [.Name T p2, .Name U p3] kt pt] X.env := by rfl)
    (he2 : starEach [.Tuple [.Name T p2, .Name U p3] kt pt] X.env = (false, eval (.Tuple [.Name T p2, .Name U p3] kt pt) X.env) :: starEach [] X.env := by rfl) (hpl : (backTo pos (starEach [.Tuple [.Name T p2, .Name U p3] kt pt] X.env)).any (·.1) = false := by rfl)
    (he3 : starEach [.Name T p2, .Name U p3] X.env = (false, eval (.Name T p2) X.env) :: starEach [.Name U p3] X.env := by rfl) (he4 : starEach [.Name U p3] X.env = (false, eval (.Name U p3) X.env) :: starEach [] X.env := by rfl) :
    DE X B (.Call (.Name "isinstance" p) [e, .Tuple [.Name T p2, .Name U p3] kt pt] [] pos) (unM (isiD2 Ts Us) f) := by
  refine PE.weak (pe_callB call_isiT hg hm (by decide +kernel) (pa_cons ha (pa_cons (pe_tup (pa_cons (pe_bltn (v := .ty Ts) hg2 hm2 hv rfl hn hd) (pa_cons (pe_bltn (v := .ty Us) hg3 hm3 hv3 rfl hn3 hd3) pa_nil he4) he3)) pa_nil he2) he) (by decide) (by decide) he hpl) fun σ H Q h => ?_
  obtain ⟨G, δ, res, δ', R, e, k⟩ := h
  obtain ⟨x, δ1, e1, e⟩ := mb_some e
  obtain ⟨e3, rfl⟩ := mo_some e
  obtain ⟨a, ea, e3⟩ := Option.bind_eq_some_iff.mp e3
  obtain ⟨t, et, e3⟩ := Option.bind_eq_some_iff.mp e3
  cases e3
  refine ⟨G, δ, x, _, R, e1, fun v G1 H1 s1 R1 v1 => ?_⟩
  refine ⟨by show 2 ≤ sizeLine; decide, fun p n => ?_⟩
  have x := Ex.push R1.same (.tup [.ty Ts, .ty Us]) n
  have ty := ((v1.view R1 ea).ty R1.same et)
  refine ⟨v, p, [.ty Ts, .ty Us], .type t, [.type Ts, .type Us], _, rfl, upd_same, .cons (.ty Ts) (.cons (.ty Us) .nil), ?_, kitAny_cons (b := isT t Ts) (r := isT t Ts || isT t Us) (kit_ty (kit_isT (tyName_mem et) hT)) (fun h => ?_) (fun h => by rw [h]; rfl), k _ G1 _ (s1.trans x.g) (R1.ex x) (.bl _)⟩
  · exact View.ty x.gh ((v1.view R1 ea).up x.h) et
  · rw [h, Bool.false_or]
    refine kitAny_cons (b := isT t Us) (kit_ty (kit_isT (tyName_mem et) hU)) (fun h => by rw [h]; exact kitAny_nil) fun h => h
end
end DL
end
section
set_option maxRecDepth 100000
set_option maxHeartbeats 4000000
namespace DL
open PySem PySem.Spec L2
open PyProof.Rows hiding St

section
variable {X : Cx} {B : Bs} {pos : Pos}

/-! ### items, slices -/
theorem atI_tr {K : Fg} {G : Hp} {xs : List V} {ds : List D} {i : Int} {d : D} (t : TrAll K G xs ds) (h : atI ds i = some d) : ∃ v, atI xs i = some v ∧ Tr K G v d := by
  unfold atI at h ⊢
  rw [t.len]
  obtain ⟨j, e, h⟩ := Option.bind_eq_some_iff.mp h
  obtain ⟨v, e2, t2⟩ := t.get h
  exact ⟨v, by rw [e]; exact e2, t2⟩
def ixD : D → D → Option Val
  | .list ds, .int i => (atI ds i).bind fun d => some (.fz d)
  | .tuple ds, .int i => (atI ds i).bind fun d => some (.fz d)
  | .str x, .int i => if szOk x.length then (atI x.cps.toList i).bind fun c => some (.fz (.str ⟨#[c]⟩)) else none
  | .dict [(.none, .list ds)], .int i => (atI ds i).bind fun d => some (.fz d)
  | _, _ => none
theorem atI_ints {ns : List Int} {i : Int} {d : D} (h : atI (ns.map PyData.int) i = some d) : ∃ n : Int, atI (ns.map V.int) i = some (.int n) ∧ d = .int n := by
  unfold atI at h ⊢
  rw [List.length_map] at h ⊢
  obtain ⟨j, e, h⟩ := Option.bind_eq_some_iff.mp h
  rw [List.getElem?_map] at h
  obtain ⟨n, e2, rfl⟩ := Option.map_eq_some_iff.mp h
  exact ⟨n, by rw [e]; show (ns.map V.int)[j]? = _; rw [List.getElem?_map, e2]; rfl, rfl⟩
theorem od_ix {K : Fg} : OpD K (rIx K) ixD := by
  intro G H x y d e res Q s vx vy hr k
  unfold ixD at hr
  split at hr
  · obtain ⟨c, hc, hr⟩ := Option.bind_eq_some_iff.mp hr
    cases hr
    obtain ⟨a, xs, rfl, hx, t⟩ := vx.list s
    obtain ⟨v, e1, t1⟩ := atI_tr t hc
    exact .inl ⟨a, xs, _, v, rfl, vy.int, .inl (.inl hx), e1, k _ G H (Ex.refl s) t1⟩
  · obtain ⟨c, hc, hr⟩ := Option.bind_eq_some_iff.mp hr
    cases hr
    obtain ⟨a, xs, rfl, hx, t⟩ := vx.tuple s
    obtain ⟨v, e1, t1⟩ := atI_tr t hc
    exact .inr (.inl ⟨a, xs, _, v, rfl, vy.int, hx, e1, k _ G H (Ex.refl s) t1⟩)
  · rename_i z i
    by_cases hz : szOk z.length = true
    · rw [if_pos hz] at hr
      obtain ⟨c, hc, hr⟩ := Option.bind_eq_some_iff.mp hr
      cases hr
      exact .inr (.inr ⟨z, i, c, vx.str, vy.int, szOk_le hz, hc, k _ G H (Ex.refl s) (.str _)⟩)
    · rw [if_neg hz] at hr
      cases hr
  · obtain ⟨c, hc, hr⟩ := Option.bind_eq_some_iff.mp hr
    cases hr
    obtain ⟨a, ns, rfl, hx, rfl⟩ := vx.scr' s
    obtain ⟨n, e1, rfl⟩ := atI_ints hc
    exact .inl ⟨a, _, _, _, rfl, vy.int, hx, e1, k _ G H (Ex.refl s) (.int _)⟩
  · cases hr
theorem de_ix {a b : Expr} {f g : Me Val} (ha : DE X B a f) (hb : DE X B b g) (hs : PlainIx b := by exact fun _ _ => rfl) : DE X B (.Subscript a b pos) (binM ixD f g) := PE.weak (pe_ix ix_seq ha hb hs) (tOp_of od_ix)

/-- a part of a slice -/
def toOf (K : Fg) (B : Bs) (f : Me (Option Int)) : TO := fun σ H Q => ∃ G δ r δ', RelS K B G H δ σ ∧ f δ = some (r, δ') ∧
  ∀ G' H', Same G G' → RelS K B G' H' δ' σ → Q r H'
abbrev DP (X : Cx) (B : Bs) (e : Option Expr) (f : Me (Option Int)) : Prop := PO X e (toOf X.K B f)
theorem PO.weak {X : Cx} {e : Option Expr} {t t' : TO} (h : PO X e t) (i : ∀ σ H Q, t' σ H Q → t σ H Q) : PO X e t' := ⟨fun pins s σ H Q I w => h.run pins s σ H Q I (i _ _ _ w)⟩
def partM (f : Me Val) : Me (Option Int) := fun δ => match f δ with
  | some (.fz (.int i), δ') => some (some i, δ')
  | _ => none
theorem dp_none : DP X B none (mr none) := PO.weak po_none fun σ H Q h => by
  obtain ⟨G, δ, r, δ', R, e, k⟩ := h
  cases e
  exact k G H (Same.refl _) R
theorem dp_some {e : Expr} {f : Me Val} (h : DE X B e f) : DP X B (some e) (partM f) := PO.weak (po_some h) fun σ H Q h => by
  obtain ⟨G, δ, r, δ', R, e, k⟩ := h
  unfold partM at e
  split at e
  · rename_i i δ1 q
    cases e
    refine ⟨G, δ, _, _, R, q, fun v G' H' s R' t => ?_⟩
    have t : Tr X.K G' v (.int i) := t
    cases t
    exact ⟨i, rfl, k G' H' s R'⟩
  · cases e
def cutD (ds : List D) (lo hi : Option Int) : List D := (ds.drop (HT.sIx ds.length 0 lo)).take (HT.sIx ds.length ds.length hi - HT.sIx ds.length 0 lo)
theorem cut_tr {K : Fg} {G : Hp} {xs : List V} {ds : List D} (lo hi : Option Int) (t : TrAll K G xs ds) : TrAll K G (cutV xs lo hi) (cutD ds lo hi) := by
  unfold cutV cutD
  rw [t.len]
  exact (t.drop _).take _
def slD (d : D) (lo hi : Option Int) : Option Val := match d with
  | .list ds => some (.ow (.list (cutD ds lo hi)))
  | .tuple ds => some (.fz (.tuple (cutD ds lo hi)))
  | .str x => if szOk x.length then some (.fz (.str (cutS x lo hi))) else none
  | _ => none
def rSlAll (K : Fg) : V → Option Int → Option Int → Hp → VK → Prop := fun x lo hi H Q => rSlL K x lo hi H Q ∨ rSlA K x lo hi H Q ∨ rSlS x lo hi H Q
theorem sl_all {X : Cx} : SlR X (rSlAll X.K) := sl_list.or (sl_tupA.or sl_str)
theorem cutV_whole {xs : List V} {lo hi : Option Int} (h : HT.sIx xs.length 0 lo = 0 ∧ HT.sIx xs.length xs.length hi = xs.length) : cutV xs lo hi = xs := by
  unfold cutV
  rw [h.1, h.2]
  simp
theorem cutD_whole {xs : List D} {lo hi : Option Int} (h : HT.sIx xs.length 0 lo = 0 ∧ HT.sIx xs.length xs.length hi = xs.length) : cutD xs lo hi = xs := by
  unfold cutD
  rw [h.1, h.2]
  simp
def slM (f : Me Val) (l u : Me (Option Int)) : Me Val := mb f fun x => mb l fun lo => mb u fun hi => mo fun δ => (dv δ x).bind fun d => slD d lo hi
theorem de_slice {e : Expr} {lo hi : Option Expr} {p2 : Pos} {f : Me Val} {l u : Me (Option Int)} (he : DE X B e f) (hl : DP X B lo l) (hu : DP X B hi u) : DE X B (.Subscript e (.Slice lo hi none p2) pos) (slM f l u) := by
  refine PE.weak (pe_slice sl_all he hl hu) fun σ H Q h => ?_
  obtain ⟨G, δ, r, δ', R, e, k⟩ := h
  obtain ⟨x, δ1, e1, e⟩ := mb_some e
  obtain ⟨a, δ2, e2, e⟩ := mb_some e
  obtain ⟨b, δ3, e3, e⟩ := mb_some e
  obtain ⟨e4, rfl⟩ := mo_some e
  obtain ⟨d, ed, e4⟩ := Option.bind_eq_some_iff.mp e4
  refine ⟨G, δ, x, δ1, R, e1, fun v G1 H1 s1 R1 v1 => ?_⟩
  obtain ⟨G1', s1', R1', v1'⟩ := v1.freeze R1
  refine ⟨G1', δ1, a, δ2, R1', e2, fun G2 H2 s2 R2 => ?_⟩
  refine ⟨G2, δ2, b, _, R2, e3, fun G3 H3 s3 R3 => ?_⟩
  have v3 := RV.stay (B := B) (G' := G3) (H' := H3) (δ' := δ') (s2.trans s3) v1'
  have vw := v3.view R3 (by rw [dv_fzv]; exact ed)
  have sg := ((s1.trans s1').trans s2).trans s3
  cases d with
  | list ds =>
    cases e4
    obtain ⟨p, xs, rfl, hx, t⟩ := vw.list R3.same
    refine .inl ⟨p, xs, rfl, .inl (.inl hx), fun q n => ?_⟩
    have x := Ex.push R3.same (.lst (cutV xs a b)) n
    exact k _ _ _ (sg.trans x.g) (R3.ex x) (RO.rv R3 (RO.newL R3.same (cut_tr a b t) n))
  | tuple ds =>
    cases e4
    have ft := vw.tupT
    obtain ⟨p, xs, rfl, hx, t⟩ := vw.tuple R3.same
    refine .inr (.inl ⟨p, xs, rfl, hx, fun z => ?_, fun _ q n => ?_⟩)
    · rw [t.len] at z
      rw [cutD_whole z] at k
      exact k _ G3 H3 sg R3 ft
    · have x := Ex.pushF R3.same (.tup (cutV xs a b)) n
      exact k _ _ _ (sg.trans x.g) (R3.ex x) (RO.rv (H := H3) R3 (RO.newT R3.same (cut_tr a b t) n))
  | str z =>
    obtain ⟨c, rfl⟩ := ite_some e4
    cases vw.str
    exact .inr (.inr ⟨z, rfl, szOk_le c, k _ G3 H3 sg R3 (.str _)⟩)
  | _ => cases e4
/-- xs[::-1] of a list -/
def revD : D → Option Val
  | .list ds => some (.ow (.list ds.reverse))
  | _ => none
theorem de_rev {e : Expr} {kk : Nat} {p1 p2 p3 : Pos} {f : Me Val} (he : DE X B e f) : DE X B (.Subscript e (.Slice none none (some (.UnaryOp .USub (.Constant (.int 1) kk p1) p2)) p3) pos) (unM revD f) := by
  refine PE.weak (pe_revL he) fun σ H Q h => ?_
  obtain ⟨G, δ, res, δ', R, e, k⟩ := h
  obtain ⟨x, δ1, e1, e⟩ := mb_some e
  obtain ⟨e3, rfl⟩ := mo_some e
  obtain ⟨a, ea, e3⟩ := Option.bind_eq_some_iff.mp e3
  refine ⟨G, δ, x, _, R, e1, fun v G1 H1 s1 R1 v1 => ?_⟩
  have vw := v1.view R1 ea
  cases a with
  | list ds =>
    cases e3
    obtain ⟨p, xs, rfl, hx, t⟩ := vw.list R1.same
    refine ⟨p, xs, rfl, .inl (.inl hx), fun q n => ?_⟩
    have x := Ex.push R1.same (.lst xs.reverse) n
    exact k _ _ _ (s1.trans x.g) (R1.ex x) (RO.rv R1 (RO.newL R1.same t.reverse n))
  | _ => cases e3

/-! ### statements -/
inductive Fl where
  | nx
  | bk
  | ct
  | rt (v : Val)
abbrev Ss := DS → Option (Fl × DS)
def FlPost (K : Fg) (B : Bs) (E : Ends) (G H : Hp) (δ : DS) (σ : L2.St) : Fl → Prop
  | .nx => E.nx σ H
  | .bk => E.bk σ H
  | .ct => E.ct σ H
  | .rt r => ∀ v, RV K B G H δ σ v r → E.rt v H
def SOf (K : Fg) (B : Bs) (g : Ss) : TS := fun E σ H => ∃ G δ fl δ', RelS K B G H δ σ ∧ g δ = some (fl, δ') ∧ ∀ σ' G' H', Same G G' → RelS K B G' H' δ' σ' → FlPost K B E G' H' δ' σ' fl
abbrev SS (X : Cx) (B : Bs) (st : Stmt) (g : Ss) : Prop := PS X st (SOf X.K B g)
abbrev SB (X : Cx) (B : Bs) (st : List Stmt) (g : Ss) : Prop := PSs X st (SOf X.K B g)
def skipS : Ss := fun δ => some (.nx, δ)
def seqS (g h : Ss) : Ss := fun δ => match g δ with
  | some (.nx, δ1) => h δ1
  | r => r
theorem SOf.skip {K : Fg} {E : Ends} {σ : L2.St} {H : Hp} {fl : Fl} (h : SOf K B (fun δ => some (fl, δ)) E σ H) : ∃ G δ, RelS K B G H δ σ ∧ FlPost K B E G H δ σ fl := by
  obtain ⟨G, δ, fl', δ', R, e, k⟩ := h
  cases e
  exact ⟨G, δ, R, k σ G H (Same.refl _) R⟩
theorem sb_nil : SB X B [] skipS := PSs.weak pss_nil fun E σ H h => by
  obtain ⟨G, δ, R, k⟩ := SOf.skip h
  exact k
theorem sb_cons {st : Stmt} {rest : List Stmt} {g h : Ss} (h1 : SS X B st g) (h2 : SB X B rest h) : SB X B (st :: rest) (seqS g h) := PSs.weak (pss_cons h1 h2) fun E σ H q => by
  obtain ⟨G, δ, fl, δ', R, e, k⟩ := q
  unfold seqS at e
  cases hg : g δ with
  | none => rw [hg] at e; cases e
  | some p =>
    obtain ⟨f1, δ1⟩ := p
    rw [hg] at e
    refine ⟨G, δ, f1, δ1, R, hg, fun σ' G' H' s R' => ?_⟩
    cases f1 with
    | nx => exact ⟨G', δ1, fl, δ', R', e, fun σ2 G2 H2 s2 R2 => k σ2 G2 H2 (s.trans s2) R2⟩
    | bk =>
      cases e
      exact k σ' G' H' s R'
    | ct =>
      cases e
      exact k σ' G' H' s R'
    | rt v =>
      cases e
      exact k σ' G' H' s R'
theorem sb_one {st : Stmt} {g : Ss} (h : SS X B st g) : SB X B [st] g := pss_one h
theorem ss_pass : SS X B (.Pass pos) skipS := PS.weak ps_pass fun E σ H h => by
  obtain ⟨G, δ, R, k⟩ := SOf.skip h
  exact k
theorem ss_break : SS X B (.Break pos) (fun δ => some (.bk, δ)) := PS.weak ps_break fun E σ H h => by
  obtain ⟨G, δ, R, k⟩ := SOf.skip h
  exact k
theorem ss_continue : SS X B (.Continue pos) (fun δ => some (.ct, δ)) := PS.weak ps_continue fun E σ H h => by
  obtain ⟨G, δ, R, k⟩ := SOf.skip h
  exact k
/-- never come to -/
theorem ss_never {st : Stmt} : SS X B st (fun _ => none) := PS.weak ps_never fun E σ H h => by
  obtain ⟨G, δ, fl, δ', R, e, k⟩ := h
  cases e
theorem sb_never {st : List Stmt} : SB X B st (fun _ => none) := PSs.weak pss_never fun E σ H h => by
  obtain ⟨G, δ, fl, δ', R, e, k⟩ := h
  cases e
def ifS (c : Me Bool) (g h : Ss) : Ss := fun δ => match c δ with
  | some (true, δ1) => g δ1
  | some (false, δ1) => h δ1
  | none => none
theorem ss_if {c : Expr} {a b : List Stmt} {fc : Me Bool} {g h : Ss} (hc : DT X B c fc) (ha : SB X B a g) (hb : SB X B b h) : SS X B (.If c a b pos) (ifS fc g h) := PS.weak (ps_if hc ha hb) fun E σ H q => by
  obtain ⟨G, δ, fl, δ', R, e, k⟩ := q
  unfold ifS at e
  cases hg : fc δ with
  | none => rw [hg] at e; cases e
  | some p =>
    obtain ⟨x, δ1⟩ := p
    rw [hg] at e
    refine ⟨G, δ, x, δ1, R, hg, fun G1 H1 s1 R1 => ?_⟩
    cases x with
    | true => exact ⟨G1, δ1, fl, δ', R1, e, fun σ2 G2 H2 s2 R2 => k σ2 G2 H2 (s1.trans s2) R2⟩
    | false => exact ⟨G1, δ1, fl, δ', R1, e, fun σ2 G2 H2 s2 R2 => k σ2 G2 H2 (s1.trans s2) R2⟩

/-! ### slots stored -/
/-- a slot may be stored: it is no handed-in list -/
def freeAt (δ : DS) (i : Nat) : Bool := match δ[i]? with
  | some (.own true _) => false
  | _ => true
def asg (i : Nat) (v : Val) (δ : DS) : Option DS := if freeAt δ i then (match v with
  | .fz d => some (δ.set i (.dat d))
  | .ow d => some (δ.set i (.own false d))
  | .sl _ => none) else none
theorem RelS.set {K : Fg} {G H : Hp} {δ δ' : DS} {σ : L2.St} {i : Nat} {v : V} {r : Val} (R : RelS K B G H δ σ) (h : RV K B G H δ σ v r) (e : asg i r δ = some δ') : RelS K B G H δ' (σ.set i (some v)) := by
  have other : ∀ {s s' : Sl} {j : Nat}, (δ.set i s)[j]? = some s' → (j = i ∧ s = s') ∨ (j ≠ i ∧ δ[j]? = some s') := fun {s s' j} q => by
    by_cases hj : j = i
    · subst hj
      have hl : j < δ.length := by
        have := (List.getElem?_eq_some_iff.mp q).1
        rwa [List.length_set] at this
      rw [List.getElem?_set_self hl] at q
      exact .inl ⟨rfl, Option.some.inj q⟩
    · rw [List.getElem?_set_ne (Ne.symm hj)] at q
      exact .inr ⟨hj, q⟩
  have hs : ∀ {s : Sl} {j : Nat} {s' : Sl}, (δ.set i s)[j]? = some s' → j = i → (σ.set i (some v))[j]? = some (some v) := fun {s j s'} q hj => by
    subst hj
    have hl : j < δ.length := by
      have := (List.getElem?_eq_some_iff.mp q).1
      rwa [List.length_set] at this
    rw [List.getElem?_set_self (by rw [← R.len]; exact hl)]
  unfold asg at e
  split at e
  · rename_i hfree
    cases r with
    | fz d =>
      cases e
      refine ⟨by rw [List.length_set, List.length_set]; exact R.len, R.same, R.g0, R.nw, R.frame, R.dom, R.iod, fun j d' q => ?_, fun j b d' q => ?_, fun j k b b' a d1 d2 q1 q2 z1 z2 => ?_⟩
      · rcases other q with ⟨hj, hd⟩ | ⟨hj, q'⟩
        · cases hd
          exact ⟨v, hs q hj, h⟩
        · rw [List.getElem?_set_ne (Ne.symm hj)]
          exact R.dat j d' q'
      · rcases other q with ⟨hj, hd⟩ | ⟨hj, q'⟩
        · cases hd
        · rw [List.getElem?_set_ne (Ne.symm hj)]
          exact R.own j b d' q'
      · rcases other q1 with ⟨hj, hd⟩ | ⟨hj, q1'⟩
        · cases hd
        · rcases other q2 with ⟨hk, hd⟩ | ⟨hk, q2'⟩
          · cases hd
          · rw [List.getElem?_set_ne (Ne.symm hj)] at z1
            rw [List.getElem?_set_ne (Ne.symm hk)] at z2
            exact R.inj j k b b' a d1 d2 q1' q2' z1 z2
    | sl j => cases e
    | ow d =>
      cases e
      obtain ⟨a0, rfl, n, n0, rt, u⟩ := h
      refine ⟨by rw [List.length_set, List.length_set]; exact R.len, R.same, R.g0, R.nw, R.frame, R.dom, R.iod, fun j d' q => ?_, fun j b d' q => ?_, fun j k b b' a d1 d2 q1 q2 z1 z2 => ?_⟩
      · rcases other q with ⟨hj, hd⟩ | ⟨hj, q'⟩
        · cases hd
        · rw [List.getElem?_set_ne (Ne.symm hj)]
          exact R.dat j d' q'
      · rcases other q with ⟨hj, hd⟩ | ⟨hj, q'⟩
        · cases hd
          exact ⟨a0, hs q hj, n, n0, rt⟩
        · rw [List.getElem?_set_ne (Ne.symm hj)]
          exact R.own j b d' q'
      · rcases other q1 with ⟨hj, hd⟩ | ⟨hj, q1'⟩
        · rcases other q2 with ⟨hk, hd'⟩ | ⟨hk, q2'⟩
          · rw [hj, hk]
          · have z1' := hs q1 hj
            rw [z1'] at z1
            cases z1
            rw [List.getElem?_set_ne (Ne.symm hk)] at z2
            exact (u k b' d2 q2' z2).elim
        · rcases other q2 with ⟨hk, hd'⟩ | ⟨hk, q2'⟩
          · have z2' := hs q2 hk
            rw [z2'] at z2
            cases z2
            rw [List.getElem?_set_ne (Ne.symm hj)] at z1
            exact (u j b d1 q1' z1).elim
          · rw [List.getElem?_set_ne (Ne.symm hj)] at z1
            rw [List.getElem?_set_ne (Ne.symm hk)] at z2
            exact R.inj j k b b' a d1 d2 q1' q2' z1 z2
  · cases e
/-- a slot is forgotten, or its list given to what stays -/
theorem RelS.drop {K : Fg} {G H : Hp} {δ : DS} {σ : L2.St} (i : Nat) (R : RelS K B G H δ σ) : RelS K B G H (δ.set i .un) σ := by
  have other : ∀ {s' : Sl} {j : Nat}, s' ≠ .un → (δ.set i .un)[j]? = some s' → δ[j]? = some s' := fun {s' j} hn q => by
    by_cases hj : j = i
    · subst hj
      have hl : j < δ.length := by
        have := (List.getElem?_eq_some_iff.mp q).1
        rwa [List.length_set] at this
      rw [List.getElem?_set_self hl] at q
      exact (hn (Option.some.inj q).symm).elim
    · rw [List.getElem?_set_ne (Ne.symm hj)] at q
      exact q
  exact ⟨by rw [List.length_set]; exact R.len, R.same, R.g0, R.nw, R.frame, R.dom, R.iod, fun j d q => R.dat j d (other (fun z => nomatch z) q), fun j b d q => R.own j b d (other (fun z => nomatch z) q), fun j k b b' a d1 d2 q1 q2 => R.inj j k b b' a d1 d2 (other (fun z => nomatch z) q1) (other (fun z => nomatch z) q2)⟩
def setS (i : Nat) (f : Me Val) : Ss := fun δ => match f δ with
  | some (v, δ1) => (asg i v δ1).bind fun δ2 => some (.nx, δ2)
  | none => none
theorem ss_set {i : Nat} {x : Str} {e : Expr} {f : Me Val} {pos' : Pos} (hN : X.N.Nodup) (hi : X.N[i]? = some x) (hx : Loc X.env.scope x) (he : DE X B e f) (hs : swapsWith e (some (.Name x pos')) pos.line X.env = pure false := by rfl) (hf : X.fn x = true ∨ X.env.scope.names.lookup x = some .local := by first | exact .inl rfl | exact .inr rfl | assumption) :
    SS X B (.Assign [.Name x pos'] e pos) (setS i f) := PS.weak (ps_set hN hi hx he hs hf) fun E σ H q => by
  obtain ⟨G, δ, fl, δ', R, e, k⟩ := q
  unfold setS at e
  cases hg : f δ with
  | none => rw [hg] at e; cases e
  | some p =>
    obtain ⟨v, δ1⟩ := p
    rw [hg] at e
    obtain ⟨δ2, e2, e3⟩ := Option.bind_eq_some_iff.mp e
    cases e3
    exact ⟨G, δ, v, δ1, R, hg, fun u G1 H1 s1 R1 v1 => k _ G1 H1 s1 (R1.set v1 e2)⟩
/-- return -/
def retV (v : Val) (δ : DS) : Option (Fl × DS) := match v with
  | .fz d => some (.rt (.fz d), δ)
  | .ow d => some (.rt (.ow d), δ)
  | .sl i => match δ[i]? with
    | some (.own false d) => some (.rt (.ow d), δ.set i .un)
    | _ => none
def retS (f : Me Val) : Ss := fun δ => match f δ with
  | some (v, δ1) => retV v δ1
  | none => none
theorem ss_ret {e : Expr} {f : Me Val} (he : DE X B e f) : SS X B (.Return (some e) pos) (retS f) := PS.weak (ps_ret he) fun E σ H q => by
  obtain ⟨G, δ, fl, δ', R, e, k⟩ := q
  unfold retS at e
  cases hg : f δ with
  | none => rw [hg] at e; cases e
  | some p =>
    obtain ⟨v, δ1⟩ := p
    rw [hg] at e
    refine ⟨G, δ, v, δ1, R, hg, fun u G1 H1 s1 R1 v1 => ?_⟩
    cases v with
    | fz d =>
      cases e
      exact k σ G1 H1 s1 R1 u v1
    | ow d =>
      cases e
      exact k σ G1 H1 s1 R1 u v1
    | sl i =>
      have e : (match δ1[i]? with | some (.own false d) => some (Fl.rt (.ow d), δ1.set i .un) | _ => none) = some (fl, δ') := e
      split at e
      · rename_i d q
        cases e
        have v1 : σ[i]? = some (some u) := v1
        obtain ⟨a, e1, n, m, rt⟩ := R1.own i false d q
        rw [v1] at e1
        cases e1
        refine k σ G1 H1 s1 (R1.drop i) _ ⟨a, rfl, n, m, rt, fun j b d' q' z => ?_⟩
        by_cases hj : j = i
        · subst hj
          have hl : j < δ1.length := (List.getElem?_eq_some_iff.mp q).1
          rw [List.getElem?_set_self hl] at q'
          cases q'
        · rw [List.getElem?_set_ne (Ne.symm hj)] at q'
          exact hj (R1.inj j i b false a d' d q' q z v1)
      · cases e
theorem ss_retN : SS X B (.Return none pos) (fun δ => some (.rt (.fz .none), δ)) := PS.weak ps_retN fun E σ H h => by
  obtain ⟨G, δ, R, k⟩ := SOf.skip h
  exact k .non .non
/-- an expression for its effect -/
def dropS (f : Me Val) : Ss := fun δ => match f δ with
  | some (_, δ1) => some (.nx, δ1)
  | none => none
theorem ss_expr {e : Expr} {f : Me Val} (he : DE X B e f) (hs : swapsWith e none pos.line X.env = pure false := by rfl) : SS X B (.Expr e pos) (dropS f) := PS.weak (ps_expr he hs) fun E σ H q => by
  obtain ⟨G, δ, fl, δ', R, e, k⟩ := q
  unfold dropS at e
  cases hg : f δ with
  | none => rw [hg] at e; cases e
  | some p =>
    obtain ⟨v, δ1⟩ := p
    rw [hg] at e
    cases e
    exact ⟨G, δ, v, _, R, hg, fun u G1 H1 s1 R1 v1 => k σ G1 H1 s1 R1⟩
/-- ahead of a statement a list is given to what stays -/
def frz (i : Nat) (δ : DS) : DS := match δ[i]? with
  | some (.own false d) => δ.set i (.dat d)
  | _ => δ
def frzS (i : Nat) (g : Ss) : Ss := fun δ => g (frz i δ)
theorem RelS.frz {K : Fg} {G H : Hp} {δ : DS} {σ : L2.St} (i : Nat) (R : RelS K B G H δ σ) : ∃ G', Same G G' ∧ RelS K B G' H (frz i δ) σ := by
  unfold DL.frz
  split
  · rename_i d q
    obtain ⟨a, e1, n, m, rt⟩ := R.own i false d q
    have r : RV K B G H (δ.set i .un) σ (.ref a) (.ow d) := ⟨a, rfl, n, m, rt, fun j b d' q' z => by
      by_cases hj : j = i
      · subst hj
        have hl : j < δ.length := (List.getElem?_eq_some_iff.mp q).1
        rw [List.getElem?_set_self hl] at q'
        cases q'
      · rw [List.getElem?_set_ne (Ne.symm hj)] at q'
        exact hj (R.inj j i b false a d' d q' q z e1)⟩
    obtain ⟨G', s, R', t⟩ := r.freeze (R.drop i)
    have hl : i < δ.length := (List.getElem?_eq_some_iff.mp q).1
    have hfree : freeAt (δ.set i .un) i = true := by
      unfold freeAt
      rw [List.getElem?_set_self hl]
    have R2 := R'.set (i := i) (δ' := δ.set i (.dat d)) t (by unfold asg; rw [if_pos hfree]; show some ((δ.set i .un).set i (.dat d)) = _; rw [List.set_set])
    have es : σ.set i (some (.ref a)) = σ := by
      apply List.ext_getElem?
      intro j
      by_cases hj : j = i
      · subst hj
        rw [List.getElem?_set_self (by rw [← R.len]; exact hl), e1]
      · rw [List.getElem?_set_ne (Ne.symm hj)]
    rw [es] at R2
    exact ⟨G', s, R2⟩
  · exact ⟨G, Same.refl _, R⟩
theorem ss_frz {st : Stmt} {g : Ss} (i : Nat) (h : SS X B st g) : SS X B st (frzS i g) := PS.weak h fun E σ H q => by
  obtain ⟨G, δ, fl, δ', R, e, k⟩ := q
  obtain ⟨G', s, R'⟩ := R.frz i
  exact ⟨G', _, fl, δ', R', e, fun σ2 G2 H2 s2 R2 => k σ2 G2 H2 (s.trans s2) R2⟩

/-! ### targets -/
abbrev Tg := Val → DS → Option DS
abbrev Tgs := List D → DS → Option DS
/-- but for the slots ws the frame is as it was -/
def Off (ws : List Nat) (σ σ' : L2.St) : Prop := σ'.length = σ.length ∧ ∀ j, j ∉ ws → σ'[j]? = σ[j]?
theorem Off.refl (ws : List Nat) (σ : L2.St) : Off ws σ σ := ⟨rfl, fun _ _ => rfl⟩
theorem Off.set {i : Nat} {σ : L2.St} {v : Option V} : Off [i] σ (σ.set i v) := ⟨List.length_set, fun j hj => List.getElem?_set_ne (fun h => hj (by simp [h]))⟩
theorem Off.trans {w1 w2 : List Nat} {a b c : L2.St} (h : Off w1 a b) (h' : Off w2 b c) : Off (w1 ++ w2) a c :=
  ⟨h'.1.trans h.1, fun j hj => (h'.2 j fun z => hj (List.mem_append_right _ z)).trans (h.2 j fun z => hj (List.mem_append_left _ z))⟩
def tgOf (K : Fg) (B : Bs) (ws : List Nat) (g : Tg) : TG := fun v σ H Q => ∃ G δ r δ', RelS K B G H δ σ ∧ RV K B G H δ σ v r ∧ g r δ = some δ' ∧ ∀ σ' G' H', Same G G' → RelS K B G' H' δ' σ' → Off ws σ σ' → Q σ' H'
def tgsOf (K : Fg) (B : Bs) (ws : List Nat) (g : Tgs) : TGs := fun vs σ H Q => ∃ G δ ds δ', RelS K B G H δ σ ∧ TrAll K G vs ds ∧ g ds δ = some δ' ∧ ∀ σ' G' H', Same G G' → RelS K B G' H' δ' σ' → Off ws σ σ' → Q σ' H'
abbrev DG (X : Cx) (B : Bs) (ws : List Nat) (e : Expr) (g : Tg) : Prop := PG X e (tgOf X.K B ws g)
abbrev DGs (X : Cx) (B : Bs) (ws : List Nat) (e : List Expr) (g : Tgs) : Prop := PGs X e (tgsOf X.K B ws g)
theorem PG.weak {X : Cx} {e : Expr} {t t' : TG} (h : PG X e t) (i : ∀ v σ H Q, t' v σ H Q → t v σ H Q) : PG X e t' := ⟨fun pins s σ H v u Q I r w => h.run pins s σ H v u Q I r (i _ _ _ _ w)⟩
theorem PGs.weak {X : Cx} {e : List Expr} {t t' : TGs} (h : PGs X e t) (i : ∀ v σ H Q, t' v σ H Q → t v σ H Q) : PGs X e t' := ⟨fun pins s σ H v u Q I r w => h.run pins s σ H v u Q I r (i _ _ _ _ w)⟩
theorem dg_name (i : Nat) {x : Str} (hN : X.N.Nodup) (hi : X.N[i]? = some x) (hx : Loc X.env.scope x) (hf : X.fn x = true ∨ X.env.scope.names.lookup x = some .local := by first | exact .inl rfl | exact .inr rfl | assumption) : DG X B [i] (.Name x pos) (asg i) :=
  PG.weak (pg_name hN hi hx hf) fun v σ H Q q => by
    obtain ⟨G, δ, r, δ', R, rv, e, k⟩ := q
    exact k _ G H (Same.refl _) (R.set rv e) Off.set
def nilG : Tgs := fun ds δ => match ds with
  | [] => some δ
  | _ => none
def consG (g : Tg) (h : Tgs) : Tgs := fun ds δ => match ds with
  | d :: r => (g (.fz d) δ).bind (h r)
  | _ => none
theorem dgs_nil : DGs X B [] [] nilG := PGs.weak pgs_nil fun vs σ H Q q => by
  obtain ⟨G, δ, ds, δ', R, t, e, k⟩ := q
  unfold nilG at e
  split at e
  · cases e
    cases t
    exact ⟨rfl, k σ G H (Same.refl _) R (Off.refl _ _)⟩
  · cases e
theorem dgs_cons {e : Expr} {es : List Expr} {g : Tg} {h : Tgs} {w1 w2 : List Nat} (h1 : DG X B w1 e g) (h2 : DGs X B w2 es h) (hs : (assignEach (e :: es) X.env).map (·.2) = assign e X.env :: (assignEach es X.env).map (·.2) := by rfl) : DGs X B (w1 ++ w2) (e :: es) (consG g h) := PGs.weak (pgs_cons h1 h2 hs) fun vs σ H Q q => by
  obtain ⟨G, δ, ds, δ', R, t, e, k⟩ := q
  unfold consG at e
  split at e
  · rename_i d r
    obtain ⟨δ1, e1, e2⟩ := Option.bind_eq_some_iff.mp e
    cases t with
    | cons a b => exact ⟨_, _, rfl, G, δ, .fz d, δ1, R, a, e1, fun σ1 G1 H1 s1 R1 o1 => ⟨G1, δ1, r, δ', R1, TrAll.mono s1 b, e2, fun σ2 G2 H2 s2 R2 o2 => k σ2 G2 H2 (s1.trans s2) R2 (o1.trans o2)⟩⟩
  · cases e
def tupG (n : Nat) (g : Tgs) : Tg := fun v δ => match v with
  | .fz (.tuple ds) => if ds.length = n then g ds δ else none
  | _ => none
theorem dg_tup {es : List Expr} {kk : Nat} {g : Tgs} {n : Nat} {ws : List Nat} (hc : X.calm = true) (h : DGs X B ws es g) (hn : (assignEach es X.env).length = n := by rfl) (hst : (assignEach es X.env).findIdx? (·.1) = none := by rfl) : DG X B ws (.Tuple es kk pos) (tupG n g) := PG.weak (pg_tup hc h hn hst) fun v σ H Q q => by
  obtain ⟨G, δ, r, δ', R, rv, e, k⟩ := q
  unfold tupG at e
  split at e
  · rename_i ds
    split at e
    · rename_i hl
      have rv : Tr X.K G v (.tuple ds) := rv
      cases rv with
      | @tup a xs _ hx t => exact ⟨a, xs, rfl, Same.tup R.same hx, by rw [t.len]; exact hl, G, δ, ds, δ', R, t, e, k⟩
    · cases e
  · cases e
/-- x[i] = .., x a list of one's own -/
theorem RelS.wr {K : Fg} {G H : Hp} {δ : DS} {σ : L2.St} {j : Nat} {b : Bool} {d d' : D} {a : Addr} {o : HO} (R : RelS K B G H δ σ) (q : δ[j]? = some (.own b d)) (e1 : σ[j]? = some (some (V.ref a))) (n : G a = none) (m : if b = true then (j, a) ∈ B.io else (B.H0 a = none ∨ B.lo a)) (rt : Root K G (upd H a o) a d') :
    RelS K B G (upd H a o) (δ.set j (.own b d')) σ := by
  have hl : j < δ.length := (List.getElem?_eq_some_iff.mp q).1
  have other : ∀ {s' : Sl} {i : Nat}, (δ.set j (.own b d'))[i]? = some s' → (i = j ∧ s' = .own b d') ∨ (i ≠ j ∧ δ[i]? = some s') := fun {s' i} z => by
    by_cases hj : i = j
    · subst hj
      rw [List.getElem?_set_self hl] at z
      exact .inl ⟨rfl, (Option.some.inj z).symm⟩
    · rw [List.getElem?_set_ne (Ne.symm hj)] at z
      exact .inr ⟨hj, z⟩
  have sm : Same G (upd H a o) := fun c x z => by
    have hc : c ≠ a := fun w => by rw [w, n] at z; cases z
    rw [upd_ne hc]
    exact R.same _ _ z
  refine ⟨by rw [List.length_set]; exact R.len, sm, R.g0, R.nw, fun c x z hio hlo => ?_, fun c x z => ?_, R.iod, fun i e z => ?_, fun i b' e z => ?_, fun i k b1 b2 c e e' z1 z2 y1 y2 => ?_⟩
  · have hc : c ≠ a := fun w => by
      subst w
      cases b with
      | true => exact hio (j, c) m rfl
      | false =>
        rcases (show B.H0 c = none ∨ B.lo c from m) with m' | m'
        · rw [m'] at z
          cases z
        · exact hlo m'
    rw [upd_ne hc]
    exact R.frame c x z hio hlo
  · by_cases hc : c = a
    · subst hc
      exact ⟨o, upd_same⟩
    · rw [upd_ne hc]
      exact R.dom c x z
  · rcases other z with ⟨_, w⟩ | ⟨_, z'⟩
    · cases w
    · exact R.dat i e z'
  · rcases other z with ⟨hj, w⟩ | ⟨hj, z'⟩
    · cases w
      rw [hj]
      exact ⟨a, e1, n, m, rt⟩
    · obtain ⟨c, f1, f2, f3, f4⟩ := R.own i b' e z'
      have hc : c ≠ a := fun w => by
        subst w
        exact hj (R.inj i j b' b c e d z' q f1 e1)
      exact ⟨c, f1, f2, f3, Root.mono (Same.refl _) (fun x y => by rw [upd_ne hc]; exact y) f4⟩
  · rcases other z1 with ⟨hi, w⟩ | ⟨hi, z1'⟩
    · rcases other z2 with ⟨hk, w'⟩ | ⟨hk, z2'⟩
      · rw [hi, hk]
      · subst hi
        exact R.inj i k b b2 c d e' q z2' y1 y2
    · rcases other z2 with ⟨hk, w'⟩ | ⟨hk, z2'⟩
      · subst hk
        exact R.inj i k b1 b c e d z1' q y1 y2
      · exact R.inj i k b1 b2 c e e' z1' z2' y1 y2
/-- the own list in a slot -/
def listAt (δ : DS) (j : Nat) : Option (Bool × List D) := match δ[j]? with
  | some (.own b (.list ds)) => some (b, ds)
  | _ => none
theorem listAt_some {δ : DS} {j : Nat} {p : Bool × List D} (h : listAt δ j = some p) : δ[j]? = some (.own p.1 (.list p.2)) := by
  unfold listAt at h
  split at h
  · rename_i b ds q
    cases h
    exact q
  · cases h
def subG (j : Nat) (fi : Me Val) : Tg := fun v δ => match v with
  | .sl _ => none
  | .fz d | .ow d => (listAt δ j).bind fun _ => match fi δ with
    | some (.fz (.int k), δ1) => (listAt δ1 j).bind fun p => (ixN p.2.length k).bind fun m => some (δ1.set j (.own p.1 (.list (p.2.set m d))))
    | _ => none
theorem subG_fz {j : Nat} {fi : Me Val} {v : Val} {δ δ' : DS} (h : subG j fi v δ = some δ') : ∃ p0 d k δ1 p m, listAt δ j = some p0 ∧ fzv v = .fz d ∧ fi δ = some (.fz (.int k), δ1) ∧ listAt δ1 j = some p ∧ ixN p.2.length k = some m ∧ δ' = δ1.set j (.own p.1 (.list (p.2.set m d))) := by
  have go : ∀ d, ((listAt δ j).bind fun _ => match fi δ with
    | some (.fz (.int k), δ1) => (listAt δ1 j).bind fun p => (ixN p.2.length k).bind fun m => some (δ1.set j (.own p.1 (.list (p.2.set m d))))
    | _ => none) = some δ' → ∃ p0 k δ1 p m, listAt δ j = some p0 ∧ fi δ = some (.fz (.int k), δ1) ∧ listAt δ1 j = some p ∧ ixN p.2.length k = some m ∧ δ' = δ1.set j (.own p.1 (.list (p.2.set m d))) := fun d h => by
    obtain ⟨p0, e0, h⟩ := Option.bind_eq_some_iff.mp h
    split at h
    · rename_i k δ1 q
      obtain ⟨p, e1, h⟩ := Option.bind_eq_some_iff.mp h
      obtain ⟨m, e2, h⟩ := Option.bind_eq_some_iff.mp h
      cases h
      exact ⟨p0, k, δ1, p, m, e0, q, e1, e2, rfl⟩
    · cases h
  cases v with
  | sl i => cases h
  | fz d =>
    obtain ⟨p0, k, δ1, p, m, h0, h⟩ := go d h
    exact ⟨p0, d, k, δ1, p, m, h0, rfl, h⟩
  | ow d =>
    obtain ⟨p0, k, δ1, p, m, h0, h⟩ := go d h
    exact ⟨p0, d, k, δ1, p, m, h0, rfl, h⟩
theorem dg_sub (j : Nat) {o i : Expr} {fi : Me Val} (ho : PE X o (tVar j)) (hi : DE X B i fi) (ha : ∀ v, assign (.Subscript o i pos) X.env v = (do
      let z ← holding [v] (eval o X.env)
      let k ← holding [v, z] (eval i X.env)
      standAt pos
      holding [v, z, k] (setItem z k v)
      release [v, z, k] []) := by intro _; rfl) : DG X B [] (.Subscript o i pos) (subG j fi) := PG.weak (pg_sub ho hi set_list ha) fun v σ H Q q => by
  obtain ⟨G, δ, r, δ', R, rv, e, k⟩ := q
  obtain ⟨p0, d, n, δ1, p, m, e0, ev, e1, e2, e3, rfl⟩ := subG_fz e
  obtain ⟨G0, s0, R0, rv0⟩ := rv.freeze R
  rw [ev] at rv0
  obtain ⟨a, hx, _⟩ := R0.own j p0.1 _ (listAt_some e0)
  refine ⟨_, hx, G0, δ, _, δ1, R0, e1, fun u G1 H1 s1 R1 v1 => ?_⟩
  have v1 : Tr X.K G1 u (.int n) := v1
  cases v1
  have q0 := listAt_some e2
  obtain ⟨a', f1, f2, f3, f4⟩ := R1.own j p.1 _ q0
  rw [hx] at f1
  cases f1
  cases f4 with
  | @lst xs ds h1 h2 => exact ⟨a, xs, n, m, rfl, rfl, h1, by rw [h2.len]; exact e3, k σ G1 _ (s0.trans s1) (R1.wr q0 hx f2 f3 (.lst upd_same (TrAll.set (Tr.mono s1 rv0) m h2))) (Off.refl _ _)⟩
def asgS (f : Me Val) (g : Tg) : Ss := fun δ => match f δ with
  | some (v, δ1) => (g v δ1).bind fun δ2 => some (.nx, δ2)
  | none => none
theorem ss_asg {tg e : Expr} {f : Me Val} {g : Tg} {ws : List Nat} (he : DE X B e f) (hg : DG X B ws tg g) (hs : swapsWithSole [tg] e pos.line X.env = pure false := by rfl) (hw : swappedStores [tg] e X.env = pure none := by rfl)
    (h1 : (assignEach [tg] X.env).map (·.2) = [assign tg X.env] := by rfl) : SS X B (.Assign [tg] e pos) (asgS f g) := PS.weak (ps_asg he hg hs hw h1) fun E σ H q => by
  obtain ⟨G, δ, fl, δ', R, e, k⟩ := q
  unfold asgS at e
  cases hg : f δ with
  | none => rw [hg] at e; cases e
  | some p =>
    obtain ⟨v, δ1⟩ := p
    rw [hg] at e
    obtain ⟨δ2, e2, e3⟩ := Option.bind_eq_some_iff.mp e
    cases e3
    exact ⟨G, δ, v, δ1, R, hg, fun u G1 H1 s1 R1 v1 => ⟨G1, δ1, v, _, R1, v1, e2, fun σ2 G2 H2 s2 R2 _ => k σ2 G2 H2 (s1.trans s2) R2⟩⟩
/-- a, b = x, y -/
def parS (i j : Nat) (fa : Me (List Val)) : Ss := fun δ => match fa δ with
  | some ([v, w], δ1) => (asg i (fzv v) δ1).bind fun δ2 => (asg j (fzv w) δ2).bind fun δ3 => some (.nx, δ3)
  | _ => none
theorem ss_par {i j : Nat} {x y : Str} {a b : Expr} {fa : Me (List Val)} {px py pt : Pos} {kt k2 pt2} (hc : X.calm = true) (hN : X.N.Nodup) (hi : X.N[i]? = some x) (hj : X.N[j]? = some y) (hij : i ≠ j)
    (hx : X.env.scope.names.lookup x = some .local) (hy : X.env.scope.names.lookup y = some .local) (ha : DA X B [a, b] fa)
    (hw : swappedStores [.Tuple [.Name x px, .Name y py] kt pt] (.Tuple [a, b] k2 pt2) X.env = pure (some [x, y])) (hs : swapsWithSole [.Tuple [.Name x px, .Name y py] kt pt] (.Tuple [a, b] k2 pt2) pos.line X.env = pure false := by rfl) :
    SS X B (.Assign [.Tuple [.Name x px, .Name y py] kt pt] (.Tuple [a, b] k2 pt2) pos) (parS i j fa) := PS.weak (ps_par hc hN hi hj hij hx hy ha hw hs) fun E σ H q => by
  obtain ⟨G, δ, fl, δ', R, e, k⟩ := q
  unfold parS at e
  split at e
  · rename_i v w δ1 hg
    obtain ⟨δ2, e2, e⟩ := Option.bind_eq_some_iff.mp e
    obtain ⟨δ3, e3, e⟩ := Option.bind_eq_some_iff.mp e
    cases e
    refine ⟨G, δ, _, δ1, R, hg, fun vs G1 H1 s1 R1 v1 => ?_⟩
    cases v1 with
    | cons a1 b1 =>
      cases b1 with
      | cons a2 b2 =>
        cases b2
        refine ⟨_, _, rfl, ?_⟩
        have R2 := R1.set a1 e2
        cases w with
        | fz d => exact k _ G1 H1 s1 (R2.set (r := .fz d) a2 e3)
        | ow d => exact k _ G1 H1 s1 (R2.set (r := .fz d) a2 e3)
        | sl d =>
          unfold asg at e3
          split at e3 <;> cases e3
  · cases e
end
end DL
end
section
set_option maxRecDepth 100000
set_option maxHeartbeats 4000000
namespace DL
open PySem PySem.Spec L2
open PyProof.Rows hiding St

section
variable {X : Cx} {B : Bs} {pos : Pos}

/-! ### methods of a list of one's own -/
def MtD (K : Fg) (r : V → List V → Hp → VK → Prop) (h : List D → List D → Option (D × List D)) : Prop := ∀ (G H : Hp) (a : Addr) (xs : List V) (ds : List D) (vs : List V) (as : List D) (q : D × List D) (Q : VK), Same G H → H a = some (.lst xs) → TrAll K G xs ds → TrAll K G vs as → h ds as = some q →
  (∀ v ys, Tr K G v q.1 → TrAll K G ys q.2 → Q v (upd H a (.lst ys))) → r (.ref a) vs H Q
def methM (j : Nat) (h : List D → List D → Option (D × List D)) (fa : Me (List Val)) : Me Val := fun δ => (listAt δ j).bind fun _ => match fa δ with
  | some (rs, δ1) => (fzs rs).bind fun as => (listAt δ1 j).bind fun p => (h p.2 as).bind fun q => some (.fz q.1, δ1.set j (.own p.1 (.list q.2)))
  | none => none
theorem methM_some {j : Nat} {h : List D → List D → Option (D × List D)} {fa : Me (List Val)} {δ δ' : DS} {r : Val} (e : methM j h fa δ = some (r, δ')) :
    ∃ p0 rs δ1 as p q, listAt δ j = some p0 ∧ fa δ = some (rs, δ1) ∧ fzs rs = some as ∧ listAt δ1 j = some p ∧ h p.2 as = some q ∧ r = .fz q.1 ∧ δ' = δ1.set j (.own p.1 (.list q.2)) := by
  unfold methM at e
  obtain ⟨p0, e0, e⟩ := Option.bind_eq_some_iff.mp e
  split at e
  · rename_i rs δ1 e1
    obtain ⟨as, e2, e⟩ := Option.bind_eq_some_iff.mp e
    obtain ⟨p, e3, e⟩ := Option.bind_eq_some_iff.mp e
    obtain ⟨q, e4, e⟩ := Option.bind_eq_some_iff.mp e
    cases e
    exact ⟨p0, rs, δ1, as, p, q, e0, e1, e2, e3, e4, rfl, rfl⟩
  · cases e
theorem meth_of {K : Fg} {j : Nat} {r : V → List V → Hp → VK → Prop} {h : List D → List D → Option (D × List D)} {fa : Me (List Val)} (hd : MtD K r h) : ∀ σ H Q, tOf K B (methM j h fa) σ H Q → tBM K "list" r (tVar j) (taOf K B fa) σ H Q := by
  intro σ H Q hq
  obtain ⟨G, δ, res, δ', R, e, k⟩ := hq
  obtain ⟨p0, rs, δ1, as, p, q, e0, e1, e2, e3, e4, rfl, rfl⟩ := methM_some e
  obtain ⟨a, hx, _, _, rt⟩ := R.own j p0.1 _ (listAt_some e0)
  refine ⟨_, hx, ?_, G, δ, rs, δ1, R, e1, fun vs G1 H1 s1 R1 v1 => ?_⟩
  · cases rt with
    | lst h1 h2 => exact .inl ⟨rfl, _, .inl (.inl h1)⟩
  · have q0 := listAt_some e3
    obtain ⟨a', f1, f2, f3, f4⟩ := R1.own j p.1 _ q0
    rw [hx] at f1
    cases f1
    cases f4 with
    | @lst xs ds h1 h2 => exact hd G1 H1 a xs p.2 vs as q Q R1.same h1 h2 (v1.trees e2) e4 fun v ys t ty => k v G1 _ s1 (R1.wr q0 hx f2 f3 (.lst upd_same ty)) t
theorem de_meth (j : Nat) {name : Str} {id : String} {apos cpos : Pos} {o e : Expr} {es : List Expr} {fa : Me (List Val)} {r : V → List V → Hp → VK → Prop} {h : List D → List D → Option (D × List D)} (pa : PlainAttrs "list") (slot : Slot "list" name id) (hty : typeOf (.builtin id) = pure (.type "method_descriptor")) (hm : MtR X id r) (hd : MtD X.K r h) (ho : PE X o (tVar j)) (ha : DA X B (e :: es) fa)
    (onRow : (apos.endLine == cpos.line) = true := by rfl) (plainBase : attributeBase o name X.env (eval o X.env) = eval o X.env := by rfl) (args1 : starEach (e :: es) X.env = (false, eval e X.env) :: starEach es X.env := by rfl)
    (noStar : (backTo cpos (starEach es X.env)).any (·.1) = false := by rfl) (few : ((backTo cpos (starEach (e :: es) X.env)).all (fun x => !x.1) && (backToKw cpos (keywordEach [] X.env)).all (fun x => x.1.isSome) && decide ((e :: es).length + ([] : List Keyword).length + (if ([] : List Keyword).isEmpty then 0 else 1) < 30)) = true := by rfl) :
    DE X B (.Call (.Attribute o name apos) (e :: es) [] cpos) (methM j h fa) := PE.weak (pe_bm pa slot hty hm ho ha plainBase few onRow args1 noStar) (meth_of hd)
theorem meth0_of {K : Fg} {j : Nat} {r : V → List V → Hp → VK → Prop} {h : List D → List D → Option (D × List D)} (hd : MtD K r h) : ∀ σ H Q, tOf K B (methM j h nilA) σ H Q → tBM0 K "list" r (tVar j) σ H Q := by
  intro σ H Q hq
  obtain ⟨G, δ, res, δ', R, e, k⟩ := hq
  obtain ⟨p0, rs, δ1, as, p, q, e0, e1, e2, e3, e4, rfl, rfl⟩ := methM_some e
  cases e1
  cases e2
  obtain ⟨a, hx, f2, f3, rt⟩ := R.own j p.1 _ (listAt_some e3)
  cases rt with
  | @lst xs ds h1 h2 => exact ⟨_, hx, .inl ⟨rfl, _, .inl (.inl h1)⟩, hd G H a xs p.2 [] [] q Q R.same h1 h2 .nil e4 fun v ys t ty => k v G _ (Same.refl _) (R.wr (listAt_some e3) hx f2 f3 (.lst upd_same ty)) t⟩
theorem de_meth0 (j : Nat) {name : Str} {id : String} {apos cpos : Pos} {o : Expr} {r : V → List V → Hp → VK → Prop} {h : List D → List D → Option (D × List D)} (pa : PlainAttrs "list") (slot : Slot "list" name id) (hty : typeOf (.builtin id) = pure (.type "method_descriptor")) (hm : MtR X id r) (hd : MtD X.K r h) (ho : PE X o (tVar j))
    (hbase : attributeBase o name X.env (eval o X.env) = eval o X.env := by rfl) (hline : (apos.endLine == cpos.line) = true := by rfl) :
    DE X B (.Call (.Attribute o name apos) [] [] cpos) (methM j h nilA) := PE.weak (pe_bm0 pa slot hty hm ho hbase hline) (meth0_of hd)
def appendL (ds as : List D) : Option (D × List D) := match as with
  | [d] => if szOk (ds.length + 1) then some (.none, ds ++ [d]) else none
  | _ => none
theorem md_append {K : Fg} : MtD K rAppend appendL := by
  intro G H a xs ds vs as q Q s h1 t tv hr k
  unfold appendL at hr
  split at hr
  · obtain ⟨c, rfl⟩ := ite_some hr
    cases tv with
    | cons u w =>
      cases w
      exact ⟨a, xs, _, rfl, rfl, h1, by rw [t.len]; exact szOk_le c, k _ _ .non (t.append (.cons u .nil))⟩
  · cases hr
def popL (ds as : List D) : Option (D × List D) := match as with
  | [] => (ds[ds.length - 1]?).bind fun d => some (d, ds.dropLast)
  | _ => none
theorem TrAll.dropLast {K : Fg} {G : Hp} {xs : List V} {ds : List D} (t : TrAll K G xs ds) : TrAll K G xs.dropLast ds.dropLast := by
  rw [List.dropLast_eq_take, List.dropLast_eq_take, t.len]
  exact t.take _
theorem md_pop {K : Fg} : MtD K rPop popL := by
  intro G H a xs ds vs as q Q s h1 t tv hr k
  unfold popL at hr
  split at hr
  · obtain ⟨d, hd, hr⟩ := Option.bind_eq_some_iff.mp hr
    cases hr
    cases tv
    obtain ⟨v, hv, tv⟩ := t.get hd
    exact ⟨a, xs, v, rfl, rfl, h1, by rw [t.len]; exact hv, k _ _ tv t.dropLast⟩
  · cases hr
theorem TrAll.erase {K : Fg} {G : Hp} : ∀ {xs : List V} {ds : List D} (i : Nat), TrAll K G xs ds → TrAll K G (xs.eraseIdx i) (ds.eraseIdx i)
  | _, _, _, .nil => .nil
  | _, _, 0, .cons _ b => b
  | _, _, i + 1, .cons a b => .cons a (TrAll.erase i b)
def popAtL (ds as : List D) : Option (D × List D) := match as with
  | [.int i] => if ixOk i then (seqIndex? i ds.length).bind fun k => (ds[k]?).bind fun d => some (d, ds.eraseIdx k) else none
  | _ => none
theorem md_popAt {K : Fg} : MtD K rPopAt popAtL := by
  intro G H a xs ds vs as q Q s h1 t tv hr k
  unfold popAtL at hr
  split at hr
  · rename_i i
    by_cases c : ixOk i = true
    · rw [if_pos c] at hr
      obtain ⟨j, hj, hr⟩ := Option.bind_eq_some_iff.mp hr
      obtain ⟨d, hd, hr⟩ := Option.bind_eq_some_iff.mp hr
      cases hr
      cases tv with
      | cons u w =>
        cases w
        cases u
        obtain ⟨v, hv, tv⟩ := t.get hd
        have b := ixOk_le c
        exact ⟨a, xs, i, j, v, rfl, rfl, h1, b.1, b.2, by rw [t.len]; exact hj, hv, k _ _ tv (t.erase j)⟩
    · rw [if_neg c] at hr
      cases hr
  · cases hr
def extendL (ds as : List D) : Option (D × List D) := match as with
  | [.list es] => if szOk (ds.length + es.length) then some (.none, ds ++ es) else none
  | _ => none
theorem md_extend {K : Fg} : MtD K rExtend extendL := by
  intro G H a xs ds vs as q Q s h1 t tv hr k
  unfold extendL at hr
  split at hr
  · obtain ⟨c, rfl⟩ := ite_some hr
    cases tv with
    | cons u w =>
      cases w
      cases u with
      | lst g1 g2 => exact ⟨a, _, xs, _, rfl, rfl, h1, s _ _ g1, by rw [t.len, g2.len]; exact szOk_le c, k _ _ .non (t.append g2)⟩
  · cases hr

/-! ### x op= e -/
def augS (i : Nat) (h : D → D → Option Val) (f : Me Val) : Ss := fun δ => match δ[i]? with
  | some (.dat a) => match f δ with
    | some (v, δ1) => (dv δ1 v).bind fun b => (h a b).bind fun r => (asg i r δ1).bind fun δ2 => some (.nx, δ2)
    | none => none
  | _ => none
theorem ss_aug {i : Nat} {x : Str} {e : Expr} {op : Operator} {r : R2} {h : D → D → Option Val} {f : Me Val} {pos' : Pos} (hN : X.N.Nodup) (hi : X.N[i]? = some x) (hx : Loc X.env.scope x) (he : DE X B e f) (ho : OpR X (inplaceOp op) r) (hd : OpD X.K r h) (hf : X.fn x = true ∨ X.env.scope.names.lookup x = some .local := by first | exact .inl rfl | exact .inr rfl | assumption) :
    SS X B (.AugAssign (.Name x pos') op e pos) (augS i h f) := PS.weak (ps_aug (ti := r) hN hi hx he ho hf) fun E σ H q => by
  obtain ⟨G, δ, fl, δ', R, e, k⟩ := q
  unfold augS at e
  split at e
  · rename_i a q0
    split at e
    · rename_i v δ1 q1
      obtain ⟨b, e1, e⟩ := Option.bind_eq_some_iff.mp e
      obtain ⟨res, e2, e⟩ := Option.bind_eq_some_iff.mp e
      obtain ⟨δ2, e3, e⟩ := Option.bind_eq_some_iff.mp e
      cases e
      obtain ⟨x, hx, t⟩ := R.dat i a q0
      refine ⟨x, hx, G, δ, v, δ1, R, q1, fun u G1 H1 s1 R1 v1 => ?_⟩
      refine hd G1 H1 x u a b res _ R1.same (.sc (Tr.mono s1 t)) (v1.view R1 e1) e2 fun w G2 H2 x2 ro => ?_
      have R2 := R1.ex x2
      exact k _ G2 H2 (s1.trans x2.g) (R2.set (ro.rv R1) e3)
    · cases e
  · cases e
def rGetL (K : Fg) : V → V → Hp → VK → Prop := fun x y H Q => ∃ p xs i v, x = .ref p ∧ y = .int i ∧ SqL K H p xs ∧ 0 ≤ i ∧ xs[i.toNat]? = some v ∧ Q v H
theorem get_list : PGet X (rGetL X.K) := by
  intro pins s σ H o i ov iv Q I ro ri h
  obtain ⟨p, xs, n, v, rfl, rfl, hq, h0, hv, q⟩ := h
  cases ro
  obtain ⟨t, rfl⟩ := ri
  obtain ⟨its, r, pl, hz⟩ := I.list hq
  obtain ⟨u, hu, ru⟩ := r.get hv
  have hn : n.toNat < xs.length := (List.getElem?_eq_some_iff.mp hv).1
  have hl : xs.length ≤ 16777216 := by rw [← sizeLine_eq]; exact hz
  exact wpAny_getItem_list pl.isList h0 (by omega) (by simpa using hu) ⟨v, H, I, ru, q⟩
/-- x[i] op= e, x a list of one's own -/
def augSubS (j : Nat) (fi : Me Val) (h : D → D → Option Val) (fe : Me Val) : Ss := fun δ => (listAt δ j).bind fun _ => match fi δ with
  | some (.fz (.int n), δ1) => (listAt δ1 j).bind fun p => if decide (0 ≤ n) then (p.2[n.toNat]?).bind fun a => match fe δ1 with
    | some (v, δ2) => (dv δ2 v).bind fun b => match h a b with
      | some (.fz c) => (listAt δ2 j).bind fun p2 => (ixN p2.2.length n).bind fun m => some (.nx, δ2.set j (.own p2.1 (.list (p2.2.set m c))))
      | _ => none
    | none => none else none
  | _ => none
theorem ss_augSub (j : Nat) {o i e : Expr} {op : Operator} {r : R2} {h : D → D → Option Val} {fi fe : Me Val} {tpos : Pos} (ho : PE X o (tVar j)) (hi : DE X B i fi) (he : DE X B e fe) (hp : OpR X (inplaceOp op) r) (hd : OpD X.K r h)
    (ha : ∀ ov iv new, augStore i ov iv new = (do holding [new, ov, iv] (setItem ov iv new); release [new, ov, iv] []; pure .next) := by intros; rfl) : SS X B (.AugAssign (.Subscript o i tpos) op e pos) (augSubS j fi h fe) := PS.weak (ps_augS (tip := r) ho hi get_list he hp set_list ha) fun E σ H q => by
  obtain ⟨G, δ, fl, δ', R, e, k⟩ := q
  unfold augSubS at e
  obtain ⟨p0, e0, e⟩ := Option.bind_eq_some_iff.mp e
  split at e
  · rename_i n δ1 e1
    obtain ⟨p, e2, e⟩ := Option.bind_eq_some_iff.mp e
    split at e
    · rename_i hn
      obtain ⟨a, e3, e⟩ := Option.bind_eq_some_iff.mp e
      split at e
      · rename_i v δ2 e4
        obtain ⟨b, e5, e⟩ := Option.bind_eq_some_iff.mp e
        split at e
        · rename_i c e6
          obtain ⟨p2, e7, e⟩ := Option.bind_eq_some_iff.mp e
          obtain ⟨m, e8, e⟩ := Option.bind_eq_some_iff.mp e
          cases e
          obtain ⟨ad, hx, _⟩ := R.own j p0.1 _ (listAt_some e0)
          refine ⟨_, hx, G, δ, _, δ1, R, e1, fun u G1 H1 s1 R1 v1 => ?_⟩
          have v1 : Tr X.K G1 u (.int n) := v1
          cases v1
          obtain ⟨a', f1, f2, f3, f4⟩ := R1.own j p.1 _ (listAt_some e2)
          rw [hx] at f1
          cases f1
          cases f4 with
          | @lst xs ds h1 h2 =>
            obtain ⟨y, hy, ty⟩ := h2.get e3
            refine ⟨ad, xs, n, y, rfl, rfl, .inl (.inl h1), of_decide_eq_true hn, hy, ?_⟩
            refine ⟨G1, δ1, v, δ2, R1, e4, fun w G2 H2 s2 R2 v2 => ?_⟩
            refine hd G2 H2 y w a b _ _ R2.same (.sc (Tr.mono s2 ty)) (v2.view R2 e5) e6 fun z G3 H3 x3 ro => ?_
            have ro : Tr X.K G3 z c := ro
            have R3 := R2.ex x3
            have q0 := listAt_some e7
            obtain ⟨a'', f1, f2, f3, f4⟩ := R3.own j p2.1 _ q0
            rw [hx] at f1
            cases f1
            cases f4 with
            | @lst xs2 ds2 g1 g2 =>
              exact ⟨ad, xs2, n, m, rfl, rfl, g1, by rw [g2.len]; exact e8, k σ G3 _ ((s1.trans s2).trans x3.g) (R3.wr q0 hx f2 f3 (.lst upd_same (TrAll.set ro m g2)))⟩
        · cases e
      · cases e
    · cases e
  · cases e
theorem iop_addA : OpR X (inplaceOp .Add) (rI0 fun i j => .int (i + j)) := iop_add
theorem od_iadd {K : Fg} : OpD K (rI0 fun i j => .int (i + j)) addI := od_add
theorem od_isub {K : Fg} : OpD K (rI0 fun i j => .int (i - j)) subI := od_sub

/-! ### for -/
def ItD (K : Fg) (J : It) (ds : List D) (G1 : Hp) : Prop := ∀ (i : Nat) (G H : Hp), Same G1 G → Same G H →
  (∀ d, ds[i]? = some d → J.go i H ∧ ∀ x H', J.yld i H x H' → ∃ G', Ex G H G' H' ∧ Tr K G' x d) ∧ (ds.length ≤ i → J.stop i H)
def tiOf (K : Fg) (B : Bs) (f : Me (List D)) : TI := fun σ H R => ∃ G δ ds δ', RelS K B G H δ σ ∧ f δ = some (ds, δ') ∧
  ∀ J G' H', Same G G' → RelS K B G' H' δ' σ → ItD K J ds G' → R J H'
abbrev DI (X : Cx) (B : Bs) (tg iter : Expr) (f : Me (List D)) : Prop := PI X tg iter (tiOf X.K B f)
theorem PI.weak {X : Cx} {tg iter : Expr} {t t' : TI} (h : PI X tg iter t) (i : ∀ σ H R, t' σ H R → t σ H R) : PI X tg iter t' := ⟨fun pins s σ H R I w => h.run pins s σ H R I (i _ _ _ w)⟩
theorem PI.or {X : Cx} {tg iter : Expr} {t t' : TI} (h : PI X tg iter t) (h' : PI X tg iter t') : PI X tg iter (fun σ H R => t σ H R ∨ t' σ H R) := ⟨fun pins s σ H R I w => w.elim (h.run pins s σ H R I) (h'.run pins s σ H R I)⟩
def forL (gt : Tg) (body : Ss) : List D → Ss
  | [], δ => some (.nx, δ)
  | d :: r, δ => (gt (.fz d) δ).bind fun δ1 => match body δ1 with
    | some (.nx, δ2) => forL gt body r δ2
    | some (.ct, δ2) => forL gt body r δ2
    | some (.bk, δ2) => some (.nx, δ2)
    | some (.rt v, δ2) => some (.rt v, δ2)
    | none => none
def forS (fi : Me (List D)) (gt : Tg) (body : Ss) : Ss := fun δ => match fi δ with
  | some (ds, δ1) => forL gt body ds δ1
  | none => none
theorem for_of {K : Fg} {ws : List Nat} {fi : Me (List D)} {gt : Tg} {body : Ss} : ∀ E σ H, SOf K B (forS fi gt body) E σ H → tFor (tiOf K B fi) (tgOf K B ws gt) (SOf K B body) E σ H := by
  intro E σ H q
  obtain ⟨G, δ, fl, δ', R, e, k⟩ := q
  unfold forS at e
  cases hf : fi δ with
  | none => rw [hf] at e; cases e
  | some p =>
    obtain ⟨ds, δ1⟩ := p
    rw [hf] at e
    refine ⟨G, δ, ds, δ1, R, hf, fun J G1 H1 s1 R1 it => ?_⟩
    refine ⟨fun i m σ H => ∃ G δ, m = ds.length - i ∧ i ≤ ds.length ∧ Same G1 G ∧ RelS K B G H δ σ ∧ forL gt body (ds.drop i) δ = some (fl, δ') ∧ ∀ σ' G' H', Same G G' → RelS K B G' H' δ' σ' → FlPost K B E G' H' δ' σ' fl,
      ⟨ds.length, G1, δ1, rfl, Nat.zero_le _, Same.refl _, R1, e, fun σ' G' H' s R' => k σ' G' H' (s1.trans s) R'⟩, ?_⟩
    rintro i m σ2 H2 ⟨G2, δ2, rfl, hi, s2, R2, e2, k2⟩
    obtain ⟨it1, it2⟩ := it i G2 H2 s2 R2.same
    by_cases hlt : i < ds.length
    · rw [List.drop_eq_getElem_cons hlt] at e2
      obtain ⟨go, yl⟩ := it1 ds[i] (by simp [hlt])
      refine .inr ⟨go, fun σ' H' => ∃ G δ, Same G1 G ∧ RelS K B G H' δ σ' ∧ forL gt body (ds.drop (i + 1)) δ = some (fl, δ') ∧ ∀ σ'' G' H', Same G G' → RelS K B G' H' δ' σ'' → FlPost K B E G' H' δ' σ'' fl, fun σ' H' ⟨G', δ3, a, b, c, d⟩ => ⟨ds.length - (i + 1), by omega, G', δ3, rfl, hlt, a, b, c, d⟩, fun x H3 y3 => ?_⟩
      obtain ⟨G3, x3, t3⟩ := yl x H3 y3
      obtain ⟨δ3, e3, e4⟩ := Option.bind_eq_some_iff.mp e2
      refine ⟨G3, δ2, .fz ds[i], δ3, R2.ex x3, t3, e3, fun σ4 G4 H4 s4 R4 _ => ?_⟩
      cases hb : body δ3 with
      | none => rw [hb] at e4; cases e4
      | some p =>
        obtain ⟨fb, δ5⟩ := p
        rw [hb] at e4
        refine ⟨G4, δ3, fb, δ5, R4, hb, fun σ5 G5 H5 s5 R5 => ?_⟩
        have sg : Same G2 G5 := (x3.g.trans s4).trans s5
        cases fb with
        | nx => exact ⟨G5, δ5, s2.trans sg, R5, e4, fun σ6 G6 H6 s6 R6 => k2 σ6 G6 H6 (sg.trans s6) R6⟩
        | ct => exact ⟨G5, δ5, s2.trans sg, R5, e4, fun σ6 G6 H6 s6 R6 => k2 σ6 G6 H6 (sg.trans s6) R6⟩
        | bk =>
          cases e4
          exact k2 σ5 G5 H5 sg R5
        | rt v =>
          cases e4
          exact k2 σ5 G5 H5 sg R5
    · have hz : i = ds.length := by omega
      subst hz
      rw [List.drop_length] at e2
      cases e2
      exact .inl ⟨it2 (Nat.le_refl _), k2 σ2 G2 H2 (Same.refl _) R2⟩
theorem ss_for {tg iter : Expr} {body : List Stmt} {ws : List Nat} {fi : Me (List D)} {gt : Tg} {g : Ss} (hp : PassesOwn (model X.prog X.w) X.A X.env X.xe) (hc : X.calm = true) (hi : DI X B tg iter fi) (hg : DG X B ws tg gt) (hb : SB X B body g)
    (hs : ∀ x, foldedSetIterable iter X.env x = pure x := by intro _; rfl) : SS X B (.For tg iter body [] pos) (forS fi gt g) := PS.weak (ps_for hp hc hi hg hb hs) for_of

/-! ### while -/
def whileN (c : Me Bool) (body : Ss) : Nat → Ss
  | 0, _ => none
  | n + 1, δ => match c δ with
    | some (true, δ1) => (match body δ1 with
      | some (.nx, δ2) => whileN c body n δ2
      | some (.ct, δ2) => whileN c body n δ2
      | some (.bk, δ2) => some (.nx, δ2)
      | some (.rt v, δ2) => some (.rt v, δ2)
      | none => none)
    | some (false, δ1) => some (.nx, δ1)
    | none => none
theorem while_of {K : Fg} {c : Me Bool} {body : Ss} (n : Nat) : ∀ E σ H, SOf K B (whileN c body n) E σ H → tWhile (ttOf K B c) (SOf K B body) E σ H := by
  intro E σ H q
  obtain ⟨G, δ, fl, δ', R, e, k⟩ := q
  refine ⟨fun m σ H => ∃ G δ, RelS K B G H δ σ ∧ whileN c body m δ = some (fl, δ') ∧ ∀ σ' G' H', Same G G' → RelS K B G' H' δ' σ' → FlPost K B E G' H' δ' σ' fl, ⟨n, G, δ, R, e, k⟩, ?_⟩
  rintro m σ2 H2 ⟨G2, δ2, R2, e2, k2⟩
  cases m with
  | zero => cases e2
  | succ m =>
    unfold whileN at e2
    cases hc : c δ2 with
    | none => rw [hc] at e2; cases e2
    | some p =>
      obtain ⟨b, δ3⟩ := p
      rw [hc] at e2
      refine ⟨G2, δ2, b, δ3, R2, hc, fun G3 H3 s3 R3 => ?_⟩
      cases b with
      | false =>
        cases e2
        exact k2 σ2 G3 H3 s3 R3
      | true =>
        refine ⟨fun σ' H' => ∃ G δ, RelS K B G H' δ σ' ∧ whileN c body m δ = some (fl, δ') ∧ ∀ σ'' G' H', Same G G' → RelS K B G' H' δ' σ'' → FlPost K B E G' H' δ' σ'' fl, fun σ' H' h => ⟨m, Nat.lt_succ_self _, h⟩, ?_⟩
        have e2 : (match body δ3 with
          | some (.nx, δ2) => whileN c body m δ2
          | some (.ct, δ2) => whileN c body m δ2
          | some (.bk, δ2) => some (Fl.nx, δ2)
          | some (.rt v, δ2) => some (Fl.rt v, δ2)
          | none => none) = some (fl, δ') := e2
        cases hb : body δ3 with
        | none => rw [hb] at e2; cases e2
        | some p =>
          obtain ⟨fb, δ5⟩ := p
          rw [hb] at e2
          refine ⟨G3, δ3, fb, δ5, R3, hb, fun σ5 G5 H5 s5 R5 => ?_⟩
          cases fb with
          | nx => exact ⟨G5, δ5, R5, e2, fun σ6 G6 H6 s6 R6 => k2 σ6 G6 H6 ((s3.trans s5).trans s6) R6⟩
          | ct => exact ⟨G5, δ5, R5, e2, fun σ6 G6 H6 s6 R6 => k2 σ6 G6 H6 ((s3.trans s5).trans s6) R6⟩
          | bk =>
            cases e2
            exact k2 σ5 G5 H5 (s3.trans s5) R5
          | rt v =>
            cases e2
            exact k2 σ5 G5 H5 (s3.trans s5) R5
theorem ss_while (n : Nat) {c : Expr} {body : List Stmt} {fc : Me Bool} {g : Ss} (hp : PassesOwn (model X.prog X.w) X.A X.env X.xe) (hc : DT X B c fc) (hb : SB X B body g) : SS X B (.While c body [] pos) (whileN fc g n) := PS.weak (ps_while hp hc hb) (while_of n)
theorem whileN_more {c : Me Bool} {body : Ss} : ∀ {n k : Nat} {δ : DS} {r : Fl × DS}, whileN c body n δ = some r → n ≤ k → whileN c body k δ = some r
  | 0, _, _, _, h, _ => by cases h
  | n + 1, 0, _, _, _, hk => by omega
  | n + 1, k + 1, δ, r, h, hk => by
    unfold whileN at h ⊢
    cases hc : c δ with
    | none => rw [hc] at h; cases h
    | some p =>
      obtain ⟨b, δ1⟩ := p
      rw [hc] at h
      cases b with
      | false => exact h
      | true =>
        cases hb : body δ1 with
        | none => simp only [hb] at h; cases h
        | some p =>
          obtain ⟨fb, δ5⟩ := p
          simp only [hb] at h ⊢
          cases fb with
          | nx => exact whileN_more h (by omega)
          | ct => exact whileN_more h (by omega)
          | bk => exact h
          | rt v => exact h

/-! ### what is walked -/
def itemsOf : Val → Option (List D)
  | .fz (.list ds) => some ds
  | .fz (.tuple ds) => some ds
  | .ow (.list ds) => some ds
  | .fz (.dict [(.none, .list ds)]) => some ds
  | _ => none
def seqM (f : Me Val) : Me (List D) := mb f fun x => mo fun _ => itemsOf x
theorem it_list {K : Fg} {G1 : Hp} {a : Addr} {xs : List V} {ds : List D} (h : SqL K G1 a xs) (t : TrAll K G1 xs ds) : ItD K (Itl K a) ds G1 := fun i G H s sh => by
  have q : SqL K H a xs := (s.trans sh).seq h
  refine ⟨fun d hd => ?_, fun hi => ⟨xs, q, by rw [t.len]; exact hi⟩⟩
  obtain ⟨v, hv, tv⟩ := t.get hd
  refine ⟨⟨xs, v, q, hv⟩, fun x H' y => ?_⟩
  obtain ⟨rfl, y⟩ := y
  have := y xs q
  rw [hv] at this
  cases this
  exact ⟨G, Ex.refl sh, Tr.mono s tv⟩
theorem it_tup {K : Fg} {G1 : Hp} {a : Addr} {xs : List V} {ds : List D} (h : SqT K G1 a xs) (t : TrAll K G1 xs ds) : ItD K (Itt K a) ds G1 := fun i G H s sh => by
  have q : SqT K H a xs := Same.tup (s.trans sh) h
  refine ⟨fun d hd => ?_, fun hi => ⟨xs, q, by rw [t.len]; exact hi⟩⟩
  obtain ⟨v, hv, tv⟩ := t.get hd
  refine ⟨⟨xs, v, q, hv⟩, fun x H' y => ?_⟩
  obtain ⟨rfl, y⟩ := y
  have := y xs q
  rw [hv] at this
  cases this
  exact ⟨G, Ex.refl sh, Tr.mono s tv⟩
theorem Tr.listI {K : Fg} {G : Hp} {v : V} {ds : List D} (h : Tr K G v (.list ds)) : ∃ a xs, v = .ref a ∧ SqL K G a xs ∧ TrAll K G xs ds := by
  cases h with
  | lst a b => exact ⟨_, _, rfl, .inl (.inl a), b⟩
theorem Tr.tupI {K : Fg} {G : Hp} {v : V} {ds : List D} (h : Tr K G v (.tuple ds)) : ∃ a xs, v = .ref a ∧ SqT K G a xs ∧ TrAll K G xs ds := by
  cases h with
  | tup a b => exact ⟨_, _, rfl, a, b⟩
theorem Tr.scrI {K : Fg} {G : Hp} {v : V} {ds : List D} (h : Tr K G v (.dict [(.none, .list ds)])) : ∃ a xs, v = .ref a ∧ SqL K G a xs ∧ TrAll K G xs ds := by
  obtain ⟨a, ns, rfl, hq, rfl⟩ := View.scr' (Same.refl G) (.sc h)
  exact ⟨a, _, rfl, hq, .ints⟩
theorem di_seq {tg l : Expr} {f : Me Val} (hl : DE X B l f) : DI X B tg l (seqM f) := PI.weak (PI.or (pi_list hl) (pi_tup hl)) fun σ H Q q => by
  obtain ⟨G, δ, ds, δ', R, e, k⟩ := q
  obtain ⟨x, δ1, e1, e⟩ := mb_some e
  obtain ⟨e2, rfl⟩ := mo_some e
  unfold itemsOf at e2
  split at e2
  · cases e2
    refine .inl ⟨G, δ, _, _, R, e1, fun v G1 H1 s1 R1 v1 => ?_⟩
    obtain ⟨a, xs, rfl, h, t⟩ := Tr.listI v1
    exact ⟨a, rfl, ⟨xs, R1.same.seq h⟩, k _ G1 H1 s1 R1 (it_list h t)⟩
  · cases e2
    refine .inr ⟨G, δ, _, _, R, e1, fun v G1 H1 s1 R1 v1 => ?_⟩
    obtain ⟨a, xs, rfl, h, t⟩ := Tr.tupI v1
    exact ⟨a, rfl, ⟨xs, Same.tup R1.same h⟩, k _ G1 H1 s1 R1 (it_tup h t)⟩
  · cases e2
    refine .inl ⟨G, δ, _, _, R, e1, fun v G1 H1 s1 R1 v1 => ?_⟩
    obtain ⟨G2, s2, R2, v2⟩ := v1.freeze R1
    obtain ⟨a, xs, rfl, h, t⟩ := Tr.listI v2
    exact ⟨a, rfl, ⟨xs, R2.same.seq h⟩, k _ G2 H1 (s1.trans s2) R2 (it_list h t)⟩
  · cases e2
    refine .inl ⟨G, δ, _, _, R, e1, fun v G1 H1 s1 R1 v1 => ?_⟩
    obtain ⟨a, xs, rfl, h, t⟩ := Tr.scrI v1
    exact ⟨a, rfl, ⟨xs, R1.same.seq h⟩, k _ G1 H1 s1 R1 (it_list h t)⟩
  · cases e2
/-- range -/
def rngD (lo : Int) (n : Nat) : List D := (List.range n).map fun i => .int (lo + (i : Nat))
def rOk (j : Int) : Bool := decide (-(2 ^ 62) ≤ j) && decide (j < 2 ^ 62)
theorem rOk_le {j : Int} (h : rOk j = true) : -(2 ^ 62) ≤ j ∧ j < 2 ^ 62 := by
  unfold rOk at h
  rw [Bool.and_eq_true] at h
  exact ⟨of_decide_eq_true h.1, of_decide_eq_true h.2⟩
theorem it_rng {K : Fg} {G1 : Hp} {lo : Int} {n : Nat} : ItD K (Itr lo n) (rngD lo n) G1 := fun i G H s sh => by
  refine ⟨fun d hd => ?_, fun hi => by unfold rngD at hi; rw [List.length_map, List.length_range] at hi; exact hi⟩
  unfold rngD at hd
  rw [List.getElem?_map] at hd
  obtain ⟨m, hm, rfl⟩ := Option.map_eq_some_iff.mp hd
  have hl := (List.getElem?_eq_some_iff.mp hm).1
  rw [List.length_range] at hl
  rw [List.getElem?_range hl] at hm
  cases hm
  refine ⟨hl, fun x H' y => ?_⟩
  obtain ⟨rfl, rfl⟩ := y
  exact ⟨G, Ex.refl sh, .int _⟩
def rngM1 (fa : Me (List Val)) : Me (List D) := mb fa fun xs => mo fun _ => match xs with
  | [.fz (.int j)] => if rOk j then some (rngD 0 j.toNat) else none
  | _ => none
def rngM2 (fa : Me (List Val)) : Me (List D) := mb fa fun xs => mo fun _ => match xs with
  | [.fz (.int i), .fz (.int j)] => if rOk i && rOk j then some (rngD i (j - i).toNat) else none
  | _ => none
theorem di_range1 {tg a : Expr} {fa : Me (List Val)} {p : Pos} (hg : Gl X "range") (hm : X.mg "range" = none) (ha : DA X B [a] fa) (hs : starEach [a] X.env = [(false, eval a X.env)] := by rfl) : DI X B tg (.Call (.Name "range" p) [a] [] pos) (rngM1 fa) := PI.weak (pi_range1 hg hm ha hs) fun σ H Q q => by
  obtain ⟨G, δ, ds, δ', R, e, k⟩ := q
  obtain ⟨xs, δ1, e1, e⟩ := mb_some e
  obtain ⟨e2, rfl⟩ := mo_some e
  refine ⟨G, δ, _, _, R, e1, fun vs G1 H1 s1 R1 v1 => ?_⟩
  split at e2
  · obtain ⟨c, rfl⟩ := ite_some e2
    cases v1 with
    | cons a b =>
      cases b
      have a : Tr X.K G1 _ (.int _) := a
      cases a
      have c' := rOk_le c
      exact ⟨_, rfl, c'.1, c'.2, k _ G1 H1 s1 R1 it_rng⟩
  · cases e2
theorem di_range2 {tg a b : Expr} {fa : Me (List Val)} {p : Pos} (hg : Gl X "range") (hm : X.mg "range" = none) (ha : DA X B [a, b] fa) (hs : starEach [a, b] X.env = [(false, eval a X.env), (false, eval b X.env)] := by rfl) (hs2 : starEach [b] X.env = [(false, eval b X.env)] := by rfl) : DI X B tg (.Call (.Name "range" p) [a, b] [] pos) (rngM2 fa) := PI.weak (pi_range2 hg hm ha hs hs2) fun σ H Q q => by
  obtain ⟨G, δ, ds, δ', R, e, k⟩ := q
  obtain ⟨xs, δ1, e1, e⟩ := mb_some e
  obtain ⟨e2, rfl⟩ := mo_some e
  refine ⟨G, δ, _, _, R, e1, fun vs G1 H1 s1 R1 v1 => ?_⟩
  split at e2
  · obtain ⟨c, rfl⟩ := ite_some e2
    rw [Bool.and_eq_true] at c
    cases v1 with
    | cons a b =>
      cases b with
      | cons a2 b =>
        cases b
        have a : Tr X.K G1 _ (.int _) := a
        have a2 : Tr X.K G1 _ (.int _) := a2
        cases a
        cases a2
        have c1 := rOk_le c.1
        have c2 := rOk_le c.2
        exact ⟨_, _, rfl, ⟨c1.1, c1.2, c2.1, c2.2⟩, k _ G1 H1 s1 R1 it_rng⟩
  · cases e2
/-- enumerate, zip of lists -/
def enumD (ds : List D) : List D := ds.zipIdx.map fun p => .tuple [.int (p.2 : Nat), p.1]
def zipD (ds es : List D) : List D := (ds.zip es).map fun p => .tuple [p.1, p.2]
theorem it_enum {K : Fg} {G1 : Hp} {a : Addr} {xs : List V} {ds : List D} (h : SqL K G1 a xs) (t : TrAll K G1 xs ds) : ItD K (Ite K a) (enumD ds) G1 := fun i G H s sh => by
  have q : SqL K H a xs := (s.trans sh).seq h
  refine ⟨fun d hd => ?_, fun hi => ⟨xs, q, by unfold enumD at hi; rw [List.length_map, List.length_zipIdx] at hi; rw [t.len]; exact hi⟩⟩
  unfold enumD at hd
  rw [List.getElem?_map, List.getElem?_zipIdx] at hd
  obtain ⟨p, hp, rfl⟩ := Option.map_eq_some_iff.mp hd
  obtain ⟨e, he, rfl⟩ := Option.map_eq_some_iff.mp hp
  obtain ⟨v, hv, tv⟩ := t.get he
  refine ⟨⟨xs, v, q, hv⟩, fun x H' y => ?_⟩
  obtain ⟨T, z, rfl, n, rfl, y⟩ := y
  have := y xs q
  rw [hv] at this
  cases this
  refine ⟨_, Ex.pushF sh _ n, ?_⟩
  rw [Nat.zero_add]
  exact Tr.tup (.inl (.inl upd_same)) (TrAll.mono (same_upd (sh.free n)) (.cons (.int _) (.cons (Tr.mono s tv) .nil)))
theorem it_zip {K : Fg} {G1 : Hp} {a b : Addr} {xs ys : List V} {ds es : List D} (h : SqL K G1 a xs) (t : TrAll K G1 xs ds) (h2 : SqL K G1 b ys) (t2 : TrAll K G1 ys es) : ItD K (Itz K a b) (zipD ds es) G1 := fun i G H s sh => by
  have q : SqL K H a xs := (s.trans sh).seq h
  have q2 : SqL K H b ys := (s.trans sh).seq h2
  refine ⟨fun d hd => ?_, fun hi => ⟨xs, ys, q, q2, by unfold zipD at hi; rw [List.length_map, List.length_zip] at hi; rw [t.len, t2.len]; omega⟩⟩
  unfold zipD at hd
  rw [List.getElem?_map] at hd
  obtain ⟨p, hp, rfl⟩ := Option.map_eq_some_iff.mp hd
  rw [List.getElem?_zip_eq_some] at hp
  obtain ⟨v, hv, tv⟩ := t.get hp.1
  obtain ⟨w, hw, tw⟩ := t2.get hp.2
  refine ⟨⟨xs, ys, v, w, q, q2, hv, hw⟩, fun x H' y => ?_⟩
  obtain ⟨T, z, z2, rfl, n, rfl, y, y2⟩ := y
  have h1 := y xs q
  have h2 := y2 ys q2
  rw [hv] at h1
  rw [hw] at h2
  cases h1
  cases h2
  exact ⟨_, Ex.pushF sh _ n, Tr.tup (.inl (.inl upd_same)) (TrAll.mono (same_upd (sh.free n)) (.cons (Tr.mono s tv) (.cons (Tr.mono s tw) .nil)))⟩
def enumM (fa : Me (List Val)) : Me (List D) := mb fa fun xs => mo fun _ => match xs with
  | [.fz (.list ds)] => some (enumD ds)
  | [.ow (.list ds)] => some (enumD ds)
  | _ => none
def zipM (fa : Me (List Val)) : Me (List D) := mb fa fun xs => mo fun _ => (fzs xs).bind fun as => match as with
  | [.list ds, .list es] => some (zipD ds es)
  | _ => none
theorem di_enum {e : Expr} {fa : Me (List Val)} {p tpos : Pos} {elts : List Expr} {kk : Nat} (hg : Gl X "enumerate") (hm : X.mg "enumerate" = none) (ha : DA X B [e] fa) (hs : starEach [e] X.env = [(false, eval e X.env)] := by rfl) : DI X B (.Tuple elts kk tpos) (.Call (.Name "enumerate" p) [e] [] pos) (enumM fa) := PI.weak (pi_enum hg hm ha hs) fun σ H Q q => by
  obtain ⟨G, δ, ds, δ', R, e, k⟩ := q
  obtain ⟨xs, δ1, e1, e⟩ := mb_some e
  obtain ⟨e2, rfl⟩ := mo_some e
  refine ⟨G, δ, _, _, R, e1, fun vs G1 H1 s1 R1 v1 => ?_⟩
  split at e2
  · cases e2
    cases v1 with
    | cons a b =>
      cases b
      obtain ⟨c, ys, rfl, h, t⟩ := Tr.listI (show Tr X.K G1 _ (.list _) from a)
      exact ⟨c, ys, rfl, R1.same.seq h, k _ G1 H1 s1 R1 (it_enum h t)⟩
  · cases e2
    cases v1 with
    | cons a b =>
      cases b
      obtain ⟨c, ys, rfl, h, t⟩ := Tr.listI (show Tr X.K G1 _ (.list _) from a)
      exact ⟨c, ys, rfl, R1.same.seq h, k _ G1 H1 s1 R1 (it_enum h t)⟩
  · cases e2
theorem di_zip {e e2 : Expr} {fa : Me (List Val)} {p tpos : Pos} {elts : List Expr} {kk : Nat} (hg : Gl X "zip") (hm : X.mg "zip" = none) (ha : DA X B [e, e2] fa)
    (hs : starEach [e, e2] X.env = (false, eval e X.env) :: starEach [e2] X.env := by rfl) (hpl : (backTo pos (starEach [e2] X.env)).any (·.1) = false := by rfl) : DI X B (.Tuple elts kk tpos) (.Call (.Name "zip" p) [e, e2] [] pos) (zipM fa) := PI.weak (pi_zip hg hm ha hs hpl) fun σ H Q q => by
  obtain ⟨G, δ, ds, δ', R, e, k⟩ := q
  obtain ⟨xs, δ1, e1, e⟩ := mb_some e
  obtain ⟨e2, rfl⟩ := mo_some e
  obtain ⟨as, e3, e2⟩ := Option.bind_eq_some_iff.mp e2
  refine ⟨G, δ, _, _, R, e1, fun vs G1 H1 s1 R1 v1 => ?_⟩
  have t := v1.trees e3
  split at e2
  · cases e2
    cases t with
    | cons a b =>
      cases b with
      | cons b c =>
        cases c
        obtain ⟨p, ys, rfl, h, t⟩ := Tr.listI a
        obtain ⟨q, zs, rfl, h2, t2⟩ := Tr.listI b
        exact ⟨p, q, ys, zs, rfl, R1.same.seq h, R1.same.seq h2, k _ G1 H1 s1 R1 (it_zip h t h2 t2)⟩
  · cases e2
end
end DL
end
section
set_option maxRecDepth 100000
set_option maxHeartbeats 4000000
namespace DL
open PySem PySem.Spec L2
open PyProof.Rows hiding St

/-! ### comprehensions -/
def wipeD (δ : DS) : List Nat → DS
  | [] => δ
  | v :: vs => (wipeD δ vs).set v .un
def backD (δ0 δ : DS) : List Nat → DS
  | [] => δ
  | v :: vs => (backD δ0 δ vs).set v (δ0.getD v .un)
def plainAt (δ : DS) (v : Nat) : Bool := match δ[v]? with
  | some (.own _ _) => false
  | _ => true
theorem wipeD_len (δ : DS) : ∀ vs : List Nat, (wipeD δ vs).length = δ.length
  | [] => rfl
  | v :: vs => by unfold wipeD; rw [List.length_set, wipeD_len δ vs]
theorem backD_len (δ0 δ : DS) : ∀ vs : List Nat, (backD δ0 δ vs).length = δ.length
  | [] => rfl
  | v :: vs => by unfold backD; rw [List.length_set, backD_len δ0 δ vs]
theorem wipeD_get {δ : DS} {j : Nat} {s : Sl} (h : s ≠ .un) : ∀ {vs : List Nat}, (wipeD δ vs)[j]? = some s → δ[j]? = some s ∧ j ∉ vs
  | [], q => ⟨q, by simp⟩
  | v :: vs, q => by
    unfold wipeD at q
    by_cases hv : v = j
    · subst hv
      by_cases hl : v < (wipeD δ vs).length
      · rw [List.getElem?_set_self hl] at q
        cases q
        exact (h rfl).elim
      · rw [List.getElem?_eq_none (by simpa using hl)] at q
        cases q
    · rw [List.getElem?_set_ne hv] at q
      obtain ⟨a, b⟩ := wipeD_get h q
      exact ⟨a, by simp only [List.mem_cons, not_or]; exact ⟨fun e => hv e.symm, b⟩⟩
theorem wipeD_dat {δ : DS} {j : Nat} {d : D} {vs : List Nat} (q : (wipeD δ vs)[j]? = some (.dat d)) : δ[j]? = some (.dat d) ∧ j ∉ vs := wipeD_get (by intro z; cases z) q
theorem wipeD_own {δ : DS} {j : Nat} {b : Bool} {d : D} {vs : List Nat} (q : (wipeD δ vs)[j]? = some (.own b d)) : δ[j]? = some (.own b d) ∧ j ∉ vs := wipeD_get (by intro z; cases z) q
theorem backD_get {δ0 δ : DS} {j : Nat} {s : Sl} : ∀ {vs : List Nat}, (backD δ0 δ vs)[j]? = some s → (j ∉ vs ∧ δ[j]? = some s) ∨ (j ∈ vs ∧ (δ0[j]? = some s ∨ s = .un))
  | [], q => .inl ⟨by simp, q⟩
  | v :: vs, q => by
    unfold backD at q
    by_cases hv : v = j
    · subst hv
      by_cases hl : v < (backD δ0 δ vs).length
      · rw [List.getElem?_set_self hl] at q
        refine .inr ⟨List.mem_cons_self, ?_⟩
        rw [List.getD_eq_getElem?_getD] at q
        cases hz : δ0[v]? with
        | none =>
          rw [hz] at q
          cases q
          exact .inr rfl
        | some t =>
          rw [hz] at q
          cases q
          exact .inl rfl
      · rw [List.getElem?_eq_none (by simpa using hl)] at q
        cases q
    · rw [List.getElem?_set_ne hv] at q
      rcases backD_get q with ⟨a, b⟩ | ⟨a, b⟩
      · exact .inl ⟨by simp only [List.mem_cons, not_or]; exact ⟨fun e => hv e.symm, a⟩, b⟩
      · exact .inr ⟨List.mem_cons_of_mem _ a, b⟩
theorem wipe_in {σ : L2.St} {i : Nat} (hl : i < σ.length) : ∀ {vs : List Nat}, i ∈ vs → (wipe σ vs)[i]? = some none
  | v :: vs, h => by
    unfold wipe
    by_cases hv : v = i
    · subst hv
      rw [List.getElem?_set_self (by rw [wipe_length]; exact hl)]
    · rw [List.getElem?_set_ne hv]
      exact wipe_in hl ((List.mem_cons.mp h).resolve_left fun e => hv e.symm)
theorem wipe_off {σ σ2 : L2.St} {ws vs : List Nat} (h : Off ws (wipe σ vs) σ2) (hw : ∀ i ∈ ws, i ∈ vs) : wipe σ2 vs = wipe σ vs := by
  have hl : σ2.length = σ.length := h.1.trans (wipe_length σ vs)
  apply List.ext_getElem?
  intro i
  by_cases hi : i ∈ vs
  · by_cases hz : i < σ.length
    · rw [wipe_in hz hi, wipe_in (by rw [hl]; exact hz) hi]
    · rw [List.getElem?_eq_none (by rw [wipe_length]; omega), List.getElem?_eq_none (by rw [wipe_length]; omega)]
  · rw [wipe_out hi, h.2 i (fun z => hi (hw i z))]
section
variable {K : Fg} {B : Bs} {G H G' H' : Hp} {δ δ' : DS} {σ σ' : L2.St}
theorem RelS.agree (vs : List Nat) (R : RelS K B G H δ σ) (h : σ'.length = σ.length) (e : ∀ i, i ∉ vs → σ'[i]? = σ[i]?) : RelS K B G H (wipeD δ vs) σ' where
  len := by rw [wipeD_len, h]; exact R.len
  same := R.same
  g0 := R.g0
  nw := R.nw
  frame := R.frame
  dom := R.dom
  iod := R.iod
  dat := fun i d q => by
    obtain ⟨a, b⟩ := wipeD_dat q
    rw [e i b]
    exact R.dat i d a
  own := fun i b d q => by
    obtain ⟨a, hb⟩ := wipeD_own q
    rw [e i hb]
    exact R.own i b d a
  inj := fun i j b b' a d d' q1 q2 z1 z2 => by
    obtain ⟨a1, h1⟩ := wipeD_own q1
    obtain ⟨a2, h2⟩ := wipeD_own q2
    rw [e i h1] at z1
    rw [e j h2] at z2
    exact R.inj i j b b' a d d' a1 a2 z1 z2
theorem RelS.back {vs : List Nat} {δ1 : DS} (R1 : RelS K B G H δ1 σ) (R : RelS K B G' H' δ (wipe σ vs)) (s : Same G G') (hp : ∀ v ∈ vs, plainAt δ1 v = true) : RelS K B G' H' (backD δ1 δ vs) σ where
  len := by rw [backD_len, R.len, wipe_length]
  same := R.same
  g0 := R.g0
  nw := R.nw
  frame := R.frame
  dom := R.dom
  iod := R.iod
  dat := fun i d q => by
    rcases backD_get q with ⟨a, b⟩ | ⟨a, b | b⟩
    · obtain ⟨v, e, t⟩ := R.dat i d b
      rw [wipe_out a] at e
      exact ⟨v, e, t⟩
    · obtain ⟨v, e, t⟩ := R1.dat i d b
      exact ⟨v, e, Tr.mono s t⟩
    · cases b
  own := fun i b d q => by
    rcases backD_get q with ⟨a, c⟩ | ⟨a, c | c⟩
    · obtain ⟨v, e, t⟩ := R.own i b d c
      rw [wipe_out a] at e
      exact ⟨v, e, t⟩
    · have := hp i a
      unfold plainAt at this
      rw [c] at this
      cases this
    · cases c
  inj := fun i j b b' a d d' q1 q2 z1 z2 => by
    rcases backD_get q1 with ⟨a1, c1⟩ | ⟨a1, c1 | c1⟩
    · rcases backD_get q2 with ⟨a2, c2⟩ | ⟨a2, c2 | c2⟩
      · rw [← wipe_out a1] at z1
        rw [← wipe_out a2] at z2
        exact R.inj i j b b' a d d' c1 c2 z1 z2
      · have := hp j a2
        unfold plainAt at this
        rw [c2] at this
        cases this
      · cases c2
    · have := hp i a1
      unfold plainAt at this
      rw [c1] at this
      cases this
    · cases c1
/-- a block's base -/
def blkB (B : Bs) (G H : Hp) (δ : DS) (σ : L2.St) : Bs := ⟨G, H, B.io, fun a => ∃ (i : Nat) (d : D), δ[i]? = some (.own false d) ∧ σ[i]? = some (some (V.ref a))⟩
theorem RelS.blk (R : RelS K B G H δ σ) : RelS K (blkB B G H δ σ) G H δ σ where
  len := R.len
  same := R.same
  g0 := Same.refl _
  nw := fun a o e n => by
    have n : G a = none := n
    rw [n] at e
    cases e
  frame := fun _ _ e _ _ => e
  dom := fun _ o e => ⟨o, e⟩
  iod := fun p hp => by
    obtain ⟨o, e⟩ := R.iod p hp
    exact R.dom _ _ e
  dat := R.dat
  own := fun i b d q => by
    obtain ⟨a, e, n, m, r⟩ := R.own i b d q
    refine ⟨a, e, n, ?_, r⟩
    cases b with
    | true => exact m
    | false => exact .inr ⟨i, d, q, e⟩
  inj := R.inj
theorem RelS.lo (R : RelS K B G H δ σ) {a : Addr} (h : (blkB B G H δ σ).lo a) : B.H0 a = none ∨ B.lo a := by
  obtain ⟨i, d, q, e⟩ := h
  obtain ⟨a', e', _, m, _⟩ := R.own i false d q
  rw [e] at e'
  cases e'
  exact m
theorem RelS.rebase (R : RelS K B G H δ σ) (R3 : RelS K (blkB B G H δ σ) G' H' δ' σ') : RelS K B G' H' δ' σ' where
  len := R3.len
  same := R3.same
  g0 := R.g0.trans R3.g0
  nw := fun a o e n => by
    cases q : G a with
    | some u => exact R.nw a u q n
    | none =>
      rcases R3.nw a o e q with z | z
      · exact .inl (R.none0 z)
      · exact R.lo z
  frame := fun b o e n l => R3.frame b o (R.frame b o e n l) n fun z => by
    rcases R.lo z with w | w
    · rw [w] at e
      cases e
    · exact l w
  dom := fun b o e => by
    obtain ⟨o', e'⟩ := R.dom b o e
    exact R3.dom b o' e'
  iod := R.iod
  dat := R3.dat
  own := fun i b d q => by
    obtain ⟨a, e, n, m, r⟩ := R3.own i b d q
    refine ⟨a, e, n, ?_, r⟩
    cases b with
    | true => exact m
    | false =>
      rcases (show H a = none ∨ _ from m) with z | z
      · exact .inl (R.none0 z)
      · exact R.lo z
  inj := R3.inj
/-- an object apart is written -/
theorem RelS.apart {p : Addr} {o : HO} (R : RelS K B G H δ σ) (g : G p = none) (h0 : B.H0 p = none) (hr : ∀ (i : Nat) (b : Bool) (d : D), δ[i]? = some (.own b d) → σ[i]? ≠ some (some (V.ref p))) : RelS K B G (upd H p o) δ σ where
  len := R.len
  same := fun a x e => by
    have ha : a ≠ p := fun z => by rw [z, g] at e; cases e
    rw [upd_ne ha]
    exact R.same _ _ e
  g0 := R.g0
  nw := R.nw
  frame := fun b x e n l => by
    have ha : b ≠ p := fun z => by rw [z, h0] at e; cases e
    rw [upd_ne ha]
    exact R.frame b x e n l
  dom := fun b x e => by
    have ha : b ≠ p := fun z => by rw [z, h0] at e; cases e
    rw [upd_ne ha]
    exact R.dom b x e
  iod := R.iod
  dat := R.dat
  own := fun i b d q => by
    obtain ⟨a, e, n, m, r⟩ := R.own i b d q
    have ha : a ≠ p := fun z => hr i b d q (z ▸ e)
    exact ⟨a, e, n, m, Root.mono (Same.refl _) (fun x y => by rw [upd_ne ha]; exact y) r⟩
  inj := R.inj
end

def treeV : Val → Option D
  | .fz d => some d
  | .ow d => some d
  | .sl _ => none
def compL (gt : Tg) (ft : Me Bool) (fe : Me Val) (vs : List Nat) : List D → DS → Option (List D × DS)
  | [], δ => some ([], δ)
  | d :: r, δ => (gt (.fz d) δ).bind fun δ1 => match ft δ1 with
    | some (true, δ2) => (match fe δ2 with
      | some (v, δ3) => (treeV v).bind fun e => (compL gt ft fe vs r (wipeD δ3 vs)).bind fun p => some (e :: p.1, p.2)
      | none => none)
    | some (false, δ2) => compL gt ft fe vs r (wipeD δ2 vs)
    | none => none
def compM (fi : Me (List D)) (gt : Tg) (ft : Me Bool) (fe : Me Val) (vs : List Nat) : Me Val := fun δ => match fi δ with
  | some (ds, δ1) => if vs.all (plainAt δ1) then (compL gt ft fe vs ds (wipeD δ1 vs)).bind fun p => if szOk p.1.length then some (.ow (.list p.1), backD δ1 p.2 vs) else none else none
  | none => none
def toE (K : Fg) (f : Me Val) : TE := fun σ H Q => ∃ B, tOf K B f σ H Q
def ttE (K : Fg) (f : Me Bool) : TT := fun σ H Q => ∃ B, ttOf K B f σ H Q
def tgE (K : Fg) (ws : List Nat) (g : Tg) : TG := fun v σ H Q => ∃ B, tgOf K B ws g v σ H Q
theorem pe_E {X : Cx} {e : Expr} {f : Me Val} (h : ∀ B, DE X B e f) : PE X e (toE X.K f) := ⟨fun pins s σ H Q I ⟨B, w⟩ => (h B).run pins s σ H Q I w⟩
theorem pt_E {X : Cx} {e : Expr} {f : Me Bool} (h : ∀ B, DT X B e f) : PT X e (ttE X.K f) := ⟨fun pins s σ H Q I ⟨B, w⟩ => (h B).run pins s σ H Q I w⟩
theorem pg_E {X : Cx} {e : Expr} {ws : List Nat} {g : Tg} (h : ∀ B, DG X B ws e g) : PG X e (tgE X.K ws g) := ⟨fun pins s σ H v u Q I r ⟨B, w⟩ => (h B).run pins s σ H v u Q I r w⟩
abbrev DTs (X : Cx) (es : List Expr) (f : Me Bool) : Prop := PTs X es (ttE X.K f)
theorem dts_nil {X : Cx} : DTs X [] (mr true) := ⟨fun pins s σ H Q I w => pts_nil.run pins s σ H Q I (by
  obtain ⟨B, G, δ, r, δ', R, e, k⟩ := w
  cases e
  exact k G H (Same.refl _) R)⟩
theorem dts_one {X : Cx} {e : Expr} {f : Me Bool} (h : ∀ B, DT X B e f) : DTs X [e] f := pts_one (pt_E h)
section
variable {X : Cx} {B : Bs} {pos : Pos}
theorem lc_of {K : Fg} {ws vs : List Nat} {fi : Me (List D)} {gt : Tg} {ft : Me Bool} {fe : Me Val} (hw : ∀ i ∈ ws, i ∈ vs) : ∀ σ H Q, tOf K B (compM fi gt ft fe vs) σ H Q → tLc (tiOf K B fi) (tgE K ws gt) (ttE K ft) (toE K fe) vs σ H Q := by
  intro σ H Q q
  obtain ⟨G, δ, res, δ', R, e, k⟩ := q
  unfold compM at e
  cases hf : fi δ with
  | none => rw [hf] at e; cases e
  | some p =>
    obtain ⟨ds, δ1⟩ := p
    rw [hf] at e
    have e : (if vs.all (plainAt δ1) = true then (compL gt ft fe vs ds (wipeD δ1 vs)).bind fun p => if szOk p.1.length then some (Val.ow (.list p.1), backD δ1 p.2 vs) else none else none) = some (res, δ') := e
    by_cases hpl : vs.all (plainAt δ1) = true
    · rw [if_pos hpl] at e
      obtain ⟨⟨fin, δf⟩, e1, e⟩ := Option.bind_eq_some_iff.mp e
      obtain ⟨hsz, e⟩ := ite_some e
      cases e
      have hpl' : ∀ v ∈ vs, plainAt δ1 v = true := List.all_eq_true.mp hpl
      refine ⟨G, δ, ds, δ1, R, hf, fun J G1 H1 s1 R1 it D hD => ?_⟩
      have R0 : RelS K B G1 H1 (wipeD δ1 vs) (wipe σ vs) := R1.agree vs (wipe_length σ vs) fun i hi => wipe_out hi
      have hD0 : B.H0 D = none := R1.none0 hD
      have hDio : ∀ p ∈ B.io, p.2 ≠ D := fun p hp z => by
        obtain ⟨o, e⟩ := R1.iod p hp
        rw [z, hD0] at e
        cases e
      refine ⟨fun i m H => ∃ G δ acc as rest, m = ds.length - i ∧ i ≤ ds.length ∧ Same G1 G ∧ RelS K B G H δ (wipe σ vs) ∧ G D = none ∧ (∀ (i : Nat) (b : Bool) (d : DL.D), δ[i]? = some (.own b d) → (wipe σ vs)[i]? ≠ some (some (V.ref D))) ∧ H D = some (.lst acc) ∧ TrAll K G acc as ∧ compL gt ft fe vs (ds.drop i) δ = some (rest, δf) ∧ as ++ rest = fin,
        ⟨ds.length, G1, wipeD δ1 vs, [], [], fin, rfl, Nat.zero_le _, Same.refl _, R0.ex (Ex.push R0.same _ hD), R0.same.free hD, fun i b d q z => ?_, upd_same, .nil, e1, rfl⟩, ?_⟩
      · obtain ⟨a, e2, _, _, rt⟩ := R0.own i b d q
        rw [z] at e2
        cases e2
        obtain ⟨o, e3⟩ := rt.ex
        rw [hD] at e3
        cases e3
      rintro i m H2 ⟨G2, δ2, acc, as, rest, rfl, hi, s2, R2, g2, rt2, hacc, tacc, ec, efin⟩
      obtain ⟨it1, it2⟩ := it i G2 H2 s2 R2.same
      by_cases hlt : i < ds.length
      · rw [List.drop_eq_getElem_cons hlt] at ec
        obtain ⟨go, yl⟩ := it1 ds[i] (by simp [hlt])
        refine .inr ⟨go, fun H => ∃ G δ acc as rest, Same G1 G ∧ RelS K B G H δ (wipe σ vs) ∧ G D = none ∧ (∀ (i : Nat) (b : Bool) (d : DL.D), δ[i]? = some (.own b d) → (wipe σ vs)[i]? ≠ some (some (V.ref D))) ∧ H D = some (.lst acc) ∧ TrAll K G acc as ∧ compL gt ft fe vs (ds.drop (i + 1)) δ = some (rest, δf) ∧ as ++ rest = fin,
          fun H' ⟨G', δ3, acc', as', rest', a, b, c, d, e, f, g, h⟩ => ⟨ds.length - (i + 1), by omega, G', δ3, acc', as', rest', rfl, hlt, a, b, c, d, e, f, g, h⟩, fun x H3 y3 => ?_⟩
        obtain ⟨G3, x3, t3⟩ := yl x H3 y3
        have R3 := R2.ex x3
        have g3 : G3 D = none := by
          cases q : G3 D with
          | none => rfl
          | some o =>
            have := x3.nw D o q g2
            rw [hacc] at this
            cases this
        have h3 : H3 D = some (.lst acc) := x3.h _ _ hacc
        obtain ⟨δ4, e4, e5⟩ := Option.bind_eq_some_iff.mp ec
        have noLo : ¬ (blkB B G3 H3 δ2 (wipe σ vs)).lo D := fun ⟨j, d, q, z⟩ => rt2 j false d q z
        -- what holds of D behind the block's steps
        have keepD : ∀ {G4 H4 : Hp} {δ4 : DS} {σ4 : L2.St}, RelS K (blkB B G3 H3 δ2 (wipe σ vs)) G4 H4 δ4 σ4 → G4 D = none ∧ H4 D = some (.lst acc) ∧ (∀ (i : Nat) (b : Bool) (d : DL.D), δ4[i]? = some (.own b d) → σ4[i]? ≠ some (some (V.ref D))) := fun {G4 H4 δ4 σ4} R4 => by
          refine ⟨?_, R4.frame D _ h3 hDio noLo, fun j b d q z => ?_⟩
          · cases q : G4 D with
            | none => rfl
            | some o =>
              rcases R4.nw D o q g3 with w | w
              · have w : H3 D = none := w
                rw [h3] at w
                cases w
              · exact (noLo w).elim
          · obtain ⟨a, e6, _, m, _⟩ := R4.own j b d q
            rw [z] at e6
            cases e6
            cases b with
            | true => exact hDio _ (show (j, D) ∈ B.io from m) rfl
            | false =>
              rcases (show H3 D = none ∨ _ from m) with w | w
              · rw [h3] at w
                cases w
              · exact noLo w
        refine ⟨_, G3, δ2, .fz ds[i], δ4, R3.blk, t3, e4, fun σ4 G4 H4 s4 R4 off4 => ⟨wipe_off off4 hw, ?_⟩⟩
        have wp : wipe σ4 vs = wipe σ vs := wipe_off off4 hw
        have offw : ∀ j, j ∉ vs → (wipe σ vs)[j]? = σ4[j]? := fun j hj => by rw [← wp, wipe_out hj]
        have lenw : (wipe σ vs).length = σ4.length := by rw [← wp, wipe_length]
        cases hft : ft δ4 with
        | none => rw [hft] at e5; cases e5
        | some p =>
          obtain ⟨b, δ5⟩ := p
          rw [hft] at e5
          refine ⟨_, G4, δ4, b, δ5, R4, hft, fun G5 H5 s5 R5 => ?_⟩
          cases b with
          | false =>
            have e5 : compL gt ft fe vs (ds.drop (i + 1)) (wipeD δ5 vs) = some (rest, δf) := e5
            obtain ⟨k1, k2, k3⟩ := keepD R5
            refine (show (if false = true then _ else _) from iteF ?_)
            refine ⟨G5, wipeD δ5 vs, acc, as, rest, ((s2.trans x3.g).trans s4).trans s5, (R3.rebase R5).agree vs lenw offw, k1, fun j b d q z => ?_, k2, TrAll.mono ((x3.g.trans s4).trans s5) tacc, e5, efin⟩
            obtain ⟨q1, q2⟩ := wipeD_own q
            rw [offw j q2] at z
            exact k3 j b d q1 z
          | true =>
            have e5 : (match fe δ5 with
              | some (v, δ3) => (treeV v).bind fun e => (compL gt ft fe vs (ds.drop (i + 1)) (wipeD δ3 vs)).bind fun p => some (e :: p.1, p.2)
              | none => none) = some (rest, δf) := e5
            cases hfe : fe δ5 with
            | none => rw [hfe] at e5; cases e5
            | some p =>
              obtain ⟨v, δ6⟩ := p
              rw [hfe] at e5
              obtain ⟨y, ey, e5⟩ := Option.bind_eq_some_iff.mp e5
              obtain ⟨⟨rest', δf'⟩, e6, e5⟩ := Option.bind_eq_some_iff.mp e5
              cases e5
              refine (show (if true = true then _ else _) from iteT ?_)
              refine ⟨_, G5, δ5, v, δ6, R5, hfe, fun u G6 H6 s6 R6 v6 => ?_⟩
              obtain ⟨G7, s7, R7, v7⟩ := v6.freeze R6
              have ty : Tr K G7 u y := by
                cases v with
                | fz d => cases ey; exact v7
                | ow d => cases ey; exact v7
                | sl j => cases ey
              obtain ⟨k1, k2, k3⟩ := keepD R7
              have sg : Same G2 G7 := (((x3.g.trans s4).trans s5).trans s6).trans s7
              have hsz' : acc.length < sizeLine := by
                have h1 := szOk_le hsz
                have h2 : (as ++ y :: rest').length ≤ sizeLine := by rw [efin]; exact h1
                rw [List.length_append, List.length_cons, ← tacc.len] at h2
                omega
              have k3' : ∀ (j : Nat) (b : Bool) (d : DL.D), (wipeD δ6 vs)[j]? = some (.own b d) → (wipe σ vs)[j]? ≠ some (some (V.ref D)) := fun j b d q z => by
                obtain ⟨q1, q2⟩ := wipeD_own q
                rw [offw j q2] at z
                exact k3 j b d q1 z
              refine ⟨acc, k2, hsz', G7, wipeD δ6 vs, acc ++ [u], as ++ [y], rest', s2.trans sg, ((R3.rebase R7).agree vs lenw offw).apart k1 hD0 k3', k1, k3', upd_same, (TrAll.mono sg tacc).append (.cons ty .nil), e6, by rw [List.append_assoc]; exact efin⟩
      · have hz : i = ds.length := by omega
        subst hz
        rw [List.drop_length] at ec
        cases ec
        rw [List.append_nil] at efin
        subst efin
        refine .inl ⟨it2 (Nat.le_refl _), ?_⟩
        refine k _ G2 H2 (s1.trans s2) (R1.back R2 s2 hpl') ⟨D, rfl, g2, .inl hD0, .lst hacc tacc, fun j b d q z => ?_⟩
        rcases backD_get q with ⟨a, c⟩ | ⟨a, c | c⟩
        · rw [← wipe_out a] at z
          exact rt2 j b d c z
        · have := hpl' j a
          unfold plainAt at this
          rw [c] at this
          cases this
        · cases c
    · rw [if_neg hpl] at e
      cases e
theorem de_lc {elt tg iter : Expr} {ifs : List Expr} {scope : Scope} {own : List (Str × Nat)} {ws : List Nat} {fi : Me (List D)} {gt : Tg} {ft : Me Bool} {fe : Me Val} (hc : X.calm = true) (hN : X.N.Nodup) (hi : DI X B tg iter fi) (ok : BlkOk X.N X.env.scope scope own)
    (hw : ∀ i ∈ ws, i ∈ own.map (·.2))
    (hg : ∀ (s : Shared) (H : Hp) (C : Addr) (cl : List (Str × Addr)) (fp : List Addr) (B : Bs), DG (X.blk s H scope (compEnvC scope cl C X.env) fp) B ws tg gt)
    (ht : ∀ (s : Shared) (H : Hp) (C : Addr) (cl : List (Str × Addr)) (fp : List Addr), DTs (X.blk s H scope (compEnvC scope cl C X.env) fp) ifs ft)
    (he : ∀ (s : Shared) (H : Hp) (C : Addr) (cl : List (Str × Addr)) (fp : List Addr) (B : Bs), DE (X.blk s H scope (compEnvC scope cl C X.env) fp) B elt fe)
    (hs : ∀ x, foldedSetIterable iter X.env x = pure x := by intro _; rfl) :
    DE X B (.ListComp elt [⟨tg, iter, ifs, 0⟩] scope pos) (compM fi gt ft fe (own.map (·.2))) :=
  PE.weak (pe_lc hc hN hi ok (fun s H C cl fp => pg_E (hg s H C cl fp)) ht (fun s H C cl fp => pe_E (he s H C cl fp)) hs) (lc_of hw)
/-- y = [..] with a plain local y -/
theorem ss_setLc {i : Nat} {y : Str} {py spos : Pos} {elt tg iter : Expr} {ifs : List Expr} {scope : Scope} {own : List (Str × Nat)} {ws : List Nat} {fi : Me (List D)} {gt : Tg} {ft : Me Bool} {fe : Me Val} (hc : X.calm = true) (hN : X.N.Nodup) (hy : X.N[i]? = some y) (hyl : X.env.scope.names.lookup y = some .local)
    (hsw : swapsWith (.ListComp elt [⟨tg, iter, ifs, 0⟩] scope pos) (some (.Name y py)) spos.line X.env = pure true) (hi : DI X B tg iter fi) (ok : BlkOk X.N X.env.scope scope own)
    (hw : ∀ i ∈ ws, i ∈ own.map (·.2))
    (hg : ∀ (s : Shared) (H : Hp) (C : Addr) (cl : List (Str × Addr)) (fp : List Addr) (B : Bs), DG (X.blk s H scope (compEnvC scope cl C X.env) fp) B ws tg gt)
    (ht : ∀ (s : Shared) (H : Hp) (C : Addr) (cl : List (Str × Addr)) (fp : List Addr), DTs (X.blk s H scope (compEnvC scope cl C X.env) fp) ifs ft)
    (he : ∀ (s : Shared) (H : Hp) (C : Addr) (cl : List (Str × Addr)) (fp : List Addr) (B : Bs), DE (X.blk s H scope (compEnvC scope cl C X.env) fp) B elt fe)
    (hs : ∀ x, foldedSetIterable iter X.env x = pure x := by intro _; rfl) :
    SS X B (.Assign [.Name y py] (.ListComp elt [⟨tg, iter, ifs, 0⟩] scope pos) spos) (setS i (compM fi gt ft fe (own.map (·.2)))) :=
  PS.weak (ps_setLc hc hN hy hyl hsw hi ok (fun s H C cl fp => pg_E (hg s H C cl fp)) ht (fun s H C cl fp => pe_E (he s H C cl fp)) hs) fun E σ H q => by
    refine lc_of (B := B) (gt := gt) (ft := ft) (fe := fe) hw σ H _ ?_
    obtain ⟨G, δ, fl, δ', R, e, k⟩ := q
    unfold setS at e
    cases hg : compM fi gt ft fe (own.map (·.2)) δ with
    | none => rw [hg] at e; cases e
    | some p =>
      obtain ⟨v, δ1⟩ := p
      rw [hg] at e
      obtain ⟨δ2, e2, e3⟩ := Option.bind_eq_some_iff.mp e
      cases e3
      exact ⟨G, δ, v, δ1, R, hg, fun u G1 H1 s1 R1 v1 => k _ G1 H1 s1 (R1.set v1 e2)⟩
end
end DL
end
section
set_option maxRecDepth 100000
set_option maxHeartbeats 4000000
namespace DL
open PySem PySem.Spec L2
open PyProof.Rows hiding St

/-! ### defs, called where no repr is under way -/
structure FnG (P : Program) (w : World) (K : Fg) (mg : Str → Option Value) (base : Heap) (k : Nat) (f : Addr) (fd : FuncData) (ps : List Str) (sp : Sp) : Prop where
  len : ∀ vs H Q E, sp vs H Q E → vs.length = ps.length
  run : ∀ (A : Around) (outer : List Env) (s : Shared) (H : Hp) (args : Args) (us : List Value) (vs : List V) (Q : VK) (E : XK), Room k A → A.guards = some [] → Env0 P w K mg base A outer s H → BindsTo s fd args (ps.zip us) → Vals vs us → sp vs H Q E →
    codeAny (model P w) A (.call (.ref f) args) (CR CX0 outer P w H s Q E) s
theorem FnG.mono {P : Program} {w : World} {K : Fg} {mg : Str → Option Value} {base : Heap} {j k : Nat} {f : Addr} {fd : FuncData} {ps : List Str} {sp : Sp} (F : FnG P w K mg base j f fd ps sp) (h : j ≤ k) : FnG P w K mg base k f fd ps sp :=
  ⟨F.len, fun A o s H args us vs Q E hr => F.run A o s H args us vs Q E (hr.mono h)⟩
/-- the context in a def's body -/
abbrev bodyX (P : Program) (w : World) (K : Fg) (mg : Str → Option Value) (base : Heap) (N : List Str) (qual : Str) (st : Stmt) (f : Addr) (cdv : Value) (A : Around) (outer : List Env) (s : Shared) (H : Hp) (E : XK) : Cx := (cxOf CX0 P w K mg base N qual (defScope st) f cdv A outer s H E).nox
theorem fn_ofG {P : Program} {w : World} {K : Fg} {mg : Str → Option Value} {base : Heap} {x qual : Str} {st : Stmt} {f : Addr} {fd : FuncData} {N ps : List Str} {k : Nat} {sp : Sp} (F : L2.Fun K x qual st f fd) (S : FnScope N ps (defScope st)) (len : ∀ vs H Q E, sp vs H Q E → vs.length = ps.length)
    (body : ∀ (cdv : Value) (A : Around) (outer : List Env) (s : Shared) (H : Hp) (vs : List V) (Q : VK) (E : XK), Room k (A.deeper (envOfC qual (defScope st) s.heap.objs.size f cdv)) → A.guards = some [] → sp vs H Q E →
      ∃ t, PSs (bodyX P w K mg base N qual st f cdv A outer s H E) (defBody st) t ∧ t { nx := fun _ H' => Q .non H', rt := Q } (start N vs) H) : FnG P w K mg base (k + 1) f fd ps sp := by
  obtain ⟨_, _, kV, doc, pm, an, cdv, ct, _, efd, hlook, hcode⟩ := F.ex
  subst efd
  refine ⟨len, fun A outer s H args us vs Q E room guards env0 bound rel prom => ?_⟩
  have long := len _ _ _ _ prom
  have kin : K.In s.heap := env0.mod.kin.keeps fun b o e => (env0.bs b o e).1
  have nolim : s.heap.NoLimit := env0.mod.nolimit.keeps fun b o e => (env0.bs b o e).1
  have kinds : ∀ y ∈ ps.zip us, (defScope st).names.lookup y.1 = some .local ∨ ((defScope st).names.lookup y.1 = some .cell ∧ ((cellsFrom (s.heap.objs.size + 1) (defScope st).names []).lookup y.1).isSome = true) := by
    rintro ⟨n, v⟩ hy
    have hn := S.par n (List.of_mem_zip hy).1
    exact hn.imp id fun q => ⟨q, PySem.W.cellsFrom_some _ _ _ (.inl q)⟩
  refine codeAny_call_function room.depth (kin _ _ hlook) rfl S.co S.gen rfl (PySem.W.codeRec_of kin hcode) (bound _ _ _ _ (wpAny_newFunctionEnv_cells S.kind kinds ?_))
  intro env henv s1 called
  subst henv
  obtain ⟨t, walk, reads⟩ := body cdv A outer s H vs Q E (room.deeper _) guards prom
  have J := inv_start (CX := CX0) (E := E) (mg := mg) (base := base) (P := P) (w := w) (K := K) (qual := qual) (f := f) (cd := cdv) (H := H) S room.hd env0 long rel called
  refine ⟨nolim.keeps called.toInCall.keep, codeAny_func (wpAny_mono (walk.nox.run [] s1 (start N vs) H _ J reads) (fun fl s' ends => ?_) fun e s' z => z)⟩
  have close : ∀ (σ' : L2.St) (H' : Hp) (v : V) (u : Value), Inv (cxOf CX0 P w K mg base N qual (defScope st) f cdv A outer s H E) [] σ' H' s' → RelV v u → Q v H' → CE outer P w H s Q u s' := by
    intro σ' H' v u I' rv q
    exact ⟨v, H', I'.os, I'.bare, I'.base, I'.hok, rv, q⟩
  match fl, ends with
  | .ret u, ⟨v, σ', H', I', rv, q⟩ => exact close σ' H' v u I' rv q
  | .next, ⟨σ', H', I', q⟩ => exact close σ' H' V.non Value.none I' rfl q
  | .brk, ⟨_, _, _, q⟩ => exact q.elim
  | .cont, ⟨_, _, _, q⟩ => exact q.elim

section
variable {X : Cx} {B : Bs} {pos : Pos} {k : Nat} {f : Addr} {fd : FuncData} {ps : List Str} {sp : Sp}
theorem callG {pins : List (Addr × Obj)} {σ : L2.St} {H : Hp} {s : Shared} {Q : VK} {args : Args} {us : List Value} {vs : List V} (F : FnG X.prog X.w X.K X.mg X.base k f fd ps sp) (room : Room k X.A) (guards : X.A.guards = some []) (I : Inv X pins σ H s) (hb : BindsTo s fd args (ps.zip us)) (r : Vals vs us) (h : sp vs H Q E0) :
    codeAny (model X.prog X.w) X.A (.call (.ref f) args) (fun r s' => ∃ u, r = .ok (.ret u) ∧ EP X pins σ Q u s') s := by
  refine codeAny_mono (F.run X.A X.stack s H args us vs Q E0 room guards I.env0 hb r h) fun res s' got => ?_
  match res, got with
  | .error e, z => exact False.elim z
  | .ok (.ret u), z => exact ⟨u, rfl, I.after z⟩
  | .ok .next, z => exact False.elim z
  | .ok .brk, z => exact False.elim z
  | .ok .cont, z => exact False.elim z
/-- the arguments in the parameters' sequence -/
def permL {α : Type} (is : List Nat) (xs : List α) : List α := is.filterMap fun i => xs[i]?
theorem permL_vals {vs : List V} {us : List Value} (r : Vals vs us) : ∀ is : List Nat, Vals (permL is vs) (permL is us)
  | [] => .nil
  | i :: is => by
    have ih := permL_vals r is
    unfold permL
    rw [List.filterMap_cons, List.filterMap_cons]
    cases hv : vs[i]? with
    | none =>
      rw [r.none_of hv]
      exact ih
    | some v =>
      obtain ⟨u, hu, ru⟩ := r.get hv
      rw [hu]
      exact .cons ru ih
/-- how a call's arguments come to the parameters: n by place, the others by the names ks -/
def BindK (K : Fg) (fd : FuncData) (ps : List Str) (n : Nat) (ks : List Str) (is : List Nat) : Prop := ∀ (s : Shared) (us ws : List Value), us.length = n → ws.length = ks.length → BindsTo s fd ⟨us, ks.zip ws⟩ (ps.zip (permL is (us ++ ws)))
theorem bindK_of {K : Fg} {x qual : Str} {st : Stmt} {f : Addr} {fd : FuncData} {ps ks : List Str} {n : Nat} {is : List Nat} (F : L2.Fun K x qual st f fd)
    (h : ∀ (kV doc pm : Value) (an : Option Addr) (cdv ct : Value) (us ws : List Value), us.length = n → ws.length = ks.length → bindArgs (PySem.W.fnOf x qual (defArgs st) (defBody st) (defScope st) .none kV doc pm an cdv ct) ⟨us, ks.zip ws⟩ = pure (ps.zip (permL is (us ++ ws)))) : BindK K fd ps n ks is := by
  obtain ⟨_, _, kV, doc, pm, an, cdv, ct, _, efd, _, _⟩ := F.ex
  subst efd
  exact fun s us ws h1 h2 => .of_eq (h kV doc pm an cdv ct us ws h1 h2)
/-- a call: by place, by names -/
def tCallK (n m : Nat) (sp : Sp) (is : List Nat) (t tk : TA) : TE := fun σ H Q => t σ H fun vs H1 => tk σ H1 fun zs H2 => vs.length = n ∧ zs.length = m ∧ sp (permL is (vs ++ zs)) H2 Q E0
theorem callK_of {pins : List (Addr × Obj)} {σ : L2.St} {H : Hp} {s : Shared} {Q : VK} {n : Nat} {ks : List Str} {is : List Nat} {us ws : List Value} {vs zs : List V} (F : FnG X.prog X.w X.K X.mg X.base k f fd ps sp) (room : Room k X.A) (guards : X.A.guards = some []) (hb : BindK X.K fd ps n ks is) (I : Inv X pins σ H s) (r : Vals vs us) (r2 : Vals zs ws) (l1 : vs.length = n) (l2 : zs.length = ks.length) (h : sp (permL is (vs ++ zs)) H Q E0) :
    wpAny (model X.prog X.w) X.A (call (.ref f) us (ks.zip ws)) (EP X pins σ Q) X.xe s := by
  refine wpAny_call (codeAny_mono (callG F room guards I (hb s us ws (r.length.symm.trans l1) (r2.length.symm.trans l2)) (permL_vals (r.append r2) is) h) ?_)
  rintro res s' ⟨u, rfl, z⟩
  exact z
theorem pe_callK {x : Str} {p : Pos} {n : Nat} {ks : List Str} {is : List Nat} {e : Expr} {es : List Expr} {kws : List Keyword} {t tk : TA} (F : FnG X.prog X.w X.K X.mg X.base k f fd ps sp) (room : Room k X.A) (guards : X.A.guards = some []) (hb : BindK X.K fd ps n ks is) (hg : Gl X x) (hm : X.mg x = some (.ref f)) (hk : PySem.W.keepIn X.K (.ref f) = true)
    (ha : PA X (e :: es) t) (hkw : PK X kws tk) (hall : (backToKw pos (keywordEach kws X.env)).all (·.1.isSome) = true := by rfl) (hks : (backToKw pos (keywordEach kws X.env)).filterMap (·.1) = ks := by rfl) (hdb : (x == ("__debug__" : Str)) = false := by decide) (he : starEach (e :: es) X.env = (false, eval e X.env) :: starEach es X.env := by rfl)
    (hpl : ((backTo pos (starEach (e :: es) X.env)).any (·.1) || (backToKw pos (keywordEach kws X.env)).any (·.1.isNone)) = false := by rfl) : PE X (.Call (.Name x p) (e :: es) kws pos) (tCallK n ks.length sp is t tk) := by
  refine ⟨fun pins s σ H Q I h => wpAny_Call_Name_kw (ld_glob I hg hm ?_ hdb)⟩
  refine PySem.W.callWith_KW (h₀ := X.base) I.ok.mod.kin hk hall (thn (ha.run pos pins s σ H _ I h) ?_) hpl he
  rintro us s1 ⟨vs, H1, I1, r1, q1⟩
  refine thn (hkw.run pos pins s1 σ H1 _ I1 q1) ?_
  rintro ws s2 ⟨zs, H2, I2, r2, l1, l2, q2⟩
  rw [hks]
  exact ⟨I2.kIn, callK_of F room guards hb I2 r1 r2 l1 l2 q2⟩
theorem pe_callK0 {x : Str} {p : Pos} {ks : List Str} {is : List Nat} {kws : List Keyword} {tk : TA} (F : FnG X.prog X.w X.K X.mg X.base k f fd ps sp) (room : Room k X.A) (guards : X.A.guards = some []) (hb : BindK X.K fd ps 0 ks is) (hg : Gl X x) (hm : X.mg x = some (.ref f)) (hk : PySem.W.keepIn X.K (.ref f) = true)
    (hkw : PK X kws tk) (hall : (backToKw pos (keywordEach kws X.env)).all (·.1.isSome) = true := by rfl) (hks : (backToKw pos (keywordEach kws X.env)).filterMap (·.1) = ks := by rfl) (hdb : (x == ("__debug__" : Str)) = false := by decide)
    (hpl : ((backTo pos (starEach [] X.env)).any (·.1) || (backToKw pos (keywordEach kws X.env)).any (·.1.isNone)) = false := by rfl) : PE X (.Call (.Name x p) [] kws pos) (tCallK 0 ks.length sp is tNil tk) := by
  refine ⟨fun pins s σ H Q I h => wpAny_Call_Name_kw (ld_glob I hg hm ?_ hdb)⟩
  refine PySem.W.callWith_KW0 (h₀ := X.base) I.ok.mod.kin hk hall (thn (hkw.run pos pins s σ H _ I h) ?_) hpl
  rintro ws s2 ⟨zs, H2, I2, r2, l1, l2, q2⟩
  rw [hks]
  exact ⟨I2.kIn, callK_of (us := []) F room guards hb I2 .nil r2 l1 l2 q2⟩
/-- keywords' values -/
abbrev DK (X : Cx) (B : Bs) (kws : List Keyword) (f : Me (List Val)) : Prop := PK X kws (taOf X.K B f)
theorem dk_nil : DK X B [] nilA := ⟨fun pos pins s σ H Q I h => pk_nil.run pos pins s σ H Q I (by
  obtain ⟨G, δ, r, δ', R, e, z⟩ := h
  cases e
  exact z [] G H (Same.refl _) R .nil)⟩
theorem dk_cons {nm : Option Str} {kpos : Pos} {e : Expr} {kws : List Keyword} {g : Me Val} {h : Me (List Val)} (ha : DE X B e g) (hr : DK X B kws h) : DK X B (⟨nm, e, kpos⟩ :: kws) (consA g h) := ⟨fun pos pins s σ H Q I q => (pk_cons ha hr).run pos pins s σ H Q I (by
  obtain ⟨G, δ, r, δ', R, e, z⟩ := q
  obtain ⟨x, δ1, e1, e⟩ := mb_some e
  obtain ⟨xs, δ2, e2, e⟩ := mb_some e
  cases e
  refine ⟨G, δ, x, δ1, R, e1, fun v G1 H1 s1 R1 v1 => ?_⟩
  obtain ⟨G1', s1', R1', v1'⟩ := v1.freeze R1
  refine ⟨G1', δ1, xs, _, R1', e2, fun vs G2 H2 s2 R2 v2 => ?_⟩
  exact z (v :: vs) G2 H2 ((s1.trans s1').trans s2) R2 (.cons (RV.stay s2 v1') v2))⟩

/-! ### promises by functions of trees -/
/-- hands back F of the arguments, changes nothing that stood -/
def spF (K : Fg) (n : Nat) (F : List D → Option Val) : Sp := fun vs H Q _ => ∃ (G : Hp) (ds : List D) (r : Val), vs.length = n ∧ Same G H ∧ TrAll K G vs ds ∧ F ds = some r ∧ ∀ v G' H', Ex G H G' H' → RO K G' H H' v r → Q v H'
/-- .. and changes its first argument, a list of the caller's own -/
def spI (K : Fg) (n : Nat) (F : D → List D → Option (Val × D)) : Sp := fun vs H Q _ => ∃ (G : Hp) (a : Addr) (vr : List V) (d : D) (ds : List D) (r : Val) (d' : D), vs.length = n ∧ vs = .ref a :: vr ∧ Same G H ∧ G a = none ∧ Root K G H a d ∧ TrAll K G vr ds ∧ F d ds = some (r, d') ∧
  ∀ v G' H', Same G G' → Same G' H' → (∀ b o, G' b = some o → G b = none → H b = none) → (∀ b o, H b = some o → b ≠ a → H' b = some o) → G' a = none → Root K G' H' a d' → RO K G' H H' v r → Q v H'
def callP (is : List Nat) (F : List D → Option Val) (fa fk : Me (List Val)) : Me Val := mb fa fun xs => mb fk fun ys => mo fun δ => match fzs (xs ++ ys) with
  | some ds => F (permL is ds)
  | none => none
theorem fzs_append : ∀ {xs ys : List Val} {ds : List D}, fzs (xs ++ ys) = some ds → ∃ as bs, fzs xs = some as ∧ fzs ys = some bs ∧ ds = as ++ bs
  | [], _, _, h => ⟨[], _, rfl, h, rfl⟩
  | .sl _ :: _, _, _, h => by cases h
  | .fz d :: r, _, _, h => by
    obtain ⟨es, e1, h⟩ := Option.bind_eq_some_iff.mp h
    cases h
    obtain ⟨as, bs, e2, e3, rfl⟩ := fzs_append e1
    exact ⟨d :: as, bs, by unfold fzs; rw [e2]; rfl, e3, rfl⟩
  | .ow d :: r, _, _, h => by
    obtain ⟨es, e1, h⟩ := Option.bind_eq_some_iff.mp h
    cases h
    obtain ⟨as, bs, e2, e3, rfl⟩ := fzs_append e1
    exact ⟨d :: as, bs, by unfold fzs; rw [e2]; rfl, e3, rfl⟩
theorem permL_tr {K : Fg} {G : Hp} {vs : List V} {ds : List D} (t : TrAll K G vs ds) : ∀ is : List Nat, TrAll K G (permL is vs) (permL is ds)
  | [] => .nil
  | i :: is => by
    have ih := permL_tr t is
    unfold permL
    rw [List.filterMap_cons, List.filterMap_cons]
    cases hv : vs[i]? with
    | none =>
      have : ds[i]? = none := by
        have := t.len
        rw [List.getElem?_eq_none_iff] at hv ⊢
        omega
      rw [this]
      exact ih
    | some v =>
      obtain ⟨u, hu, ru⟩ := t.getV hv
      rw [hu]
      exact .cons ru ih
/-- so many values -/
def LenA (fa : Me (List Val)) (n : Nat) : Prop := ∀ δ xs δ', fa δ = some (xs, δ') → xs.length = n
theorem lenA_nil : LenA nilA 0 := fun δ xs δ' h => by cases h; rfl
theorem lenA_cons {f : Me Val} {g : Me (List Val)} {n : Nat} (h : LenA g n) : LenA (consA f g) (n + 1) := fun δ xs δ' e => by
  obtain ⟨x, δ1, e1, e⟩ := mb_some e
  obtain ⟨ys, δ2, e2, e⟩ := mb_some e
  cases e
  rw [List.length_cons, h _ _ _ e2]
theorem callP_of {K : Fg} {n m q : Nat} {is : List Nat} {F : List D → Option Val} {fa fk : Me (List Val)} (hn : LenA fa n) (hm : LenA fk m) (hq : ∀ {α : Type} (xs : List α), xs.length = n + m → (permL is xs).length = q) : ∀ σ H Q, tOf K B (callP is F fa fk) σ H Q → tCallK n m (spF K q F) is (taOf K B fa) (taOf K B fk) σ H Q := by
  intro σ H Q hz
  obtain ⟨G, δ, res, δ', R, e, z⟩ := hz
  obtain ⟨xs, δ1, e1, e⟩ := mb_some e
  obtain ⟨ys, δ2, e2, e⟩ := mb_some e
  obtain ⟨e3, rfl⟩ := mo_some e
  refine ⟨G, δ, xs, δ1, R, e1, fun vs G1 H1 s1 R1 v1 => ⟨G1, δ1, ys, _, R1, e2, fun ws G2 H2 s2 R2 v2 => ?_⟩⟩
  split at e3
  · rename_i ds hd
    obtain ⟨as, bs, f1, f2, rfl⟩ := fzs_append hd
    have t1 := (v1.stay (B := B) (G' := G2) (H' := H2) (δ' := δ') s2).trees f1
    have t2 := v2.trees f2
    have l1 : vs.length = n := v1.length.trans (hn _ _ _ e1)
    have l2 : ws.length = m := v2.length.trans (hm _ _ _ e2)
    exact ⟨l1, l2, G2, _, res, hq _ (by rw [List.length_append, l1, l2]), R2.same, permL_tr (t1.append t2) is, e3, fun v G' H' x ro => z v G' H' ((s1.trans s2).trans x.g) (R2.ex x) (ro.rv R2)⟩
  · cases e3
theorem de_call {x : Str} {p : Pos} {q : Nat} {e : Expr} {es : List Expr} {F : List D → Option Val} {fa : Me (List Val)} {n : Nat} {ks : List Str} {is : List Nat} {kws : List Keyword} {fk : Me (List Val)} (Fn : FnG X.prog X.w X.K X.mg X.base k f fd ps (spF X.K q F)) (room : Room k X.A) (guards : X.A.guards = some []) (hb : BindK X.K fd ps n ks is) (hg : Gl X x) (hm : X.mg x = some (.ref f)) (hk : PySem.W.keepIn X.K (.ref f) = true)
    (ha : DA X B (e :: es) fa) (hkw : DK X B kws fk) (hn : LenA fa n) (hl : LenA fk ks.length) (hq : ∀ {α : Type} (xs : List α), xs.length = n + ks.length → (permL is xs).length = q) (hall : (backToKw pos (keywordEach kws X.env)).all (·.1.isSome) = true := by rfl) (hks : (backToKw pos (keywordEach kws X.env)).filterMap (·.1) = ks := by rfl) (hdb : (x == ("__debug__" : Str)) = false := by decide) (he : starEach (e :: es) X.env = (false, eval e X.env) :: starEach es X.env := by rfl)
    (hpl : ((backTo pos (starEach (e :: es) X.env)).any (·.1) || (backToKw pos (keywordEach kws X.env)).any (·.1.isNone)) = false := by rfl) : DE X B (.Call (.Name x p) (e :: es) kws pos) (callP is F fa fk) :=
  PE.weak (pe_callK Fn room guards hb hg hm hk ha hkw hall hks hdb he hpl) (callP_of hn hl hq)
theorem de_call0 {x : Str} {p : Pos} {q : Nat} {F : List D → Option Val} {ks : List Str} {is : List Nat} {kws : List Keyword} {fk : Me (List Val)} (Fn : FnG X.prog X.w X.K X.mg X.base k f fd ps (spF X.K q F)) (room : Room k X.A) (guards : X.A.guards = some []) (hb : BindK X.K fd ps 0 ks is) (hg : Gl X x) (hm : X.mg x = some (.ref f)) (hk : PySem.W.keepIn X.K (.ref f) = true)
    (hkw : DK X B kws fk) (hl : LenA fk ks.length) (hq : ∀ {α : Type} (xs : List α), xs.length = 0 + ks.length → (permL is xs).length = q) (hall : (backToKw pos (keywordEach kws X.env)).all (·.1.isSome) = true := by rfl) (hks : (backToKw pos (keywordEach kws X.env)).filterMap (·.1) = ks := by rfl) (hdb : (x == ("__debug__" : Str)) = false := by decide)
    (hpl : ((backTo pos (starEach [] X.env)).any (·.1) || (backToKw pos (keywordEach kws X.env)).any (·.1.isNone)) = false := by rfl) : DE X B (.Call (.Name x p) [] kws pos) (callP is F nilA fk) :=
  PE.weak (pe_callK0 Fn room guards hb hg hm hk hkw hall hks hdb hpl) fun σ H Q h => by
    refine callP_of (n := 0) lenA_nil hl hq σ H Q h |> fun z => ?_
    obtain ⟨G, δ, xs, δ1, R, e1, z⟩ := z
    cases e1
    exact z [] G H (Same.refl _) R .nil
end
end DL
end
section
set_option maxRecDepth 100000
set_option maxHeartbeats 4000000
namespace DL
open PySem PySem.Spec L2
open PyProof.Rows hiding St

section
variable {X : Cx} {B : Bs} {pos : Pos} {k : Nat} {f : Addr} {fd : FuncData} {ps : List Str} {sp : Sp}
/-! ### a call that reads lists of one's own and hands back what is flat -/
def bors (δ : DS) : List Val → Option (List D)
  | [] => some []
  | .fz d :: rs => (bors δ rs).bind fun ds => some (d :: ds)
  | .ow d :: rs => (bors δ rs).bind fun ds => some (d :: ds)
  | .sl i :: rs => match δ[i]? with
    | some (.own _ d) => (bors δ rs).bind fun ds => some (d :: ds)
    | _ => none
open Classical in
/-- the roots of one's own lists lent -/
noncomputable def lent (G H : Hp) (δ : DS) (σ : L2.St) : Hp := fun a => if (∃ (i : Nat) (b : Bool) (d : D), δ[i]? = some (.own b d) ∧ σ[i]? = some (some (V.ref a))) then H a else G a
theorem lent_g {K : Fg} {G H : Hp} {δ : DS} {σ : L2.St} (R : RelS K B G H δ σ) : Same G (lent G H δ σ) := fun a o e => by
  unfold lent
  split
  · exact R.same _ _ e
  · exact e
theorem lent_h {K : Fg} {G H : Hp} {δ : DS} {σ : L2.St} (R : RelS K B G H δ σ) : Same (lent G H δ σ) H := fun a o e => by
  unfold lent at e
  split at e
  · exact e
  · exact R.same _ _ e
theorem lent_tr {K : Fg} {G H : Hp} {δ : DS} {σ : L2.St} (R : RelS K B G H δ σ) {i : Nat} {b : Bool} {d : D} {v : V} (q : δ[i]? = some (.own b d)) (z : σ[i]? = some (some v)) : Tr K (lent G H δ σ) v d := by
  obtain ⟨a, e1, n, m, r⟩ := R.own i b d q
  rw [e1] at z
  cases z
  have hl : lent G H δ σ a = H a := by
    unfold lent
    rw [if_pos ⟨i, b, d, q, e1⟩]
  cases r with
  | lst x y => exact .lst (hl.trans x) (TrAll.mono (lent_g R) y)
  | dic x y => exact .dic (hl.trans x) (TrKV.mono (lent_g R) y)
theorem RVs.lent {K : Fg} {G H : Hp} {δ : DS} {σ : L2.St} (R : RelS K B G H δ σ) : ∀ {vs : List V} {rs : List Val} {ds : List D}, RVs K B G H δ σ vs rs → bors δ rs = some ds → TrAll K (DL.lent G H δ σ) vs ds
  | _, _, _, .nil, h => by cases h; exact .nil
  | _, _, _, .cons (b := r) a b, h => by
    cases r with
    | fz d =>
      obtain ⟨es, h2, h⟩ := Option.bind_eq_some_iff.mp h
      cases h
      exact .cons (Tr.mono (lent_g R) a) (RVs.lent R b h2)
    | ow d =>
      obtain ⟨es, h2, h⟩ := Option.bind_eq_some_iff.mp h
      cases h
      exact .cons (Tr.mono (lent_g R) a) (RVs.lent R b h2)
    | sl i =>
      unfold bors at h
      split at h
      · rename_i b' d q
        obtain ⟨es, h2, h⟩ := Option.bind_eq_some_iff.mp h
        cases h
        exact .cons (lent_tr R q a) (RVs.lent R b h2)
      · cases h
def flatV : Val → Bool
  | .fz d => flat d
  | _ => false
/-- flat, or a new list of what is flat -/
def flatW : Val → Bool
  | .fz d => flat d
  | .ow (.list ds) => ds.all flat
  | _ => false
theorem TrAll.flats {K : Fg} {H H' : Hp} : ∀ {vs : List V} {ds : List D}, TrAll K H vs ds → ds.all flat = true → TrAll K H' vs ds
  | _, _, .nil, _ => .nil
  | _, _, .cons a b, h => by
    have h : (flat _ && _) = true := h
    rw [Bool.and_eq_true] at h
    exact .cons (a.flat h.1) (TrAll.flats b h.2)
def callL (is : List Nat) (F : List D → Option Val) (fa : Me (List Val)) : Me Val := mb fa fun xs => mo fun δ => (bors δ xs).bind fun ds => (F (permL is ds)).bind fun r => if flatW r then some r else none
theorem flatW_rv {K : Fg} {G1 G' H1 H' : Hp} {δ : DS} {σ : L2.St} (R : RelS K B G1 H1 δ σ) {v : V} {r : Val} (ro : RO K G' H1 H' v r) (hf : flatW r = true) : RV K B G1 H' δ σ v r := by
  cases r with
  | fz d => exact Tr.flat ro hf
  | sl i => cases hf
  | ow d =>
    obtain ⟨a, e, n, -, rt⟩ := ro
    cases rt with
    | lst h t => exact RO.rv R ⟨a, e, n, R.same.free n, .lst h (t.flats hf)⟩
    | dic h t => cases hf
theorem callL_of {K : Fg} {n q : Nat} {is : List Nat} {F : List D → Option Val} {fa : Me (List Val)} (hn : LenA fa n) (hq : ∀ {α : Type} (xs : List α), xs.length = n → (permL is xs).length = q) : ∀ σ H Q, tOf K B (callL is F fa) σ H Q → tCallK n 0 (spF K q F) is (taOf K B fa) tNil σ H Q := by
  intro σ H Q hz
  obtain ⟨G, δ, res, δ', R, e, z⟩ := hz
  obtain ⟨xs, δ1, e1, e⟩ := mb_some e
  obtain ⟨e3, rfl⟩ := mo_some e
  obtain ⟨ds, e4, e3⟩ := Option.bind_eq_some_iff.mp e3
  obtain ⟨r, e5, e3⟩ := Option.bind_eq_some_iff.mp e3
  obtain ⟨hf, rfl⟩ := ite_some e3
  refine ⟨G, δ, xs, _, R, e1, fun vs G1 H1 s1 R1 v1 => ?_⟩
  have t1 := v1.lent R1 e4
  have l1 : vs.length = n := v1.length.trans (hn _ _ _ e1)
  refine ⟨l1, rfl, lent G1 H1 δ' σ, permL is ds, r, ?_, lent_h R1, ?_, e5, fun v G' H' x ro => ?_⟩
  · rw [List.append_nil]
    exact hq _ l1
  · rw [List.append_nil]
    exact permL_tr t1 is
  · have x2 : Ex G1 H1 G1 H' := ⟨Same.refl _, R1.same.trans x.h, x.h, fun a o h n => by rw [h] at n; cases n⟩
    exact z v G1 H' s1 (R1.ex x2) (flatW_rv R1 ro hf)
theorem de_callL {x : Str} {p : Pos} {q n : Nat} {e : Expr} {es : List Expr} {F : List D → Option Val} {fa : Me (List Val)} {is : List Nat} (Fn : FnG X.prog X.w X.K X.mg X.base k f fd ps (spF X.K q F)) (room : Room k X.A) (guards : X.A.guards = some []) (hb : BindK X.K fd ps n [] is) (hg : Gl X x) (hm : X.mg x = some (.ref f)) (hk : PySem.W.keepIn X.K (.ref f) = true)
    (ha : DA X B (e :: es) fa) (hn : LenA fa n) (hq : ∀ {α : Type} (xs : List α), xs.length = n → (permL is xs).length = q) (hall : (backToKw pos (keywordEach [] X.env)).all (·.1.isSome) = true := by rfl) (hks : (backToKw pos (keywordEach [] X.env)).filterMap (·.1) = [] := by rfl) (hdb : (x == ("__debug__" : Str)) = false := by decide) (he : starEach (e :: es) X.env = (false, eval e X.env) :: starEach es X.env := by rfl)
    (hpl : ((backTo pos (starEach (e :: es) X.env)).any (·.1) || (backToKw pos (keywordEach [] X.env)).any (·.1.isNone)) = false := by rfl) : DE X B (.Call (.Name x p) (e :: es) [] pos) (callL is F fa) :=
  PE.weak (pe_callK Fn room guards hb hg hm hk ha pk_nil hall hks hdb he hpl) (callL_of hn hq)

theorem callL0_of {K : Fg} {m q : Nat} {is : List Nat} {F : List D → Option Val} {fk : Me (List Val)} (hm : LenA fk m) (hq : ∀ {α : Type} (xs : List α), xs.length = 0 + m → (permL is xs).length = q) : ∀ σ H Q, tOf K B (callL is F fk) σ H Q → tCallK 0 m (spF K q F) is (taOf K B nilA) (taOf K B fk) σ H Q := by
  intro σ H Q hz
  obtain ⟨G, δ, res, δ', R, e, z⟩ := hz
  obtain ⟨xs, δ1, e1, e⟩ := mb_some e
  obtain ⟨e3, rfl⟩ := mo_some e
  obtain ⟨ds, e4, e3⟩ := Option.bind_eq_some_iff.mp e3
  obtain ⟨r, e5, e3⟩ := Option.bind_eq_some_iff.mp e3
  obtain ⟨hf, rfl⟩ := ite_some e3
  refine ⟨G, δ, [], δ, R, rfl, fun vs G0 H0 s0 R0 v0 => ⟨G0, δ, xs, _, R0, e1, fun ws G1 H1 s1 R1 v1 => ?_⟩⟩
  cases v0
  have t1 := v1.lent R1 e4
  have l1 : ws.length = m := v1.length.trans (hm _ _ _ e1)
  refine ⟨rfl, l1, lent G1 H1 δ' σ, permL is ds, r, hq _ (by rw [List.nil_append, l1, Nat.zero_add]), lent_h R1, permL_tr t1 is, e5, fun v G' H' x ro => ?_⟩
  have x2 : Ex G1 H1 G1 H' := ⟨Same.refl _, R1.same.trans x.h, x.h, fun a o h n => by rw [h] at n; cases n⟩
  exact z v G1 H' (s0.trans s1) (R1.ex x2) (flatW_rv R1 ro hf)
theorem de_callL0 {x : Str} {p : Pos} {q : Nat} {F : List D → Option Val} {ks : List Str} {is : List Nat} {kws : List Keyword} {fk : Me (List Val)} (Fn : FnG X.prog X.w X.K X.mg X.base k f fd ps (spF X.K q F)) (room : Room k X.A) (guards : X.A.guards = some []) (hb : BindK X.K fd ps 0 ks is) (hg : Gl X x) (hm : X.mg x = some (.ref f)) (hk : PySem.W.keepIn X.K (.ref f) = true)
    (hkw : DK X B kws fk) (hl : LenA fk ks.length) (hq : ∀ {α : Type} (xs : List α), xs.length = 0 + ks.length → (permL is xs).length = q) (hall : (backToKw pos (keywordEach kws X.env)).all (·.1.isSome) = true := by rfl) (hks : (backToKw pos (keywordEach kws X.env)).filterMap (·.1) = ks := by rfl) (hdb : (x == ("__debug__" : Str)) = false := by decide)
    (hpl : ((backTo pos (starEach [] X.env)).any (·.1) || (backToKw pos (keywordEach kws X.env)).any (·.1.isNone)) = false := by rfl) : DE X B (.Call (.Name x p) [] kws pos) (callL is F fk) :=
  PE.weak (pe_callK0 Fn room guards hb hg hm hk hkw hall hks hdb hpl) fun σ H Q h => by
    refine callL0_of hl hq σ H Q h |> fun z => ?_
    obtain ⟨G, δ, xs, δ1, R, e1, z⟩ := z
    cases e1
    exact z [] G H (Same.refl _) R .nil

/-! ### a call that changes the caller's own list, its first argument -/
def callI (F : D → List D → Option (Val × D)) (fa : Me (List Val)) : Me Val := mb fa fun xs => fun δ => match xs with
  | .sl j :: rs => (match δ[j]? with
    | some (.own b d) => (fzs rs).bind fun ds => (F d ds).bind fun p => some (p.1, δ.set j (.own b p.2))
    | _ => none)
  | _ => none
theorem callI_of {K : Fg} {n : Nat} {is : List Nat} {F : D → List D → Option (Val × D)} {fa : Me (List Val)} (hn : LenA fa n) (hq : ∀ {α : Type} (xs : List α), xs.length = n → permL is xs = xs) : ∀ σ H Q, tOf K B (callI F fa) σ H Q → tCallK n 0 (spI K n F) is (taOf K B fa) tNil σ H Q := by
  intro σ H Q hz
  obtain ⟨G, δ, res, δ', R, e, z⟩ := hz
  obtain ⟨xs, δ1, e1, e⟩ := mb_some e
  split at e
  · rename_i j rs
    split at e
    · rename_i b d q
      obtain ⟨ds, e2, e⟩ := Option.bind_eq_some_iff.mp e
      obtain ⟨⟨r, d'⟩, e3, e⟩ := Option.bind_eq_some_iff.mp e
      cases e
      refine ⟨G, δ, _, δ1, R, e1, fun vs G1 H1 s1 R1 v1 => ?_⟩
      have l1 : vs.length = n := v1.length.trans (hn _ _ _ e1)
      cases v1 with
      | @cons v _ vr _ a br =>
        obtain ⟨ad, f1, f2, f3, f4⟩ := R1.own j b d q
        have a : σ[j]? = some (some v) := a
        rw [f1] at a
        cases a
        refine ⟨l1, rfl, ?_⟩
        rw [List.append_nil, hq _ l1]
        refine ⟨G1, ad, vr, d, ds, r, d', l1, rfl, R1.same, f2, f4, RVs.trees br e2, e3, fun v G' H' sg sgh hnw hfr hga hrt ro => ?_⟩
        have hl : j < δ1.length := (List.getElem?_eq_some_iff.mp q).1
        have other : ∀ {s' : Sl} {i : Nat}, (δ1.set j (.own b d'))[i]? = some s' → (i = j ∧ s' = .own b d') ∨ (i ≠ j ∧ δ1[i]? = some s') := fun {s' i} y => by
          by_cases hj : i = j
          · subst hj
            rw [List.getElem?_set_self hl] at y
            exact .inl ⟨rfl, (Option.some.inj y).symm⟩
          · rw [List.getElem?_set_ne (Ne.symm hj)] at y
            exact .inr ⟨hj, y⟩
        have haS : ∃ o, H1 ad = some o := f4.ex
        have R' : RelS K B G' H' (δ1.set j (.own b d')) σ := by
          refine ⟨by rw [List.length_set]; exact R1.len, sgh, R1.g0.trans sg, fun c o y m => ?_, fun c o y hio hlo => ?_, fun c o y => ?_, R1.iod, fun i e y => ?_, fun i b' e y => ?_, fun i k b1 b2 c e e' y1 y2 w1 w2 => ?_⟩
          · cases hc : G1 c with
            | some u => exact R1.nw c u hc m
            | none => exact .inl (R1.none0 (hnw c o y hc))
          · have hc : c ≠ ad := fun w => by
              subst w
              cases b with
              | true => exact hio (j, c) f3 rfl
              | false =>
                rcases (show B.H0 c = none ∨ B.lo c from f3) with m' | m'
                · rw [m'] at y
                  cases y
                · exact hlo m'
            exact hfr c o (R1.frame c o y hio hlo) hc
          · obtain ⟨o', y'⟩ := R1.dom c o y
            by_cases hc : c = ad
            · subst hc
              exact hrt.ex
            · exact ⟨o', hfr c o' y' hc⟩
          · rcases other y with ⟨_, w⟩ | ⟨_, y'⟩
            · cases w
            · obtain ⟨u, g1, g2⟩ := R1.dat i e y'
              exact ⟨u, g1, Tr.mono sg g2⟩
          · rcases other y with ⟨hj, w⟩ | ⟨hj, y'⟩
            · cases w
              rw [hj]
              exact ⟨ad, f1, hga, f3, hrt⟩
            · obtain ⟨c, g1, g2, g3, g4⟩ := R1.own i b' e y'
              have hc : c ≠ ad := fun w => by
                subst w
                exact hj (R1.inj i j b' b c e d y' q g1 f1)
              refine ⟨c, g1, ?_, g3, Root.mono sg (fun o w => hfr c o w hc) g4⟩
              cases hg : G' c with
              | none => rfl
              | some o =>
                obtain ⟨o', w⟩ := g4.ex
                rw [hnw c o hg g2] at w
                cases w
          · rcases other y1 with ⟨hi, w⟩ | ⟨hi, y1'⟩
            · rcases other y2 with ⟨hk, w'⟩ | ⟨hk, y2'⟩
              · rw [hi, hk]
              · subst hi
                exact R1.inj i k b b2 c d _ q y2' w1 w2
            · rcases other y2 with ⟨hk, w'⟩ | ⟨hk, y2'⟩
              · subst hk
                exact R1.inj i k b1 b c _ d y1' q w1 w2
              · exact R1.inj i k b1 b2 c _ _ y1' y2' w1 w2
        refine z v G' H' (s1.trans sg) R' ?_
        cases r with
        | fz c => exact ro
        | sl i => exact ro.elim
        | ow c =>
          obtain ⟨p, rfl, n1, n2, rt⟩ := ro
          refine ⟨p, rfl, n2, .inl (R1.none0 n1), rt, fun i b' e y w => ?_⟩
          have some1 : ∃ o, H1 p = some o := by
            rcases other y with ⟨hj, _⟩ | ⟨hj, y'⟩
            · rw [hj] at w
              rw [f1] at w
              cases w
              exact haS
            · obtain ⟨c', g1, _, _, g4⟩ := R1.own i b' e y'
              rw [g1] at w
              cases w
              exact g4.ex
          obtain ⟨o, w⟩ := some1
          rw [n1] at w
          cases w
    · cases e
  · cases e
theorem de_callI {x : Str} {p : Pos} {n : Nat} {e : Expr} {es : List Expr} {F : D → List D → Option (Val × D)} {fa : Me (List Val)} {is : List Nat} (Fn : FnG X.prog X.w X.K X.mg X.base k f fd ps (spI X.K n F)) (room : Room k X.A) (guards : X.A.guards = some []) (hb : BindK X.K fd ps n [] is) (hg : Gl X x) (hm : X.mg x = some (.ref f)) (hk : PySem.W.keepIn X.K (.ref f) = true)
    (ha : DA X B (e :: es) fa) (hn : LenA fa n) (hq : ∀ {α : Type} (xs : List α), xs.length = n → permL is xs = xs) (hall : (backToKw pos (keywordEach [] X.env)).all (·.1.isSome) = true := by rfl) (hks : (backToKw pos (keywordEach [] X.env)).filterMap (·.1) = [] := by rfl) (hdb : (x == ("__debug__" : Str)) = false := by decide) (he : starEach (e :: es) X.env = (false, eval e X.env) :: starEach es X.env := by rfl)
    (hpl : ((backTo pos (starEach (e :: es) X.env)).any (·.1) || (backToKw pos (keywordEach [] X.env)).any (·.1.isNone)) = false := by rfl) : DE X B (.Call (.Name x p) (e :: es) [] pos) (callI F fa) :=
  PE.weak (pe_callK Fn room guards hb hg hm hk ha pk_nil hall hks hdb he hpl) (callI_of hn hq)
/-- .. a list that was just made, as the one argument -/
def callO (F : D → List D → Option (Val × D)) (g : Me Val) : Me Val := mb g fun x => fun δ => match x with
  | .ow d => (F d []).bind fun p => if flatV p.1 then some (p.1, δ) else none
  | _ => none
theorem de_callO {x : Str} {p : Pos} {e : Expr} {F : D → List D → Option (Val × D)} {g : Me Val} {is : List Nat} (Fn : FnG X.prog X.w X.K X.mg X.base k f fd ps (spI X.K 1 F)) (room : Room k X.A) (guards : X.A.guards = some []) (hb : BindK X.K fd ps 1 [] is) (hg : Gl X x) (hm : X.mg x = some (.ref f)) (hk : PySem.W.keepIn X.K (.ref f) = true)
    (ha : DE X B e g) (hq : ∀ {α : Type} (xs : List α), xs.length = 1 → permL is xs = xs) (hall : (backToKw pos (keywordEach [] X.env)).all (·.1.isSome) = true := by rfl) (hks : (backToKw pos (keywordEach [] X.env)).filterMap (·.1) = [] := by rfl) (hdb : (x == ("__debug__" : Str)) = false := by decide) (he : starEach [e] X.env = (false, eval e X.env) :: starEach [] X.env := by rfl)
    (hpl : ((backTo pos (starEach [e] X.env)).any (·.1) || (backToKw pos (keywordEach [] X.env)).any (·.1.isNone)) = false := by rfl) : DE X B (.Call (.Name x p) [e] [] pos) (callO F g) :=
  PE.weak (pe_callK Fn room guards hb hg hm hk (pa_cons ha pa_nil he) pk_nil hall hks hdb he hpl) fun σ H Q h => by
    obtain ⟨G, δ, res, δ', R, e, z⟩ := h
    obtain ⟨y, δ1, e1, e⟩ := mb_some e
    split at e
    · rename_i d
      obtain ⟨⟨r, d'⟩, e3, e⟩ := Option.bind_eq_some_iff.mp e
      obtain ⟨hf, e⟩ := ite_some e
      cases e
      cases r with
      | fz c =>
        refine ⟨G, δ, _, _, R, e1, fun v G1 H1 s1 R1 v1 => ?_⟩
        obtain ⟨a, rfl, n, n0, rt, u⟩ := v1
        refine ⟨rfl, rfl, ?_⟩
        rw [List.append_nil, hq _ rfl]
        refine ⟨G1, a, [], d, [], .fz c, d', rfl, rfl, R1.same, n, rt, .nil, e3, fun v G' H' sg sgh hnw hfr hga hrt ro => ?_⟩
        have R' : RelS X.K B G' H' δ' σ := by
          refine ⟨R1.len, sgh, R1.g0.trans sg, fun c o y m => ?_, fun c o y hio hlo => ?_, fun c o y => ?_, R1.iod, fun i e y => ?_, fun i b' e y => ?_, R1.inj⟩
          · cases hc : G1 c with
            | some u => exact R1.nw c u hc m
            | none => exact .inl (R1.none0 (hnw c o y hc))
          · have hc : c ≠ a := fun w => by
              subst w
              rcases n0 with m' | m'
              · rw [m'] at y
                cases y
              · exact hlo m'
            exact hfr c o (R1.frame c o y hio hlo) hc
          · obtain ⟨o', y'⟩ := R1.dom c o y
            by_cases hc : c = a
            · subst hc
              exact hrt.ex
            · exact ⟨o', hfr c o' y' hc⟩
          · obtain ⟨u, g1, g2⟩ := R1.dat i e y
            exact ⟨u, g1, Tr.mono sg g2⟩
          · obtain ⟨c, g1, g2, g3, g4⟩ := R1.own i b' e y
            have hc : c ≠ a := fun w => u i b' e y (w ▸ g1)
            refine ⟨c, g1, ?_, g3, Root.mono sg (fun o w => hfr c o w hc) g4⟩
            cases hg : G' c with
            | none => rfl
            | some o =>
              obtain ⟨o', w⟩ := g4.ex
              rw [hnw c o hg g2] at w
              cases w
        exact z v G' H' (s1.trans sg) R' ro
      | ow c => cases hf
      | sl c => cases hf
    · cases e
end

/-! ### a def's promise from its body -/
def startD (n : Nat) (ds : List D) : DS := ds.map .dat ++ List.replicate (n - ds.length) .un
def endV : Option (Fl × DS) → Option Val
  | some (.rt (.fz d), _) => some (.fz d)
  | some (.rt (.ow d), _) => some (.ow d)
  | some (.nx, _) => some (.fz .none)
  | _ => none
/-- what a def of n slots hands back -/
def bodyF (n : Nat) (g : Ss) : List D → Option Val := fun ds => endV (g (startD n ds))
theorem startD_get {K : Fg} {G : Hp} {vs : List V} {ds : List D} (t : TrAll K G vs ds) {N : List Str} {i : Nat} {s : Sl} (q : (startD N.length ds)[i]? = some s) : s = .un ∨ ∃ d v, s = .dat d ∧ (L2.start N vs)[i]? = some (some v) ∧ Tr K G v d := by
  unfold startD at q
  by_cases hi : i < ds.length
  · rw [List.getElem?_append_left (by simpa using hi), List.getElem?_map] at q
    obtain ⟨d, hd, rfl⟩ := Option.map_eq_some_iff.mp q
    obtain ⟨v, hv, tv⟩ := t.get hd
    refine .inr ⟨d, v, rfl, ?_, tv⟩
    unfold L2.start
    rw [List.getElem?_append_left (by rw [List.length_map, t.len]; exact hi), List.getElem?_map, hv]
    rfl
  · rw [List.getElem?_append_right (by simpa using hi), List.getElem?_replicate] at q
    split at q
    · exact .inl (Option.some.inj q).symm
    · cases q
theorem relS_start {K : Fg} {G H : Hp} {vs : List V} {ds : List D} (s : Same G H) (t : TrAll K G vs ds) (N : List Str) : RelS K ⟨G, H, [], fun _ => False⟩ G H (startD N.length ds) (L2.start N vs) where
  len := by
    unfold startD L2.start
    rw [List.length_append, List.length_append, List.length_map, List.length_map, List.length_replicate, List.length_replicate, t.len]
  same := s
  g0 := Same.refl _
  nw := fun a o e n => by
    have n : G a = none := n
    rw [n] at e
    cases e
  frame := fun _ _ e _ _ => e
  dom := fun _ o e => ⟨o, e⟩
  iod := fun p hp => by cases hp
  dat := fun i d q => by
    rcases startD_get t q with h | ⟨d', v, h, e, tv⟩
    · cases h
    · cases h
      exact ⟨v, e, tv⟩
  own := fun i b d q => by
    rcases startD_get t q with h | ⟨d', v, h, e, tv⟩ <;> cases h
  inj := fun i j b b' a d d' q => by
    rcases startD_get t q with h | ⟨d', v, h, e, tv⟩ <;> cases h
theorem RelS.exit {K : Fg} {G H G' H' : Hp} {δ : DS} {σ : L2.St} (R : RelS K ⟨G, H, [], fun _ => False⟩ G' H' δ σ) : Ex G H G' H' :=
  ⟨R.g0, R.same, fun b o e => R.frame b o e (fun p hp => by cases hp) id, fun a o e n => (R.nw a o e n).resolve_right id⟩
section
variable {P : Program} {w : World} {K : Fg} {mg : Str → Option Value} {base : Heap} {x qual : Str} {st : Stmt} {f : Addr} {fd : FuncData} {N ps : List Str} {k : Nat}
theorem ok_def {g : Ss} {n q : Nat} (hn : N.length = n) (hq : ps.length = q) (F : L2.Fun K x qual st f fd) (S : FnScope N ps (defScope st))
    (body : ∀ (B : Bs) (cdv : Value) (A : Around) (outer : List Env) (s : Shared) (H : Hp) (E : XK), Room k (A.deeper (envOfC qual (defScope st) s.heap.objs.size f cdv)) → (A.deeper (envOfC qual (defScope st) s.heap.objs.size f cdv)).guards = some [] →
      SB (bodyX P w K mg base N qual st f cdv A outer s H E) B (defBody st) g) : FnG P w K mg base (k + 1) f fd ps (spF K q (bodyF n g)) := by
  subst hn hq
  refine fn_ofG F S (fun vs H Q E h => ?_) fun cdv A outer s H vs Q E hr hgd h => ?_
  · obtain ⟨G, ds, r, hl, _⟩ := h
    exact hl
  · obtain ⟨G, ds, r, hl, sg, t, e, z⟩ := h
    have hb := body ⟨G, H, [], fun _ => False⟩ cdv A outer s H E hr hgd
    refine ⟨_, hb, ?_⟩
    have R0 := relS_start sg t N
    unfold bodyF at e
    cases hg : g (startD N.length ds) with
    | none => rw [hg] at e; cases e
    | some p =>
      obtain ⟨fl, δ'⟩ := p
      rw [hg] at e
      refine ⟨G, startD N.length ds, fl, δ', R0, hg, fun σ' G' H' s' R' => ?_⟩
      have x := R'.exit
      cases fl with
      | nx =>
        cases e
        exact z .non G' H' x .non
      | bk => cases e
      | ct => cases e
      | rt v =>
        intro u hv
        cases v with
        | fz d =>
          cases e
          exact z u G' H' x hv
        | ow d =>
          cases e
          obtain ⟨a, rfl, n, n0, rt, _⟩ := hv
          exact z _ G' H' x ⟨a, rfl, n0.resolve_right id, n, rt⟩
        | sl i => cases e
/-- the same for a def that changes its first argument -/
def ioAt (δ : DS) : Option D := match δ[0]? with
  | some (Sl.own true d) => some d
  | _ => none
theorem ioAt_some {δ : DS} {d : D} (h : ioAt δ = some d) : δ[0]? = some (Sl.own true d) := by
  unfold ioAt at h
  split at h
  · rename_i q
    cases h
    exact q
  · cases h
def startI (n : Nat) (d : D) (ds : List D) : DS := .own true d :: startD (n - 1) ds
def bodyI (n : Nat) (g : Ss) : D → List D → Option (Val × D) := fun d ds => match g (startI n d ds) with
  | some (fl, δ) => (endV (some (fl, δ))).bind fun r => (ioAt δ).bind fun d' => some (r, d')
  | none => none
theorem ok_defI {g : Ss} {n q : Nat} {y : Str} {ys : List Str} (hN : N = y :: ys) (hn : N.length = n) (hq : ps.length = q) (F : L2.Fun K x qual st f fd) (S : FnScope N ps (defScope st))
    (body : ∀ (B : Bs) (cdv : Value) (A : Around) (outer : List Env) (s : Shared) (H : Hp) (E : XK), Room k (A.deeper (envOfC qual (defScope st) s.heap.objs.size f cdv)) → (A.deeper (envOfC qual (defScope st) s.heap.objs.size f cdv)).guards = some [] →
      SB (bodyX P w K mg base N qual st f cdv A outer s H E) B (defBody st) g) : FnG P w K mg base (k + 1) f fd ps (spI K q (bodyI n g)) := by
  subst hn hq
  refine fn_ofG F S (fun vs H Q E h => ?_) fun cdv A outer s H vs Q E hr hgd h => ?_
  · obtain ⟨_, _, _, _, _, _, _, hl, _⟩ := h
    exact hl
  · obtain ⟨G, a, vr, d, ds, r, d', hl, rfl, sg, na, rt, t, e, z⟩ := h
    have hb := body ⟨G, H, [(0, a)], fun _ => False⟩ cdv A outer s H E hr hgd
    refine ⟨_, hb, ?_⟩
    have R1 := relS_start sg t ys
    have es : L2.start N (.ref a :: vr) = some (.ref a) :: L2.start ys vr := by
      subst hN
      unfold L2.start
      rw [List.map_cons, List.length_cons, List.length_cons, List.cons_append, Nat.add_sub_add_right]
    have ed : startI N.length d ds = .own true d :: startD ys.length ds := by
      subst hN
      rfl
    have nore : ∀ {i : Nat} {s' : Sl}, (startD ys.length ds)[i]? = some s' → ∀ b c, s' ≠ .own b c := fun {i s'} q b c z => by
      rcases startD_get t q with h | ⟨_, _, h, _⟩ <;> (rw [z] at h; cases h)
    have R0 : RelS K ⟨G, H, [(0, a)], fun _ => False⟩ G H (startI N.length d ds) (L2.start N (.ref a :: vr)) := by
      rw [es, ed]
      refine ⟨by rw [List.length_cons, List.length_cons, R1.len], sg, Same.refl _, R1.nw, fun _ _ e _ _ => e, fun _ o e => ⟨o, e⟩, fun p hp => ?_, fun i c q => ?_, fun i b c q => ?_, fun i j b b' p c c' q1 q2 z1 z2 => ?_⟩
      · have : p = (0, a) := by simpa using hp
        rw [this]
        exact rt.ex
      · cases i with
        | zero => cases q
        | succ i => exact R1.dat i c q
      · cases i with
        | zero =>
          cases q
          exact ⟨a, rfl, na, List.mem_cons_self, rt⟩
        | succ i => exact (nore (show (startD ys.length ds)[i]? = _ from q) b c rfl).elim
      · cases i with
        | zero =>
          cases j with
          | zero => rfl
          | succ j => exact (nore (show (startD ys.length ds)[j]? = _ from q2) b' c' rfl).elim
        | succ i => exact (nore (show (startD ys.length ds)[i]? = _ from q1) b c rfl).elim
    unfold bodyI at e
    cases hg : g (startI N.length d ds) with
    | none => rw [hg] at e; cases e
    | some p =>
      obtain ⟨fl, δ'⟩ := p
      rw [hg] at e
      obtain ⟨r', e1, e⟩ := Option.bind_eq_some_iff.mp e
      obtain ⟨d2, e2, e⟩ := Option.bind_eq_some_iff.mp e
      cases e
      have q2 := ioAt_some e2
      refine ⟨G, _, fl, δ', R0, hg, fun σ' G' H' s' R' => ?_⟩
      obtain ⟨a', f1, f2, f3, f4⟩ := R'.own 0 true d' q2
      have f3 : (0, a') ∈ [((0 : Nat), a)] := f3
      have ea : a' = a := by
        have := List.mem_singleton.mp f3
        exact congrArg Prod.snd this
      subst ea
      have fin : ∀ v, RO K G' H H' v r → Q v H' := fun v ro => z v G' H' R'.g0 R'.same (fun b o e n => (R'.nw b o e n).resolve_right id) (fun b o e n => R'.frame b o e (fun p hp => by
        have : p = (0, a') := by simpa using hp
        rw [this]
        exact fun q => n q.symm) id) f2 f4 ro
      cases fl with
      | nx =>
        cases e1
        exact fin .non .non
      | bk => cases e1
      | ct => cases e1
      | rt v =>
        intro u hv
        cases v with
        | fz c =>
          cases e1
          exact fin u hv
        | ow c =>
          cases e1
          obtain ⟨p, rfl, n, n0, rt', _⟩ := hv
          exact fin _ ⟨p, rfl, n0.resolve_right id, n, rt'⟩
        | sl i => cases e1
end
end DL
end
section
set_option maxRecDepth 100000
set_option maxHeartbeats 4000000
namespace DL
open PySem PySem.Spec L2
open PyProof.Rows hiding St

/-! ### the end of a law -/
theorem law_callG {P : Program} {w : World} {K : Fg} {mg mb : Str → Option Value} {k : Nat} {fa a : Addr} {fd : FuncData} {x : Str} {F : List D → Option Val} {t : Shared} {vs : List Value} {ns : List Int}
    (kin : K.In t.heap) (hns : t.heap.Ns mainGlobals mg) (hb : t.heap.Ns builtinsNs mb) (hbb : ∀ x : Str, x ≠ "__name__" → mb x = bootBuiltins x) (hlim : t.heap.NoLimit) (hgen : t.gens = #[])
    (ha : t.heap.get? a = some { cls := .type "list", data := .seq vs.toArray }) (hi : IntsAre vs ns) (hl : ns.length ≤ sizeLine) (room : Room k callerA)
    (Fn : ∀ base : Heap, K.In base → base.Ns mainGlobals mg → FnG P w K mg base k fa fd [x] (spF K 1 F)) (hbind : ∀ (s : Shared) (u : Value), BindsTo s fd ⟨[u], []⟩ [(x, u)]) (true_ : F [scrD ns] = some (.fz (.bool true))) :
    codeAny (model P w) callerA (.call (.ref fa) ⟨[.ref a], []⟩) (fun r s' => r = .ok (.ret (.bool true)) ∧ OldK t.heap s'.heap ∧ s'.os = t.os ∧ AllBare s'.gens) t := by
  have rel := vals_ints hi
  have long := hi.length
  -- the script, locked, unless it is an object of the module
  obtain ⟨H, hH, hHa⟩ : ∃ H : Hp, (∀ b u, H b = some u → b = a ∧ K.lookup a = none ∧ u = .frz { cls := .type "list", data := .seq vs.toArray } (.lst (ns.map V.int))) ∧ SqL K H a (ns.map V.int) := by
    cases hk : K.lookup a with
    | some o =>
      have e := kin a o hk
      rw [ha] at e
      cases e
      refine ⟨fun _ => none, ⟨fun b u z => ?_, .inr ⟨_, vs.toArray, _, hk, rfl, rfl, rfl, by rw [List.size_toArray, long]; exact hl, by simpa using rel⟩⟩⟩
      cases z
    | none =>
      refine ⟨upd (fun _ => none) a (.frz { cls := .type "list", data := .seq vs.toArray } (.lst (ns.map V.int))), fun b u z => ?_, .inl (.inr ⟨_, upd_same⟩)⟩
      by_cases hb : b = a
      · subst hb
        rw [upd_same] at z
        exact ⟨rfl, rfl, (Option.some.inj z).symm⟩
      · rw [upd_ne hb] at z
        cases z
  have hok : HOk P w H t.heap := fun b u z => by
    obtain ⟨rfl, _, rfl⟩ := hH b u z
    exact ⟨ha, by rw [List.length_map]; exact hl, vs, _, rel, ha⟩
  have shown : ∀ {b : Addr} {o : Obj}, t.heap.get? b = some o → H b = none → (hidT t.heap H).get? b = some o := fun e n => hidT_get e n
  have isDict : ∀ {b : Addr} {m : Str → Option Value}, t.heap.Ns b m → (hidT t.heap H).Ns b m := by
    rintro b m ⟨o, es, ep, e, d, rest⟩
    refine ⟨o, es, ep, shown e ?_, d, rest⟩
    cases q : H b with
    | none => rfl
    | some u =>
      obtain ⟨rfl, _, _⟩ := hH b u q
      rw [ha] at e
      cases e
      cases (show Data.seq vs.toArray _ = Data.dict es ep from d)
  have kinH : K.In (hidT t.heap H) := fun b o e => shown (kin b o e) (by
    cases q : H b with
    | none => rfl
    | some u =>
      obtain ⟨rfl, n, _⟩ := hH b u q
      rw [n] at e
      cases e)
  have env0 : Env0 P w K mg (hidT t.heap H) callerA [] t H := by
    refine ⟨rfl, ⟨kinH, isDict hns, ⟨mb, isDict hb, hbb⟩, ?_⟩, fun b o e => of_hidT e, Nat.le_of_eq (hidT_size _ _), trivial, fun b hb => ?_, hok, .of_eq hgen⟩
    · obtain ⟨mc, h1, h2⟩ := hlim
      exact ⟨mc, isDict h1, h2⟩
    · cases hb
  have prom : spF K 1 F [V.ref a] H (fun v _ => v = .bl true) E0 := ⟨H, [scrD ns], _, rfl, Same.refl _, .cons (.scr hHa) .nil, true_, fun v G' H' _ ro => by
    have ro : Tr K G' v (.bool true) := ro
    cases ro
    rfl⟩
  refine codeAny_mono ((Fn _ kinH (isDict hns)).run callerA [] t H ⟨[.ref a], []⟩ [.ref a] [.ref a] _ _ room rfl env0 (hbind t (.ref a)) (.cons rfl .nil) prom) ?_
  intro r s' got
  match r, got with
  | .error e, z => exact False.elim z
  | .ok .next, z => exact False.elim z
  | .ok .brk, z => exact False.elim z
  | .ok .cont, z => exact False.elim z
  | .ok (.ret u), ⟨v, H', os, bare, un, hok', rv, q⟩ =>
    have q : v = .bl true := q
    subst q
    obtain rfl : u = Value.bool true := rv
    refine ⟨rfl, OldK.of_keep fun b ob e => ?_, os, bare⟩
    cases hb : H b with
    | none => exact un.keep b ob e hb (by intro z; cases z) (by intro z; cases z)
    | some u =>
      obtain ⟨rfl, _, rfl⟩ := hH b u hb
      have kept := un.frzs b _ _ hb
      obtain ⟨e1, _⟩ := hok b _ hb
      obtain ⟨e2, _⟩ := hok' b _ kept
      rw [e] at e1
      cases e1
      exact e2
theorem walk_ofG {l : PySem.W.OpenLaw} {n k : Nat} {q : Program} {loose : List Str} {XP : (Str → Option Value) → Heap → Prop} {YP : World → Heap → Prop} {d : DefRec} {K : Params → Fg} {x : Str} {F : List D → Option Val}
    (hn : l.most = some n) (hn2 : n ≤ sizeLine) (hdf : d.params.defaults = []) (room : Room k callerA) (hY : ∀ (w : World) (h : Heap), YP w h → (K w.params).In h)
    (hF : ∀ (w : World) (mg : Str → Option Value) (fa : Addr) (h : Heap), (K w.params).In h → h.Ns mainGlobals mg → mg d.name = some (.ref fa) →
      ∃ fd : FuncData, (∀ (s : Shared) (u : Value), BindsTo s fd ⟨[u], []⟩ [(x, u)]) ∧ ∀ base : Heap, (K w.params).In base → base.Ns mainGlobals mg → FnG l.prog w (K w.params) mg base k fa fd [x] (spF (K w.params) 1 F))
    (true_ : ∀ ns : List Int, ns.length ≤ n → (∀ z ∈ ns, Builtin.Int.intBits z ≤ 1048576) → F [scrD ns] = some (.fz (.bool true))) :
    PySem.W.WalkO q loose XP YP l.row.toRowW d [] (fun f us => PySem.call f us) := by
  refine Att.attach_callB hn hdf fun w s0 s1 mg mb fa o pm cd doc a us ns G Y ho hd hcd names script whole short bits calm => ?_
  obtain ⟨fd, hb, hF⟩ := hF w mg fa _ (hY w _ Y) G.T.g names
  exact law_callG (hY w _ Y) G.T.g G.T.b G.T.builtins G.T.nolimit calm script whole (Nat.le_trans short hn2) room hF hb (true_ ns short bits)

/-! ### repr -/
def rRepr (K : Fg) : List V → Hp → VK → Prop := fun xs H Q => ∃ v d, xs = [v] ∧ Tr K H v d ∧ d.canLay0 = true ∧ d.showable = true ∧ d.depth ≤ 60 ∧ d.shown.length ≤ sizeLine ∧ Q (.str d.shown) H
theorem call_reprD {X : Cx} (hg : X.A.guards = some []) (hu : X.A.units + 64 < cLine) : CallR X (.builtin "repr") (rRepr X.K) := by
  intro pins s σ H xs us Q I r h
  obtain ⟨v, d, rfl, t, hc, hs, hd, hz, q⟩ := h
  obtain ⟨u, rfl, ru⟩ := vals1 r
  obtain ⟨as, rd⟩ := Dp.reads I d v u (Tr.dp t hc) ru
  have hdict := PyData.hasDict_of_canLay d hc
  cases rd with
  | none => exact PySem.P.repr_of_none ⟨.str _, H, I.tok _, ⟨_, rfl⟩, q⟩
  | bool b => exact PySem.P.repr_of_bool ⟨.str _, H, I.tok _, ⟨_, rfl⟩, by cases b <;> exact q⟩
  | int i t => exact PySem.P.repr_of_int (by simpa [PyData.showable] using hs) ⟨.str _, H, I.tok _, ⟨_, rfl⟩, q⟩
  | str x t => exact PySem.P.repr_of_str ⟨.str _, H, I.tok _, ⟨_, rfl⟩, q⟩ hz
  | list h1 h2 h3 h4 => exact repr_of_reads' (.list h1 h2 h3 h4) hs (PyData.noDict_hsm hdict) hg (by omega) (fun _ _ e => e) (fun h' u tk hk => ⟨.str _, H, I.kept (t' := tk) hk, ⟨_, rfl⟩, q⟩) hz
  | tuple h1 h2 h3 h4 => exact repr_of_reads' (.tuple h1 h2 h3 h4) hs (PyData.noDict_hsm hdict) hg (by omega) (fun _ _ e => e) (fun h' u tk hk => ⟨.str _, H, I.kept (t' := tk) hk, ⟨_, rfl⟩, q⟩) hz
  | dict _ _ _ _ _ => simp [PyData.canLay0] at hc
def reprOk (d : D) : Bool := d.canLay0 && d.showable && decide (d.depth ≤ 60) && szOk d.shown.length
def reprD : List D → Option Val
  | [d] => if reprOk d then some (.fz (.str d.shown)) else none
  | _ => none
theorem fd_repr {K : Fg} : FnD K (rRepr K) reprD := by
  intro G H vs ds res Q s vv hr k
  unfold reprD at hr
  split at hr
  · obtain ⟨c, rfl⟩ := ite_some hr
    unfold reprOk at c
    rw [Bool.and_eq_true, Bool.and_eq_true, Bool.and_eq_true] at c
    obtain ⟨v, rfl, v1⟩ := view1 vv
    exact ⟨v, _, rfl, v1.tr s, c.1.1.1, c.1.1.2, of_decide_eq_true c.1.2, szOk_le c.2, k _ G H (Ex.refl s) (.str _)⟩
  · cases hr
/-- {} -/
theorem room_units {X : Cx} {k : Nat} (h : Room k X.A) : X.A.units + 64 < cLine := h.units
end DL
end
section
set_option maxRecDepth 100000
set_option maxHeartbeats 4000000
namespace DL
open PySem PySem.Spec L2
open PyProof.Rows hiding St

/-! ### enumerate of a tuple -/
theorem meets_enum1 {v : Value} {o : Obj} {H : Heap → Prop} (B : Begins v o H) :
    Meets (Builtin.«enumerate.__new__» ⟨[.type "enumerate", v], []⟩) (fun _ R s => H s.heap ∧ R (.ok (.ret (.ref (s.heap.push o).objs.size))) { s with heap := (s.heap.push o).push { cls := .type "enumerate", data := .fields #[.none, .bool false, .ref s.heap.objs.size, rawInt 0, .none, .none] } }) :=
  .of_wp fun prog w A R t hh => by
    obtain ⟨hp, g, d, tk, os⟩ := t
    obtain ⟨h1, hR⟩ := hh
    have hsub := sub_enumerate
    have begins : ∀ {A' : Around} {E : Value → Shared → Prop} {Q : Value → Shared → Prop}, Q (.ref hp.objs.size) ⟨hp.push o, g, d, tk, os⟩ → wpAny (model prog w) A' (pyIter v) Q E ⟨hp, g, d, tk, os⟩ := fun q => B.iter prog w _ _ ⟨hp, g, d, tk, os⟩ _ h1 q
    wp_walk using begins
    refine wpAny_stack_any fun _ => wpAny_pure ?_
    split
    · rename_i c _ _ _ _ _
      cases (c == Value.type "enumerate") <;> (wp_walk using begins; exact ⟨_, rfl, hR⟩)
    · wp_walk using begins
      exact ⟨_, rfl, hR⟩
theorem call_enum_tuple {prog : Program} {w : World} {A : Around} {E : Value → Shared → Prop} {s : Shared} {t : Addr} {items : Array Value} {Q : Value → Shared → Prop} (ht : s.heap.IsTuple t items)
    (h : ∀ h', IsEnum h' (s.heap.objs.size + 1) s.heap.objs.size 0 .none → h'.IsTupleIter s.heap.objs.size t 0 → (∀ b o, s.heap.get? b = some o → h'.get? b = some o) → Q (.ref (s.heap.objs.size + 1)) { s with heap := h' }) :
    wpAny (model prog w) A (call (.type "enumerate") [.ref t]) Q E s := by
  have B := begins_tuple t items
  refine callType_new F.called_enumerate (by decide) (F.typeCall_enumerate_1 _) (F.newCall_enumerate_1 _) (fun obj => F.args_object_init_2 obj _) F.entry_enumerate_new (meets_enum1 B) ⟨ht, ?_⟩
  have hz : (s.heap.push { cls := .type "tuple_iterator", data := .fields #[.ref t, .int 0 0] }).objs.size = s.heap.objs.size + 1 := Heap.size_push ..
  rw [hz]
  generalize hh : (s.heap.push { cls := .type "tuple_iterator", data := .fields #[.ref t, .int 0 0] }).push { cls := .type "enumerate", data := .fields #[.none, .bool false, .ref s.heap.objs.size, rawInt 0, .none, .none] } = h2
  have at2 : IsEnum h2 (s.heap.objs.size + 1) s.heap.objs.size 0 .none := by
    have q := Heap.get?_push_size (s.heap.push { cls := .type "tuple_iterator", data := .fields #[.ref t, .int 0 0] }) (o := { cls := .type "enumerate", data := .fields #[.none, .bool false, .ref s.heap.objs.size, rawInt 0, .none, .none] }) rfl
    rw [hz, hh] at q
    exact q
  refine ⟨⟨_, at2, rfl⟩, h h2 at2 ?_ fun b o x => ?_⟩
  · rw [← hh]
    exact ⟨_, Heap.get?_push_of_some _ (Heap.get?_push_size _ rfl), rfl, rfl⟩
  · rw [← hh]
    exact Heap.get?_push_of_some _ (Heap.get?_push_of_some _ x)
/-- the tuple at a, each item in a new pair -/
def IteT (K : Fg) (a : Addr) : It where
  go := fun i H => ∃ (xs : List V) (x : V), SqT K H a xs ∧ xs[i]? = some x
  yld := fun i H v H' => ∃ T x, v = .ref T ∧ H T = none ∧ H' = upd H T (.tup [.int (i : Nat), x]) ∧ ∀ xs, SqT K H a xs → xs[i]? = some x
  stop := fun i H => ∃ xs : List V, SqT K H a xs ∧ xs.length ≤ i
theorem turn_enumT {P : Program} {w : World} {K : Fg} {elts : List Expr} {kk : Nat} {tpos : Pos} (a e it : Addr) :
    Turn P w K (.Tuple elts kk tpos) (IteT K a) [e, it] e (fun i h => (∃ old, IsEnum h e it ((i : Nat) : Int) old) ∧ h.IsTupleIter it a i ∧ e ≠ it) where
  mem := List.mem_cons_self
  obj := by
    rintro i h ⟨⟨old, he⟩, ⟨o, ho, _, hd⟩, _⟩ b hb
    rcases List.mem_cons.mp hb with z | hb
    · rw [z]
      exact ⟨_, he, fun v q => nomatch q⟩
    · rw [List.mem_singleton.mp hb]
      exact ⟨o, ho, fun v q => by rw [hd] at q; cases q⟩
  keep := by
    rintro i h h' ⟨⟨old, he⟩, hi, hne⟩ same
    exact ⟨⟨old, same e List.mem_cons_self _ he⟩, hi.at fun o q => same it (List.mem_cons_of_mem _ List.mem_cons_self) o q, hne⟩
  item := by
    intro X hP hw hK hc i pins s σ H E I hf st hgo
    subst hP hw hK
    obtain ⟨⟨old, he⟩, hit, hne⟩ := st
    obtain ⟨xs, x, hq, hx⟩ := hgo
    obtain ⟨its, rv, ⟨ot, eo, co, no, do_⟩, _⟩ := I.tuple hq
    have ht : s.heap.IsTuple a its.toArray := ⟨ot, eo, co, no, do_⟩
    have hea : e ≠ a := fun z => by
      rw [z] at he
      rw [show s.heap.get? a = some _ from he] at eo
      cases eo
      injection (show Value.type "enumerate" = Value.type "tuple" from co) with q
      exact absurd q (by decide)
    have hia : a ≠ it := fun z => by
      obtain ⟨o', h1, h2, _⟩ := id hit
      rw [z, h1] at eo
      cases eo
      rw [h2] at co
      injection co with q
      exact absurd q (by decide)
    have hlt : i < its.toArray.size := by
      have := (List.getElem?_eq_some_iff.mp hx).1
      have := rv.length
      simp only [List.size_toArray]
      omega
    have hel : e < s.heap.objs.size := Heap.lt_size he
    have hil : it < s.heap.objs.size := by
      obtain ⟨_, q, _⟩ := hit
      exact Heap.lt_size q
    have D := Draws.tuple (prog := X.prog) (w := X.w) (A := X.A.in1) (I.ok.hd hc) it a hia its.toArray
    refine wpAny_pyNext_enum_itemD D he ⟨hit, ht⟩ hlt hne (by simp [hne, hea]) fun u h' tk hu ho hst hT _ hk => ?_
    have ru : RelV x u := by
      obtain ⟨u', hu', ru'⟩ := rv.get hx
      have : u = u' := Option.some.inj ((by simpa using hu.symm : some u = its[i]?).trans hu')
      rw [this]
      exact ru'
    refine ⟨_, rfl, wpAny_letOwnedTupleGo_enum (s := { s with heap := h', toks := tk + 1 }) ho fun h2 he2 sb => ?_⟩
    have pair : h2.get? s.heap.objs.size = some { cls := .type "tuple", data := .seq #[.int i tk, u] } := (sb.2 _ (Nat.ne_of_gt hel)).trans hT
    have made : ObjOk X.prog X.w (upd H s.heap.objs.size (.tup [.int (i : Nat), x])) h2 s.heap.objs.size (.tup [.int (i : Nat), x]) := ⟨by show 2 ≤ sizeLine; decide, [.int i tk, u], .cons ⟨_, rfl⟩ (.cons ru .nil), ⟨_, pair, rfl, _, rfl⟩⟩
    have J := I.turnedNew (t' := tk + 1) (ch := [e, it]) (h' := h2) (fun b ob hb q => (sb.2 b fun z => hb (z ▸ List.mem_cons_self)).trans (hk b ob (fun z => hb (z ▸ List.mem_cons_self)) (fun z => hb (z ▸ List.mem_cons_of_mem _ List.mem_cons_self)) q)) hf (Nat.le_refl _) made
    refine ⟨.ref s.heap.objs.size, _, J, rfl, ⟨_, x, rfl, I.hok.fresh (Nat.le_refl _), rfl, fun ys hy => by rw [I.tuple_inj hy hq]; exact hx⟩, ⟨⟨u, ?_⟩, hst.1.at fun o q => (sb.2 it (Ne.symm hne)).trans q, hne⟩, fun b hb => ?_⟩
    · rw [show ((i + 1 : Nat) : Int) = (i : Int) + 1 by omega]
      exact he2
    · have small : b < s.heap.objs.size := by
        rcases List.mem_cons.mp hb with z | z
        · rw [z]; exact hel
        · rw [List.mem_singleton.mp z]; exact hil
      rw [upd_ne (Nat.ne_of_lt small)]
      exact (hf b hb).1
  done := by
    intro X hP hw hK hc i pins s σ H E I hf st hstop
    subst hP hw hK
    obtain ⟨⟨old, he⟩, hit, hne⟩ := st
    obtain ⟨xs, hq, hx⟩ := hstop
    obtain ⟨its, rv, ⟨ot, eo, co, no, do_⟩, _⟩ := I.tuple hq
    have ht : s.heap.IsTuple a its.toArray := ⟨ot, eo, co, no, do_⟩
    have hia : a ≠ it := fun z => by
      obtain ⟨o', h1, h2, _⟩ := id hit
      rw [z, h1] at eo
      cases eo
      rw [h2] at co
      injection co with q
      exact absurd q (by decide)
    obtain ⟨f0, f1, f2, f3, f4, f5⟩ := hf it (List.mem_cons_of_mem _ List.mem_cons_self)
    have hd := I.ok.hd hc
    have hle : its.toArray.size ≤ i := by
      have := rv.length
      simp only [List.size_toArray]
      omega
    have D : Draws X.prog X.w X.A.in1 it [it, a] i (fun i v => its.toArray[i]? = some v) (fun j h => (h.IsTupleIter it a j ∧ h.IsTuple a its.toArray) ∧ j = i) := by
      have D0 := Draws.tuple (prog := X.prog) (w := X.w) (A := X.A.in1) hd it a hia its.toArray
      exact ⟨fun j h st => D0.live j h st.1, fun j h h' st q => ⟨D0.frame j h h' st.1 q, st.2⟩, fun j s Q E hj st _ => absurd st.2 (Nat.ne_of_lt hj), fun s Q E st hE => wpAny_nextOf_tuple_end hd st.1.1 st.1.2 (by rw [Array.getElem?_eq_none_iff]; exact hle) hE⟩
    exact wpAny_pyNext_enum_endD D he ⟨⟨hit, ht⟩, rfl⟩ fun h' eb => ⟨rfl, I.turned (t' := s.toks) (fun b o hb q => eb b o hb q) f0 f1 f3 f4 f5⟩
  self := fun _ _ _ _ _ st h => wpAny_pyIter_enum st.1.choose_spec h
def iEnumT (K : Fg) (ta : TA) : TI := fun σ H R => ta σ H fun vs H1 => ∃ (a : Addr) (xs : List V), vs = [.ref a] ∧ SqT K H1 a xs ∧ R (IteT K a) H1
theorem pi_enumT {X : Cx} {e : Expr} {ta : TA} {p pos tpos : Pos} {elts : List Expr} {kk : Nat} (hg : Gl X "enumerate") (hm : X.mg "enumerate" = none) (ha : PA X [e] ta) (hs : starEach [e] X.env = [(false, eval e X.env)] := by rfl) : PI X (.Tuple elts kk tpos) (.Call (.Name "enumerate" p) [e] [] pos) (iEnumT X.K ta) := by
  refine ⟨fun pins s σ H R I h => Call_ (ld_blt I hg hm boot_enumerate (PyProof.Rows.callWith_type1 (thn (ha.run pos pins s σ H _ I h) ?_) hs rfl))⟩
  rintro us s1 ⟨vs, H1, I1, r1, a, xs, rfl, hq, q⟩
  obtain ⟨u, rfl, ru⟩ := vals1 r1
  cases ru
  obtain ⟨its, rv, ⟨ot, eo, co, no, do_⟩, _⟩ := I1.tuple hq
  refine call_enum_tuple (items := its.toArray) ⟨ot, eo, co, no, do_⟩ fun h' he hit hk => wpAny_pyIter_enum he ?_
  have J : Inv X pins σ H1 { s1 with heap := h' } := I1.kept (t' := s1.toks) hk
  refine ⟨s1.heap.objs.size + 1, [s1.heap.objs.size + 1, s1.heap.objs.size], _, _, H1, rfl, J, turn_enumT a (s1.heap.objs.size + 1) s1.heap.objs.size, ⟨⟨.none, he⟩, hit, Nat.succ_ne_self _⟩, fun b hb => ?_, q⟩
  have big : s1.heap.objs.size ≤ b := by
    rcases List.mem_cons.mp hb with z | z
    · rw [z]; exact Nat.le_succ _
    · rw [List.mem_singleton.mp z]; exact Nat.le_refl _
  exact I1.fpOk big (I1.hok.fresh big)
theorem it_enumT {K : Fg} {G1 : Hp} {a : Addr} {xs : List V} {ds : List D} (h : SqT K G1 a xs) (t : TrAll K G1 xs ds) : ItD K (IteT K a) (enumD ds) G1 := fun i G H s sh => by
  have q : SqT K H a xs := Same.tup (s.trans sh) h
  refine ⟨fun d hd => ?_, fun hi => ⟨xs, q, by unfold enumD at hi; rw [List.length_map, List.length_zipIdx] at hi; rw [t.len]; exact hi⟩⟩
  unfold enumD at hd
  rw [List.getElem?_map, List.getElem?_zipIdx] at hd
  obtain ⟨p, hp, rfl⟩ := Option.map_eq_some_iff.mp hd
  obtain ⟨e, he, rfl⟩ := Option.map_eq_some_iff.mp hp
  obtain ⟨v, hv, tv⟩ := t.get he
  refine ⟨⟨xs, v, q, hv⟩, fun x H' y => ?_⟩
  obtain ⟨T, z, rfl, n, rfl, y⟩ := y
  have := y xs q
  rw [hv] at this
  cases this
  refine ⟨_, Ex.pushF sh _ n, ?_⟩
  rw [Nat.zero_add]
  exact Tr.tup (.inl (.inl upd_same)) (TrAll.mono (same_upd (sh.free n)) (.cons (.int _) (.cons (Tr.mono s tv) .nil)))
def enumA (fa : Me (List Val)) : Me (List D) := mb fa fun xs => mo fun _ => match xs with
  | [.fz (.list ds)] => some (enumD ds)
  | [.ow (.list ds)] => some (enumD ds)
  | [.fz (.tuple ds)] => some (enumD ds)
  | _ => none
theorem di_enumA {X : Cx} {B : Bs} {e : Expr} {fa : Me (List Val)} {p pos tpos : Pos} {elts : List Expr} {kk : Nat} (hg : Gl X "enumerate") (hm : X.mg "enumerate" = none) (ha : DA X B [e] fa) (hs : starEach [e] X.env = [(false, eval e X.env)] := by rfl) : DI X B (.Tuple elts kk tpos) (.Call (.Name "enumerate" p) [e] [] pos) (enumA fa) := PI.weak (PI.or (di_enum hg hm ha hs) (pi_enumT hg hm ha hs)) fun σ H Q q => by
  obtain ⟨G, δ, ds, δ', R, e, k⟩ := q
  obtain ⟨xs, δ1, e1, e⟩ := mb_some e
  obtain ⟨e2, rfl⟩ := mo_some e
  have lists : ∀ z, xs = [z] → (z = .fz (.list ds) ∨ z = .ow (.list ds)) → False ∨ True := fun _ _ _ => .inr trivial
  split at e2
  · rename_i es
    cases e2
    refine .inl ⟨G, δ, enumD es, _, R, ?_, k⟩
    unfold enumM mb
    rw [e1]
    rfl
  · rename_i es
    cases e2
    refine .inl ⟨G, δ, enumD es, _, R, ?_, k⟩
    unfold enumM mb
    rw [e1]
    rfl
  · cases e2
    refine .inr ⟨G, δ, _, _, R, e1, fun vs G1 H1 s1 R1 v1 => ?_⟩
    cases v1 with
    | cons a b =>
      cases b
      obtain ⟨c, ys, rfl, h, t⟩ := Tr.tupI (show Tr X.K G1 _ (.tuple _) from a)
      exact ⟨c, ys, rfl, Same.tup R1.same h, k _ G1 H1 s1 R1 (it_enumT h t)⟩
  · cases e2
/-! ### str(n), {} -/
def strI : List D → Option Val
  | [.int i] => if decide (i.natAbs.log2 < 1920) then some (.fz (.str (toString i))) else none
  | _ => none
theorem fd_str {K : Fg} : FnD K (fun xs H Q => ∃ i : Int, xs = [.int i] ∧ i.natAbs.log2 < 1920 ∧ Q (.str (toString i)) H) strI := by
  intro G H vs ds res Q s vv hr k
  unfold strI at hr
  split at hr
  · obtain ⟨c, rfl⟩ := ite_some hr
    obtain ⟨v, rfl, v1⟩ := view1 vv
    cases v1.int
    exact ⟨_, rfl, of_decide_eq_true c, k _ G H (Ex.refl s) (.str _)⟩
  · cases hr
def dnewM : Me Val := mr (.ow (.dict []))
theorem de_dnew {X : Cx} {B : Bs} {pos : Pos} : DE X B (.Dict [] [] pos) dnewM := PE.weak pe_dnewK fun σ H Q h => by
  obtain ⟨G, δ, r, δ', R, e, k⟩ := h
  cases e
  intro p n
  have x := Ex.push R.same (.dK []) n
  exact k _ _ _ x.g (R.ex x) (RO.rv R ⟨p, rfl, n, R.same.free n, .dic upd_same .nil⟩)
/-! ### built-in names -/
theorem bt_len : bootBuiltins "len" = some (.builtin "len") := by decide +kernel
theorem bt_abs : bootBuiltins "abs" = some (.builtin "abs") := by decide +kernel
theorem bt_divmod : bootBuiltins "divmod" = some (.builtin "divmod") := by decide +kernel
theorem bt_sum : bootBuiltins "sum" = some (.builtin "sum") := by decide +kernel
theorem bt_any : bootBuiltins "any" = some (.builtin "any") := by decide +kernel
theorem bt_all : bootBuiltins "all" = some (.builtin "all") := by decide +kernel
theorem bt_repr : bootBuiltins "repr" = some (.builtin "repr") := by decide +kernel
theorem bt_max : bootBuiltins "max" = some (.builtin "max") := by decide +kernel
theorem bt_min : bootBuiltins "min" = some (.builtin "min") := by decide +kernel
theorem bt_sorted : bootBuiltins "sorted" = some (.builtin "sorted") := by decide +kernel
theorem bt_isinstance : bootBuiltins "isinstance" = some (.builtin "isinstance") := by decide +kernel
theorem bt_int : bootBuiltins "int" = some (.type "int") := by decide +kernel
theorem bt_bool : bootBuiltins "bool" = some (.type "bool") := by decide +kernel
theorem bt_str : bootBuiltins "str" = some (.type "str") := by decide +kernel
theorem bt_list : bootBuiltins "list" = some (.type "list") := by decide +kernel
theorem bt_tuple : bootBuiltins "tuple" = some (.type "tuple") := by decide +kernel
theorem bt_dict : bootBuiltins "dict" = some (.type "dict") := by decide +kernel
theorem bt_set : bootBuiltins "set" = some (.type "set") := by decide +kernel
end DL
end
section
set_option maxRecDepth 100000
set_option maxHeartbeats 4000000
namespace DL
open PySem PySem.Spec L2
open PyProof.Rows hiding St

section
variable {X : Cx} {B : Bs} {pos : Pos}
/-! ### x, y = a, b: what b hands back is kept as one's own -/
def parO (i j : Nat) (f g : Me Val) : Ss := fun δ => match f δ with
  | some (v, δ1) => (match g δ1 with
    | some (w, δ2) => (asg i (fzv v) δ2).bind fun δ3 => (asg j w δ3).bind fun δ4 => some (.nx, δ4)
    | none => none)
  | none => none
theorem RV.past {K : Fg} {G H : Hp} {δ δ' : DS} {σ : L2.St} {i : Nat} {v u : V} {r w : Val} (h : RV K B G H δ σ v w) (e : asg i (fzv r) δ = some δ') (hn : ∀ k, w ≠ .sl k) : RV K B G H δ' (σ.set i (some u)) v w := by
  cases w with
  | fz d => exact h
  | sl k => exact (hn k rfl).elim
  | ow d =>
    obtain ⟨a, rfl, h1, h2, h3, h4⟩ := h
    refine ⟨a, rfl, h1, h2, h3, fun k b d' q => ?_⟩
    have hd : ∃ d0, δ' = δ.set i (.dat d0) := by
      unfold asg at e
      split at e
      · cases r with
        | fz d => exact ⟨d, (Option.some.inj e).symm⟩
        | ow d => exact ⟨d, (Option.some.inj e).symm⟩
        | sl k => cases e
      · cases e
    obtain ⟨d0, rfl⟩ := hd
    by_cases hk : k = i
    · subst hk
      have hl : k < δ.length := by
        have := (List.getElem?_eq_some_iff.mp q).1
        rwa [List.length_set] at this
      rw [List.getElem?_set_self hl] at q
      cases q
    · rw [List.getElem?_set_ne (Ne.symm hk)] at q ⊢
      exact h4 k b d' q
theorem ss_parO {i j : Nat} {x y : Str} {a b : Expr} {f g : Me Val} {px py pt : Pos} {kt k2 pt2} (hc : X.calm = true) (hN : X.N.Nodup) (hi : X.N[i]? = some x) (hj : X.N[j]? = some y) (hij : i ≠ j)
    (hx : X.env.scope.names.lookup x = some .local) (hy : X.env.scope.names.lookup y = some .local) (ha : DE X B a f) (hb : DE X B b g)
    (hw : swappedStores [.Tuple [.Name x px, .Name y py] kt pt] (.Tuple [a, b] k2 pt2) X.env = pure (some [x, y])) (hs : swapsWithSole [.Tuple [.Name x px, .Name y py] kt pt] (.Tuple [a, b] k2 pt2) pos.line X.env = pure false := by rfl)
    (h1 : starEach [a, b] X.env = (false, eval a X.env) :: starEach [b] X.env := by rfl) (h2 : starEach [b] X.env = (false, eval b X.env) :: starEach [] X.env := by rfl) :
    SS X B (.Assign [.Tuple [.Name x px, .Name y py] kt pt] (.Tuple [a, b] k2 pt2) pos) (parO i j f g) := PS.weak (ps_par hc hN hi hj hij hx hy (pa_cons ha (pa_cons hb pa_nil h2) h1) hw hs) fun E σ H q => by
  obtain ⟨G, δ, fl, δ', R, e, k⟩ := q
  unfold parO at e
  split at e
  · rename_i v δ1 hg
    split at e
    · rename_i w δ2 hg2
      obtain ⟨δ3, e2, e⟩ := Option.bind_eq_some_iff.mp e
      obtain ⟨δ4, e3, e⟩ := Option.bind_eq_some_iff.mp e
      cases e
      refine ⟨G, δ, _, δ1, R, hg, fun u G1 H1 s1 R1 v1 => ?_⟩
      obtain ⟨G1', s1', R1', v1'⟩ := v1.freeze R1
      refine ⟨G1', δ1, w, δ2, R1', hg2, fun u2 G2 H2 s2 R2 v2 => ?_⟩
      have v1'' : RV X.K B G2 H2 δ2 σ u (fzv v) := RV.stay s2 v1'
      refine ⟨_, _, rfl, ?_⟩
      have R3 := R2.set v1'' e2
      have hn : ∀ k, w ≠ .sl k := fun k z => by
        subst z
        unfold asg at e3
        split at e3 <;> cases e3
      exact k _ G2 H2 ((s1.trans s1').trans s2) (R3.set (v2.past e2 hn) e3)
    · cases e
  · cases e
/-! ### a, b, c = l, of a tuple or a list -/
theorem PG.or' {e : Expr} {t t' : TG} (h : PG X e t) (h' : PG X e t') : PG X e (fun v σ H Q => t v σ H Q ∨ t' v σ H Q) := ⟨fun pins s σ H v u Q I r w => w.elim (h.run pins s σ H v u Q I r) (h'.run pins s σ H v u Q I r)⟩
def tupA (n : Nat) (g : Tgs) : Tg := fun v δ => match v with
  | .fz (.tuple ds) => if ds.length = n then g ds δ else none
  | .fz (.list ds) => if ds.length = n then g ds δ else none
  | _ => none
theorem dg_tupA {es : List Expr} {kk : Nat} {g : Tgs} {n : Nat} {ws : List Nat} (hc : X.calm = true) (h : DGs X B ws es g) (hn : (assignEach es X.env).length = n := by rfl) (hst : (assignEach es X.env).findIdx? (·.1) = none := by rfl) : DG X B ws (.Tuple es kk pos) (tupA n g) := PG.weak (PG.or' (pg_tup hc h hn hst) (pg_lst hc h hn hst)) fun v σ H Q q => by
  obtain ⟨G, δ, r, δ', R, rv, e, k⟩ := q
  unfold tupA at e
  split at e
  · rename_i ds
    split at e
    · rename_i hl
      have rv : Tr X.K G v (.tuple ds) := rv
      cases rv with
      | @tup a xs _ hx t => exact .inl ⟨a, xs, rfl, Same.tup R.same hx, by rw [t.len]; exact hl, G, δ, ds, δ', R, t, e, k⟩
    · cases e
  · rename_i ds
    split at e
    · rename_i hl
      have rv : Tr X.K G v (.list ds) := rv
      cases rv with
      | @lst a xs _ hx t => exact .inr ⟨a, xs, rfl, .inl (.inl (R.same _ _ hx)), by rw [t.len]; exact hl, G, δ, ds, δ', R, t, e, k⟩
    · cases e
  · cases e
end
end DL
end
section
set_option maxRecDepth 100000
set_option maxHeartbeats 1000000
namespace DL
open PySem PySem.Spec L2

/-! ### loops as mathematics -/
theorem compL_gen {gt : Tg} {ft : Me Bool} {fe : Me Val} {vs : List Nat} {δ0 : DS} (g : D → Option D) : ∀ {ds : List D}, (∀ d ∈ ds, ∃ δd, gt (.fz d) δ0 = some δd ∧ ((g d = none ∧ ft δd = some (false, δd)) ∨ ∃ e v, g d = some e ∧ ft δd = some (true, δd) ∧ fe δd = some (v, δd) ∧ treeV v = some e) ∧ wipeD δd vs = δ0) →
    compL gt ft fe vs ds δ0 = some (ds.filterMap g, δ0)
  | [], _ => rfl
  | d :: r, h => by
    obtain ⟨δd, h1, h2, h3⟩ := h d List.mem_cons_self
    have ih := compL_gen g (ds := r) fun x hx => h x (List.mem_cons_of_mem _ hx)
    rcases h2 with ⟨hg, hf⟩ | ⟨e, v, hg, hf, he, hv⟩
    · simp only [compL, h1, Option.bind_some, hf, h3, ih, List.filterMap_cons, hg]
    · simp only [compL, h1, Option.bind_some, hf, he, hv, h3, ih, List.filterMap_cons, hg]
/-- a comprehension that changes nothing: its target's slots are vs -/
theorem compM_gen {fi : Me (List D)} {gt : Tg} {ft : Me Bool} {fe : Me Val} {vs : List Nat} {δ : DS} {ds : List D} (g : D → Option D) (hi : fi δ = some (ds, δ)) (hp : vs.all (plainAt δ) = true) (hb : backD δ (wipeD δ vs) vs = δ) (hz : szOk (ds.filterMap g).length = true)
    (h : ∀ d ∈ ds, ∃ δd, gt (.fz d) (wipeD δ vs) = some δd ∧ ((g d = none ∧ ft δd = some (false, δd)) ∨ ∃ e v, g d = some e ∧ ft δd = some (true, δd) ∧ fe δd = some (v, δd) ∧ treeV v = some e) ∧ wipeD δd vs = wipeD δ vs) :
    compM fi gt ft fe vs δ = some (.ow (.list (ds.filterMap g)), δ) := by
  unfold compM
  rw [hi]
  show (if _ then _ else _) = _
  rw [if_pos hp, compL_gen g h]
  show (if _ then _ else _) = _
  rw [if_pos hz, hb]
/-- one that changes the frame, told by what holds between its turns -/
theorem compL_inv {gt : Tg} {ft : Me Bool} {fe : Me Val} {vs : List Nat} (I : DS → Prop) (P : D → Prop) (h : ∀ d δ, I δ → ∃ δ1 δ2 v e δ3, gt (.fz d) δ = some δ1 ∧ ft δ1 = some (true, δ2) ∧ fe δ2 = some (v, δ3) ∧ treeV v = some e ∧ P e ∧ I (wipeD δ3 vs)) :
    ∀ (ds : List D) (δ : DS), I δ → ∃ es δ', compL gt ft fe vs ds δ = some (es, δ') ∧ es.length = ds.length ∧ (∀ e ∈ es, P e) ∧ I δ'
  | [], δ, i => ⟨[], δ, rfl, rfl, (by intro e he; cases he), i⟩
  | d :: r, δ, i => by
    obtain ⟨δ1, δ2, v, e, δ3, h1, h2, h3, h4, h5, h6⟩ := h d δ i
    obtain ⟨es, δ', e1, e2, e3, e4⟩ := compL_inv I P h r _ h6
    refine ⟨e :: es, δ', ?_, by simp [e2], fun x hx => ?_, e4⟩
    · simp only [compL, h1, Option.bind_some, h2, h3, h4, e1]
    · rcases List.mem_cons.mp hx with q | q
      · rw [q]; exact h5
      · exact e3 x q
theorem forL_inv {gt : Tg} {body : Ss} (I : List D → DS → Prop) : ∀ (ds done : List D) (δ : DS), (∀ done d rest δ, done ++ d :: rest = done ++ ds ∨ True → d ∈ ds → I done δ → ∃ δ1 δ2, gt (.fz d) δ = some δ1 ∧ (body δ1 = some (.nx, δ2) ∨ body δ1 = some (.ct, δ2)) ∧ I (done ++ [d]) δ2) → I done δ → ∃ δ', forL gt body ds δ = some (.nx, δ') ∧ I (done ++ ds) δ'
  | [], done, δ, _, i => ⟨δ, rfl, by simpa using i⟩
  | d :: r, done, δ, h, i => by
    obtain ⟨δ1, δ2, h1, h2, h3⟩ := h done d r δ (.inr trivial) List.mem_cons_self i
    obtain ⟨δ', e1, e2⟩ := forL_inv I r (done ++ [d]) δ2 (fun dn x rest δ _ hx j => h dn x rest δ (.inr trivial) (List.mem_cons_of_mem _ hx) j) h3
    refine ⟨δ', ?_, by simpa using e2⟩
    rcases h2 with h2 | h2 <;> simp only [forL, h1, Option.bind_some, h2, e1]
/-- a search that hands back v at the first item that is not p -/
theorem forL_all {gt : Tg} {body : Ss} {v : Val} (I : DS → Prop) (p : D → Bool) : ∀ (ds : List D) (δ : DS), (∀ d ∈ ds, ∀ δ, I δ → ∃ δ1, gt (.fz d) δ = some δ1 ∧ ((p d = true ∧ ∃ δ2, (body δ1 = some (.nx, δ2) ∨ body δ1 = some (.ct, δ2)) ∧ I δ2) ∨ (p d = false ∧ ∃ δ2, body δ1 = some (.rt v, δ2)))) → I δ →
    (ds.all p = true ∧ ∃ δ', forL gt body ds δ = some (.nx, δ') ∧ I δ') ∨ (ds.all p = false ∧ ∃ δ', forL gt body ds δ = some (.rt v, δ'))
  | [], δ, _, i => .inl ⟨rfl, δ, rfl, i⟩
  | d :: r, δ, h, i => by
    obtain ⟨δ1, h1, h2⟩ := h d List.mem_cons_self δ i
    rcases h2 with ⟨hp, δ2, hb, i2⟩ | ⟨hp, δ2, hb⟩
    · rcases forL_all I p r δ2 (fun x hx => h x (List.mem_cons_of_mem _ hx)) i2 with ⟨a, δ', b, c⟩ | ⟨a, δ', b⟩
      · refine .inl ⟨by simp [hp, a], δ', ?_, c⟩
        rcases hb with hb | hb <;> simp only [forL, h1, Option.bind_some, hb, b]
      · refine .inr ⟨by simp [hp, a], δ', ?_⟩
        rcases hb with hb | hb <;> simp only [forL, h1, Option.bind_some, hb, b]
    · exact .inr ⟨by simp [hp], δ2, by simp only [forL, h1, Option.bind_some, hb]⟩
theorem whileN_inv {c : Me Bool} {body : Ss} (I J : DS → Prop) (μ : DS → Nat) (h : ∀ δ, I δ → (∃ δ1, c δ = some (false, δ1) ∧ J δ1) ∨ ∃ δ1 δ2, c δ = some (true, δ1) ∧ (body δ1 = some (.nx, δ2) ∨ body δ1 = some (.ct, δ2)) ∧ I δ2 ∧ μ δ2 < μ δ) :
    ∀ (n : Nat) (δ : DS), I δ → μ δ < n → ∃ δ', whileN c body n δ = some (.nx, δ') ∧ J δ'
  | 0, _, _, hn => absurd hn (Nat.not_lt_zero _)
  | n + 1, δ, i, hn => by
    rcases h δ i with ⟨δ1, h1, h2⟩ | ⟨δ1, δ2, h1, h2, h3, h4⟩
    · exact ⟨δ1, by simp only [whileN, h1], h2⟩
    · obtain ⟨δ', e1, e2⟩ := whileN_inv I J μ h n δ2 h3 (by omega)
      refine ⟨δ', ?_, e2⟩
      rcases h2 with h2 | h2 <;> simp only [whileN, h1, h2, e1]
/-! ### items -/
theorem atI_last1 {α : Type} (xs : List α) (x : α) : atI (xs ++ [x]) (-1) = some x := by
  unfold atI ixN
  rw [if_neg (by omega), if_pos (by simp only [List.length_append, List.length_cons, List.length_nil]; omega)]
  show (xs ++ [x])[((-1 : Int) + ((xs ++ [x]).length : Nat)).toNat]? = _
  have e : ((-1 : Int) + ((xs ++ [x]).length : Nat)).toNat = xs.length := by
    simp only [List.length_append, List.length_cons, List.length_nil]
    omega
  rw [e]
  simp
theorem atI_natI {α : Type} (xs : List α) (i : Nat) (h : i < xs.length) : atI xs (i : Int) = xs[i]? := by
  unfold atI ixN
  rw [if_pos (by omega), if_pos (by omega)]
  simp
theorem last_split {α : Type} : ∀ {xs : List α}, xs ≠ [] → ∃ ys y, xs = ys ++ [y]
  | [], h => absurd rfl h
  | x :: r, _ => ⟨(x :: r).dropLast, (x :: r).getLast (List.cons_ne_nil _ _), (List.dropLast_concat_getLast _).symm⟩
abbrev IL (a : List Int) : D := .list (a.map .int)
/-! ### == of what is known -/
theorem shaped_int (i : Int) : SeqAt.shaped (.int i) = true := by unfold SeqAt.shaped; simp [PyData.canLay0, PyData.depth]
theorem eqD_int (i j : Int) : eqD (.int i) (.int j) = some (.fz (.bool (decide (i = j)))) := by
  unfold eqD
  rw [shaped_int, shaped_int, if_pos (by rfl)]
  congr 3
theorem neD_int (i j : Int) : neD (.int i) (.int j) = some (.fz (.bool (!decide (i = j)))) := by
  unfold neD
  rw [shaped_int, shaped_int, if_pos (by rfl)]
  congr 4
theorem lay_ints : ∀ a : List Int, PyData.canLayAll0 (a.map PyData.int) = true
  | [] => by simp [PyData.canLayAll0]
  | _ :: r => by simp [PyData.canLayAll0, PyData.canLay0, lay_ints r]
theorem depth_ints : ∀ a : List Int, PyData.depthAll (a.map PyData.int) = 0
  | [] => by simp [PyData.depthAll]
  | _ :: r => by simp [PyData.depthAll, PyData.depth, depth_ints r]
theorem lay_rows : ∀ a : List (List Int), PyData.canLayAll0 (a.map IL) = true
  | [] => by simp [PyData.canLayAll0]
  | x :: r => by simp [PyData.canLayAll0, PyData.canLay0, lay_ints x, lay_rows r]
theorem depth_rows : ∀ a : List (List Int), PyData.depthAll (a.map IL) ≤ 1
  | [] => by simp [PyData.depthAll]
  | x :: r => by
    have := depth_rows r
    simp [PyData.depthAll, PyData.depth, depth_ints x]
    omega
theorem shaped_IL (a : List Int) : SeqAt.shaped (IL a) = true := by
  unfold SeqAt.shaped
  simp [PyData.canLay0, PyData.depth, lay_ints a, depth_ints a]
theorem shaped_rows (a : List (List Int)) : SeqAt.shaped (.list (a.map IL)) = true := by
  have := depth_rows a
  unfold SeqAt.shaped
  simp [PyData.canLay0, PyData.depth, lay_rows a]
  omega
theorem shaped_nil : SeqAt.shaped (.list []) = true := shaped_IL []
theorem eqv_nil (ds : List D) : PyData.eqv (.list ds) (.list []) = ds.isEmpty := by
  cases ds <;> simp [PyData.eqv, PyData.eqvAll]
theorem eqD_nil {ds : List D} (h : SeqAt.shaped (.list ds) = true) : eqD (.list ds) (.list []) = some (.fz (.bool ds.isEmpty)) := by
  unfold eqD
  rw [h, shaped_nil, if_pos (by rfl), eqv_nil]
theorem neD_nil {ds : List D} (h : SeqAt.shaped (.list ds) = true) : neD (.list ds) (.list []) = some (.fz (.bool (!ds.isEmpty))) := by
  unfold neD
  rw [h, shaped_nil, if_pos (by rfl), eqv_nil]
mutual
theorem eqv_refl : (d : PyData) → d.canLay0 = true → PyData.eqv d d = true
  | .none, _ => by simp [PyData.eqv]
  | .bool b, _ => by simp [PyData.eqv]
  | .int i, _ => by simp [PyData.eqv]
  | .str x, _ => by simp [PyData.eqv]
  | .list xs, h => by simp only [PyData.eqv]; exact eqvAll_refl xs (by simpa [PyData.canLay0] using h)
  | .tuple xs, h => by simp only [PyData.eqv]; exact eqvAll_refl xs (by simpa [PyData.canLay0] using h)
  | .dict _, h => by simp [PyData.canLay0] at h
theorem eqvAll_refl : ∀ ds : List PyData, PyData.canLayAll0 ds = true → PyData.eqvAll ds ds = true
  | [], _ => by simp [PyData.eqvAll]
  | d :: r, h => by
    have h' : d.canLay0 = true ∧ PyData.canLayAll0 r = true := by simpa [PyData.canLayAll0] using h
    simp [PyData.eqvAll, eqv_refl d h'.1, eqvAll_refl r h'.2]
end
theorem neD_refl {d : D} (h : SeqAt.shaped d = true) : neD d d = some (.fz (.bool false)) := by
  unfold neD
  rw [h, if_pos (by rfl), eqv_refl d (SeqAt.canLay_of_shaped h)]
  rfl
theorem eqD_refl {d : D} (h : SeqAt.shaped d = true) : eqD d d = some (.fz (.bool true)) := by
  unfold eqD
  rw [h, if_pos (by rfl), eqv_refl d (SeqAt.canLay_of_shaped h)]
end DL
end
section
set_option maxRecDepth 100000
set_option maxHeartbeats 1000000
/-! more about the data layer's functions: what all laws want -/
namespace DL
open PySem PySem.Spec L2
def seq? : D → Option (List D)
  | .list l => some l
  | .tuple l => some l
  | _ => none
def itemsE (d : D) : List D := (seq? d).getD []
def ty0 (d : D) : Prop := ∃ T, tyName d = some T
def isI : D → Bool
  | .int _ => true
  | _ => false
theorem isT_int {d : D} {T : String} (h : tyName d = some T) : (isT T "int" && !isT T "bool") = isI d := by
  unfold tyName at h
  split at h <;> first | (cases h; decide) | (cases h; rfl) | cases h
theorem isT_seq {d : D} {T : String} (h : tyName d = some T) : (isT T "list" || isT T "tuple") = (seq? d).isSome := by
  unfold tyName at h
  split at h <;> first | (cases h; decide) | (cases h; rfl) | cases h
theorem seq_cases {d : D} {l : List D} (h : seq? d = some l) : d = .list l ∨ d = .tuple l := by
  unfold seq? at h
  split at h <;> cases h
  · exact .inl rfl
  · exact .inr rfl
theorem itemsE_seq {x : D} {l : List D} (h : seq? x = some l) : itemsE x = l := by unfold itemsE; rw [h]; rfl
theorem listD_seq {x : D} {l : List D} (h : seq? x = some l) : listD [x] = some (.ow (.list l)) := by rcases seq_cases h with rfl | rfl <;> rfl
theorem tupleD_seq {x : D} {l : List D} (h : seq? x = some l) : tupleD [x] = some (.fz (.tuple l)) := by rcases seq_cases h with rfl | rfl <;> rfl
theorem len_seq {d : D} {l : List D} (h : seq? d = some l) : lenD [d] = some (.fz (.int l.length)) := by rcases seq_cases h with rfl | rfl <;> rfl
theorem ix_last {d : D} {ys : List D} {y : D} (h : seq? d = some (ys ++ [y])) : ixD d (.int (-1)) = some (.fz y) := by
  rcases seq_cases h with rfl | rfl <;> (unfold ixD; simp only [atI_last1]; rfl)
theorem ix_nat {d : D} {l : List D} (h : seq? d = some l) {i : Nat} {y : D} (hy : l[i]? = some y) : ixD d (.int (i : Nat)) = some (.fz y) := by
  have := atI_natI l i (List.getElem?_eq_some_iff.mp hy).1
  rcases seq_cases h with rfl | rfl <;> (unfold ixD; simp only [this, hy]; rfl)
theorem items_seq {d : D} {l : List D} (h : seq? d = some l) : itemsOf (.fz d) = some l := by rcases seq_cases h with rfl | rfl <;> rfl
theorem boolsOf_isI (l : List D) : boolsOf (l.map fun x => .bool (isI x)) = some (l.map isI) := by
  have := boolsOf_map (l.map isI)
  rwa [List.map_map] at this
theorem intsOf_im (l : List Int) : intsOf (l.map .int) = some l := intsOf_map l
theorem szOkL {n : Nat} (h : n ≤ 16777216) : szOk n = true := decide_eq_true h
theorem szOk0 : szOk 0 = true := rfl
theorem szOk1 : szOk 1 = true := rfl
theorem szOk2 : szOk 2 = true := rfl
theorem mulOk_lt {i j : Int} (hi : i.natAbs < 2 ^ 200) (hj : j.natAbs < 2 ^ 200) : mulOk i j = true := by
  have key : ∀ n : Nat, n < 2 ^ 200 → n.log2 ≤ 200 := fun n h => by
    by_cases h0 : n = 0
    · subst h0; decide
    · have := (Nat.log2_lt h0).mpr h
      omega
  unfold mulOk
  have := key _ hi
  have := key _ hj
  exact decide_eq_true (by omega)
theorem mulD_lt {i j : Int} (hi : i.natAbs < 2 ^ 200) (hj : j.natAbs < 2 ^ 200) : mulD (.int i) (.int j) = some (.fz (.int (i * j))) := by
  show (if _ then _ else _) = _
  rw [if_pos (mulOk_lt hi hj)]
theorem modD_pos (i : Int) {j : Int} (h : 0 < j) : modD (.int i) (.int j) = some (.fz (.int (i % j))) := by
  unfold modD intB
  simp only [show decide (j ≠ 0) = true from decide_eq_true (by omega), if_true, Option.map_some, Int.fmod_eq_emod_of_nonneg _ (Int.le_of_lt h)]
theorem fdivD_lt {i j : Int} (h : j ≠ 0) (hj : j.natAbs < 2 ^ 200) : fdivD (.int i) (.int j) = some (.fz (.int (i.fdiv j))) := by
  have h1 : j.natAbs.log2 < 200 := (Nat.log2_lt (by omega)).mpr hj
  unfold fdivD intB
  simp only [show (decide (j ≠ 0) && decide (j.natAbs.log2 < 9000)) = true from by rw [decide_eq_true h, decide_eq_true (by omega)]; rfl, if_true, Option.map_some]
theorem ixL0 (a b : D) : ixD (.list [a, b]) (.int 0) = some (.fz a) := rfl
theorem ixL1 (a b : D) : ixD (.list [a, b]) (.int 1) = some (.fz b) := rfl
theorem ixN20 : ixN 2 0 = some 0 := rfl
theorem ixN21 : ixN 2 1 = some 1 := rfl
theorem powE : powD (.int 10) (.int 18) = some (.fz (.int 1000000000000000000)) := rfl
theorem rOk_small {j : Int} (h : 0 ≤ j ∧ j < 1000) : rOk j = true := by
  unfold rOk
  simp only [Bool.and_eq_true, decide_eq_true_eq]
  omega
def plainS (s : Sl) : Prop := s = .un ∨ ∃ x, s = .dat x
theorem forL_cnt {gt : Tg} {body : Ss} (N : Nat) (I : Nat → DS → Prop) : ∀ (ds : List D) (k : Nat) (δ : DS), (∀ k d δ, k < N → I k δ → ∃ δ1 δ2, gt (.fz d) δ = some δ1 ∧ body δ1 = some (.nx, δ2) ∧ I (k + 1) δ2) → k + ds.length ≤ N → I k δ → ∃ δ', forL gt body ds δ = some (.nx, δ') ∧ I (k + ds.length) δ'
  | [], k, δ, _, _, i => ⟨δ, rfl, i⟩
  | d :: r, k, δ, h, hn, i => by
    rw [List.length_cons] at hn
    obtain ⟨δ1, δ2, h1, h2, h3⟩ := h k d δ (by omega) i
    obtain ⟨δ', e1, e2⟩ := forL_cnt N I r (k + 1) δ2 h (by omega) h3
    refine ⟨δ', ?_, ?_⟩
    · simp only [forL, h1, Option.bind_some, h2, e1]
    · rw [List.length_cons, show k + (r.length + 1) = k + 1 + r.length by omega]
      exact e2
/-- a walk over the items l, told by how many are done -/
theorem forL_at {gt : Tg} {body : Ss} (l : List D) (I : Nat → DS → Prop) (h : ∀ k d δ, l[k]? = some d → I k δ → ∃ δ1 δ2, gt (.fz d) δ = some δ1 ∧ (body δ1 = some (.nx, δ2) ∨ body δ1 = some (.ct, δ2)) ∧ I (k + 1) δ2) :
    ∀ (n k : Nat) (δ : DS), n + k = l.length → I k δ → ∃ δ', forL gt body (l.drop k) δ = some (.nx, δ') ∧ I l.length δ'
  | 0, k, δ, e, i => by
    refine ⟨δ, ?_, ?_⟩
    · rw [List.drop_eq_nil_of_le (by omega)]; rfl
    · rw [show l.length = k by omega]; exact i
  | n + 1, k, δ, e, i => by
    have hk : k < l.length := by omega
    obtain ⟨δ1, δ2, h1, h2, h3⟩ := h k _ δ (List.getElem?_eq_getElem hk) i
    obtain ⟨δ', e1, e2⟩ := forL_at l I h n (k + 1) δ2 (by omega) h3
    refine ⟨δ', ?_, e2⟩
    rw [List.drop_eq_getElem_cons hk]
    rcases h2 with h2 | h2 <;> simp only [forL, h1, Option.bind_some, h2, e1]
theorem for_at {fi : Me (List D)} {gt : Tg} {body : Ss} {δ : DS} (l : List D) (I : Nat → DS → Prop) (hi : fi δ = some (l, δ)) (i : I 0 δ) (h : ∀ k d δ, l[k]? = some d → I k δ → ∃ δ1 δ2, gt (.fz d) δ = some δ1 ∧ (body δ1 = some (.nx, δ2) ∨ body δ1 = some (.ct, δ2)) ∧ I (k + 1) δ2) :
    ∃ δ', forS fi gt body δ = some (.nx, δ') ∧ I l.length δ' := by
  obtain ⟨δ', e1, e2⟩ := forL_at l I h l.length 0 δ (by omega) i
  refine ⟨δ', ?_, e2⟩
  unfold forS
  rw [hi]
  simpa using e1
theorem seq_ok {a b : Ss} {δ δ1 : DS} (h : a δ = some (.nx, δ1)) : seqS a b δ = b δ1 := by simp only [seqS, h]
theorem maxOf_some : ∀ {ns : List Int}, ns ≠ [] → ∃ m, maxOf ns = some m
  | [], h => absurd rfl h
  | n :: r, _ => by
    unfold maxOf
    cases maxOf r <;> exact ⟨_, rfl⟩
end DL
end
section
set_option maxRecDepth 100000
set_option maxHeartbeats 1000000
/-! loops and comprehensions told by functions of a state: shorter words -/
namespace DL
open PySem PySem.Spec L2
/-- a slot that may be unset -/
def rw' : Option D → Sl
  | none => .un
  | some d => .dat d
theorem fr_z_un (r : DS) : freeAt (.un :: r) 0 = true := rfl
theorem fr_z_dat (d : D) (r : DS) : freeAt (.dat d :: r) 0 = true := rfl
theorem fr_z_rw (o : Option D) (r : DS) : freeAt (rw' o :: r) 0 = true := by cases o <;> rfl
theorem fr_z_own (d : D) (r : DS) : freeAt (.own false d :: r) 0 = true := rfl
theorem fr_s (s : Sl) (r : DS) (i : Nat) : freeAt (s :: r) (i + 1) = freeAt r i := rfl
/-- one turn of a for -/
def turnF (gt : Tg) (body : Ss) (d : D) (δ : DS) : Option DS := match gt (.fz d) δ with
  | some δ1 => match body δ1 with
    | some (.nx, δ2) => some δ2
    | some (.ct, δ2) => some δ2
    | _ => none
  | none => none
theorem forL_turn {gt : Tg} {body : Ss} {d : D} {δ δ2 : DS} (h : turnF gt body d δ = some δ2) (r : List D) : forL gt body (d :: r) δ = forL gt body r δ2 := by
  unfold turnF at h
  split at h
  · rename_i δ1 e1
    split at h
    · rename_i q e2
      cases h
      simp only [forL, e1, Option.bind_some, e2]
    · rename_i q e2
      cases h
      simp only [forL, e1, Option.bind_some, e2]
    · cases h
  · cases h
/-- a for that folds a state -/
theorem forL_fold {α S ρ : Type} {gt : Tg} {body : Ss} (e : α → D) (fr : S → ρ → DS) (step : S → α → S) (P : Nat → S → Prop) (l : List α)
    (h : ∀ k a s r, l[k]? = some a → P k s → (∃ r', turnF gt body (e a) (fr s r) = some (fr (step s a) r')) ∧ P (k + 1) (step s a)) :
    ∀ (n k : Nat) (s : S) (r : ρ), n + k = l.length → P k s → ∃ r', forL gt body ((l.drop k).map e) (fr s r) = some (.nx, fr ((l.drop k).foldl step s) r') ∧ P l.length ((l.drop k).foldl step s)
  | 0, k, s, r, hn, p => by
    rw [List.drop_eq_nil_of_le (by omega)]
    refine ⟨r, rfl, ?_⟩
    rw [show l.length = k by omega]
    exact p
  | n + 1, k, s, r, hn, p => by
    have hk : k < l.length := by omega
    obtain ⟨⟨r1, h1⟩, h2⟩ := h k _ s r (List.getElem?_eq_getElem hk) p
    obtain ⟨r', e1, e2⟩ := forL_fold e fr step P l h n (k + 1) _ r1 (by omega) h2
    rw [List.drop_eq_getElem_cons hk]
    refine ⟨r', ?_, e2⟩
    rw [List.map_cons, forL_turn h1, e1]
    rfl
theorem for_fold {α S ρ : Type} {fi : Me (List D)} {gt : Tg} {body : Ss} (e : α → D) (fr : S → ρ → DS) (step : S → α → S) (P : Nat → S → Prop) (l : List α) {s0 : S} {r0 : ρ} {δ0 : DS} (h0 : δ0 = fr s0 r0) (hi : fi δ0 = some (l.map e, δ0)) (p0 : P 0 s0)
    (h : ∀ k a s r, l[k]? = some a → P k s → (∃ r', turnF gt body (e a) (fr s r) = some (fr (step s a) r')) ∧ P (k + 1) (step s a)) :
    ∃ r', forS fi gt body δ0 = some (.nx, fr (l.foldl step s0) r') ∧ P l.length (l.foldl step s0) := by
  obtain ⟨r', e1, e2⟩ := forL_fold e fr step P l h l.length 0 s0 r0 (by omega) p0
  refine ⟨r', ?_, e2⟩
  unfold forS
  rw [hi, h0]
  exact e1
/-- a for that looks: p tells whether it goes on; else it hands back v -/
theorem for_look {α ρ : Type} {fi : Me (List D)} {gt : Tg} {body : Ss} {v : Val} (e : α → D) (fr : ρ → DS) (p : α → Bool) (l : List α) {r0 : ρ} {δ0 : DS} (h0 : δ0 = fr r0) (hi : fi δ0 = some (l.map e, δ0))
    (h : ∀ a ∈ l, ∀ r, (p a = true → ∃ r', turnF gt body (e a) (fr r) = some (fr r')) ∧ (p a = false → ∃ δ1 δ2, gt (.fz (e a)) (fr r) = some δ1 ∧ body δ1 = some (.rt v, δ2))) :
    (l.all p = true → ∃ r', forS fi gt body δ0 = some (.nx, fr r')) ∧ (l.all p = false → ∃ δ', forS fi gt body δ0 = some (.rt v, δ')) := by
  have key : ∀ (m : List α), (∀ a ∈ m, a ∈ l) → ∀ r, (m.all p = true → ∃ r', forL gt body (m.map e) (fr r) = some (.nx, fr r')) ∧ (m.all p = false → ∃ δ', forL gt body (m.map e) (fr r) = some (.rt v, δ')) := by
    intro m
    induction m with
    | nil => exact fun _ r => ⟨fun _ => ⟨r, rfl⟩, fun h => by simp at h⟩
    | cons a m ih =>
      intro hm r
      obtain ⟨h1, h2⟩ := h a (hm a List.mem_cons_self) r
      have hm' := fun x hx => hm x (List.mem_cons_of_mem _ hx)
      cases q : p a with
      | true =>
        obtain ⟨r1, e1⟩ := h1 q
        rw [List.map_cons, forL_turn e1, List.all_cons, q, Bool.true_and]
        exact ih hm' r1
      | false =>
        obtain ⟨δ1, δ2, e1, e2⟩ := h2 q
        rw [List.all_cons, q, Bool.false_and]
        refine ⟨fun z => by simp at z, fun _ => ⟨δ2, ?_⟩⟩
        simp only [List.map_cons, forL, e1, Option.bind_some, e2]
  obtain ⟨a1, a2⟩ := key l (fun _ h => h) r0
  unfold forS
  rw [hi, h0]
  exact ⟨a1, a2⟩
/-- one turn of a while -/
theorem while_fold {S ρ : Type} {c : Me Bool} {body : Ss} (fr : S → ρ → DS) (P : S → Prop) (cond : S → Bool) (step : S → S) (μ : S → Nat)
    (hc : ∀ s r, P s → c (fr s r) = some (cond s, fr s r)) (hb : ∀ s r, P s → cond s = true → (∃ r', body (fr s r) = some (.nx, fr (step s) r')) ∧ P (step s) ∧ μ (step s) < μ s) :
    ∀ (n : Nat) (s : S) (r : ρ), P s → μ s < n → ∃ s' r', whileN c body n (fr s r) = some (.nx, fr s' r') ∧ P s' ∧ cond s' = false
  | 0, _, _, _, hn => absurd hn (Nat.not_lt_zero _)
  | n + 1, s, r, p, hn => by
    cases q : cond s with
    | false => exact ⟨s, r, by simp only [whileN, hc s r p, q], p, q⟩
    | true =>
      obtain ⟨⟨r', e⟩, p', hm⟩ := hb s r p q
      obtain ⟨s', r'', e1, e2, e3⟩ := while_fold fr P cond step μ hc hb n (step s) r' p' (by omega)
      exact ⟨s', r'', by simp only [whileN, hc s r p, q, e, e1], e2, e3⟩
/-- a comprehension over l: from an item's frame the element -/
theorem compL_map {α : Type} {gt : Tg} {fe : Me Val} {vs : List Nat} {δ0 : DS} (e F : α → D) (fr : α → DS) : ∀ {l : List α}, (∀ a ∈ l, gt (.fz (e a)) δ0 = some (fr a) ∧ (∃ v, fe (fr a) = some (v, fr a) ∧ treeV v = some (F a)) ∧ wipeD (fr a) vs = δ0) →
    compL gt (mr true) fe vs (l.map e) δ0 = some (l.map F, δ0)
  | [], _ => rfl
  | a :: r, h => by
    obtain ⟨h1, ⟨v, h2, h3⟩, h4⟩ := h a List.mem_cons_self
    have ih := compL_map e F fr (l := r) fun x hx => h x (List.mem_cons_of_mem _ hx)
    simp only [compL, List.map_cons, h1, Option.bind_some, mr, h2, h3, h4, ih]
theorem comp_map {α : Type} {fi : Me (List D)} {gt : Tg} {fe : Me Val} {vs : List Nat} {δ : DS} (l : List α) (e F : α → D) (fr : α → DS) (hi : fi δ = some (l.map e, δ)) (hp : vs.all (plainAt δ) = true) (hb : backD δ (wipeD δ vs) vs = δ) (hz : l.length ≤ 16777216)
    (h : ∀ a ∈ l, gt (.fz (e a)) (wipeD δ vs) = some (fr a) ∧ (∃ v, fe (fr a) = some (v, fr a) ∧ treeV v = some (F a)) ∧ wipeD (fr a) vs = wipeD δ vs) :
    compM fi gt (mr true) fe vs δ = some (.ow (.list (l.map F)), δ) := by
  unfold compM
  rw [hi]
  show (if _ then _ else _) = _
  rw [if_pos hp, compL_map e F fr h]
  show (if _ then _ else _) = _
  rw [if_pos (szOkL (by rw [List.length_map]; exact hz)), hb]
/-- with an if -/
theorem compL_filt {α : Type} {gt : Tg} {ft : Me Bool} {fe : Me Val} {vs : List Nat} {δ0 : DS} (e F : α → D) (p : α → Bool) (fr : α → DS) : ∀ {l : List α}, (∀ a ∈ l, gt (.fz (e a)) δ0 = some (fr a) ∧ ft (fr a) = some (p a, fr a) ∧ (p a = true → ∃ v, fe (fr a) = some (v, fr a) ∧ treeV v = some (F a)) ∧ wipeD (fr a) vs = δ0) →
    compL gt ft fe vs (l.map e) δ0 = some ((l.filter p).map F, δ0)
  | [], _ => rfl
  | a :: r, h => by
    obtain ⟨h1, h2, h3, h4⟩ := h a List.mem_cons_self
    have ih := compL_filt e F p fr (l := r) fun x hx => h x (List.mem_cons_of_mem _ hx)
    cases q : p a with
    | false => simp only [compL, List.map_cons, h1, Option.bind_some, h2, q, h4, ih, List.filter_cons, Bool.false_eq_true, if_false]
    | true =>
      obtain ⟨v, h5, h6⟩ := h3 q
      simp only [compL, List.map_cons, h1, Option.bind_some, h2, q, h5, h6, h4, ih, List.filter_cons, if_true]
theorem comp_filt {α : Type} {fi : Me (List D)} {gt : Tg} {ft : Me Bool} {fe : Me Val} {vs : List Nat} {δ : DS} (l : List α) (e F : α → D) (p : α → Bool) (fr : α → DS) (hi : fi δ = some (l.map e, δ)) (hp : vs.all (plainAt δ) = true) (hb : backD δ (wipeD δ vs) vs = δ) (hz : l.length ≤ 16777216)
    (h : ∀ a ∈ l, gt (.fz (e a)) (wipeD δ vs) = some (fr a) ∧ ft (fr a) = some (p a, fr a) ∧ (p a = true → ∃ v, fe (fr a) = some (v, fr a) ∧ treeV v = some (F a)) ∧ wipeD (fr a) vs = wipeD δ vs) :
    compM fi gt ft fe vs δ = some (.ow (.list ((l.filter p).map F)), δ) := by
  unfold compM
  rw [hi]
  show (if _ then _ else _) = _
  rw [if_pos hp, compL_filt e F p fr h]
  show (if _ then _ else _) = _
  rw [if_pos (szOkL (by rw [List.length_map]; exact Nat.le_trans (List.length_filter_le _ _) hz)), hb]
end DL
namespace DL
open PySem PySem.Spec L2
/-- a for whose turns are told by what holds between them -/
theorem forL_ex {α S ρ : Type} {gt : Tg} {body : Ss} (e : α → D) (fr : S → ρ → DS) (P : Nat → S → Prop) (l : List α)
    (h : ∀ k a s r, l[k]? = some a → P k s → ∃ s' r', turnF gt body (e a) (fr s r) = some (fr s' r') ∧ P (k + 1) s') :
    ∀ (n k : Nat) (s : S) (r : ρ), n + k = l.length → P k s → ∃ s' r', forL gt body ((l.drop k).map e) (fr s r) = some (.nx, fr s' r') ∧ P l.length s'
  | 0, k, s, r, hn, p => by
    rw [List.drop_eq_nil_of_le (by omega)]
    refine ⟨s, r, rfl, ?_⟩
    rw [show l.length = k by omega]
    exact p
  | n + 1, k, s, r, hn, p => by
    have hk : k < l.length := by omega
    obtain ⟨s1, r1, h1, h2⟩ := h k _ s r (List.getElem?_eq_getElem hk) p
    obtain ⟨s', r', e1, e2⟩ := forL_ex e fr P l h n (k + 1) s1 r1 (by omega) h2
    rw [List.drop_eq_getElem_cons hk]
    refine ⟨s', r', ?_, e2⟩
    rw [List.map_cons, forL_turn h1, e1]
theorem for_ex {α S ρ : Type} {fi : Me (List D)} {gt : Tg} {body : Ss} (e : α → D) (fr : S → ρ → DS) (P : Nat → S → Prop) (l : List α) {s0 : S} {r0 : ρ} {δ0 : DS} (h0 : δ0 = fr s0 r0) (hi : fi δ0 = some (l.map e, δ0)) (p0 : P 0 s0)
    (h : ∀ k a s r, l[k]? = some a → P k s → ∃ s' r', turnF gt body (e a) (fr s r) = some (fr s' r') ∧ P (k + 1) s') :
    ∃ s' r', forS fi gt body δ0 = some (.nx, fr s' r') ∧ P l.length s' := by
  obtain ⟨s', r', e1, e2⟩ := forL_ex e fr P l h l.length 0 s0 r0 (by omega) p0
  refine ⟨s', r', ?_, e2⟩
  unfold forS
  rw [hi, h0]
  exact e1
theorem rng_1 {fa : Me (List Val)} {δ δ' : DS} {j : Int} (h : fa δ = some ([.fz (.int j)], δ')) (hr : 0 ≤ j ∧ j < 1000) : rngM1 fa δ = some ((List.range j.toNat).map fun i => .int ((0 : Int) + (i : Nat)), δ') := by
  unfold rngM1 mb mo
  rw [h]
  simp only [rOk_small hr, if_true]
  rfl
theorem rng_2 {fa : Me (List Val)} {δ δ' : DS} {i j : Int} (h : fa δ = some ([.fz (.int i), .fz (.int j)], δ')) (hi : 0 ≤ i ∧ i < 1000) (hr : 0 ≤ j ∧ j < 1000) : rngM2 fa δ = some ((List.range (j - i).toNat).map fun k => .int (i + (k : Nat)), δ') := by
  unfold rngM2 mb mo
  rw [h]
  simp only [rOk_small hi, rOk_small hr, Bool.and_self, if_true]
  rfl
end DL
end
section
set_option autoImplicit false
/-! lines as lists of whole numbers, told by their numbers -/
namespace PL
def cf : List Int → Nat → Int
  | [], _ => 0
  | x :: _, 0 => x
  | _ :: a, n + 1 => cf a n
def Nz (a : List Int) : Prop := ∀ b x, a = b ++ [x] → x ≠ 0
theorem cf_nil (n : Nat) : cf [] n = 0 := by cases n <;> rfl
theorem cf_get : ∀ (a : List Int) (n : Nat), cf a n = a.getD n 0
  | [], n => by rw [cf_nil]; simp
  | x :: a, 0 => by simp [cf]
  | x :: a, n + 1 => by simp [cf, cf_get a n]
theorem cf_beyond : ∀ {a : List Int} {n : Nat}, a.length ≤ n → cf a n = 0
  | [], n, _ => cf_nil n
  | _ :: a, 0, h => by simp at h
  | _ :: a, n + 1, h => cf_beyond (a := a) (by simpa using h)
theorem cf_append_left {a b : List Int} {n : Nat} (h : n < a.length) : cf (a ++ b) n = cf a n := by
  rw [cf_get, cf_get, List.getD_eq_getElem?_getD, List.getD_eq_getElem?_getD, List.getElem?_append_left h]
theorem cf_append_right {a b : List Int} {n : Nat} (h : a.length ≤ n) : cf (a ++ b) n = cf b (n - a.length) := by
  rw [cf_get, cf_get, List.getD_eq_getElem?_getD, List.getD_eq_getElem?_getD, List.getElem?_append_right h]
theorem cf_map {f : Int → Int} (h0 : f 0 = 0) : ∀ (a : List Int) (n : Nat), cf (a.map f) n = f (cf a n)
  | [], n => by rw [List.map_nil, cf_nil, h0]
  | _ :: _, 0 => rfl
  | _ :: a, n + 1 => cf_map h0 a n
theorem nz_nil : Nz [] := fun b x h => by simp at h
theorem nz_last {a : List Int} {x : Int} (h : x ≠ 0) : Nz (a ++ [x]) := fun b y e => by
  have := List.append_inj_right' e rfl
  cases this
  exact h
theorem nz_len {a b : List Int} (hb : Nz b) (h : ∀ n, cf a n = cf b n) : b.length ≤ a.length := by
  rcases List.eq_nil_or_concat b with rfl | ⟨c, x, rfl⟩
  · simp
  · rw [List.concat_eq_append] at *
    have hx := hb c x rfl
    refine Nat.le_of_not_lt fun hl => hx ?_
    have h1 := h c.length
    rw [cf_append_right (Nat.le_refl _), Nat.sub_self] at h1
    rw [cf_beyond (by simp at hl; omega)] at h1
    exact h1.symm
theorem ext_cf : ∀ {a b : List Int}, a.length = b.length → (∀ n, cf a n = cf b n) → a = b
  | [], [], _, _ => rfl
  | [], _ :: _, h, _ => by simp at h
  | _ :: _, [], h, _ => by simp at h
  | x :: a, y :: b, h, k => by
    have h0 : x = y := k 0
    rw [h0, ext_cf (by simpa using h) fun n => k (n + 1)]
theorem nz_ext {a b : List Int} (ha : Nz a) (hb : Nz b) (h : ∀ n, cf a n = cf b n) : a = b :=
  ext_cf (Nat.le_antisymm (nz_len ha fun n => (h n).symm) (nz_len hb h)) h
/-! ### sums -/
def sm (f : Nat → Int) : Nat → Int
  | 0 => 0
  | n + 1 => sm f n + f n
theorem sm_congr {f g : Nat → Int} : ∀ {n : Nat}, (∀ i, i < n → f i = g i) → sm f n = sm g n
  | 0, _ => rfl
  | n + 1, h => by rw [sm, sm, sm_congr fun i hi => h i (by omega), h n (by omega)]
theorem sm_add (f g : Nat → Int) : ∀ n, sm (fun i => f i + g i) n = sm f n + sm g n
  | 0 => rfl
  | n + 1 => by rw [sm, sm, sm, sm_add f g n]; omega
theorem sm_mul (x : Int) (f : Nat → Int) : ∀ n, sm (fun i => x * f i) n = x * sm f n
  | 0 => by simp [sm]
  | n + 1 => by rw [sm, sm, sm_mul x f n, Int.mul_add]
theorem sm_first (f : Nat → Int) : ∀ n, sm f (n + 1) = f 0 + sm (fun i => f (i + 1)) n
  | 0 => by simp [sm]
  | n + 1 => by rw [sm, sm_first f n, sm]; omega
theorem sm_rev (f : Nat → Int) : ∀ n, sm f n = sm (fun i => f (n - 1 - i)) n
  | 0 => rfl
  | n + 1 => by
    rw [sm_first (fun i => f (n + 1 - 1 - i)) n, sm, sm_rev f n]
    have : sm (fun i => f (n + 1 - 1 - (i + 1))) n = sm (fun i => f (n - 1 - i)) n := sm_congr fun i hi => by
      congr 1
      omega
    rw [this]
    simp
    omega
theorem sm_zero {f : Nat → Int} {n : Nat} (h : ∀ i, i < n → f i = 0) : sm f n = 0 := by
  rw [sm_congr (g := fun _ => 0) h]
  induction n with
  | zero => rfl
  | succ n ih => rw [sm, ih fun i hi => h i (by omega)]; rfl
/-- the number of x^n in a product -/
def cv (f g : Nat → Int) (n : Nat) : Int := sm (fun i => f i * g (n - i)) (n + 1)
theorem cv_comm (f g : Nat → Int) (n : Nat) : cv f g n = cv g f n := by
  unfold cv
  rw [sm_rev]
  refine sm_congr fun i hi => ?_
  rw [Int.mul_comm]
  congr 2
  omega
theorem cv_add_right (f g h : Nat → Int) (n : Nat) : cv f (fun i => g i + h i) n = cv f g n + cv f h n := by
  unfold cv
  rw [← sm_add]
  exact sm_congr fun i _ => Int.mul_add _ _ _
theorem cv_add_left (f g h : Nat → Int) (n : Nat) : cv (fun i => f i + g i) h n = cv f h n + cv g h n := by
  unfold cv
  rw [← sm_add]
  exact sm_congr fun i _ => Int.add_mul _ _ _
theorem cv_mul_left (x : Int) (f g : Nat → Int) (n : Nat) : cv (fun i => x * f i) g n = x * cv f g n := by
  unfold cv
  rw [← sm_mul]
  exact sm_congr fun i _ => Int.mul_assoc _ _ _
theorem cv_congr {f f' g g' : Nat → Int} (hf : ∀ i, f i = f' i) (hg : ∀ i, g i = g' i) (n : Nat) : cv f g n = cv f' g' n := by
  rw [show f = f' from funext hf, show g = g' from funext hg]
def sh (f : Nat → Int) : Nat → Int
  | 0 => 0
  | n + 1 => f n
theorem cv_sh_left (f g : Nat → Int) : ∀ n, cv (sh f) g n = sh (cv f g) n
  | 0 => by simp [cv, sm, sh]
  | n + 1 => by
    unfold cv
    rw [sm_first]
    show 0 * _ + _ = sm (fun i => f i * g (n - i)) (n + 1)
    rw [Int.zero_mul, Int.zero_add]
    exact sm_congr fun i _ => by
      show f i * _ = _
      congr 2
      omega
/-- one number alone times a line -/
theorem cv_one (x : Int) (g : Nat → Int) (n : Nat) : cv (cf [x]) g n = x * g n := by
  unfold cv
  rw [sm_first]
  show x * g (n - 0) + _ = _
  rw [sm_zero fun i _ => by rw [show cf [x] (i + 1) = 0 from cf_nil i, Int.zero_mul]]
  simp
theorem cf_cons (x : Int) (a : List Int) (n : Nat) : cf (x :: a) n = cf [x] n + sh (cf a) n := by
  cases n with
  | zero => simp [cf, sh]
  | succ n => simp [cf, sh]
theorem cv_cons (x : Int) (a : List Int) (g : Nat → Int) (n : Nat) : cv (cf (x :: a)) g n = x * g n + sh (cv (cf a) g) n := by
  rw [cv_congr (cf_cons x a) (fun _ => rfl), cv_add_left, cv_one, cv_sh_left]
theorem cv_nil (g : Nat → Int) (n : Nat) : cv (cf []) g n = 0 := sm_zero fun i _ => by rw [cf_nil, Int.zero_mul]
theorem sh_congr {f g : Nat → Int} (h : ∀ i, f i = g i) (n : Nat) : sh f n = sh g n := by rw [show f = g from funext h]
theorem sh_add (f g : Nat → Int) (n : Nat) : sh (fun i => f i + g i) n = sh f n + sh g n := by cases n <;> rfl
theorem cv_assoc : ∀ (a : List Int) (g h : Nat → Int) (n : Nat), cv (cv (cf a) g) h n = cv (cf a) (cv g h) n
  | [], g, h, n => by rw [cv_nil, cv_congr (cv_nil g) (fun _ => rfl)]; exact cv_nil h n ▸ (cv_congr (fun i => (cf_nil i).symm) (fun _ => rfl) n)
  | x :: a, g, h, n => by
    rw [cv_cons, cv_congr (cv_cons x a g) (fun _ => rfl), cv_add_left, cv_mul_left, cv_sh_left, sh_congr (cv_assoc a g h)]
/-! ### slopes -/
def dv (f : Nat → Int) (n : Nat) : Int := (n + 1 : Int) * f (n + 1)
theorem dv_add (f g : Nat → Int) (n : Nat) : dv (fun i => f i + g i) n = dv f n + dv g n := Int.mul_add _ _ _
theorem dv_mul (x : Int) (f : Nat → Int) (n : Nat) : dv (fun i => x * f i) n = x * dv f n := by unfold dv; rw [← Int.mul_assoc, ← Int.mul_assoc, Int.mul_comm x]
theorem dv_sh (f : Nat → Int) : ∀ n, dv (sh f) n = f n + sh (dv f) n
  | 0 => by simp [dv, sh]
  | n + 1 => by
    show ((n + 1 : Nat) + 1 : Int) * f (n + 1) = f (n + 1) + (n + 1 : Int) * f (n + 1)
    rw [Int.add_mul]
    push_cast
    omega
theorem dv_congr {f g : Nat → Int} (h : ∀ i, f i = g i) (n : Nat) : dv f n = dv g n := by rw [show f = g from funext h]
theorem dv_cv : ∀ (a : List Int) (g : Nat → Int) (n : Nat), dv (cv (cf a) g) n = cv (dv (cf a)) g n + cv (cf a) (dv g) n
  | [], g, n => by
    rw [dv_congr (cv_nil g), cv_nil, cv_congr (f' := cf []) (g' := g) (fun i => by rw [cf_nil, dv, cf_nil, Int.mul_zero]) (fun _ => rfl), cv_nil]
    simp [dv]
  | x :: a, g, n => by
    have hd : ∀ i, dv (cf (x :: a)) i = cf a i + sh (dv (cf a)) i := fun i => by
      rw [dv_congr (cf_cons x a), dv_add, dv_sh]
      have : dv (cf [x]) i = 0 := by unfold dv; rw [show cf [x] (i + 1) = 0 from cf_nil i, Int.mul_zero]
      rw [this, Int.zero_add]
    rw [dv_congr (cv_cons x a g), dv_add, dv_mul, dv_sh, sh_congr (dv_cv a g), sh_add, cv_congr hd (fun _ => rfl), cv_add_left, cv_sh_left, cv_cons]
    omega
/-! ### values -/
def vl (a : List Int) (x : Int) : Int := a.foldr (fun c r => r * x + c) 0
theorem vl_zero : ∀ {a : List Int} (x : Int), (∀ n, cf a n = 0) → vl a x = 0
  | [], _, _ => rfl
  | c :: a, x, h => by
    show vl a x * x + c = 0
    rw [vl_zero x fun n => h (n + 1), show c = 0 from h 0]
    simp
theorem vl_ext : ∀ {a b : List Int} (x : Int), (∀ n, cf a n = cf b n) → vl a x = vl b x
  | [], b, x, h => (vl_zero x fun n => by rw [← h n, cf_nil]).symm
  | c :: a, [], x, h => vl_zero x fun n => by rw [h n, cf_nil]
  | c :: a, d :: b, x, h => by
    show vl a x * x + c = vl b x * x + d
    rw [vl_ext x fun n => h (n + 1), show c = d from h 0]
def adS : List Int → List Int → List Int
  | [], b => b
  | a, [] => a
  | x :: a, y :: b => (x + y) :: adS a b
theorem cf_adS : ∀ (a b : List Int) (n : Nat), cf (adS a b) n = cf a n + cf b n
  | [], b, n => by cases b <;> simp [adS, cf_nil]
  | x :: a, [], n => by simp [adS, cf_nil]
  | x :: a, y :: b, 0 => rfl
  | x :: a, y :: b, n + 1 => cf_adS a b n
theorem vl_adS : ∀ (a b : List Int) (x : Int), vl (adS a b) x = vl a x + vl b x
  | [], b, x => by cases b <;> simp [adS, vl]
  | c :: a, [], x => by simp [adS, vl]
  | c :: a, d :: b, x => by
    show vl (adS a b) x * x + (c + d) = (vl a x * x + c) + (vl b x * x + d)
    rw [vl_adS a b x, Int.add_mul]
    omega
theorem vl_map (y : Int) : ∀ (a : List Int) (x : Int), vl (a.map (y * ·)) x = y * vl a x
  | [], x => by simp [vl]
  | c :: a, x => by
    show vl (a.map (y * ·)) x * x + y * c = y * (vl a x * x + c)
    rw [vl_map y a x, Int.mul_add, Int.mul_assoc]
def mlS : List Int → List Int → List Int
  | [], _ => []
  | x :: a, b => adS (b.map (x * ·)) (0 :: mlS a b)
theorem cf_mlS : ∀ (a b : List Int) (n : Nat), cf (mlS a b) n = cv (cf a) (cf b) n
  | [], b, n => by rw [cv_nil]; exact cf_nil n
  | x :: a, b, n => by
    show cf (adS _ _) n = _
    rw [cf_adS, cv_cons, cf_map (Int.mul_zero x)]
    congr 1
    cases n with
    | zero => rfl
    | succ n => exact cf_mlS a b n
theorem vl_mlS : ∀ (a b : List Int) (x : Int), vl (mlS a b) x = vl a x * vl b x
  | [], b, x => by simp [mlS, vl]
  | c :: a, b, x => by
    show vl (adS _ _) x = (vl a x * x + c) * vl b x
    rw [vl_adS, vl_map]
    show _ + (vl (mlS a b) x * x + 0) = _
    rw [vl_mlS a b x, Int.add_mul, Int.add_zero, Int.mul_right_comm]
    omega
end PL
end
section
set_option autoImplicit false
/-! products of lines by two walks; bounds of sums -/
namespace PL
def bump (F : List Int) (n : Nat) (v : Int) : List Int := F.set n (cf F n + v)
theorem bump_len (F : List Int) (n : Nat) (v : Int) : (bump F n v).length = F.length := List.length_set
theorem cf_bump {F : List Int} {n : Nat} (h : n < F.length) (v : Int) (m : Nat) : cf (bump F n v) m = cf F m + if m = n then v else 0 := by
  unfold bump
  rw [cf_get (F.set n _) m, List.getD_eq_getElem?_getD, List.getElem?_set]
  by_cases e : n = m
  · subst e
    rw [if_pos rfl, if_pos h, if_pos rfl]
    rfl
  · rw [if_neg e, if_neg (fun z => e z.symm), Int.add_zero, cf_get, List.getD_eq_getElem?_getD]
theorem bump_zero (F : List Int) (n : Nat) : bump F n 0 = F := by
  unfold bump
  rw [Int.add_zero]
  by_cases h : n < F.length
  · refine List.ext_getElem? fun i => ?_
    rw [List.getElem?_set]
    split
    · rename_i e
      subst e
      rw [cf_get, List.getD_eq_getElem?_getD, List.getElem?_eq_getElem h]
      simp [h]
    · rfl
  · exact List.set_eq_of_length_le (by omega)
/-- x times a line, added from place i on -/
def inL (i : Nat) (x : Int) (F : List Int) (q : Int × Nat) : List Int := bump F (i + q.2) (x * q.1)
theorem inL_len (i : Nat) (x : Int) : ∀ (l : List (Int × Nat)) (F : List Int), (l.foldl (inL i x) F).length = F.length
  | [], F => rfl
  | q :: l, F => by rw [List.foldl_cons, inL_len i x l, inL, bump_len]
theorem cf_inL (i : Nat) (x : Int) : ∀ (b : List Int) (j : Nat) (F : List Int), i + j + b.length ≤ F.length → ∀ n, cf ((b.zipIdx j).foldl (inL i x) F) n = cf F n + if i + j ≤ n then x * cf b (n - (i + j)) else 0
  | [], j, F, _, n => by
    rw [cf_nil, Int.mul_zero]
    simp
  | y :: b, j, F, h, n => by
    rw [List.length_cons] at h
    rw [List.zipIdx_cons, List.foldl_cons, cf_inL i x b (j + 1) _ (by rw [inL, bump_len]; omega), inL, cf_bump (by simp; omega)]
    by_cases h1 : n = i + j
    · subst h1
      rw [if_pos rfl, if_neg (by omega), if_pos (Nat.le_refl _), Nat.sub_self]
      simp [cf]
    · rw [if_neg h1]
      by_cases h2 : i + j ≤ n
      · rw [if_pos (by omega), if_pos h2, show n - (i + j) = n - (i + (j + 1)) + 1 by omega]
        simp [cf]
      · rw [if_neg (by omega), if_neg h2]
        simp
/-- the product of two lines, added up from place j on -/
def outL (b : List Int) (F : List Int) (p : Int × Nat) : List Int := b.zipIdx.foldl (inL p.2 p.1) F
theorem outL_len (b : List Int) : ∀ (l : List (Int × Nat)) (F : List Int), (l.foldl (outL b) F).length = F.length
  | [], F => rfl
  | q :: l, F => by rw [List.foldl_cons, outL_len b l, outL, inL_len]
theorem cf_outL (b : List Int) : ∀ (a : List Int) (j : Nat) (F : List Int), (a ≠ [] → j + a.length + b.length ≤ F.length + 1) → ∀ n, cf ((a.zipIdx j).foldl (outL b) F) n = cf F n + if j ≤ n then cv (cf a) (cf b) (n - j) else 0
  | [], j, F, _, n => by
    rw [cv_nil]
    simp
  | x :: a, j, F, h, n => by
    have h := h (by simp)
    rw [List.length_cons] at h
    rw [List.zipIdx_cons, List.foldl_cons, cf_outL b a (j + 1) _ (fun _ => by rw [outL, inL_len]; omega), outL]
    show cf (b.zipIdx.foldl (inL j x) F) n + _ = _
    rw [cf_inL j x b 0 F (by omega), cv_cons, Nat.add_zero, Int.add_assoc]
    congr 1
    by_cases h1 : j ≤ n
    · rw [if_pos h1, if_pos h1]
      congr 1
      by_cases h2 : n = j
      · subst h2
        rw [if_neg (by omega), Nat.sub_self]
        rfl
      · rw [if_pos (by omega), show n - j = n - (j + 1) + 1 by omega]
        rfl
    · rw [if_neg h1, if_neg h1, if_neg (by omega)]
      simp
def outL' (b : List Int) (F : List Int) (p : Int × Nat) : List Int := if p.1 ≠ 0 then outL b F p else F
theorem inL_zero (i : Nat) : ∀ (l : List (Int × Nat)) (F : List Int), l.foldl (inL i 0) F = F
  | [], F => rfl
  | q :: l, F => by rw [List.foldl_cons, inL, Int.zero_mul, bump_zero, inL_zero i l]
theorem outL'_eq (b F : List Int) (p : Int × Nat) : outL' b F p = outL b F p := by
  unfold outL'
  split
  · rfl
  · rename_i h
    have h : p.1 = 0 := Decidable.not_not.mp h
    rw [outL, h, inL_zero]
theorem cf_zeros (k n : Nat) : cf (List.replicate k 0) n = 0 := by
  rw [cf_get, List.getD_eq_getElem?_getD, List.getElem?_replicate]
  split <;> rfl
/-- the product -/
def tms (a b : List Int) : List Int := a.zipIdx.foldl (outL b) (List.replicate (a.length + b.length - 1) 0)
theorem cf_tms (a b : List Int) (n : Nat) : cf (tms a b) n = cv (cf a) (cf b) n := by
  unfold tms
  rw [cf_outL b a 0 _ (fun _ => by rw [List.length_replicate]; omega), cf_zeros]
  simp
theorem tms_len (a b : List Int) : (tms a b).length = a.length + b.length - 1 := by
  unfold tms
  rw [outL_len, List.length_replicate]
theorem nz_iff {a : List Int} : Nz a ↔ a = [] ∨ cf a (a.length - 1) ≠ 0 := by
  rcases List.eq_nil_or_concat a with rfl | ⟨c, x, rfl⟩
  · exact ⟨fun _ => .inl rfl, fun _ => nz_nil⟩
  · rw [List.concat_eq_append]
    have : cf (c ++ [x]) ((c ++ [x]).length - 1) = x := by
      rw [List.length_append, List.length_singleton, Nat.add_sub_cancel, cf_append_right (Nat.le_refl _), Nat.sub_self]
      rfl
    rw [this]
    exact ⟨fun h => .inr (h c x rfl), fun h => h.elim (fun z => by simp at z) nz_last⟩
theorem cv_top {f g : Nat → Int} {m n : Nat} (hf : ∀ i, m < i → f i = 0) (hg : ∀ i, n < i → g i = 0) : cv f g (m + n) = f m * g n := by
  unfold cv
  have key : ∀ k, k ≤ m + n + 1 → sm (fun i => f i * g (m + n - i)) k = if m < k then f m * g n else 0 := by
    intro k
    induction k with
    | zero => intro _; rfl
    | succ k ih =>
      intro hk
      rw [sm, ih (by omega)]
      by_cases h1 : m < k
      · rw [if_pos h1, if_pos (by omega), hf k h1, Int.zero_mul, Int.add_zero]
      · rw [if_neg h1, Int.zero_add]
        by_cases h2 : m = k
        · subst h2
          rw [if_pos (by omega), show m + n - m = n by omega]
        · rw [if_neg (by omega), hg _ (by omega), Int.mul_zero]
  rw [key _ (Nat.le_refl _), if_pos (by omega)]
theorem nz_tms {a b : List Int} (ha : Nz a) (hb : Nz b) (ha0 : a ≠ []) (hb0 : b ≠ []) : Nz (tms a b) := by
  have h1 := List.length_pos_iff.mpr ha0
  have h2 := List.length_pos_iff.mpr hb0
  refine nz_iff.mpr (.inr ?_)
  rw [tms_len, cf_tms, show a.length + b.length - 1 - 1 = (a.length - 1) + (b.length - 1) by omega, cv_top (fun i hi => cf_beyond (by omega)) (fun i hi => cf_beyond (by omega))]
  exact Int.mul_ne_zero ((nz_iff.mp ha).resolve_left ha0) ((nz_iff.mp hb).resolve_left hb0)
/-! ### bounds -/
def Bd (A : Nat) (a : List Int) : Prop := ∀ n, (cf a n).natAbs ≤ A
theorem bd_mem {A : Nat} {a : List Int} (h : ∀ x ∈ a, x.natAbs ≤ A) : Bd A a := fun n => by
  rw [cf_get, List.getD_eq_getElem?_getD]
  by_cases hn : n < a.length
  · rw [List.getElem?_eq_getElem hn]
    exact h _ (List.getElem_mem hn)
  · rw [List.getElem?_eq_none (by omega)]
    exact Nat.zero_le _
theorem mem_bd {A : Nat} {a : List Int} (h : Bd A a) : ∀ x ∈ a, x.natAbs ≤ A := fun x hx => by
  obtain ⟨i, hi, rfl⟩ := List.getElem_of_mem hx
  have := h i
  rw [cf_get, List.getD_eq_getElem?_getD, List.getElem?_eq_getElem hi] at this
  exact this
theorem sm_bd {f : Nat → Int} {A : Nat} (h : ∀ i, (f i).natAbs ≤ A) : ∀ n, (sm f n).natAbs ≤ n * A
  | 0 => by simp [sm]
  | n + 1 => by
    have h1 := sm_bd h n
    have h2 := h n
    have h3 := Int.natAbs_add_le (sm f n) (f n)
    rw [sm, Nat.succ_mul]
    omega
theorem cv_bd {f g : Nat → Int} {A B : Nat} (hf : ∀ i, (f i).natAbs ≤ A) (hg : ∀ i, (g i).natAbs ≤ B) (n : Nat) : (cv f g n).natAbs ≤ (n + 1) * (A * B) := sm_bd (fun i => by
  rw [Int.natAbs_mul]
  exact Nat.mul_le_mul (hf i) (hg _)) _
theorem bd_cv {a b c : List Int} {A B N : Nat} (ha : Bd A a) (hb : Bd B b) (h : ∀ n, cf c n = cv (cf a) (cf b) n) (hN : a.length + b.length ≤ N) : Bd (N * (A * B)) c := fun n => by
  rw [h]
  by_cases hn : n + 1 ≤ N
  · exact Nat.le_trans (cv_bd ha hb n) (Nat.mul_le_mul_right _ hn)
  · have : cv (cf a) (cf b) n = 0 := sm_zero fun i hi => by
      by_cases h1 : i < a.length
      · rw [cf_beyond (a := b) (by omega), Int.mul_zero]
      · rw [cf_beyond (a := a) (by omega), Int.zero_mul]
    rw [this]
    exact Nat.zero_le _
end PL
namespace PL
/-! ### how long Euclid's rests go on -/
def lg (n : Nat) : Nat := if n = 0 then 0 else n.log2 + 1
theorem lg_le {n k : Nat} : lg n ≤ k ↔ n < 2 ^ k := by
  unfold lg
  split
  · rename_i h
    subst h
    exact ⟨fun _ => Nat.pow_pos (by decide), fun _ => Nat.zero_le _⟩
  · rename_i h
    rw [Nat.succ_le_iff]
    exact Nat.log2_lt h
theorem lg_mono {m n : Nat} (h : m ≤ n) : lg m ≤ lg n := lg_le.mpr (Nat.lt_of_le_of_lt h (lg_le.mp (Nat.le_refl _)))
def mu (x y : Nat) : Nat := 2 * lg y + if lg (x % y) = lg y then 1 else 0
theorem mu_lt {x y : Nat} (h : y ≠ 0) : mu y (x % y) < mu x y := by
  unfold mu
  have hlt := Nat.mod_lt x (Nat.pos_of_ne_zero h)
  by_cases e : lg (x % y) = lg y
  · rw [if_pos e, e]
    have e2 : ¬ lg (y % (x % y)) = lg y := fun z => by
      have h1 : x % y ≠ 0 := fun q => by
        rw [q] at e
        unfold lg at e
        rw [if_neg h] at e
        simp at e
      -- y and x % y have the same length k + 1
      obtain ⟨k, hk⟩ : ∃ k, lg y = k + 1 := ⟨y.log2, by unfold lg; rw [if_neg h]⟩
      have a1 : y < 2 ^ (k + 1) := lg_le.mp (by omega)
      have a2 : ¬ x % y < 2 ^ k := fun q => by
        have := lg_le.mpr q
        omega
      have a3 : ¬ y % (x % y) < 2 ^ k := fun q => by
        have := lg_le.mpr q
        omega
      rw [Nat.pow_succ] at a1
      have a4 : y % (x % y) = (y - x % y) % (x % y) := Nat.mod_eq_sub_mod (by omega)
      have a5 := Nat.mod_le (y - x % y) (x % y)
      omega
    rw [if_neg e2]
    omega
  · rw [if_neg e]
    have : lg (x % y) ≤ lg y := lg_mono (by omega)
    split <;> omega
theorem mu_le {x y k : Nat} (h : y < 2 ^ k) : mu x y ≤ 2 * k + 1 := by
  have := lg_le.mpr h
  unfold mu
  split <;> omega
end PL
namespace PL
/-! ### without noughts at the end -/
def nrm : List Int → List Int
  | [] => []
  | x :: a => match nrm a with
    | [] => if x = 0 then [] else [x]
    | y :: r => x :: y :: r
theorem cf_nrm : ∀ (a : List Int) (n : Nat), cf (nrm a) n = cf a n
  | [], n => rfl
  | x :: a, n => by
    have ih := cf_nrm a
    unfold nrm
    split
    · rename_i h
      rw [h] at ih
      split
      · rename_i h0
        cases n with
        | zero => exact h0.symm
        | succ n => rw [cf_nil]; exact (cf_nil n).symm.trans (ih n)
      · cases n with
        | zero => rfl
        | succ n => exact ih n
    · rename_i y r h
      cases n with
      | zero => rfl
      | succ n =>
        rw [← h]
        exact ih n
theorem nz_cons {x : Int} {a : List Int} (h : Nz a) (h2 : a = [] → x ≠ 0) : Nz (x :: a) := fun b y e => by
  cases b with
  | nil =>
    rw [List.nil_append] at e
    injection e with e1 e2
    rw [← e1]
    exact h2 e2
  | cons z b =>
    rw [List.cons_append] at e
    injection e with e1 e2
    exact h b y e2
theorem nz_nrm : ∀ a : List Int, Nz (nrm a)
  | [] => nz_nil
  | x :: a => by
    have ih := nz_nrm a
    unfold nrm
    split
    · split
      · exact nz_nil
      · rename_i h
        exact nz_cons nz_nil fun _ => h
    · rename_i y r h
      rw [h] at ih
      exact nz_cons ih fun z => by cases z
theorem nrm_len (a : List Int) : (nrm a).length ≤ a.length := nz_len (nz_nrm a) fun n => (cf_nrm a n).symm
theorem adS_len : ∀ a b : List Int, (adS a b).length = max a.length b.length
  | [], b => by cases b <;> simp [adS]
  | x :: a, [] => by simp [adS]
  | x :: a, y :: b => by
    simp only [adS, List.length_cons, adS_len a b]
    omega
def ad (a b : List Int) : List Int := nrm (adS a b)
def su (a b : List Int) : List Int := nrm (adS a (b.map (-1 * ·)))
theorem cf_ad (a b : List Int) (n : Nat) : cf (ad a b) n = cf a n + cf b n := by rw [ad, cf_nrm, cf_adS]
theorem cf_su (a b : List Int) (n : Nat) : cf (su a b) n = cf a n - cf b n := by
  rw [su, cf_nrm, cf_adS, cf_map (by decide)]
  omega
theorem nz_ad (a b : List Int) : Nz (ad a b) := nz_nrm _
theorem nz_su (a b : List Int) : Nz (su a b) := nz_nrm _
theorem ad_len (a b : List Int) : (ad a b).length ≤ max a.length b.length := by rw [← adS_len]; exact nrm_len _
theorem su_len (a b : List Int) : (su a b).length ≤ max a.length b.length := by
  have := nrm_len (adS a (b.map (-1 * ·)))
  rw [adS_len, List.length_map] at this
  exact this
theorem bd_ad {A B : Nat} {a b : List Int} (ha : Bd A a) (hb : Bd B b) : Bd (A + B) (ad a b) := fun n => by
  have h1 := ha n
  have h2 := hb n
  rw [cf_ad]
  have := Int.natAbs_add_le (cf a n) (cf b n)
  omega
theorem bd_le {A B : Nat} {a : List Int} (h : A ≤ B) (ha : Bd A a) : Bd B a := fun n => Nat.le_trans (ha n) h
end PL
end
section
set_option maxRecDepth 100000
set_option maxHeartbeats 1000000
/-! lists of ints of one's own, changed at a place; zeros; zip and enumerate of ints -/
namespace DL
open PySem PySem.Spec L2
open PL (cf)
theorem get_ints {a : List Int} {k : Nat} (h : k < a.length) : (a.map PyData.int)[k]? = some (.int (cf a k)) := by
  rw [List.getElem?_map, List.getElem?_eq_getElem h, PL.cf_get, List.getD_eq_getElem?_getD, List.getElem?_eq_getElem h]
  rfl
theorem ix_ints {d : D} {a : List Int} (hd : seq? d = some (a.map .int)) {k : Nat} (h : k < a.length) : ixD d (.int (k : Nat)) = some (.fz (.int (cf a k))) := ix_nat hd (get_ints h)
theorem len_ints {d : D} {a : List Int} (hd : seq? d = some (a.map .int)) : lenD [d] = some (.fz (.int (a.length : Nat))) := by rw [len_seq hd, List.length_map]
theorem listAt_own {δ : DS} {j : Nat} {io : Bool} {l : List D} (h : δ[j]? = some (.own io (.list l))) : listAt δ j = some (io, l) := by
  unfold listAt
  rw [h]
theorem set_ints (F : List Int) (k : Nat) (v : Int) : (F.map PyData.int).set k (.int (cf F k + v)) = (PL.bump F k v).map .int := by
  unfold PL.bump
  rw [List.map_set]
theorem ixN_nat {n k : Nat} (h : k < n) : ixN n (k : Int) = some k := by
  unfold ixN
  rw [if_pos (by omega), if_pos (by omega)]
  simp
theorem augSub_bump {j : Nat} {fi fe : Me Val} {δ : DS} {io : Bool} {F : List Int} {k : Nat} {v : Int} (h : δ[j]? = some (.own io (IL F))) (hi : fi δ = some (.fz (.int (k : Nat)), δ)) (he : fe δ = some (.fz (.int v), δ)) (hk : k < F.length) :
    augSubS j fi addI fe δ = some (.nx, δ.set j (.own io (IL (PL.bump F k v)))) := by
  have hl := listAt_own h
  unfold augSubS
  rw [hl]
  simp only [Option.bind_some, hi, hl]
  rw [if_pos (decide_eq_true (by omega)), Int.toNat_natCast, get_ints hk]
  simp only [Option.bind_some, he, dv, addI, intB, Option.map_some, List.length_map, ixN_nat hk, set_ints, hl]
theorem asgSub_bump {j : Nat} {fi fe : Me Val} {δ : DS} {io : Bool} {F : List Int} {k : Nat} {v : Int} (h : δ[j]? = some (.own io (IL F))) (hi : fi δ = some (.fz (.int (k : Nat)), δ)) (he : fe δ = some (.fz (.int v), δ)) (hk : k < F.length) :
    asgS (binM addD (binM ixD (nameM j) fi) fe) (subG j fi) δ = some (.nx, δ.set j (.own io (IL (PL.bump F k v)))) := by
  have hl := listAt_own h
  have e1 : nameM j δ = some (.sl j, δ) := by
    unfold nameM
    rw [h]
  have e2 : dv δ (.sl j) = some (IL F) := by
    show ownAt δ j = _
    unfold ownAt
    rw [h]
  have e3 : binM ixD (nameM j) fi δ = some (.fz (.int (cf F k)), δ) := by
    unfold binM
    have e2' : ownAt δ j = some (IL F) := e2
    simp only [mb, mo, e1, hi, e2', dv, Option.bind_some, ix_ints (d := IL F) rfl hk]
  have e4 : binM addD (binM ixD (nameM j) fi) fe δ = some (.fz (.int (cf F k + v)), δ) := by
    rw [binM]
    simp only [mb, mo, e3, he, dv, Option.bind_some, addD]
  unfold asgS
  rw [e4]
  simp only [subG, hl, Option.bind_some, hi, List.length_map, ixN_nat hk, set_ints]
theorem enum_ints (a : List Int) : enumD (a.map .int) = a.zipIdx.map fun p => .tuple [.int (p.2 : Nat), .int p.1] := by
  unfold enumD
  rw [List.zipIdx_map, List.map_map]
  rfl
theorem zip_ints (a b : List Int) : zipD (a.map .int) (b.map .int) = (a.zip b).map fun p => .tuple [.int p.1, .int p.2] := by
  unfold zipD
  rw [List.zip_map, List.map_map]
  rfl
theorem rep_zeros (k : Nat) (h : k ≤ 16777216) : mulD (.list [.int 0]) (.int (k : Nat)) = some (.ow (IL (List.replicate k 0))) := by
  have e : (List.replicate k [PyData.int 0]).flatten = (List.replicate k (0 : Int)).map .int := by
    rw [List.map_replicate]
    exact List.flatten_replicate_singleton
  unfold mulD
  simp only [Int.toNat_natCast, List.length_singleton, Nat.one_mul, szOkL h, Bool.and_true, e]
  rw [if_pos]
  unfold ixOk
  simp only [Bool.and_eq_true, decide_eq_true_eq]
  omega
theorem rep_zeros_neg {k : Int} (h : k ≤ 0) (h2 : -1000 ≤ k) : mulD (.list [.int 0]) (.int k) = some (.ow (IL [])) := by
  unfold mulD
  simp only [show k.toNat = 0 by omega, List.length_singleton, Nat.mul_zero]
  rw [if_pos]
  · rfl
  · unfold ixOk
    simp only [Bool.and_eq_true, decide_eq_true_eq]
    exact ⟨⟨by omega, by omega⟩, rfl⟩
theorem zipIdx_mem {a : List Int} {k : Nat} {p : Int × Nat} (h : a.zipIdx[k]? = some p) : p.2 = k ∧ k < a.length ∧ p.1 = cf a k ∧ p.1 ∈ a := by
  rw [List.getElem?_zipIdx] at h
  obtain ⟨x, hx, rfl⟩ := Option.map_eq_some_iff.mp h
  obtain ⟨hk, e⟩ := List.getElem?_eq_some_iff.mp hx
  refine ⟨by simp, hk, ?_, List.mem_of_getElem? hx⟩
  rw [PL.cf_get, List.getD_eq_getElem?_getD, hx]
  rfl
end DL
namespace DL
open PySem PySem.Spec L2
open PL (cf)
theorem fdiv_nat (x y : Nat) : ((x : Int).fdiv (y : Int)) = ((x / y : Nat) : Int) := by
  rw [Int.fdiv_eq_ediv_of_nonneg _ (by omega)]
  rfl
theorem rest_nat (x y : Nat) : (x : Int) - ((x / y : Nat) : Int) * (y : Int) = ((x % y : Nat) : Int) := by
  have := Nat.div_add_mod x y
  rw [Nat.mul_comm] at this
  rw [← Int.natCast_mul]
  omega
theorem gcd_gen {c : Me Bool} {body : Ss} (fr : Int → Int → DS) (hc : ∀ x y : Int, c (fr x y) = some (!decide (y = 0), fr x y)) (hb : ∀ x y q p : Int, fdivD (.int x) (.int y) = some (.fz (.int q)) → mulD (.int q) (.int y) = some (.fz (.int p)) → body (fr x y) = some (.nx, fr y (x - p)))
    {a b : Nat} (ha : a < 2 ^ 200) (hb' : b < 2 ^ 200) {n : Nat} (hn : 1000 ≤ n) : whileN c body n (fr a b) = some (.nx, fr (Nat.gcd a b) 0) := by
  obtain ⟨s, r, h1, ⟨h2, -, -⟩, h3⟩ := while_fold (c := c) (body := body) (fun (s : Nat × Nat) (_ : Unit) => fr s.1 s.2) (fun s => Nat.gcd s.1 s.2 = Nat.gcd a b ∧ s.1 < 2 ^ 200 ∧ s.2 < 2 ^ 200) (fun s => !decide (s.2 = 0)) (fun s => (s.2, s.1 % s.2)) (fun s => PL.mu s.1 s.2) (fun s r p => by
    have : decide (((s.2 : Nat) : Int) = 0) = decide (s.2 = 0) := by
      rw [Bool.eq_iff_iff]
      simp
    rw [hc, this]) (fun s r p hq => by
    have h0 : s.2 ≠ 0 := by simpa using hq
    have e := hb s.1 s.2 _ _ (fdivD_lt (by omega) (by rw [Int.natAbs_natCast]; exact p.2.2)) (by rw [fdiv_nat s.1 s.2]; exact mulD_lt (by rw [Int.natAbs_natCast]; exact Nat.lt_of_le_of_lt (Nat.div_le_self _ _) p.2.1) (by rw [Int.natAbs_natCast]; exact p.2.2))
    rw [rest_nat] at e
    refine ⟨⟨r, e⟩, ⟨?_, p.2.2, Nat.lt_trans (Nat.mod_lt _ (Nat.pos_of_ne_zero h0)) p.2.2⟩, PL.mu_lt h0⟩
    show Nat.gcd s.2 (s.1 % s.2) = _
    rw [← p.1, Nat.gcd_comm s.1 s.2]
    exact (Nat.gcd_comm _ _).trans (Nat.gcd_rec s.2 s.1).symm) n (a, b) () ⟨rfl, ha, hb'⟩ (Nat.lt_of_lt_of_le (Nat.lt_of_le_of_lt (PL.mu_le hb') (show _ < 1000 by decide)) hn)
  have h4 : s.2 = 0 := by simpa using h3
  rw [h4, Nat.gcd_zero_right] at h2
  have h1 : whileN c body n (fr a b) = some (.nx, fr (s.1 : Nat) (s.2 : Nat)) := h1
  rw [h1, h2, h4]
  rfl
/-- the greatest divisor of a list -/
def gl (a : List Int) : Nat := a.foldl (fun g x => Nat.gcd g x.natAbs) 0
theorem absD_int (i : Int) : absD [.int i] = some (.fz (.int (i.natAbs : Nat))) := by
  show some (Val.fz (.int _)) = _
  congr 3
  split <;> omega
end DL
end
section
set_option maxRecDepth 100000
set_option maxHeartbeats 1000000
/-! plain lines -/
namespace DL
open PL (cf Nz)
theorem foldl_gcd (a : List Int) : ∀ g : Nat, a.foldl (fun g x => Nat.gcd g x.natAbs) g = Nat.gcd g (gl a) := by
  unfold gl
  induction a with
  | nil => intro g; simp
  | cons x a ih =>
    intro g
    rw [List.foldl_cons, List.foldl_cons, ih, ih (Nat.gcd 0 x.natAbs), Nat.gcd_zero_left, Nat.gcd_assoc]
theorem gl_cons (x : Int) (a : List Int) : gl (x :: a) = Nat.gcd x.natAbs (gl a) := by
  show a.foldl _ (Nat.gcd 0 x.natAbs) = _
  rw [foldl_gcd, Nat.gcd_zero_left]
theorem gl_dvd : ∀ {a : List Int} {x : Int}, x ∈ a → gl a ∣ x.natAbs
  | y :: a, x, h => by
    rw [gl_cons]
    rcases List.mem_cons.mp h with rfl | h
    · exact Nat.gcd_dvd_left _ _
    · exact Nat.dvd_trans (Nat.gcd_dvd_right _ _) (gl_dvd h)
theorem gl_map (c : Int) : ∀ a : List Int, gl (a.map (c * ·)) = c.natAbs * gl a
  | [] => rfl
  | x :: a => by rw [List.map_cons, gl_cons, gl_cons, gl_map c a, Int.natAbs_mul, Nat.gcd_mul_left]
/-- the last number -/
def la (a : List Int) : Int := cf a (a.length - 1)
theorem la_last (a : List Int) (x : Int) : la (a ++ [x]) = x := by
  unfold la
  rw [List.length_append, List.length_singleton, Nat.add_sub_cancel, PL.cf_append_right (Nat.le_refl _), Nat.sub_self]
  rfl
theorem la_mem {a : List Int} (h : a ≠ []) : la a ∈ a := by
  rcases List.eq_nil_or_concat a with rfl | ⟨c, x, rfl⟩
  · exact absurd rfl h
  · rw [List.concat_eq_append, la_last]
    simp
theorem la_ne {a : List Int} (hn : Nz a) (h : a ≠ []) : la a ≠ 0 := (PL.nz_iff.mp hn).resolve_left h
theorem la_map {f : Int → Int} (h0 : f 0 = 0) (a : List Int) : la (a.map f) = f (la a) := by
  unfold la
  rw [List.length_map, PL.cf_map h0]
theorem gl_pos {a : List Int} (hn : Nz a) (h : a ≠ []) : 0 < gl a := Nat.pos_of_ne_zero fun z => by
  have := gl_dvd (la_mem h)
  rw [z] at this
  exact la_ne hn h (Int.natAbs_eq_zero.mp (Nat.eq_zero_of_zero_dvd this))
theorem gl_lt {a : List Int} (hn : Nz a) (h : a ≠ []) {k : Nat} (hb : ∀ x ∈ a, x.natAbs < k) : gl a < k :=
  Nat.lt_of_le_of_lt (Nat.le_of_dvd (Nat.pos_of_ne_zero fun z => la_ne hn h (Int.natAbs_eq_zero.mp z)) (gl_dvd (la_mem h))) (hb _ (la_mem h))
/-- by what a line is divided -/
def dg (a : List Int) : Int := if la a < 0 then 0 - (gl a : Int) else gl a
def pln (a : List Int) : List Int := if a = [] then [] else a.map fun x => x.fdiv (dg a)
theorem dg_abs (a : List Int) : (dg a).natAbs = gl a := by
  unfold dg
  split <;> omega
theorem dg_ne {a : List Int} (hn : Nz a) (h : a ≠ []) : dg a ≠ 0 := fun z => by
  have h1 := dg_abs a
  rw [z] at h1
  have := gl_pos hn h
  simp at h1
  omega
theorem dg_dvd {a : List Int} {x : Int} (h : x ∈ a) : dg a ∣ x := by
  rw [← Int.natAbs_dvd_natAbs, dg_abs]
  exact gl_dvd h
theorem dg_map {a : List Int} (hn : Nz a) (h : a ≠ []) {c : Int} (hc : c ≠ 0) : dg (a.map (c * ·)) = c * dg a := by
  have hl := la_ne hn h
  unfold dg
  rw [la_map (Int.mul_zero c), gl_map, Int.natCast_mul]
  rcases Int.lt_or_gt_of_ne hc with h1 | h1 <;> rcases Int.lt_or_gt_of_ne hl with h2 | h2
  · rw [if_neg (by have := Int.mul_pos_of_neg_of_neg h1 h2; omega), if_pos h2, Int.ofNat_natAbs_of_nonpos (by omega), Int.zero_sub, Int.neg_mul, Int.mul_neg]
  · rw [if_pos (Int.mul_neg_of_neg_of_pos h1 h2), if_neg (by omega), Int.ofNat_natAbs_of_nonpos (by omega), Int.zero_sub, Int.neg_mul, Int.neg_neg]
  · rw [if_pos (Int.mul_neg_of_pos_of_neg h1 h2), if_pos h2, Int.natAbs_of_nonneg (by omega), Int.zero_sub, Int.zero_sub, Int.mul_neg]
  · rw [if_neg (by have := Int.mul_pos h1 h2; omega), if_neg (by omega), Int.natAbs_of_nonneg (by omega)]
theorem pln_len (a : List Int) : (pln a).length = a.length := by
  unfold pln
  split
  · rename_i h
    rw [h]
  · rw [List.length_map]
theorem pln_map {a : List Int} (hn : Nz a) {c : Int} (hc : c ≠ 0) : pln (a.map (c * ·)) = pln a := by
  by_cases h : a = []
  · subst h; rfl
  · unfold pln
    rw [if_neg h, if_neg (by simpa using h), dg_map hn h hc, List.map_map]
    refine List.map_congr_left fun x hx => ?_
    obtain ⟨k, rfl⟩ := dg_dvd hx
    show (c * (dg a * k)).fdiv (c * dg a) = (dg a * k).fdiv (dg a)
    rw [← Int.mul_assoc, Int.mul_fdiv_cancel_left _ (Int.mul_ne_zero hc (dg_ne hn h)), Int.mul_fdiv_cancel_left _ (dg_ne hn h)]
/-- the line is its plain line, times a number -/
theorem pln_mul {a : List Int} (hn : Nz a) (h : a ≠ []) : (pln a).map (dg a * ·) = a := by
  unfold pln
  rw [if_neg h, List.map_map]
  conv => rhs; rw [← List.map_id a]
  refine List.map_congr_left fun x hx => ?_
  obtain ⟨k, rfl⟩ := dg_dvd hx
  show dg a * (dg a * k).fdiv (dg a) = dg a * k
  rw [Int.mul_fdiv_cancel_left _ (dg_ne hn h)]
theorem pln_ne {a : List Int} (h : a ≠ []) : pln a ≠ [] := fun z => h (List.eq_nil_of_length_eq_zero (by rw [← pln_len, z]; rfl))
theorem pln_la {a : List Int} (hn : Nz a) (h : a ≠ []) : 0 < la (pln a) := by
  have e : dg a * la (pln a) = la a := by rw [← la_map (f := (dg a * ·)) (Int.mul_zero _), pln_mul hn h]
  have hl := la_ne hn h
  have hg := gl_pos hn h
  unfold dg at e
  split at e
  · rename_i h1
    refine Int.not_le.mp fun q => ?_
    have := Int.mul_nonneg_of_nonpos_of_nonpos (show (0 : Int) - gl a ≤ 0 by omega) q
    omega
  · rename_i h1
    refine Int.not_le.mp fun q => ?_
    have := Int.mul_nonpos_of_nonneg_of_nonpos (show (0 : Int) ≤ gl a by omega) q
    omega
theorem pln_gl {a : List Int} (hn : Nz a) (h : a ≠ []) : gl (pln a) = 1 := by
  have e : gl a = gl a * gl (pln a) := by
    have := gl_map (dg a) (pln a)
    rw [pln_mul hn h, dg_abs] at this
    exact this
  have hg := gl_pos hn h
  exact Nat.eq_of_mul_eq_mul_left hg (by omega)
theorem pln_nz {a : List Int} (hn : Nz a) : Nz (pln a) := by
  by_cases h : a = []
  · subst h; exact PL.nz_nil
  · have h1 := pln_la hn h
    exact PL.nz_iff.mpr (.inr (show la (pln a) ≠ 0 by omega))
theorem pln_plain {a : List Int} (hn : Nz a) (hl : 0 < la a) (hg : gl a = 1) : pln a = a := by
  unfold pln
  split
  · rename_i h; exact h.symm
  · have : dg a = 1 := by
      unfold dg
      rw [if_neg (by omega), hg]
      rfl
    rw [this]
    conv => rhs; rw [← List.map_id a]
    exact List.map_congr_left fun x _ => by simp
theorem pln_pln {a : List Int} (hn : Nz a) : pln (pln a) = pln a := by
  by_cases h : a = []
  · subst h; rfl
  · exact pln_plain (pln_nz hn) (pln_la hn h) (pln_gl hn h)
end DL
namespace DL
open PySem PySem.Spec L2
open PL (cf Nz)
theorem ix_neg1 {d : D} {a : List Int} (hd : seq? d = some (a.map .int)) (h : a ≠ []) : ixD d (.int (-1)) = some (.fz (.int (la a))) := by
  rcases List.eq_nil_or_concat a with rfl | ⟨c, x, rfl⟩
  · exact absurd rfl h
  · rw [List.concat_eq_append] at hd ⊢
    rw [la_last]
    exact ix_last (by rw [hd, List.map_append]; rfl)
end DL
end
section
set_option maxRecDepth 100000
set_option maxHeartbeats 1000000
/-! repr: how long, and of what signs -/
namespace DL
open PySem PySem.Spec L2
def sOk (x : Str) : Bool := PyData.strOk x
theorem sOk_app {x y : Str} (h : sOk x = true) (k : sOk y = true) : sOk (x ++ y) = true := by
  unfold sOk PyData.strOk at *
  show (x.cps ++ y.cps).all _ = true
  rw [Array.all_append, h, k]
  rfl
theorem sOk_of (s : String) : sOk (Str.ofString s) = true := by
  unfold sOk PyData.strOk
  rw [Str.ofString_eq_toList]
  simp only [List.all_toArray, List.all_map, List.all_eq_true, Function.comp, decide_eq_true_eq]
  intro c _
  have := c.valid
  rcases this with h | h
  · exact Nat.lt_trans h (by decide)
  · exact h.2
theorem sOk_join {sep : Str} (hs : sOk sep = true) : ∀ {ts : List Str}, (∀ t ∈ ts, sOk t = true) → sOk (Str.join sep ts) = true
  | [], _ => by
    have e : Str.join sep [] = Str.empty := rfl
    rw [e]
    decide +kernel
  | [x], h => h x List.mem_cons_self
  | x :: y :: r, h => by
    show sOk (x ++ sep ++ Str.join sep (y :: r)) = true
    exact sOk_app (sOk_app (h x List.mem_cons_self) hs) (sOk_join hs fun t ht => h t (List.mem_cons_of_mem _ ht))
/-- what repr shows within bounds: depth at most n, at most w signs -/
structure Sh (n w : Nat) (d : D) : Prop where
  lay : d.canLay0 = true
  can : d.showable = true
  dep : d.depth ≤ n
  len : d.shown.length ≤ w
  ok : sOk d.shown = true
theorem Sh.mono {n w n' w' : Nat} {d : D} (h : Sh n w d) (hn : n ≤ n') (hw : w ≤ w') : Sh n' w' d := ⟨h.lay, h.can, Nat.le_trans h.dep hn, Nat.le_trans h.len hw, h.ok⟩
theorem sh_int {i : Int} {k : Nat} (hk : 0 < k) (h : i.natAbs < 2 ^ k) (hk2 : k ≤ 1900) : Sh 0 (k + 1) (.int i) := by
  have hl : i.natAbs.log2 < k := by
    by_cases h0 : i.natAbs = 0
    · rw [h0]
      simpa using hk
    · exact (Nat.log2_lt h0).mpr h
  refine ⟨by simp [PyData.canLay0], by simp [PyData.showable]; omega, by simp [PyData.depth], ?_, ?_⟩
  · rw [PyData.shown_int]
    have := int_text_length_le hk hl
    rw [ofString_length]
    exact this
  · rw [PyData.shown_int]
    exact sOk_of _
theorem sh_bool (b : Bool) : Sh 0 5 (.bool b) := ⟨by simp [PyData.canLay0], by simp [PyData.showable], by simp [PyData.depth], by cases b <;> decide +kernel, by cases b <;> decide +kernel⟩
theorem sh_none : Sh 0 4 .none := ⟨by simp [PyData.canLay0], by simp [PyData.showable], by simp [PyData.depth], by decide +kernel, by decide +kernel⟩
theorem layAll_of : ∀ {ds : List D}, (∀ d ∈ ds, d.canLay0 = true) → PyData.canLayAll0 ds = true
  | [], _ => by simp [PyData.canLayAll0]
  | x :: r, h => by simp [PyData.canLayAll0, h x List.mem_cons_self, layAll_of fun d hd => h d (List.mem_cons_of_mem _ hd)]
theorem canAll_of : ∀ {ds : List D}, (∀ d ∈ ds, d.showable = true) → PyData.showableAll ds = true
  | [], _ => by simp [PyData.showableAll]
  | x :: r, h => by simp [PyData.showableAll, h x List.mem_cons_self, canAll_of fun d hd => h d (List.mem_cons_of_mem _ hd)]
theorem depAll_of {n : Nat} : ∀ {ds : List D}, (∀ d ∈ ds, d.depth ≤ n) → PyData.depthAll ds ≤ n
  | [], _ => by simp [PyData.depthAll]
  | x :: r, h => by
    have h1 := h x List.mem_cons_self
    have h2 := depAll_of (n := n) (ds := r) fun d hd => h d (List.mem_cons_of_mem _ hd)
    simp only [PyData.depthAll]
    omega
theorem shownAll_mem : ∀ {ds : List D} {t : Str}, t ∈ PyData.shownAll ds → ∃ d ∈ ds, t = d.shown
  | [], t, h => by simp [PyData.shownAll] at h
  | x :: r, t, h => by
    rw [PyData.shownAll_cons] at h
    rcases List.mem_cons.mp h with e | e
    · exact ⟨x, List.mem_cons_self, e⟩
    · obtain ⟨d, hd, e⟩ := shownAll_mem e
      exact ⟨d, List.mem_cons_of_mem _ hd, e⟩
theorem sum_le {w : Nat} : ∀ {l : List Nat}, (∀ x ∈ l, x ≤ w) → l.sum ≤ l.length * w
  | [], _ => by simp
  | x :: r, h => by
    have h1 := h x List.mem_cons_self
    have h2 := sum_le fun y hy => h y (List.mem_cons_of_mem _ hy)
    rw [List.sum_cons, List.length_cons, Nat.succ_mul]
    omega
theorem join_le {w : Nat} {ds : List D} (h : ∀ d ∈ ds, d.shown.length ≤ w) : (Str.join ", " (PyData.shownAll ds)).length ≤ ds.length * (w + 2) := by
  have h1 := StrLaws.join_length_le ", " (PyData.shownAll ds)
  have h2 : ((PyData.shownAll ds).map (·.length)).sum ≤ ((PyData.shownAll ds).map (·.length)).length * w := sum_le fun x hx => by
    obtain ⟨t, ht, rfl⟩ := List.mem_map.mp hx
    obtain ⟨d, hd, rfl⟩ := shownAll_mem ht
    exact h d hd
  rw [List.length_map, PyData.shownAll_length] at h2
  rw [PyData.shownAll_length] at h1
  have e : ((", " : String) : Str).length = 2 := by decide +kernel
  rw [e] at h1
  rw [Nat.mul_add]
  omega
theorem sh_list {n w : Nat} {ds : List D} (h : ∀ d ∈ ds, Sh n w d) : Sh (n + 1) (ds.length * (w + 2) + 3) (.list ds) := by
  refine ⟨by simp [PyData.canLay0, layAll_of fun d hd => (h d hd).lay], by simp [PyData.showable, canAll_of fun d hd => (h d hd).can], ?_, ?_, ?_⟩
  · have := depAll_of fun d hd => (h d hd).dep
    simp only [PyData.depth]
    omega
  · rw [PyData.shown_list, Str.length_append, Str.length_append]
    have := join_le fun d hd => (h d hd).len
    have e1 : (("[" : String) : Str).length = 1 := by decide +kernel
    have e2 : (("]" : String) : Str).length = 1 := by decide +kernel
    omega
  · rw [PyData.shown_list]
    exact sOk_app (sOk_app (sOk_of _) (sOk_join (sOk_of _) fun t ht => by
      obtain ⟨d, hd, rfl⟩ := shownAll_mem ht
      exact (h d hd).ok)) (sOk_of _)
theorem sh_tuple {n w : Nat} {ds : List D} (h : ∀ d ∈ ds, Sh n w d) : Sh (n + 1) (ds.length * (w + 2) + 3) (.tuple ds) := by
  refine ⟨by simp [PyData.canLay0, layAll_of fun d hd => (h d hd).lay], by simp [PyData.showable, canAll_of fun d hd => (h d hd).can], ?_, ?_, ?_⟩
  · have := depAll_of fun d hd => (h d hd).dep
    simp only [PyData.depth]
    omega
  · rw [PyData.shown_tuple, Str.length_append, Str.length_append]
    have := join_le fun d hd => (h d hd).len
    have e1 : (("(" : String) : Str).length = 1 := by decide +kernel
    have e2 : ((if ds.length == 1 then ",)" else ")" : String) : Str).length ≤ 2 := by split <;> decide +kernel
    omega
  · rw [PyData.shown_tuple]
    exact sOk_app (sOk_app (sOk_of _) (sOk_join (sOk_of _) fun t ht => by
      obtain ⟨d, hd, rfl⟩ := shownAll_mem ht
      exact (h d hd).ok)) (sOk_of _)
theorem sh_two {n w : Nat} {a b : D} (ha : Sh n w a) (hb : Sh n w b) : ∀ d ∈ [a, b], Sh n w d := fun d hd => by
  simp only [List.mem_cons, List.not_mem_nil, or_false] at hd
  rcases hd with rfl | rfl
  · exact ha
  · exact hb
theorem Sh.repr {n w : Nat} {d : D} (h : Sh n w d) (hn : n ≤ 60) (hw : w ≤ 16777216) : reprD [d] = some (.fz (.str d.shown)) := by
  have : reprOk d = true := by
    unfold reprOk
    rw [h.lay, h.can, decide_eq_true (Nat.le_trans h.dep hn), szOkL (Nat.le_trans h.len hw)]
    rfl
  unfold reprD
  exact if_pos this
theorem Sh.shaped {n w : Nat} {d : D} (h : Sh n w d) (hn : n ≤ 60) : SeqAt.shaped d = true := by
  unfold SeqAt.shaped
  rw [h.lay, decide_eq_true (by have := h.dep; omega)]
  rfl
theorem Sh.str {n w : Nat} {d : D} (h : Sh n w d) : SeqAt.shaped (.str d.shown) = true := by
  have := h.ok
  unfold sOk at this
  unfold SeqAt.shaped
  simp [PyData.canLay0, PyData.depth, this]
theorem sh_ints {k : Nat} {a : List Int} (hk : 0 < k) (hk2 : k ≤ 1900) (h : ∀ y ∈ a, y.natAbs < 2 ^ k) : ∀ d ∈ a.map PyData.int, Sh 0 (k + 1) d := fun d hd => by
  obtain ⟨y, hy, rfl⟩ := List.mem_map.mp hd
  exact sh_int hk (h y hy) hk2
end DL
end
section
set_option maxRecDepth 100000
set_option maxHeartbeats 4000000
namespace K11
open PySem PySem.Spec L2 DL
open PyProof.Rows hiding St

/-- turns that a while may take -/
def fuel : Nat := 1000000000

def g_is_integer_s1 : Ss := (retS (andV (unM (isiD "int") (nameM 0)) (notV (unM (isiD "bool") (nameM 0)))))
/-- value -/
def g_is_integer : Ss := g_is_integer_s1
@[irreducible] def m_is_integer := bodyF 1 g_is_integer

def g_is_list_s1 : Ss := (retS (unM (isiD2 "list" "tuple") (nameM 0)))
/-- value -/
def g_is_list : Ss := g_is_list_s1
@[irreducible] def m_is_list := bodyF 1 g_is_list

def g_want_at_most_s1 : Ss := (ifS (boolM (binM gtI (nameM 2) (nameM 1)))
  (fun _ => none)
  skipS)
/-- what limit number -/
def g_want_at_most : Ss := g_want_at_most_s1
@[irreducible] def m_want_at_most := bodyF 3 g_want_at_most

def g_divisor_of_t1 : Me Bool := (boolM (binM neD (nameM 3) (conM (.int 0))))
def g_divisor_of_b1 : Ss := (parS 2 3 (consA (nameM 3) (consA (binM subI (nameM 2) (binM mulD (binM fdivD (nameM 2) (nameM 3)) (nameM 3))) nilA)))
def g_divisor_of_w1 : Ss := whileN g_divisor_of_t1 g_divisor_of_b1 fuel
def g_divisor_of_s1 : Ss := (parS 2 3 (consA (callM absD (consA (nameM 0) nilA)) (consA (callM absD (consA (nameM 1) nilA)) nilA)))
def g_divisor_of_s2 : Ss := (retS (nameM 2))
/-- number other near far -/
def g_divisor_of : Ss := (seqS g_divisor_of_s1
  (seqS g_divisor_of_w1
  g_divisor_of_s2))
@[irreducible] def m_divisor_of := bodyF 4 g_divisor_of

def g_trimmed_t1 : Me Bool := (andM (boolM (binM gtI (nameM 1) (conM (.int 0)))) (boolM (binM eqD (binM ixD (nameM 0) (binM subI (nameM 1) (conM (.int 1)))) (conM (.int 0)))))
def g_trimmed_b1 : Ss := (setS 1 (binM subI (nameM 1) (conM (.int 1))))
def g_trimmed_w1 : Ss := whileN g_trimmed_t1 g_trimmed_b1 fuel
def g_trimmed_s1 : Ss := (setS 1 (callM lenD (consA (nameM 0) nilA)))
def g_trimmed_s2 : Ss := (retS (callM listD (consA (slM (nameM 0) (mr none) (partM (nameM 1))) nilA)))
/-- numbers many -/
def g_trimmed : Ss := (seqS g_trimmed_s1
  (seqS g_trimmed_w1
  g_trimmed_s2))
@[irreducible] def m_trimmed := bodyF 2 g_trimmed

def g_scaled_line_c1 : Me Val := compM (seqM (nameM 0)) (asg 2) (mr true) (binM mulD (nameM 1) (nameM 2)) [2]
def g_scaled_line_s1 : Ss := (retS (ifM (boolM (binM neD (nameM 1) (conM (.int 0)))) g_scaled_line_c1 (lstM nilA)))
/-- line number one -/
def g_scaled_line : Ss := g_scaled_line_s1
@[irreducible] def m_scaled_line := bodyF 3 g_scaled_line

def g_times_lines_b1 : Ss := (augSubS 2 (binM addD (nameM 3) (nameM 5)) addI (binM mulD (nameM 4) (nameM 6)))
def g_times_lines_f1 : Ss := forS (enumA (consA (nameM 1) nilA)) (tupG 2 (consG (asg 5) (consG (asg 6) nilG))) g_times_lines_b1
def g_times_lines_b2 : Ss := (ifS (boolM (binM neD (nameM 4) (conM (.int 0))))
  g_times_lines_f1
  skipS)
def g_times_lines_f2 : Ss := forS (enumA (consA (nameM 0) nilA)) (tupG 2 (consG (asg 3) (consG (asg 4) nilG))) g_times_lines_b2
def g_times_lines_s1 : Ss := (ifS (orM (boolM (binM eqD (callM lenD (consA (nameM 0) nilA)) (conM (.int 0)))) (boolM (binM eqD (callM lenD (consA (nameM 1) nilA)) (conM (.int 0)))))
  (retS (lstM nilA))
  skipS)
def g_times_lines_s2 : Ss := (setS 2 (binM mulD (lstM (consA (conM (.int 0)) nilA)) (binM subI (binM addD (callM lenD (consA (nameM 0) nilA)) (callM lenD (consA (nameM 1) nilA))) (conM (.int 1)))))
def g_times_lines_s3 : Ss := (retS (nameM 2))
/-- line other found at near to far -/
def g_times_lines : Ss := (seqS g_times_lines_s1
  (seqS g_times_lines_s2
  (seqS g_times_lines_f2
  g_times_lines_s3)))
@[irreducible] def m_times_lines := bodyF 7 g_times_lines

def g_value_at_b1 : Ss := (setS 2 (binM addD (binM mulD (nameM 2) (nameM 1)) (nameM 3)))
def g_value_at_f1 : Ss := forS (seqM (unM revD (nameM 0))) (asg 3) g_value_at_b1
def g_value_at_s1 : Ss := (setS 2 (conM (.int 0)))
def g_value_at_s2 : Ss := (retS (nameM 2))
/-- line number found one -/
def g_value_at : Ss := (seqS g_value_at_s1
  (seqS g_value_at_f1
  g_value_at_s2))
@[irreducible] def m_value_at := bodyF 4 g_value_at

def g_slope_of_c1 : Me Val := compM (enumA (consA (nameM 0) nilA)) (tupG 2 (consG (asg 1) (consG (asg 2) nilG))) (mr true) (binM mulD (nameM 1) (nameM 2)) [1, 2]
def g_slope_of_s1 : Ss := (retS (slM g_slope_of_c1 (partM (conM (.int 1))) (mr none)))
/-- line at number -/
def g_slope_of : Ss := g_slope_of_s1
@[irreducible] def m_slope_of := bodyF 3 g_slope_of

def g__law_pot_s1 : Ss := (setS 2 (ifM (boolM (binM ltI (nameM 1) (callM lenD (consA (nameM 0) nilA)))) (callM absD (consA (binM ixD (nameM 0) (nameM 1)) nilA)) (binM addD (binM mulD (conM (.int 547)) (nameM 1)) (conM (.int 499)))))
def g__law_pot_s2 : Ss := (retS (lstM (consA (callM max2D (consA (conM (.int 0)) (consA (binM subI (nameM 2) (binM powD (conM (.int 10)) (conM (.int 18)))) nilA))) (consA (binM addD (binM modD (callM intD (consA (binM addD (binM addD (binM mulD (binM modD (callM intD (consA (nameM 2) nilA)) (conM (.int 2147483549))) (conM (.int 40949))) (binM mulD (conM (.int 4021)) (nameM 1))) (conM (.int 509))) nilA)) (conM (.int 2147483563))) (conM (.int 1))) nilA))))
/-- _law_script _law_k _law_cell -/
def g__law_pot : Ss := (seqS g__law_pot_s1
  g__law_pot_s2)
@[irreducible] def m__law_pot := bodyF 3 g__law_pot

def g__law_draw_s1 : Ss := (ifS (boolM (binM gtI (binM ixD (nameM 0) (conM (.int 0))) (conM (.int 0))))
  (seqS (asgS (callM divmodD (consA (binM ixD (nameM 0) (conM (.int 0))) (consA (nameM 1) nilA))) (tupG 2 (consG (subG 0 (conM (.int 0))) (consG (asg 2) nilG))))
  (retS (nameM 2)))
  skipS)
def g__law_draw_s2 : Ss := (asgS (binM modD (callM intD (consA (binM addD (binM mulD (binM ixD (nameM 0) (conM (.int 1))) (conM (.int 40014))) (conM (.int 1109))) nilA)) (conM (.int 2147483563))) (subG 0 (conM (.int 1))))
def g__law_draw_s3 : Ss := (retS (binM modD (callM intD (consA (binM fdivD (binM modD (callM intD (consA (binM mulD (binM ixD (nameM 0) (conM (.int 1))) (binM ixD (nameM 0) (conM (.int 1)))) nilA)) (conM (.int 2147483587))) (conM (.int 21))) nilA)) (nameM 1)))
/-- _law_pot_here _law_many _law_digit -/
def g__law_draw : Ss := (seqS g__law_draw_s1
  (seqS g__law_draw_s2
  g__law_draw_s3))
@[irreducible] def m__law_draw := bodyI 3 g__law_draw

def g__law_trim_t1 : Me Bool := (andM (boolM (binM neD (nameM 1) (lstM nilA))) (boolM (binM eqD (binM ixD (nameM 1) (unM negI (conM (.int 1)))) (conM (.int 0)))))
def g__law_trim_b1 : Ss := (dropS (methM 1 popL nilA))
def g__law_trim_w1 : Ss := whileN g__law_trim_t1 g__law_trim_b1 fuel
def g__law_trim_s1 : Ss := (setS 1 (callM listD (consA (nameM 0) nilA)))
def g__law_trim_s2 : Ss := (retS (nameM 1))
/-- _law_numbers _law_found -/
def g__law_trim : Ss := (seqS g__law_trim_s1
  (seqS g__law_trim_w1
  g__law_trim_s2))
@[irreducible] def m__law_trim := bodyF 2 g__law_trim

def g__law_value_b1 : Ss := (setS 2 (binM addD (binM mulD (nameM 2) (nameM 1)) (nameM 3)))
def g__law_value_f1 : Ss := forS (seqM (unM revD (nameM 0))) (asg 3) g__law_value_b1
def g__law_value_s1 : Ss := (setS 2 (conM (.int 0)))
def g__law_value_s2 : Ss := (retS (nameM 2))
/-- _law_line_here _law_number _law_found _law_coefficient -/
def g__law_value : Ss := (seqS g__law_value_s1
  (seqS g__law_value_f1
  g__law_value_s2))
@[irreducible] def m__law_value := bodyF 4 g__law_value

def g__law_slope_c1 : Me Val := compM (rngM2 (consA (conM (.int 1)) (consA (callM lenD (consA (nameM 0) nilA)) nilA))) (asg 1) (mr true) (binM mulD (nameM 1) (binM ixD (nameM 0) (nameM 1))) [1]
def g__law_slope_s1 : Ss := (retS g__law_slope_c1)
/-- _law_line_here _law_at -/
def g__law_slope : Ss := g__law_slope_s1
@[irreducible] def m__law_slope := bodyF 2 g__law_slope

def g__law_greatest_t1 : Me Bool := (boolM (binM neD (nameM 3) (conM (.int 0))))
def g__law_greatest_b1 : Ss := (parS 1 3 (consA (nameM 3) (consA (binM subI (nameM 1) (binM mulD (binM fdivD (nameM 1) (nameM 3)) (nameM 3))) nilA)))
def g__law_greatest_w1 : Ss := whileN g__law_greatest_t1 g__law_greatest_b1 fuel
def g__law_greatest_b2 : Ss := (seqS (setS 3 (callM absD (consA (nameM 2) nilA)))
  g__law_greatest_w1)
def g__law_greatest_f1 : Ss := forS (seqM (nameM 0)) (asg 2) g__law_greatest_b2
def g__law_greatest_s1 : Ss := (setS 1 (conM (.int 0)))
def g__law_greatest_s2 : Ss := (retS (nameM 1))
/-- _law_some _law_found _law_number _law_other -/
def g__law_greatest : Ss := (seqS g__law_greatest_s1
  (seqS g__law_greatest_f1
  g__law_greatest_s2))
@[irreducible] def m__law_greatest := bodyF 4 g__law_greatest

def g_greatest_of_b1 : Ss := (setS 1 (callP [0, 1] m_divisor_of (consA (nameM 1) (consA (nameM 2) nilA)) nilA))
def g_greatest_of_f1 : Ss := forS (seqM (nameM 0)) (asg 2) g_greatest_of_b1
def g_greatest_of_s1 : Ss := (setS 1 (conM (.int 0)))
def g_greatest_of_s2 : Ss := (retS (nameM 1))
/-- some found number -/
def g_greatest_of : Ss := (seqS g_greatest_of_s1
  (seqS g_greatest_of_f1
  g_greatest_of_s2))
@[irreducible] def m_greatest_of := bodyF 3 g_greatest_of

def g_want_number_s1 : Ss := (ifS (notM (boolM (callP [0] m_is_integer (consA (nameM 0) nilA) nilA)))
  (fun _ => none)
  skipS)
/-- value -/
def g_want_number : Ss := g_want_number_s1
@[irreducible] def m_want_number := bodyF 1 g_want_number

def g_plus_lines_c1 : Me Val := compM (rngM1 (consA (callM lenD (consA (nameM 3) nilA)) nilA)) (asg 4) (mr true) (binM addD (binM ixD (nameM 2) (nameM 4)) (binM ixD (nameM 3) (nameM 4))) [4]
def g_plus_lines_s1 : Ss := (asgS (ifM (boolM (binM geI (callM lenD (consA (nameM 0) nilA)) (callM lenD (consA (nameM 1) nilA)))) (tupM (consA (nameM 0) (consA (nameM 1) nilA))) (tupM (consA (nameM 1) (consA (nameM 0) nilA)))) (tupG 2 (consG (asg 2) (consG (asg 3) nilG))))
def g_plus_lines_s2 : Ss := (retS (callP [0] m_trimmed (consA (binM addD g_plus_lines_c1 (callM listD (consA (slM (nameM 2) (partM (callM lenD (consA (nameM 3) nilA))) (mr none)) nilA))) nilA) nilA))
/-- line other near far at -/
def g_plus_lines : Ss := (seqS g_plus_lines_s1
  g_plus_lines_s2)
@[irreducible] def m_plus_lines := bodyF 5 g_plus_lines

def g_line_in_c1 : Me Val := compM (seqM (nameM 0)) (asg 1) (mr true) (callP [0] m_is_integer (consA (nameM 1) nilA) nilA) [1]
def g_line_in_s1 : Ss := (ifS (orM (notM (boolM (callP [0] m_is_list (consA (nameM 0) nilA) nilA))) (orM (boolM (binM gtI (callM lenD (consA (nameM 0) nilA)) (binM addD (conM (.int 12)) (conM (.int 1))))) (notM (boolM (callM allD (consA g_line_in_c1 nilA))))))
  (retS (conM .none))
  skipS)
def g_line_in_s2 : Ss := (retS (ifM (orM (boolM (binM eqD (callM lenD (consA (nameM 0) nilA)) (conM (.int 0)))) (boolM (binM neD (binM ixD (nameM 0) (unM negI (conM (.int 1)))) (conM (.int 0))))) (callM listD (consA (nameM 0) nilA)) (conM .none)))
/-- value one -/
def g_line_in : Ss := (seqS g_line_in_s1
  g_line_in_s2)
@[irreducible] def m_line_in := bodyF 2 g_line_in

def g__law_pick_s1 : Ss := (retS (binM ixD (nameM 1) (callI m__law_draw (consA (nameM 0) (consA (callM lenD (consA (nameM 1) nilA)) nilA)))))
/-- _law_pot_here _law_some -/
def g__law_pick : Ss := g__law_pick_s1
@[irreducible] def m__law_pick := bodyI 2 g__law_pick

def g__law_sum_c1 : Me Val := compM (zipM (consA (nameM 4) (consA (nameM 5) nilA))) (tupG 2 (consG (asg 6) (consG (asg 7) nilG))) (mr true) (binM addD (nameM 6) (binM mulD (nameM 2) (nameM 7))) [6, 7]
def g__law_sum_s1 : Ss := (setS 3 (callM max2D (consA (callM lenD (consA (nameM 0) nilA)) (consA (callM lenD (consA (nameM 1) nilA)) nilA))))
def g__law_sum_s2 : Ss := (parS 4 5 (consA (binM addD (nameM 0) (binM mulD (lstM (consA (conM (.int 0)) nilA)) (binM subI (nameM 3) (callM lenD (consA (nameM 0) nilA))))) (consA (binM addD (nameM 1) (binM mulD (lstM (consA (conM (.int 0)) nilA)) (binM subI (nameM 3) (callM lenD (consA (nameM 1) nilA))))) nilA)))
def g__law_sum_s3 : Ss := (frzS 5 (frzS 4 (retS (callP [0] m__law_trim (consA g__law_sum_c1 nilA) nilA))))
/-- _law_line_here _law_other _law_factor _law_wide _law_near _law_far _law_one _law_two -/
def g__law_sum : Ss := (seqS g__law_sum_s1
  (seqS g__law_sum_s2
  g__law_sum_s3))
@[irreducible] def m__law_sum := bodyF 8 g__law_sum

def g__law_times_b1 : Ss := (asgS (binM addD (binM ixD (nameM 2) (binM addD (nameM 3) (nameM 5))) (binM mulD (nameM 4) (nameM 6))) (subG 2 (binM addD (nameM 3) (nameM 5))))
def g__law_times_f1 : Ss := forS (enumA (consA (nameM 1) nilA)) (tupG 2 (consG (asg 5) (consG (asg 6) nilG))) g__law_times_b1
def g__law_times_b2 : Ss := g__law_times_f1
def g__law_times_f2 : Ss := forS (enumA (consA (nameM 0) nilA)) (tupG 2 (consG (asg 3) (consG (asg 4) nilG))) g__law_times_b2
def g__law_times_s1 : Ss := (setS 2 (binM mulD (lstM (consA (conM (.int 0)) nilA)) (binM addD (callM lenD (consA (nameM 0) nilA)) (callM lenD (consA (nameM 1) nilA)))))
def g__law_times_s2 : Ss := (frzS 2 (retS (callP [0] m__law_trim (consA (nameM 2) nilA) nilA)))
/-- _law_line_here _law_other _law_found _law_at _law_near _law_to _law_far -/
def g__law_times : Ss := (seqS g__law_times_s1
  (seqS g__law_times_f2
  g__law_times_s2))
@[irreducible] def m__law_times := bodyF 7 g__law_times

def g__law_plain_c1 : Me Val := compM (seqM (nameM 0)) (asg 2) (mr true) (binM fdivD (nameM 2) (nameM 1)) [2]
def g__law_plain_s1 : Ss := (setS 1 (callP [0] m__law_greatest (consA (nameM 0) nilA) nilA))
def g__law_plain_s2 : Ss := (ifS (boolM (binM eqD (nameM 0) (lstM nilA)))
  (retS (lstM nilA))
  skipS)
def g__law_plain_s3 : Ss := (setS 1 (ifM (boolM (binM gtI (binM ixD (nameM 0) (unM negI (conM (.int 1)))) (conM (.int 0)))) (nameM 1) (binM subI (conM (.int 0)) (nameM 1))))
def g__law_plain_s4 : Ss := (retS g__law_plain_c1)
/-- _law_line_here _law_common _law_number -/
def g__law_plain : Ss := (seqS g__law_plain_s1
  (seqS g__law_plain_s2
  (seqS g__law_plain_s3
  g__law_plain_s4)))
@[irreducible] def m__law_plain := bodyF 3 g__law_plain

def g_minus_lines_s1 : Ss := (retS (callP [0, 1] m_plus_lines (consA (nameM 0) (consA (callP [0, 1] m_scaled_line (consA (nameM 1) (consA (unM negI (conM (.int 1))) nilA)) nilA) nilA)) nilA))
/-- line other -/
def g_minus_lines : Ss := g_minus_lines_s1
@[irreducible] def m_minus_lines := bodyF 2 g_minus_lines

def g_plain_of_c1 : Me Val := compM (seqM (nameM 0)) (asg 2) (mr true) (binM fdivD (nameM 2) (nameM 1)) [2]
def g_plain_of_s1 : Ss := (ifS (boolM (binM eqD (callM lenD (consA (nameM 0) nilA)) (conM (.int 0))))
  (retS (lstM nilA))
  skipS)
def g_plain_of_s2 : Ss := (setS 1 (callP [0] m_greatest_of (consA (nameM 0) nilA) nilA))
def g_plain_of_s3 : Ss := (ifS (boolM (binM ltI (binM ixD (nameM 0) (unM negI (conM (.int 1)))) (conM (.int 0))))
  (setS 1 (binM subI (conM (.int 0)) (nameM 1)))
  skipS)
def g_plain_of_s4 : Ss := (retS g_plain_of_c1)
/-- line part number -/
def g_plain_of : Ss := (seqS g_plain_of_s1
  (seqS g_plain_of_s2
  (seqS g_plain_of_s3
  g_plain_of_s4)))
@[irreducible] def m_plain_of := bodyF 3 g_plain_of

def g_want_line_s1 : Ss := (setS 1 (callP [0] m_line_in (consA (nameM 0) nilA) nilA))
def g_want_line_s2 : Ss := (ifS (boolM (binM isD (nameM 1) (conM .none)))
  (fun _ => none)
  skipS)
def g_want_line_s3 : Ss := (retS (nameM 1))
/-- value found -/
def g_want_line : Ss := (seqS g_want_line_s1
  (seqS g_want_line_s2
  g_want_line_s3))
@[irreducible] def m_want_line := bodyF 2 g_want_line

def g__law_line_b1 : Ss := (dropS (methM 3 appendL (consA (binM subI (callI m__law_draw (consA (nameM 0) (consA (binM addD (binM mulD (conM (.int 2)) (nameM 2)) (conM (.int 1))) nilA))) (nameM 2)) nilA)))
def g__law_line_f1 : Ss := forS (rngM1 (consA (nameM 1) nilA)) (asg 4) g__law_line_b1
def g__law_line_s1 : Ss := (setS 3 (lstM nilA))
def g__law_line_s2 : Ss := (retS (binM addD (nameM 3) (lstM (consA (callI m__law_pick (consA (nameM 0) (consA (lstM (consA (conM (.int 1)) (consA (unM negI (conM (.int 1))) (consA (conM (.int 2)) (consA (conM (.int 3)) (consA (binM subI (conM (.int 1)) (nameM 2)) nilA)))))) nilA))) nilA))))
/-- _law_pot_here _law_most _law_wide _law_found _law_power -/
def g__law_line : Ss := (seqS g__law_line_s1
  (seqS g__law_line_f1
  g__law_line_s2))
@[irreducible] def m__law_line := bodyI 5 g__law_line

def g_two_lines_s1 : Ss := (setS 2 (callP [0] m_want_line (consA (nameM 0) nilA) nilA))
def g_two_lines_s2 : Ss := (frzS 2 (retS (tupM (consA (nameM 2) (consA (callP [0] m_want_line (consA (nameM 1) nilA) nilA) nilA)))))
/-- line other near -/
def g_two_lines : Ss := (seqS g_two_lines_s1
  g_two_lines_s2)
@[irreducible] def m_two_lines := bodyF 3 g_two_lines

def g_degree_s1 : Ss := (retS (binM subI (callM lenD (consA (callP [0] m_want_line (consA (nameM 0) nilA) nilA) nilA)) (conM (.int 1))))
/-- line -/
def g_degree : Ss := g_degree_s1
@[irreducible] def m_degree := bodyF 1 g_degree

def g_line_value_s1 : Ss := (setS 2 (callP [0] m_want_line (consA (nameM 0) nilA) nilA))
def g_line_value_s2 : Ss := (dropS (callP [0] m_want_number (consA (nameM 1) nilA) nilA))
def g_line_value_s3 : Ss := (retS (callL [0, 1] m_value_at (consA (nameM 2) (consA (nameM 1) nilA))))
/-- line number near -/
def g_line_value : Ss := (seqS g_line_value_s1
  (seqS g_line_value_s2
  g_line_value_s3))
@[irreducible] def m_line_value := bodyF 3 g_line_value

def g_line_slope_s1 : Ss := (retS (callP [0] m_slope_of (consA (callP [0] m_want_line (consA (nameM 0) nilA) nilA) nilA) nilA))
/-- line -/
def g_line_slope : Ss := g_line_slope_s1
@[irreducible] def m_line_slope := bodyF 1 g_line_slope

def g_plain_line_s1 : Ss := (retS (callP [0] m_plain_of (consA (callP [0] m_want_line (consA (nameM 0) nilA) nilA) nilA) nilA))
/-- line -/
def g_plain_line : Ss := g_plain_line_s1
@[irreducible] def m_plain_line := bodyF 1 g_plain_line

def g__law_drawn_s1 : Ss := (retS (ifM (boolM (binM eqD (callI m__law_draw (consA (nameM 0) (consA (conM (.int 8)) nilA))) (conM (.int 0)))) (lstM nilA) (callI m__law_line (consA (nameM 0) (consA (callI m__law_draw (consA (nameM 0) (consA (conM (.int 7)) nilA))) (consA (conM (.int 9)) nilA))))))
/-- _law_pot_here -/
def g__law_drawn : Ss := g__law_drawn_s1
@[irreducible] def m__law_drawn := bodyI 1 g__law_drawn

def g_line_sum_s1 : Ss := (asgS (callP [0, 1] m_two_lines (consA (nameM 0) (consA (nameM 1) nilA)) nilA) (tupG 2 (consG (asg 2) (consG (asg 3) nilG))))
def g_line_sum_s2 : Ss := (retS (callP [0, 1] m_plus_lines (consA (nameM 2) (consA (nameM 3) nilA)) nilA))
/-- line other near far -/
def g_line_sum : Ss := (seqS g_line_sum_s1
  g_line_sum_s2)
@[irreducible] def m_line_sum := bodyF 4 g_line_sum

def g_line_less_s1 : Ss := (asgS (callP [0, 1] m_two_lines (consA (nameM 0) (consA (nameM 1) nilA)) nilA) (tupG 2 (consG (asg 2) (consG (asg 3) nilG))))
def g_line_less_s2 : Ss := (retS (callP [0, 1] m_minus_lines (consA (nameM 2) (consA (nameM 3) nilA)) nilA))
/-- line other near far -/
def g_line_less : Ss := (seqS g_line_less_s1
  g_line_less_s2)
@[irreducible] def m_line_less := bodyF 4 g_line_less

def g_line_times_s1 : Ss := (asgS (callP [0, 1] m_two_lines (consA (nameM 0) (consA (nameM 1) nilA)) nilA) (tupG 2 (consG (asg 2) (consG (asg 3) nilG))))
def g_line_times_s2 : Ss := (ifS (andM (boolM (binM gtI (callM lenD (consA (nameM 2) nilA)) (conM (.int 0)))) (boolM (binM gtI (callM lenD (consA (nameM 3) nilA)) (conM (.int 0)))))
  (dropS (callP [0, 1, 2] m_want_at_most (consA (conM (.str "degree")) (consA (conM (.int 12)) (consA (binM subI (binM addD (callM lenD (consA (nameM 2) nilA)) (callM lenD (consA (nameM 3) nilA))) (conM (.int 2))) nilA))) nilA))
  skipS)
def g_line_times_s3 : Ss := (retS (callP [0, 1] m_times_lines (consA (nameM 2) (consA (nameM 3) nilA)) nilA))
/-- line other near far -/
def g_line_times : Ss := (seqS g_line_times_s1
  (seqS g_line_times_s2
  g_line_times_s3))
@[irreducible] def m_line_times := bodyF 4 g_line_times

def g__law_pair_right_s1 : Ss := (parS 3 4 (consA (ifM (boolM (binM eqD (callI m__law_draw (consA (nameM 0) (consA (conM (.int 2)) nilA))) (conM (.int 0)))) (callM tupleD (consA (nameM 1) nilA)) (callM listD (consA (nameM 1) nilA))) (consA (callM listD (consA (nameM 2) nilA)) nilA)))
def g__law_pair_right_s2 : Ss := (frzS 4 (frzS 3 (parO 5 6 (callM reprD (consA (lstM (consA (nameM 3) (consA (nameM 4) nilA))) nilA)) (callL [0, 1] m_line_times (consA (nameM 3) (consA (nameM 4) nilA))))))
def g__law_pair_right_s3 : Ss := (ifS (orM (boolM (binM neD (callL [0, 1] m_line_sum (consA (nameM 3) (consA (nameM 4) nilA))) (callP [0, 1, 2] m__law_sum (consA (nameM 1) (consA (nameM 2) (consA (conM (.int 1)) nilA))) nilA))) (orM (boolM (binM neD (callL [0, 1] m_line_less (consA (nameM 3) (consA (nameM 4) nilA))) (callP [0, 1, 2] m__law_sum (consA (nameM 1) (consA (nameM 2) (consA (unM negI (conM (.int 1))) nilA))) nilA))) (boolM (binM neD (nameM 6) (callP [0, 1] m__law_times (consA (nameM 1) (consA (nameM 2) nilA)) nilA)))))
  (retS (conM (.bool false)))
  skipS)
def g__law_pair_right_s4 : Ss := (ifS (orM (boolM (binM neD (callL [1, 0] m_line_sum (consA (nameM 3) (consA (nameM 4) nilA))) (callL [0, 1] m_line_sum (consA (nameM 3) (consA (nameM 4) nilA))))) (orM (boolM (binM neD (callL [1, 0] m_line_times (consA (nameM 3) (consA (nameM 4) nilA))) (nameM 6))) (boolM (binM neD (callL [0, 1] m_line_less (consA (nameM 4) (consA (nameM 3) nilA))) (callP [0, 1, 2] m__law_sum (consA (nameM 2) (consA (nameM 1) (consA (unM negI (conM (.int 1))) nilA))) nilA)))))
  (retS (conM (.bool false)))
  skipS)
def g__law_pair_right_s5 : Ss := (ifS (boolM (binM neD (callL [0] m_line_slope (consA (nameM 6) nilA)) (callP [0, 1, 2] m__law_sum (consA (callP [0, 1] m__law_times (consA (callP [0] m__law_slope (consA (nameM 1) nilA) nilA) (consA (nameM 2) nilA)) nilA) (consA (callP [0, 1] m__law_times (consA (nameM 1) (consA (callP [0] m__law_slope (consA (nameM 2) nilA) nilA) nilA)) nilA) (consA (conM (.int 1)) nilA))) nilA)))
  (retS (conM (.bool false)))
  skipS)
def g__law_pair_right_s6 : Ss := (setS 7 (binM subI (callI m__law_draw (consA (nameM 0) (consA (conM (.int 15)) nilA))) (conM (.int 7))))
def g__law_pair_right_s7 : Ss := (setS 8 (lstM (consA (callL [0, 1] m_line_value (consA (nameM 3) (consA (nameM 7) nilA))) (consA (callL [1, 0] m_line_value (consA (nameM 7) (consA (nameM 4) nilA))) (consA (callL [0, 1] m_line_value (consA (nameM 6) (consA (nameM 7) nilA))) (consA (callP [0, 1] m_line_value (consA (callL [0, 1] m_line_sum (consA (nameM 3) (consA (nameM 4) nilA))) (consA (nameM 7) nilA)) nilA) nilA))))))
def g__law_pair_right_s8 : Ss := (parS 9 10 (consA (callP [0, 1] m__law_value (consA (nameM 1) (consA (nameM 7) nilA)) nilA) (consA (callP [0, 1] m__law_value (consA (nameM 2) (consA (nameM 7) nilA)) nilA) nilA)))
def g__law_pair_right_s9 : Ss := (frzS 4 (frzS 3 (ifS (orM (boolM (binM neD (nameM 8) (lstM (consA (nameM 9) (consA (nameM 10) (consA (binM mulD (nameM 9) (nameM 10)) (consA (binM addD (nameM 9) (nameM 10)) nilA))))))) (boolM (binM neD (callM reprD (consA (lstM (consA (nameM 3) (consA (nameM 4) nilA))) nilA)) (nameM 5))))
  (retS (conM (.bool false)))
  skipS)))
def g__law_pair_right_s10 : Ss := (dropS (methM 6 appendL (consA (conM (.int 1)) nilA)))
def g__law_pair_right_s11 : Ss := (retS (binM eqD (callL [0, 1] m_line_times (consA (nameM 3) (consA (nameM 4) nilA))) (callP [0, 1] m__law_times (consA (nameM 1) (consA (nameM 2) nilA)) nilA)))
/-- _law_pot_here _law_one _law_other _law_near _law_far _law_shown _law_both _law_at _law_told _law_first _law_second -/
def g__law_pair_right : Ss := (seqS g__law_pair_right_s1
  (seqS g__law_pair_right_s2
  (seqS g__law_pair_right_s3
  (seqS g__law_pair_right_s4
  (seqS g__law_pair_right_s5
  (seqS g__law_pair_right_s6
  (seqS g__law_pair_right_s7
  (seqS g__law_pair_right_s8
  (seqS g__law_pair_right_s9
  (seqS g__law_pair_right_s10
  g__law_pair_right_s11))))))))))
@[irreducible] def m__law_pair_right := bodyI 11 g__law_pair_right

def g__law_one_right_c1 : Me Val := compM (seqM (nameM 1)) (asg 4) (mr true) (binM mulD (nameM 2) (nameM 4)) [4]
def g__law_one_right_s1 : Ss := (setS 2 (callI m__law_pick (consA (nameM 0) (consA (lstM (consA (conM (.int 1)) (consA (unM negI (conM (.int 1))) (consA (conM (.int 2)) (consA (unM negI (conM (.int 6))) (consA (conM (.int 12)) nilA)))))) nilA))))
def g__law_one_right_s2 : Ss := (setS 3 g__law_one_right_c1)
def g__law_one_right_s3 : Ss := (ifS (orM (boolM (binM neD (callP [0] m_degree (consA (nameM 1) nilA) nilA) (binM subI (callM lenD (consA (nameM 1) nilA)) (conM (.int 1))))) (orM (boolM (binM neD (callL [0] m_degree (consA (nameM 3) nilA)) (binM subI (callM lenD (consA (nameM 1) nilA)) (conM (.int 1))))) (boolM (binM neD (callP [0] m_line_slope (consA (nameM 1) nilA) nilA) (callP [0] m__law_slope (consA (nameM 1) nilA) nilA)))))
  (retS (conM (.bool false)))
  skipS)
def g__law_one_right_s4 : Ss := (setS 5 (callL [0] m_plain_line (consA (nameM 3) nilA)))
def g__law_one_right_s5 : Ss := (ifS (orM (boolM (binM neD (nameM 5) (callP [0] m__law_plain (consA (nameM 1) nilA) nilA))) (orM (boolM (binM neD (callL [0] m_plain_line (consA (nameM 5) nilA)) (nameM 5))) (orM (boolM (binM neD (callP [0, 1] m_line_less (consA (nameM 1) (consA (nameM 1) nilA)) nilA) (lstM nilA))) (boolM (binM neD (callP [0, 1] m_line_sum (consA (nameM 1) (consA (lstM nilA) nilA)) nilA) (nameM 1))))))
  (retS (conM (.bool false)))
  skipS)
def g__law_one_right_s6 : Ss := (dropS (methM 5 appendL (consA (conM (.int 1)) nilA)))
def g__law_one_right_s7 : Ss := (frzS 2 (retS (andV (binM eqD (callL [0] m_plain_line (consA (nameM 3) nilA)) (callP [0] m__law_plain (consA (nameM 1) nilA) nilA)) (andV (binM eqD (callP [0, 1] m_line_times (consA (nameM 1) (consA (lstM (consA (nameM 2) nilA)) nilA)) nilA) (nameM 3)) (binM eqD (callP [0, 1] m_line_times (consA (lstM nilA) (consA (nameM 1) nilA)) nilA) (lstM nilA))))))
/-- _law_pot_here _law_one _law_number _law_many _law_coefficient _law_told -/
def g__law_one_right : Ss := (seqS g__law_one_right_s1
  (seqS g__law_one_right_s2
  (seqS g__law_one_right_s3
  (seqS g__law_one_right_s4
  (seqS g__law_one_right_s5
  (seqS g__law_one_right_s6
  g__law_one_right_s7))))))
@[irreducible] def m__law_one_right := bodyI 6 g__law_one_right

def g__law_right_b1 : Ss := (dropS (methM 1 appendL (consA (callI m__law_drawn (consA (nameM 0) nilA)) nilA)))
def g__law_right_f1 : Ss := forS (rngM1 (consA (conM (.int 3)) nilA)) (asg 2) g__law_right_b1
def g__law_right_b2 : Ss := (ifS (notM (boolM (callI m__law_one_right (consA (nameM 0) (consA (nameM 3) nilA)))))
  (retS (conM (.bool false)))
  skipS)
def g__law_right_f2 : Ss := forS (seqM (nameM 1)) (asg 3) g__law_right_b2
def g__law_right_s1 : Ss := (setS 1 (lstM nilA))
def g__law_right_s2 : Ss := (frzS 1 g__law_right_f2)
def g__law_right_s3 : Ss := (frzS 1 (asgS (nameM 1) (tupA 3 (consG (asg 4) (consG (asg 5) (consG (asg 6) nilG))))))
def g__law_right_s4 : Ss := (ifS (orM (notM (boolM (callI m__law_pair_right (consA (nameM 0) (consA (nameM 4) (consA (nameM 5) nilA)))))) (notM (boolM (callI m__law_pair_right (consA (nameM 0) (consA (nameM 5) (consA (nameM 6) nilA)))))))
  (retS (conM (.bool false)))
  skipS)
def g__law_right_s5 : Ss := (ifS (boolM (binM gtI (binM subI (binM addD (binM addD (callM max2D (consA (callM lenD (consA (nameM 4) nilA)) (consA (conM (.int 1)) nilA))) (callM max2D (consA (callM lenD (consA (nameM 5) nilA)) (consA (conM (.int 1)) nilA)))) (callM max2D (consA (callM lenD (consA (nameM 6) nilA)) (consA (conM (.int 1)) nilA)))) (conM (.int 3))) (conM (.int 12))))
  (retS (binM eqD (callP [0, 1] m_line_times (consA (nameM 4) (consA (callP [0, 1] m_line_sum (consA (nameM 5) (consA (nameM 6) nilA)) nilA) nilA)) nilA) (callP [0, 1] m_line_sum (consA (callP [0, 1] m_line_times (consA (nameM 4) (consA (nameM 5) nilA)) nilA) (consA (callP [0, 1] m_line_times (consA (nameM 4) (consA (nameM 6) nilA)) nilA) nilA)) nilA)))
  skipS)
def g__law_right_s6 : Ss := (retS (binM eqD (callP [0, 1] m_line_times (consA (callP [0, 1] m_line_times (consA (nameM 4) (consA (nameM 5) nilA)) nilA) (consA (nameM 6) nilA)) nilA) (callP [0, 1] m_line_times (consA (nameM 4) (consA (callP [0, 1] m_line_times (consA (nameM 5) (consA (nameM 6) nilA)) nilA) nilA)) nilA)))
/-- _law_pot_here _law_lines _law_turn _law_one _law_first _law_second _law_third -/
def g__law_right : Ss := (seqS g__law_right_s1
  (seqS g__law_right_f1
  (seqS g__law_right_s2
  (seqS g__law_right_s3
  (seqS g__law_right_s4
  (seqS g__law_right_s5
  g__law_right_s6))))))
@[irreducible] def m__law_right := bodyI 7 g__law_right

def g_law_s1 : Ss := (retS (callO m__law_right (callP [0, 1] m__law_pot (consA (nameM 0) (consA (conM (.int 0)) nilA)) nilA)))
/-- _law_script -/
def g_law : Ss := g_law_s1
@[irreducible] def m_law := bodyF 1 g_law
end K11
end
section
set_option maxRecDepth 100000
set_option maxHeartbeats 1000000
namespace K11
open PySem PySem.Spec L2 DL
open PL (cf Nz cv vl sm)
def Ln (d : D) (a : List Int) : Prop := seq? d = some (a.map .int)
theorem ln_IL (a : List Int) : Ln (IL a) a := rfl
theorem ln_cases {d : D} {a : List Int} (h : Ln d a) : d = IL a ∨ d = .tuple (a.map .int) := seq_cases h
theorem r_is_integer (i : Int) : m_is_integer [.int i] = some (.fz (.bool true)) := by
  have h : tyName (.int i) = some "int" := rfl
  simp only [m_is_integer, g_is_integer, g_is_integer_s1, mb, mr, mo, nameM, conM, binM, unM, boolM, ifM, DL.andM, DL.orM, DL.notM, andV, orV, notV, chainM, nilA, consA, dvs, dv, ownAt, fzs, lstM, tupM, callM, callP, permL, fzv, seqS, skipS, ifS, setS, asg, freeAt, retS, retV, dropS, frz, frzS, asgS, nilG, consG, tupG, subG, listAt, methM, augS, augSubS, forS, seqM, treeV, startD, endV, bodyF, bodyI, startI, ioAt, slM, partM, bors, callL, callI, callO, DL.flatV, DL.flat, List.filterMap_cons, List.filterMap_nil, List.map_cons, List.map_nil, List.getElem?_cons_zero, List.getElem?_cons_succ, List.getElem?_nil, List.set_cons_zero, List.set_cons_succ, List.cons_append, List.nil_append, List.length_cons, List.length_nil, Option.bind_some, Option.bind_none, Option.map_some, Option.map_none, Nat.reduceSub, Nat.reduceAdd, List.replicate_succ, List.replicate_zero, Bool.not_true, Bool.not_false, if_true, if_false, Bool.false_eq_true, reduceIte, decide_true, decide_false, Nat.reduceLT, Nat.reduceLeDiff, reduceCtorEq, Option.some.injEq, Prod.mk.injEq, isiD, h, show isT "int" "int" = true from by decide, show isT "int" "bool" = false from by decide]
theorem r_is_list {d : D} {a : List Int} (h : Ln d a) : m_is_list [d] = some (.fz (.bool true)) := by
  rcases ln_cases h with rfl | rfl
  · have e : isiD2 "list" "tuple" (IL a) = some (.fz (.bool true)) := rfl
    simp only [m_is_list, g_is_list, g_is_list_s1, mb, mr, mo, nameM, conM, binM, unM, boolM, ifM, DL.andM, DL.orM, DL.notM, andV, orV, notV, chainM, nilA, consA, dvs, dv, ownAt, fzs, lstM, tupM, callM, callP, permL, fzv, seqS, skipS, ifS, setS, asg, freeAt, retS, retV, dropS, frz, frzS, asgS, nilG, consG, tupG, subG, listAt, methM, augS, augSubS, forS, seqM, treeV, startD, endV, bodyF, bodyI, startI, ioAt, slM, partM, bors, callL, callI, callO, DL.flatV, DL.flat, List.filterMap_cons, List.filterMap_nil, List.map_cons, List.map_nil, List.getElem?_cons_zero, List.getElem?_cons_succ, List.getElem?_nil, List.set_cons_zero, List.set_cons_succ, List.cons_append, List.nil_append, List.length_cons, List.length_nil, Option.bind_some, Option.bind_none, Option.map_some, Option.map_none, Nat.reduceSub, Nat.reduceAdd, List.replicate_succ, List.replicate_zero, Bool.not_true, Bool.not_false, if_true, if_false, Bool.false_eq_true, reduceIte, decide_true, decide_false, Nat.reduceLT, Nat.reduceLeDiff, reduceCtorEq, Option.some.injEq, Prod.mk.injEq, e]
  · have e : isiD2 "list" "tuple" (.tuple (a.map .int)) = some (.fz (.bool true)) := rfl
    simp only [m_is_list, g_is_list, g_is_list_s1, mb, mr, mo, nameM, conM, binM, unM, boolM, ifM, DL.andM, DL.orM, DL.notM, andV, orV, notV, chainM, nilA, consA, dvs, dv, ownAt, fzs, lstM, tupM, callM, callP, permL, fzv, seqS, skipS, ifS, setS, asg, freeAt, retS, retV, dropS, frz, frzS, asgS, nilG, consG, tupG, subG, listAt, methM, augS, augSubS, forS, seqM, treeV, startD, endV, bodyF, bodyI, startI, ioAt, slM, partM, bors, callL, callI, callO, DL.flatV, DL.flat, List.filterMap_cons, List.filterMap_nil, List.map_cons, List.map_nil, List.getElem?_cons_zero, List.getElem?_cons_succ, List.getElem?_nil, List.set_cons_zero, List.set_cons_succ, List.cons_append, List.nil_append, List.length_cons, List.length_nil, Option.bind_some, Option.bind_none, Option.map_some, Option.map_none, Nat.reduceSub, Nat.reduceAdd, List.replicate_succ, List.replicate_zero, Bool.not_true, Bool.not_false, if_true, if_false, Bool.false_eq_true, reduceIte, decide_true, decide_false, Nat.reduceLT, Nat.reduceLeDiff, reduceCtorEq, Option.some.injEq, Prod.mk.injEq, e]
theorem r_want_number (i : Int) : m_want_number [.int i] = some (.fz .none) := by
  simp only [m_want_number, g_want_number, g_want_number_s1, mb, mr, mo, nameM, conM, binM, unM, boolM, ifM, DL.andM, DL.orM, DL.notM, andV, orV, notV, chainM, nilA, consA, dvs, dv, ownAt, fzs, lstM, tupM, callM, callP, permL, fzv, seqS, skipS, ifS, setS, asg, freeAt, retS, retV, dropS, frz, frzS, asgS, nilG, consG, tupG, subG, listAt, methM, augS, augSubS, forS, seqM, treeV, startD, endV, bodyF, bodyI, startI, ioAt, slM, partM, bors, callL, callI, callO, DL.flatV, DL.flat, List.filterMap_cons, List.filterMap_nil, List.map_cons, List.map_nil, List.getElem?_cons_zero, List.getElem?_cons_succ, List.getElem?_nil, List.set_cons_zero, List.set_cons_succ, List.cons_append, List.nil_append, List.length_cons, List.length_nil, Option.bind_some, Option.bind_none, Option.map_some, Option.map_none, Nat.reduceSub, Nat.reduceAdd, List.replicate_succ, List.replicate_zero, Bool.not_true, Bool.not_false, if_true, if_false, Bool.false_eq_true, reduceIte, decide_true, decide_false, Nat.reduceLT, Nat.reduceLeDiff, reduceCtorEq, Option.some.injEq, Prod.mk.injEq, r_is_integer]
theorem r_all {d : D} {a : List Int} (hl : Ln d a) (hz : a.length ≤ 13) : g_line_in_c1 [.dat d, .un] = some (.ow (.list (a.map fun _ => .bool true)), [.dat d, .un]) := by
  unfold g_line_in_c1
  have e := compM_gen (fi := seqM (nameM 0)) (gt := asg 1) (ft := mr true) (fe := callP [0] m_is_integer (consA (nameM 1) nilA) nilA) (vs := [1]) (δ := [.dat d, .un]) (ds := a.map .int) (fun _ => some (.bool true)) ?_ rfl rfl ?_ ?_
  · rw [e, List.filterMap_eq_map', List.map_map]
    rfl
  · rcases ln_cases hl with rfl | rfl <;> simp only [mb, mr, mo, nameM, conM, binM, unM, boolM, ifM, DL.andM, DL.orM, DL.notM, andV, orV, notV, chainM, nilA, consA, dvs, dv, ownAt, fzs, lstM, tupM, callM, callP, permL, fzv, seqS, skipS, ifS, setS, asg, freeAt, retS, retV, dropS, frz, frzS, asgS, nilG, consG, tupG, subG, listAt, methM, augS, augSubS, forS, seqM, treeV, startD, endV, bodyF, bodyI, startI, ioAt, slM, partM, bors, callL, callI, callO, DL.flatV, DL.flat, List.filterMap_cons, List.filterMap_nil, List.map_cons, List.map_nil, List.getElem?_cons_zero, List.getElem?_cons_succ, List.getElem?_nil, List.set_cons_zero, List.set_cons_succ, List.cons_append, List.nil_append, List.length_cons, List.length_nil, Option.bind_some, Option.bind_none, Option.map_some, Option.map_none, Nat.reduceSub, Nat.reduceAdd, List.replicate_succ, List.replicate_zero, Bool.not_true, Bool.not_false, if_true, if_false, Bool.false_eq_true, reduceIte, decide_true, decide_false, Nat.reduceLT, Nat.reduceLeDiff, reduceCtorEq, Option.some.injEq, Prod.mk.injEq, itemsOf]
  · rw [List.filterMap_eq_map']
    exact szOkL (by simp; omega)
  · intro x hx
    obtain ⟨i, -, rfl⟩ := List.mem_map.mp hx
    refine ⟨[.dat d, .dat (.int i)], ?_, .inr ⟨_, .fz (.bool true), rfl, rfl, ?_, rfl⟩, ?_⟩
    · simp only [wipeD, mb, mr, mo, nameM, conM, binM, unM, boolM, ifM, DL.andM, DL.orM, DL.notM, andV, orV, notV, chainM, nilA, consA, dvs, dv, ownAt, fzs, lstM, tupM, callM, callP, permL, fzv, seqS, skipS, ifS, setS, asg, freeAt, retS, retV, dropS, frz, frzS, asgS, nilG, consG, tupG, subG, listAt, methM, augS, augSubS, forS, seqM, treeV, startD, endV, bodyF, bodyI, startI, ioAt, slM, partM, bors, callL, callI, callO, DL.flatV, DL.flat, List.filterMap_cons, List.filterMap_nil, List.map_cons, List.map_nil, List.getElem?_cons_zero, List.getElem?_cons_succ, List.getElem?_nil, List.set_cons_zero, List.set_cons_succ, List.cons_append, List.nil_append, List.length_cons, List.length_nil, Option.bind_some, Option.bind_none, Option.map_some, Option.map_none, Nat.reduceSub, Nat.reduceAdd, List.replicate_succ, List.replicate_zero, Bool.not_true, Bool.not_false, if_true, if_false, Bool.false_eq_true, reduceIte, decide_true, decide_false, Nat.reduceLT, Nat.reduceLeDiff, reduceCtorEq, Option.some.injEq, Prod.mk.injEq]
    · simp only [mb, mr, mo, nameM, conM, binM, unM, boolM, ifM, DL.andM, DL.orM, DL.notM, andV, orV, notV, chainM, nilA, consA, dvs, dv, ownAt, fzs, lstM, tupM, callM, callP, permL, fzv, seqS, skipS, ifS, setS, asg, freeAt, retS, retV, dropS, frz, frzS, asgS, nilG, consG, tupG, subG, listAt, methM, augS, augSubS, forS, seqM, treeV, startD, endV, bodyF, bodyI, startI, ioAt, slM, partM, bors, callL, callI, callO, DL.flatV, DL.flat, List.filterMap_cons, List.filterMap_nil, List.map_cons, List.map_nil, List.getElem?_cons_zero, List.getElem?_cons_succ, List.getElem?_nil, List.set_cons_zero, List.set_cons_succ, List.cons_append, List.nil_append, List.length_cons, List.length_nil, Option.bind_some, Option.bind_none, Option.map_some, Option.map_none, Nat.reduceSub, Nat.reduceAdd, List.replicate_succ, List.replicate_zero, Bool.not_true, Bool.not_false, if_true, if_false, Bool.false_eq_true, reduceIte, decide_true, decide_false, Nat.reduceLT, Nat.reduceLeDiff, reduceCtorEq, Option.some.injEq, Prod.mk.injEq, r_is_integer]
    · simp only [wipeD, mb, mr, mo, nameM, conM, binM, unM, boolM, ifM, DL.andM, DL.orM, DL.notM, andV, orV, notV, chainM, nilA, consA, dvs, dv, ownAt, fzs, lstM, tupM, callM, callP, permL, fzv, seqS, skipS, ifS, setS, asg, freeAt, retS, retV, dropS, frz, frzS, asgS, nilG, consG, tupG, subG, listAt, methM, augS, augSubS, forS, seqM, treeV, startD, endV, bodyF, bodyI, startI, ioAt, slM, partM, bors, callL, callI, callO, DL.flatV, DL.flat, List.filterMap_cons, List.filterMap_nil, List.map_cons, List.map_nil, List.getElem?_cons_zero, List.getElem?_cons_succ, List.getElem?_nil, List.set_cons_zero, List.set_cons_succ, List.cons_append, List.nil_append, List.length_cons, List.length_nil, Option.bind_some, Option.bind_none, Option.map_some, Option.map_none, Nat.reduceSub, Nat.reduceAdd, List.replicate_succ, List.replicate_zero, Bool.not_true, Bool.not_false, if_true, if_false, Bool.false_eq_true, reduceIte, decide_true, decide_false, Nat.reduceLT, Nat.reduceLeDiff, reduceCtorEq, Option.some.injEq, Prod.mk.injEq]
theorem r_line_in {d : D} {a : List Int} (hl : Ln d a) (hz : a.length ≤ 13) (hn : Nz a) : m_line_in [d] = some (.ow (IL a)) := by
  have h1 := r_is_list hl
  have h2 : lenD [d] = some (.fz (.int (a.length : Nat))) := by rw [len_seq hl, List.length_map]
  have h3 := r_all hl hz
  have h4 : allD [.list (a.map fun _ => .bool true)] = some (.fz (.bool true)) := by
    have : a.map (fun _ => PyData.bool true) = (a.map fun _ => true).map PyData.bool := by rw [List.map_map]; rfl
    show (boolsOf _).bind _ = _
    rw [this, boolsOf_map]
    simp
  have h5 : listD [d] = some (.ow (IL a)) := listD_seq hl
  have hgt : decide (((12 : Int) + 1) < (a.length : Int)) = false := decide_eq_false (by omega)
  rcases List.eq_nil_or_concat a with rfl | ⟨b, x, rfl⟩
  · have h2 : lenD [d] = some (.fz (.int 0)) := h2
    have h3 : g_line_in_c1 [.dat d, .un] = some (.ow (.list []), [.dat d, .un]) := h3
    have h4 : allD [.list []] = some (.fz (.bool true)) := h4
    simp only [m_line_in, g_line_in, g_line_in_s1, g_line_in_s2, mb, mr, mo, nameM, conM, binM, unM, boolM, ifM, DL.andM, DL.orM, DL.notM, andV, orV, notV, chainM, nilA, consA, dvs, dv, ownAt, fzs, lstM, tupM, callM, callP, permL, fzv, seqS, skipS, ifS, setS, asg, freeAt, retS, retV, dropS, frz, frzS, asgS, nilG, consG, tupG, subG, listAt, methM, augS, augSubS, forS, seqM, treeV, startD, endV, bodyF, bodyI, startI, ioAt, slM, partM, bors, callL, callI, callO, DL.flatV, DL.flat, List.filterMap_cons, List.filterMap_nil, List.map_cons, List.map_nil, List.getElem?_cons_zero, List.getElem?_cons_succ, List.getElem?_nil, List.set_cons_zero, List.set_cons_succ, List.cons_append, List.nil_append, List.length_cons, List.length_nil, Option.bind_some, Option.bind_none, Option.map_some, Option.map_none, Nat.reduceSub, Nat.reduceAdd, List.replicate_succ, List.replicate_zero, Bool.not_true, Bool.not_false, if_true, if_false, Bool.false_eq_true, reduceIte, decide_true, decide_false, Nat.reduceLT, Nat.reduceLeDiff, reduceCtorEq, Option.some.injEq, Prod.mk.injEq, h1, h2, addD, gtI, intB, show decide (((12 : Int) + 1) < 0) = false from rfl, h3, h4, eqD_int, h5]
  · rw [List.concat_eq_append] at *
    have hx : x ≠ 0 := hn b x rfl
    have h0 : decide (((b ++ [x]).length : Int) = 0) = false := decide_eq_false (by simp; omega)
    have h6 : ixD d (.int (-1)) = some (.fz (.int x)) := ix_last (by rw [hl, List.map_append]; rfl)
    simp only [m_line_in, g_line_in, g_line_in_s1, g_line_in_s2, mb, mr, mo, nameM, conM, binM, unM, boolM, ifM, DL.andM, DL.orM, DL.notM, andV, orV, notV, chainM, nilA, consA, dvs, dv, ownAt, fzs, lstM, tupM, callM, callP, permL, fzv, seqS, skipS, ifS, setS, asg, freeAt, retS, retV, dropS, frz, frzS, asgS, nilG, consG, tupG, subG, listAt, methM, augS, augSubS, forS, seqM, treeV, startD, endV, bodyF, bodyI, startI, ioAt, slM, partM, bors, callL, callI, callO, DL.flatV, DL.flat, List.filterMap_cons, List.filterMap_nil, List.map_cons, List.map_nil, List.getElem?_cons_zero, List.getElem?_cons_succ, List.getElem?_nil, List.set_cons_zero, List.set_cons_succ, List.cons_append, List.nil_append, List.length_cons, List.length_nil, Option.bind_some, Option.bind_none, Option.map_some, Option.map_none, Nat.reduceSub, Nat.reduceAdd, List.replicate_succ, List.replicate_zero, Bool.not_true, Bool.not_false, if_true, if_false, Bool.false_eq_true, reduceIte, decide_true, decide_false, Nat.reduceLT, Nat.reduceLeDiff, reduceCtorEq, Option.some.injEq, Prod.mk.injEq, h1, h2, addD, gtI, intB, hgt, h3, h4, eqD_int, neD_int, h0, negI, h6, decide_eq_false hx, h5]
theorem r_want_line {d : D} {a : List Int} (hl : Ln d a) (hz : a.length ≤ 13) (hn : Nz a) : m_want_line [d] = some (.ow (IL a)) := by
  simp only [m_want_line, g_want_line, g_want_line_s1, g_want_line_s2, g_want_line_s3, mb, mr, mo, nameM, conM, binM, unM, boolM, ifM, DL.andM, DL.orM, DL.notM, andV, orV, notV, chainM, nilA, consA, dvs, dv, ownAt, fzs, lstM, tupM, callM, callP, permL, fzv, seqS, skipS, ifS, setS, asg, freeAt, retS, retV, dropS, frz, frzS, asgS, nilG, consG, tupG, subG, listAt, methM, augS, augSubS, forS, seqM, treeV, startD, endV, bodyF, bodyI, startI, ioAt, slM, partM, bors, callL, callI, callO, DL.flatV, DL.flat, List.filterMap_cons, List.filterMap_nil, List.map_cons, List.map_nil, List.getElem?_cons_zero, List.getElem?_cons_succ, List.getElem?_nil, List.set_cons_zero, List.set_cons_succ, List.cons_append, List.nil_append, List.length_cons, List.length_nil, Option.bind_some, Option.bind_none, Option.map_some, Option.map_none, Nat.reduceSub, Nat.reduceAdd, List.replicate_succ, List.replicate_zero, Bool.not_true, Bool.not_false, if_true, if_false, Bool.false_eq_true, reduceIte, decide_true, decide_false, Nat.reduceLT, Nat.reduceLeDiff, reduceCtorEq, Option.some.injEq, Prod.mk.injEq, r_line_in hl hz hn, isD, isNone]
theorem r_two_lines {d e : D} {a b : List Int} (hl : Ln d a) (hz : a.length ≤ 13) (hn : Nz a) (kl : Ln e b) (kz : b.length ≤ 13) (kn : Nz b) : m_two_lines [d, e] = some (.fz (.tuple [IL a, IL b])) := by
  simp only [m_two_lines, g_two_lines, g_two_lines_s1, g_two_lines_s2, mb, mr, mo, nameM, conM, binM, unM, boolM, ifM, DL.andM, DL.orM, DL.notM, andV, orV, notV, chainM, nilA, consA, dvs, dv, ownAt, fzs, lstM, tupM, callM, callP, permL, fzv, seqS, skipS, ifS, setS, asg, freeAt, retS, retV, dropS, frz, frzS, asgS, nilG, consG, tupG, subG, listAt, methM, augS, augSubS, forS, seqM, treeV, startD, endV, bodyF, bodyI, startI, ioAt, slM, partM, bors, callL, callI, callO, DL.flatV, DL.flat, List.filterMap_cons, List.filterMap_nil, List.map_cons, List.map_nil, List.getElem?_cons_zero, List.getElem?_cons_succ, List.getElem?_nil, List.set_cons_zero, List.set_cons_succ, List.cons_append, List.nil_append, List.length_cons, List.length_nil, Option.bind_some, Option.bind_none, Option.map_some, Option.map_none, Nat.reduceSub, Nat.reduceAdd, List.replicate_succ, List.replicate_zero, Bool.not_true, Bool.not_false, if_true, if_false, Bool.false_eq_true, reduceIte, decide_true, decide_false, Nat.reduceLT, Nat.reduceLeDiff, reduceCtorEq, Option.some.injEq, Prod.mk.injEq, r_want_line hl hz hn, r_want_line kl kz kn, szOk2]
theorem cut_to (l : List D) {k : Nat} (h : k ≤ l.length) : cutD l none (some (k : Int)) = l.take k := by
  unfold cutD
  rw [HT.sIx_none, HT.sIx_nat, Nat.min_eq_left h]
  simp
theorem cut_from (l : List D) {k : Nat} (h : k ≤ l.length) : cutD l (some (k : Int)) none = l.drop k := by
  unfold cutD
  rw [HT.sIx_none, HT.sIx_nat, Nat.min_eq_left h]
  rw [List.take_of_length_le (by simp)]
theorem cf_take {a : List Int} {k n : Nat} : cf (a.take k) n = if n < k then cf a n else 0 := by
  rw [PL.cf_get, PL.cf_get, List.getD_eq_getElem?_getD, List.getD_eq_getElem?_getD, List.getElem?_take]
  split <;> rfl
theorem getD_ix {a : List Int} {k : Nat} (h : k < a.length) : (a.map PyData.int)[k]? = some (.int (cf a k)) := by
  rw [List.getElem?_map, List.getElem?_eq_getElem h, PL.cf_get, List.getD_eq_getElem?_getD, List.getElem?_eq_getElem h]
  rfl
theorem r_trimmed (a : List Int) (hz : a.length ≤ 1000) : ∃ b, m_trimmed [IL a] = some (.ow (IL b)) ∧ Nz b ∧ (∀ n, cf b n = cf a n) ∧ b.length ≤ a.length := by
  have hw : ∃ δ', g_trimmed_w1 [.dat (IL a), .dat (.int (a.length : Nat))] = some (.nx, δ') ∧ ∃ k : Nat, δ' = [.dat (IL a), .dat (.int (k : Nat))] ∧ k ≤ a.length ∧ (∀ n, k ≤ n → cf a n = 0) ∧ (k = 0 ∨ cf a (k - 1) ≠ 0) := by
    refine whileN_inv (fun δ => ∃ k : Nat, δ = [.dat (IL a), .dat (.int (k : Nat))] ∧ k ≤ a.length ∧ (∀ n, k ≤ n → cf a n = 0)) _ (fun δ => match δ with
      | [_, .dat (.int k)] => k.toNat
      | _ => 0) ?_ fuel _ ⟨a.length, rfl, Nat.le_refl _, fun n hn => PL.cf_beyond hn⟩ (by show (a.length : Int).toNat < _; unfold fuel; omega)
    rintro δ ⟨k, rfl, hk, h0⟩
    by_cases hk0 : k = 0
    · subst hk0
      refine .inl ⟨_, ?_, 0, rfl, hk, h0, .inl rfl⟩
      simp only [g_trimmed_t1, mb, mr, mo, nameM, conM, binM, unM, boolM, ifM, DL.andM, DL.orM, DL.notM, andV, orV, notV, chainM, nilA, consA, dvs, dv, ownAt, fzs, lstM, tupM, callM, callP, permL, fzv, seqS, skipS, ifS, setS, asg, freeAt, retS, retV, dropS, frz, frzS, asgS, nilG, consG, tupG, subG, listAt, methM, augS, augSubS, forS, seqM, treeV, startD, endV, bodyF, bodyI, startI, ioAt, slM, partM, bors, callL, callI, callO, DL.flatV, DL.flat, List.filterMap_cons, List.filterMap_nil, List.map_cons, List.map_nil, List.getElem?_cons_zero, List.getElem?_cons_succ, List.getElem?_nil, List.set_cons_zero, List.set_cons_succ, List.cons_append, List.nil_append, List.length_cons, List.length_nil, Option.bind_some, Option.bind_none, Option.map_some, Option.map_none, Nat.reduceSub, Nat.reduceAdd, List.replicate_succ, List.replicate_zero, Bool.not_true, Bool.not_false, if_true, if_false, Bool.false_eq_true, reduceIte, decide_true, decide_false, Nat.reduceLT, Nat.reduceLeDiff, reduceCtorEq, Option.some.injEq, Prod.mk.injEq, gtI, intB, show decide ((0 : Int) < ((0 : Nat) : Int)) = false from rfl]
    · have hp : decide ((0 : Int) < (k : Int)) = true := decide_eq_true (by omega)
      have hix : ixD (IL a) (.int ((k : Int) - 1)) = some (.fz (.int (cf a (k - 1)))) := by
        rw [show ((k : Int) - 1) = ((k - 1 : Nat) : Int) by omega]
        exact ix_nat rfl (getD_ix (by omega))
      by_cases hc : cf a (k - 1) = 0
      · refine .inr ⟨[.dat (IL a), .dat (.int (k : Nat))], [.dat (IL a), .dat (.int ((k - 1 : Nat) : Int))], ?_, .inl ?_, ⟨k - 1, rfl, by omega, fun n hn => ?_⟩, ?_⟩
        rotate_left
        · simp only [g_trimmed_b1, mb, mr, mo, nameM, conM, binM, unM, boolM, ifM, DL.andM, DL.orM, DL.notM, andV, orV, notV, chainM, nilA, consA, dvs, dv, ownAt, fzs, lstM, tupM, callM, callP, permL, fzv, seqS, skipS, ifS, setS, asg, freeAt, retS, retV, dropS, frz, frzS, asgS, nilG, consG, tupG, subG, listAt, methM, augS, augSubS, forS, seqM, treeV, startD, endV, bodyF, bodyI, startI, ioAt, slM, partM, bors, callL, callI, callO, DL.flatV, DL.flat, List.filterMap_cons, List.filterMap_nil, List.map_cons, List.map_nil, List.getElem?_cons_zero, List.getElem?_cons_succ, List.getElem?_nil, List.set_cons_zero, List.set_cons_succ, List.cons_append, List.nil_append, List.length_cons, List.length_nil, Option.bind_some, Option.bind_none, Option.map_some, Option.map_none, Nat.reduceSub, Nat.reduceAdd, List.replicate_succ, List.replicate_zero, Bool.not_true, Bool.not_false, if_true, if_false, Bool.false_eq_true, reduceIte, decide_true, decide_false, Nat.reduceLT, Nat.reduceLeDiff, reduceCtorEq, Option.some.injEq, Prod.mk.injEq, subI, intB]
          rw [show ((k : Int) - 1) = ((k - 1 : Nat) : Int) by omega]
          exact ⟨trivial, rfl⟩
        · by_cases hnk : n = k - 1
          · rw [hnk]; exact hc
          · exact h0 n (by omega)
        · show (((k - 1 : Nat) : Int)).toNat < ((k : Nat) : Int).toNat
          omega
        · simp only [g_trimmed_t1, mb, mr, mo, nameM, conM, binM, unM, boolM, ifM, DL.andM, DL.orM, DL.notM, andV, orV, notV, chainM, nilA, consA, dvs, dv, ownAt, fzs, lstM, tupM, callM, callP, permL, fzv, seqS, skipS, ifS, setS, asg, freeAt, retS, retV, dropS, frz, frzS, asgS, nilG, consG, tupG, subG, listAt, methM, augS, augSubS, forS, seqM, treeV, startD, endV, bodyF, bodyI, startI, ioAt, slM, partM, bors, callL, callI, callO, DL.flatV, DL.flat, List.filterMap_cons, List.filterMap_nil, List.map_cons, List.map_nil, List.getElem?_cons_zero, List.getElem?_cons_succ, List.getElem?_nil, List.set_cons_zero, List.set_cons_succ, List.cons_append, List.nil_append, List.length_cons, List.length_nil, Option.bind_some, Option.bind_none, Option.map_some, Option.map_none, Nat.reduceSub, Nat.reduceAdd, List.replicate_succ, List.replicate_zero, Bool.not_true, Bool.not_false, if_true, if_false, Bool.false_eq_true, reduceIte, decide_true, decide_false, Nat.reduceLT, Nat.reduceLeDiff, reduceCtorEq, Option.some.injEq, Prod.mk.injEq, gtI, subI, intB, hp, hix, eqD_int, decide_eq_true hc]
      · refine .inl ⟨_, ?_, k, rfl, hk, h0, .inr hc⟩
        simp only [g_trimmed_t1, mb, mr, mo, nameM, conM, binM, unM, boolM, ifM, DL.andM, DL.orM, DL.notM, andV, orV, notV, chainM, nilA, consA, dvs, dv, ownAt, fzs, lstM, tupM, callM, callP, permL, fzv, seqS, skipS, ifS, setS, asg, freeAt, retS, retV, dropS, frz, frzS, asgS, nilG, consG, tupG, subG, listAt, methM, augS, augSubS, forS, seqM, treeV, startD, endV, bodyF, bodyI, startI, ioAt, slM, partM, bors, callL, callI, callO, DL.flatV, DL.flat, List.filterMap_cons, List.filterMap_nil, List.map_cons, List.map_nil, List.getElem?_cons_zero, List.getElem?_cons_succ, List.getElem?_nil, List.set_cons_zero, List.set_cons_succ, List.cons_append, List.nil_append, List.length_cons, List.length_nil, Option.bind_some, Option.bind_none, Option.map_some, Option.map_none, Nat.reduceSub, Nat.reduceAdd, List.replicate_succ, List.replicate_zero, Bool.not_true, Bool.not_false, if_true, if_false, Bool.false_eq_true, reduceIte, decide_true, decide_false, Nat.reduceLT, Nat.reduceLeDiff, reduceCtorEq, Option.some.injEq, Prod.mk.injEq, gtI, subI, intB, hp, hix, eqD_int, decide_eq_false hc]
  obtain ⟨δ', h1, k, rfl, hk, h0, hx⟩ := hw
  refine ⟨a.take k, ?_, ?_, fun n => ?_, by simp; omega⟩
  · have hs : slD (IL a) none (some (k : Int)) = some (.ow (IL (a.take k))) := by
      show some (Val.ow (.list (cutD (a.map .int) none (some (k : Int))))) = _
      rw [cut_to _ (by simpa using hk), ← List.map_take]
    have hl : lenD [IL a] = some (.fz (.int (a.length : Nat))) := by rw [len_seq (l := a.map .int) rfl, List.length_map]
    have hd : listD [IL (a.take k)] = some (.ow (IL (a.take k))) := rfl
    simp only [m_trimmed, g_trimmed, g_trimmed_s1, g_trimmed_s2, mb, mr, mo, nameM, conM, binM, unM, boolM, ifM, DL.andM, DL.orM, DL.notM, andV, orV, notV, chainM, nilA, consA, dvs, dv, ownAt, fzs, lstM, tupM, callM, callP, permL, fzv, seqS, skipS, ifS, setS, asg, freeAt, retS, retV, dropS, frz, frzS, asgS, nilG, consG, tupG, subG, listAt, methM, augS, augSubS, forS, seqM, treeV, startD, endV, bodyF, bodyI, startI, ioAt, slM, partM, bors, callL, callI, callO, DL.flatV, DL.flat, List.filterMap_cons, List.filterMap_nil, List.map_cons, List.map_nil, List.getElem?_cons_zero, List.getElem?_cons_succ, List.getElem?_nil, List.set_cons_zero, List.set_cons_succ, List.cons_append, List.nil_append, List.length_cons, List.length_nil, Option.bind_some, Option.bind_none, Option.map_some, Option.map_none, Nat.reduceSub, Nat.reduceAdd, List.replicate_succ, List.replicate_zero, Bool.not_true, Bool.not_false, if_true, if_false, Bool.false_eq_true, reduceIte, decide_true, decide_false, Nat.reduceLT, Nat.reduceLeDiff, reduceCtorEq, Option.some.injEq, Prod.mk.injEq, hl, h1, hs, hd]
  · intro b x e
    have hlen : (a.take k).length = k := by simp; omega
    have hb : b.length + 1 = k := by rw [← hlen, e]; simp
    have : cf (a.take k) b.length = x := by rw [e, PL.cf_append_right (Nat.le_refl _), Nat.sub_self]; rfl
    rw [cf_take, if_pos (by omega)] at this
    rw [← this, show b.length = k - 1 by omega]
    exact hx.resolve_left (by omega)
  · rw [cf_take]
    split
    · rfl
    · exact (h0 n (by omega)).symm
end K11
end
section
set_option maxRecDepth 100000
set_option maxHeartbeats 1000000
namespace K11
open PySem PySem.Spec L2 DL
open PL (cf Nz cv vl sm)
theorem lenD_IL (a : List Int) : lenD [IL a] = some (.fz (.int (a.length : Nat))) := by rw [len_seq (l := a.map .int) rfl, List.length_map]
theorem rngM1_eq {fa : Me (List Val)} {δ δ' : DS} {j : Int} (h : fa δ = some ([.fz (.int j)], δ')) (hr : rOk j = true) : rngM1 fa δ = some (rngD 0 j.toNat, δ') := by
  unfold rngM1 mb mo
  rw [h]
  simp only [hr, if_true]
def rgF (F : Nat → Int) (t : D) : Option D := match t with
  | .int i => some (.int (F i.toNat))
  | _ => none
theorem rng_map (F : Nat → Int) (n : Nat) : (rngD 0 n).filterMap (rgF F) = ((List.range n).map F).map .int := by
  unfold rngD
  rw [List.filterMap_map, List.map_map, ← List.filterMap_eq_map']
  congr 1
  funext i
  show some (PyData.int (F ((0 : Int) + (i : Nat)).toNat)) = _
  simp
theorem cf_range (F : Nat → Int) (k n : Nat) : cf ((List.range k).map F) n = if n < k then F n else 0 := by
  rw [PL.cf_get, List.getD_eq_getElem?_getD, List.getElem?_map]
  by_cases h : n < k
  · rw [List.getElem?_range h, if_pos h]; rfl
  · rw [List.getElem?_eq_none (by simp; omega), if_neg h]; rfl
theorem cf_drop : ∀ (a : List Int) (k n : Nat), cf (a.drop k) n = cf a (n + k)
  | a, 0, n => rfl
  | [], k + 1, n => by simp [PL.cf_nil]
  | x :: a, k + 1, n => cf_drop a k n
theorem addD_list (x y : List D) (h : x.length + y.length ≤ 16777216) : addD (.list x) (.list y) = some (.ow (.list (x ++ y))) := by
  unfold addD
  simp only [szOkL h, if_true]
theorem addD_IL (a b : List Int) (h : a.length + b.length ≤ 16777216) : addD (IL a) (IL b) = some (.ow (IL (a ++ b))) := by
  rw [addD_list _ _ (by rw [List.length_map, List.length_map]; exact h), ← List.map_append]
theorem slD_from (a : List Int) {k : Nat} (h : k ≤ a.length) : slD (IL a) (some (k : Int)) none = some (.ow (IL (a.drop k))) := by
  unfold slD
  simp only
  rw [cut_from _ (by rw [List.length_map]; exact h), ← List.map_drop]
theorem plus_c1 (la lb : D) (a b : List Int) (h : b.length ≤ a.length) (hz : a.length ≤ 900) : g_plus_lines_c1 [.dat la, .dat lb, .dat (IL a), .dat (IL b), .un] = some (.ow (IL ((List.range b.length).map fun n => cf a n + cf b n)), [.dat la, .dat lb, .dat (IL a), .dat (IL b), .un]) := by
  have hrg : rOk ((b.length : Nat) : Int) = true := rOk_small ⟨by omega, by omega⟩
  · unfold g_plus_lines_c1
    have e := compM_gen (fi := rngM1 (consA (callM lenD (consA (nameM 3) nilA)) nilA)) (gt := asg 4) (ft := mr true) (fe := binM addD (binM ixD (nameM 2) (nameM 4)) (binM ixD (nameM 3) (nameM 4))) (vs := [4]) (δ := [.dat la, .dat lb, .dat (IL a), .dat (IL b), .un]) (ds := rngD 0 b.length) (rgF fun n => cf a n + cf b n) ?_ rfl rfl ?_ ?_
    · rw [e, rng_map]
    · exact rngM1_eq (j := ((b.length : Nat) : Int)) (by simp only [mb, mr, mo, nameM, conM, binM, unM, boolM, ifM, DL.andM, DL.orM, DL.notM, andV, orV, notV, chainM, nilA, consA, dvs, dv, ownAt, fzs, lstM, tupM, callM, callP, permL, fzv, seqS, skipS, ifS, setS, asg, freeAt, retS, retV, dropS, frz, frzS, asgS, nilG, consG, tupG, subG, listAt, methM, augS, augSubS, forS, seqM, treeV, startD, endV, bodyF, bodyI, startI, ioAt, slM, partM, bors, callL, callI, callO, DL.flatV, DL.flat, List.filterMap_cons, List.filterMap_nil, List.map_cons, List.map_nil, List.getElem?_cons_zero, List.getElem?_cons_succ, List.getElem?_nil, List.set_cons_zero, List.set_cons_succ, List.cons_append, List.nil_append, List.length_cons, List.length_nil, Option.bind_some, Option.bind_none, Option.map_some, Option.map_none, Nat.reduceSub, Nat.reduceAdd, List.replicate_succ, List.replicate_zero, Bool.not_true, Bool.not_false, if_true, if_false, Bool.false_eq_true, reduceIte, decide_true, decide_false, Nat.reduceLT, Nat.reduceLeDiff, reduceCtorEq, Option.some.injEq, Prod.mk.injEq, lenD_IL]) hrg
    · rw [rng_map]
      exact szOkL (by simp; omega)
    · intro x hx
      obtain ⟨i, hi, rfl⟩ := List.mem_map.mp hx
      have hi := List.mem_range.mp hi
      have h1 : ixD (IL a) (.int (0 + (i : Nat))) = some (.fz (.int (cf a i))) := by rw [Int.zero_add]; exact ix_nat rfl (getD_ix (by omega))
      have h2 : ixD (IL b) (.int (0 + (i : Nat))) = some (.fz (.int (cf b i))) := by rw [Int.zero_add]; exact ix_nat rfl (getD_ix (by omega))
      refine ⟨[.dat la, .dat lb, .dat (IL a), .dat (IL b), .dat (.int (0 + (i : Nat)))], ?_, .inr ⟨.int (cf a i + cf b i), .fz (.int (cf a i + cf b i)), ?_, rfl, ?_, rfl⟩, ?_⟩
      · simp only [wipeD, mb, mr, mo, nameM, conM, binM, unM, boolM, ifM, DL.andM, DL.orM, DL.notM, andV, orV, notV, chainM, nilA, consA, dvs, dv, ownAt, fzs, lstM, tupM, callM, callP, permL, fzv, seqS, skipS, ifS, setS, asg, freeAt, retS, retV, dropS, frz, frzS, asgS, nilG, consG, tupG, subG, listAt, methM, augS, augSubS, forS, seqM, treeV, startD, endV, bodyF, bodyI, startI, ioAt, slM, partM, bors, callL, callI, callO, DL.flatV, DL.flat, List.filterMap_cons, List.filterMap_nil, List.map_cons, List.map_nil, List.getElem?_cons_zero, List.getElem?_cons_succ, List.getElem?_nil, List.set_cons_zero, List.set_cons_succ, List.cons_append, List.nil_append, List.length_cons, List.length_nil, Option.bind_some, Option.bind_none, Option.map_some, Option.map_none, Nat.reduceSub, Nat.reduceAdd, List.replicate_succ, List.replicate_zero, Bool.not_true, Bool.not_false, if_true, if_false, Bool.false_eq_true, reduceIte, decide_true, decide_false, Nat.reduceLT, Nat.reduceLeDiff, reduceCtorEq, Option.some.injEq, Prod.mk.injEq]
      · show some (PyData.int (cf a ((0 : Int) + (i : Nat)).toNat + cf b ((0 : Int) + (i : Nat)).toNat)) = _
        simp
      · simp only [mb, mr, mo, nameM, conM, binM, unM, boolM, ifM, DL.andM, DL.orM, DL.notM, andV, orV, notV, chainM, nilA, consA, dvs, dv, ownAt, fzs, lstM, tupM, callM, callP, permL, fzv, seqS, skipS, ifS, setS, asg, freeAt, retS, retV, dropS, frz, frzS, asgS, nilG, consG, tupG, subG, listAt, methM, augS, augSubS, forS, seqM, treeV, startD, endV, bodyF, bodyI, startI, ioAt, slM, partM, bors, callL, callI, callO, DL.flatV, DL.flat, List.filterMap_cons, List.filterMap_nil, List.map_cons, List.map_nil, List.getElem?_cons_zero, List.getElem?_cons_succ, List.getElem?_nil, List.set_cons_zero, List.set_cons_succ, List.cons_append, List.nil_append, List.length_cons, List.length_nil, Option.bind_some, Option.bind_none, Option.map_some, Option.map_none, Nat.reduceSub, Nat.reduceAdd, List.replicate_succ, List.replicate_zero, Bool.not_true, Bool.not_false, if_true, if_false, Bool.false_eq_true, reduceIte, decide_true, decide_false, Nat.reduceLT, Nat.reduceLeDiff, reduceCtorEq, Option.some.injEq, Prod.mk.injEq, h1, h2, addD]
      · simp only [wipeD, mb, mr, mo, nameM, conM, binM, unM, boolM, ifM, DL.andM, DL.orM, DL.notM, andV, orV, notV, chainM, nilA, consA, dvs, dv, ownAt, fzs, lstM, tupM, callM, callP, permL, fzv, seqS, skipS, ifS, setS, asg, freeAt, retS, retV, dropS, frz, frzS, asgS, nilG, consG, tupG, subG, listAt, methM, augS, augSubS, forS, seqM, treeV, startD, endV, bodyF, bodyI, startI, ioAt, slM, partM, bors, callL, callI, callO, DL.flatV, DL.flat, List.filterMap_cons, List.filterMap_nil, List.map_cons, List.map_nil, List.getElem?_cons_zero, List.getElem?_cons_succ, List.getElem?_nil, List.set_cons_zero, List.set_cons_succ, List.cons_append, List.nil_append, List.length_cons, List.length_nil, Option.bind_some, Option.bind_none, Option.map_some, Option.map_none, Nat.reduceSub, Nat.reduceAdd, List.replicate_succ, List.replicate_zero, Bool.not_true, Bool.not_false, if_true, if_false, Bool.false_eq_true, reduceIte, decide_true, decide_false, Nat.reduceLT, Nat.reduceLeDiff, reduceCtorEq, Option.some.injEq, Prod.mk.injEq]
/-- the sum, the longer line first -/
theorem plus_s2_gen {la lb near far s t u c : D} {k : Int} (hc : g_plus_lines_c1 [.dat la, .dat lb, .dat near, .dat far, .un] = some (.ow s, [.dat la, .dat lb, .dat near, .dat far, .un])) (hl : lenD [far] = some (.fz (.int k))) (hs : slD near (some k) none = some (.ow t)) (hd : listD [t] = some (.ow t)) (hadd : addD s t = some (.ow u)) (h1 : m_trimmed [u] = some (.ow c)) :
    g_plus_lines_s2 [.dat la, .dat lb, .dat near, .dat far, .un] = some (.rt (.ow c), [.dat la, .dat lb, .dat near, .dat far, .un]) := by
  simp only [g_plus_lines_s2, mb, mr, mo, nameM, conM, binM, unM, boolM, ifM, DL.andM, DL.orM, DL.notM, andV, orV, notV, chainM, nilA, consA, dvs, dv, ownAt, fzs, lstM, tupM, callM, callP, permL, fzv, seqS, skipS, ifS, setS, asg, freeAt, retS, retV, dropS, frz, frzS, asgS, nilG, consG, tupG, subG, listAt, methM, augS, augSubS, forS, seqM, treeV, startD, endV, bodyF, bodyI, startI, ioAt, slM, partM, bors, callL, callI, callO, DL.flatV, DL.flat, List.filterMap_cons, List.filterMap_nil, List.map_cons, List.map_nil, List.getElem?_cons_zero, List.getElem?_cons_succ, List.getElem?_nil, List.set_cons_zero, List.set_cons_succ, List.cons_append, List.nil_append, List.length_cons, List.length_nil, Option.bind_some, Option.bind_none, Option.map_some, Option.map_none, Nat.reduceSub, Nat.reduceAdd, List.replicate_succ, List.replicate_zero, Bool.not_true, Bool.not_false, if_true, if_false, Bool.false_eq_true, reduceIte, decide_true, decide_false, Nat.reduceLT, Nat.reduceLeDiff, reduceCtorEq, Option.some.injEq, Prod.mk.injEq, hc, hl, hs, hd, hadd, h1]
theorem plus_s2 (la lb : D) (a b : List Int) (h : b.length ≤ a.length) (hz : a.length ≤ 900) : ∃ c, (∃ δ', g_plus_lines_s2 [.dat la, .dat lb, .dat (IL a), .dat (IL b), .un] = some (.rt (.ow (IL c)), δ')) ∧ Nz c ∧ (∀ n, cf c n = cf a n + cf b n) ∧ c.length ≤ a.length := by
  have hc := plus_c1 la lb a b h hz
  have hs := slD_from a h
  have hd : listD [IL (a.drop b.length)] = some (.ow (IL (a.drop b.length))) := rfl
  have hadd := addD_IL ((List.range b.length).map fun n => cf a n + cf b n) (a.drop b.length) (by rw [List.length_map, List.length_range, List.length_drop]; omega)
  obtain ⟨c, h1, h2, h3, h4⟩ := r_trimmed (((List.range b.length).map fun n => cf a n + cf b n) ++ a.drop b.length) (by simp; omega)
  refine ⟨c, ⟨[.dat la, .dat lb, .dat (IL a), .dat (IL b), .un], plus_s2_gen hc (lenD_IL b) hs hd hadd h1⟩, h2, fun n => ?_, by simp at h4; omega⟩
  rw [h3]
  by_cases hn : n < b.length
  · rw [PL.cf_append_left (by simpa using hn), cf_range, if_pos hn]
  · have hl : ((List.range b.length).map fun n => cf a n + cf b n).length = b.length := by rw [List.length_map, List.length_range]
    rw [PL.cf_append_right (by rw [hl]; omega), cf_drop, PL.cf_beyond (a := b) (by omega), hl, Int.add_zero, Nat.sub_add_cancel (by omega)]
theorem r_plus (a b : List Int) (ha : a.length ≤ 900) (hb : b.length ≤ 900) : ∃ c, m_plus_lines [IL a, IL b] = some (.ow (IL c)) ∧ Nz c ∧ (∀ n, cf c n = cf a n + cf b n) ∧ c.length ≤ max a.length b.length := by
  by_cases h : b.length ≤ a.length
  · obtain ⟨c, ⟨δ', h1⟩, h2, h3, h4⟩ := plus_s2 (IL a) (IL b) a b h ha
    refine ⟨c, ?_, h2, h3, by omega⟩
    simp only [m_plus_lines, g_plus_lines, g_plus_lines_s1, mb, mr, mo, nameM, conM, binM, unM, boolM, ifM, DL.andM, DL.orM, DL.notM, andV, orV, notV, chainM, nilA, consA, dvs, dv, ownAt, fzs, lstM, tupM, callM, callP, permL, fzv, seqS, skipS, ifS, setS, asg, freeAt, retS, retV, dropS, frz, frzS, asgS, nilG, consG, tupG, subG, listAt, methM, augS, augSubS, forS, seqM, treeV, startD, endV, bodyF, bodyI, startI, ioAt, slM, partM, bors, callL, callI, callO, DL.flatV, DL.flat, List.filterMap_cons, List.filterMap_nil, List.map_cons, List.map_nil, List.getElem?_cons_zero, List.getElem?_cons_succ, List.getElem?_nil, List.set_cons_zero, List.set_cons_succ, List.cons_append, List.nil_append, List.length_cons, List.length_nil, Option.bind_some, Option.bind_none, Option.map_some, Option.map_none, Nat.reduceSub, Nat.reduceAdd, List.replicate_succ, List.replicate_zero, Bool.not_true, Bool.not_false, if_true, if_false, Bool.false_eq_true, reduceIte, decide_true, decide_false, Nat.reduceLT, Nat.reduceLeDiff, reduceCtorEq, Option.some.injEq, Prod.mk.injEq, lenD_IL, geI, intB, decide_eq_true (show ((b.length : Nat) : Int) ≤ (a.length : Nat) by omega), szOk2, itemsOf, h1]
  · obtain ⟨c, ⟨δ', h1⟩, h2, h3, h4⟩ := plus_s2 (IL a) (IL b) b a (by omega) hb
    refine ⟨c, ?_, h2, fun n => by rw [h3, Int.add_comm], by omega⟩
    simp only [m_plus_lines, g_plus_lines, g_plus_lines_s1, mb, mr, mo, nameM, conM, binM, unM, boolM, ifM, DL.andM, DL.orM, DL.notM, andV, orV, notV, chainM, nilA, consA, dvs, dv, ownAt, fzs, lstM, tupM, callM, callP, permL, fzv, seqS, skipS, ifS, setS, asg, freeAt, retS, retV, dropS, frz, frzS, asgS, nilG, consG, tupG, subG, listAt, methM, augS, augSubS, forS, seqM, treeV, startD, endV, bodyF, bodyI, startI, ioAt, slM, partM, bors, callL, callI, callO, DL.flatV, DL.flat, List.filterMap_cons, List.filterMap_nil, List.map_cons, List.map_nil, List.getElem?_cons_zero, List.getElem?_cons_succ, List.getElem?_nil, List.set_cons_zero, List.set_cons_succ, List.cons_append, List.nil_append, List.length_cons, List.length_nil, Option.bind_some, Option.bind_none, Option.map_some, Option.map_none, Nat.reduceSub, Nat.reduceAdd, List.replicate_succ, List.replicate_zero, Bool.not_true, Bool.not_false, if_true, if_false, Bool.false_eq_true, reduceIte, decide_true, decide_false, Nat.reduceLT, Nat.reduceLeDiff, reduceCtorEq, Option.some.injEq, Prod.mk.injEq, lenD_IL, geI, intB, decide_eq_false (show ¬ ((b.length : Nat) : Int) ≤ (a.length : Nat) by omega), szOk2, itemsOf, h1]
end K11
end
section
set_option maxRecDepth 100000
set_option maxHeartbeats 1000000
namespace K11
open PySem PySem.Spec L2 DL
open PL (cf Nz cv vl sm)
theorem scaled_c1 (b : List Int) (x : Int) (hx : x.natAbs < 2 ^ 200) (hb : ∀ y ∈ b, y.natAbs < 2 ^ 200) (hz : b.length ≤ 900) : g_scaled_line_c1 [.dat (IL b), .dat (.int x), .un] = some (.ow (IL (b.map (x * ·))), [.dat (IL b), .dat (.int x), .un]) := by
  unfold g_scaled_line_c1
  have e := compM_gen (fi := seqM (nameM 0)) (gt := asg 2) (ft := mr true) (fe := binM mulD (nameM 1) (nameM 2)) (vs := [2]) (δ := [.dat (IL b), .dat (.int x), .un]) (ds := b.map .int) (fun t => match t with
    | .int i => some (.int (x * i))
    | _ => none) ?_ rfl rfl ?_ ?_
  · rw [e, List.filterMap_map]
    congr 3
    rw [IL, List.map_map, ← List.filterMap_eq_map']
    rfl
  · simp only [mb, mr, mo, nameM, conM, binM, unM, boolM, ifM, DL.andM, DL.orM, DL.notM, andV, orV, notV, chainM, nilA, consA, dvs, dv, ownAt, fzs, lstM, tupM, callM, callP, permL, fzv, seqS, skipS, ifS, setS, asg, freeAt, retS, retV, dropS, frz, frzS, asgS, nilG, consG, tupG, subG, listAt, methM, augS, augSubS, forS, seqM, treeV, startD, endV, bodyF, bodyI, startI, ioAt, slM, partM, bors, callL, callI, callO, DL.flatV, DL.flat, List.filterMap_cons, List.filterMap_nil, List.map_cons, List.map_nil, List.getElem?_cons_zero, List.getElem?_cons_succ, List.getElem?_nil, List.set_cons_zero, List.set_cons_succ, List.cons_append, List.nil_append, List.length_cons, List.length_nil, Option.bind_some, Option.bind_none, Option.map_some, Option.map_none, Nat.reduceSub, Nat.reduceAdd, List.replicate_succ, List.replicate_zero, Bool.not_true, Bool.not_false, if_true, if_false, Bool.false_eq_true, reduceIte, decide_true, decide_false, Nat.reduceLT, Nat.reduceLeDiff, reduceCtorEq, Option.some.injEq, Prod.mk.injEq, itemsOf]
  · refine szOkL (Nat.le_trans (List.length_filterMap_le _ _) ?_)
    rw [List.length_map]
    omega
  · intro t ht
    obtain ⟨i, hi, rfl⟩ := List.mem_map.mp ht
    have hm := mulD_lt hx (hb i hi)
    refine ⟨[.dat (IL b), .dat (.int x), .dat (.int i)], ?_, .inr ⟨_, .fz (.int (x * i)), rfl, rfl, ?_, rfl⟩, ?_⟩
    · simp only [wipeD, mb, mr, mo, nameM, conM, binM, unM, boolM, ifM, DL.andM, DL.orM, DL.notM, andV, orV, notV, chainM, nilA, consA, dvs, dv, ownAt, fzs, lstM, tupM, callM, callP, permL, fzv, seqS, skipS, ifS, setS, asg, freeAt, retS, retV, dropS, frz, frzS, asgS, nilG, consG, tupG, subG, listAt, methM, augS, augSubS, forS, seqM, treeV, startD, endV, bodyF, bodyI, startI, ioAt, slM, partM, bors, callL, callI, callO, DL.flatV, DL.flat, List.filterMap_cons, List.filterMap_nil, List.map_cons, List.map_nil, List.getElem?_cons_zero, List.getElem?_cons_succ, List.getElem?_nil, List.set_cons_zero, List.set_cons_succ, List.cons_append, List.nil_append, List.length_cons, List.length_nil, Option.bind_some, Option.bind_none, Option.map_some, Option.map_none, Nat.reduceSub, Nat.reduceAdd, List.replicate_succ, List.replicate_zero, Bool.not_true, Bool.not_false, if_true, if_false, Bool.false_eq_true, reduceIte, decide_true, decide_false, Nat.reduceLT, Nat.reduceLeDiff, reduceCtorEq, Option.some.injEq, Prod.mk.injEq]
    · simp only [mb, mr, mo, nameM, conM, binM, unM, boolM, ifM, DL.andM, DL.orM, DL.notM, andV, orV, notV, chainM, nilA, consA, dvs, dv, ownAt, fzs, lstM, tupM, callM, callP, permL, fzv, seqS, skipS, ifS, setS, asg, freeAt, retS, retV, dropS, frz, frzS, asgS, nilG, consG, tupG, subG, listAt, methM, augS, augSubS, forS, seqM, treeV, startD, endV, bodyF, bodyI, startI, ioAt, slM, partM, bors, callL, callI, callO, DL.flatV, DL.flat, List.filterMap_cons, List.filterMap_nil, List.map_cons, List.map_nil, List.getElem?_cons_zero, List.getElem?_cons_succ, List.getElem?_nil, List.set_cons_zero, List.set_cons_succ, List.cons_append, List.nil_append, List.length_cons, List.length_nil, Option.bind_some, Option.bind_none, Option.map_some, Option.map_none, Nat.reduceSub, Nat.reduceAdd, List.replicate_succ, List.replicate_zero, Bool.not_true, Bool.not_false, if_true, if_false, Bool.false_eq_true, reduceIte, decide_true, decide_false, Nat.reduceLT, Nat.reduceLeDiff, reduceCtorEq, Option.some.injEq, Prod.mk.injEq, hm]
    · simp only [wipeD, mb, mr, mo, nameM, conM, binM, unM, boolM, ifM, DL.andM, DL.orM, DL.notM, andV, orV, notV, chainM, nilA, consA, dvs, dv, ownAt, fzs, lstM, tupM, callM, callP, permL, fzv, seqS, skipS, ifS, setS, asg, freeAt, retS, retV, dropS, frz, frzS, asgS, nilG, consG, tupG, subG, listAt, methM, augS, augSubS, forS, seqM, treeV, startD, endV, bodyF, bodyI, startI, ioAt, slM, partM, bors, callL, callI, callO, DL.flatV, DL.flat, List.filterMap_cons, List.filterMap_nil, List.map_cons, List.map_nil, List.getElem?_cons_zero, List.getElem?_cons_succ, List.getElem?_nil, List.set_cons_zero, List.set_cons_succ, List.cons_append, List.nil_append, List.length_cons, List.length_nil, Option.bind_some, Option.bind_none, Option.map_some, Option.map_none, Nat.reduceSub, Nat.reduceAdd, List.replicate_succ, List.replicate_zero, Bool.not_true, Bool.not_false, if_true, if_false, Bool.false_eq_true, reduceIte, decide_true, decide_false, Nat.reduceLT, Nat.reduceLeDiff, reduceCtorEq, Option.some.injEq, Prod.mk.injEq]
theorem r_scaled (b : List Int) {x : Int} (h0 : x ≠ 0) (hx : x.natAbs < 2 ^ 200) (hb : ∀ y ∈ b, y.natAbs < 2 ^ 200) (hz : b.length ≤ 900) : m_scaled_line [IL b, .int x] = some (.ow (IL (b.map (x * ·)))) := by
  have hc := scaled_c1 b x hx hb hz
  simp only [m_scaled_line, g_scaled_line, g_scaled_line_s1, mb, mr, mo, nameM, conM, binM, unM, boolM, ifM, DL.andM, DL.orM, DL.notM, andV, orV, notV, chainM, nilA, consA, dvs, dv, ownAt, fzs, lstM, tupM, callM, callP, permL, fzv, seqS, skipS, ifS, setS, asg, freeAt, retS, retV, dropS, frz, frzS, asgS, nilG, consG, tupG, subG, listAt, methM, augS, augSubS, forS, seqM, treeV, startD, endV, bodyF, bodyI, startI, ioAt, slM, partM, bors, callL, callI, callO, DL.flatV, DL.flat, List.filterMap_cons, List.filterMap_nil, List.map_cons, List.map_nil, List.getElem?_cons_zero, List.getElem?_cons_succ, List.getElem?_nil, List.set_cons_zero, List.set_cons_succ, List.cons_append, List.nil_append, List.length_cons, List.length_nil, Option.bind_some, Option.bind_none, Option.map_some, Option.map_none, Nat.reduceSub, Nat.reduceAdd, List.replicate_succ, List.replicate_zero, Bool.not_true, Bool.not_false, if_true, if_false, Bool.false_eq_true, reduceIte, decide_true, decide_false, Nat.reduceLT, Nat.reduceLeDiff, reduceCtorEq, Option.some.injEq, Prod.mk.injEq, neD_int, decide_eq_false h0, hc]
theorem r_minus (a b : List Int) (ha : a.length ≤ 900) (hb : b.length ≤ 900) (hy : ∀ y ∈ b, y.natAbs < 2 ^ 200) : ∃ c, m_minus_lines [IL a, IL b] = some (.ow (IL c)) ∧ Nz c ∧ (∀ n, cf c n = cf a n - cf b n) ∧ c.length ≤ max a.length b.length := by
  have hs := r_scaled b (x := -1) (by decide) (by decide) hy hb
  obtain ⟨c, h1, h2, h3, h4⟩ := r_plus a (b.map ((-1) * ·)) ha (by simpa using hb)
  refine ⟨c, ?_, h2, fun n => ?_, by simpa using h4⟩
  · simp only [m_minus_lines, g_minus_lines, g_minus_lines_s1, mb, mr, mo, nameM, conM, binM, unM, boolM, ifM, DL.andM, DL.orM, DL.notM, andV, orV, notV, chainM, nilA, consA, dvs, dv, ownAt, fzs, lstM, tupM, callM, callP, permL, fzv, seqS, skipS, ifS, setS, asg, freeAt, retS, retV, dropS, frz, frzS, asgS, nilG, consG, tupG, subG, listAt, methM, augS, augSubS, forS, seqM, treeV, startD, endV, bodyF, bodyI, startI, ioAt, slM, partM, bors, callL, callI, callO, DL.flatV, DL.flat, List.filterMap_cons, List.filterMap_nil, List.map_cons, List.map_nil, List.getElem?_cons_zero, List.getElem?_cons_succ, List.getElem?_nil, List.set_cons_zero, List.set_cons_succ, List.cons_append, List.nil_append, List.length_cons, List.length_nil, Option.bind_some, Option.bind_none, Option.map_some, Option.map_none, Nat.reduceSub, Nat.reduceAdd, List.replicate_succ, List.replicate_zero, Bool.not_true, Bool.not_false, if_true, if_false, Bool.false_eq_true, reduceIte, decide_true, decide_false, Nat.reduceLT, Nat.reduceLeDiff, reduceCtorEq, Option.some.injEq, Prod.mk.injEq, negI, hs, h1]
  · rw [h3, PL.cf_map (by decide)]
    omega
end K11
end
section
set_option maxRecDepth 100000
set_option maxHeartbeats 1000000
namespace K11
open PySem PySem.Spec L2 DL
open PL (cf Nz cv vl sm)
theorem cf_zero_end (zs : List Int) (n : Nat) : cf (zs ++ [0]) n = cf zs n := by
  by_cases h : n < zs.length
  · exact PL.cf_append_left h
  · rw [PL.cf_append_right (by omega), PL.cf_beyond (a := zs) (by omega)]
    cases n - zs.length with
    | zero => rfl
    | succ k => exact PL.cf_nil k
theorem r_law_trim (a : List Int) (hz : a.length ≤ 900) : ∃ b, m__law_trim [IL a] = some (.ow (IL b)) ∧ Nz b ∧ (∀ n, cf b n = cf a n) ∧ b.length ≤ a.length := by
  have hw : ∃ δ', g__law_trim_w1 [.dat (IL a), .own false (IL a)] = some (.nx, δ') ∧ ∃ b : List Int, δ' = [.dat (IL a), .own false (IL b)] ∧ b.length ≤ a.length ∧ (∀ n, cf b n = cf a n) ∧ Nz b := by
    refine whileN_inv (fun δ => ∃ b : List Int, δ = [.dat (IL a), .own false (IL b)] ∧ b.length ≤ a.length ∧ (∀ n, cf b n = cf a n)) _ (fun δ => match δ with
      | [_, .own _ (.list l)] => l.length
      | _ => 0) ?_ fuel _ ⟨a, rfl, Nat.le_refl _, fun _ => rfl⟩ (by show (a.map PyData.int).length < _; unfold fuel; simp; omega)
    rintro δ ⟨b, rfl, hb, hc⟩
    have hne := neD_nil (shaped_IL b)
    rcases List.eq_nil_or_concat b with rfl | ⟨zs, z, rfl⟩
    · refine .inl ⟨_, ?_, [], rfl, hb, hc, PL.nz_nil⟩
      have hne : neD (IL []) (.list []) = some (.fz (.bool false)) := hne
      simp only [g__law_trim_t1, mb, mr, mo, nameM, conM, binM, unM, boolM, ifM, DL.andM, DL.orM, DL.notM, andV, orV, notV, chainM, nilA, consA, dvs, dv, ownAt, fzs, lstM, tupM, callM, callP, permL, fzv, seqS, skipS, ifS, setS, asg, freeAt, retS, retV, dropS, frz, frzS, asgS, nilG, consG, tupG, subG, listAt, methM, augS, augSubS, forS, seqM, treeV, startD, endV, bodyF, bodyI, startI, ioAt, slM, partM, bors, callL, callI, callO, DL.flatV, DL.flat, List.filterMap_cons, List.filterMap_nil, List.map_cons, List.map_nil, List.getElem?_cons_zero, List.getElem?_cons_succ, List.getElem?_nil, List.set_cons_zero, List.set_cons_succ, List.cons_append, List.nil_append, List.length_cons, List.length_nil, Option.bind_some, Option.bind_none, Option.map_some, Option.map_none, Nat.reduceSub, Nat.reduceAdd, List.replicate_succ, List.replicate_zero, Bool.not_true, Bool.not_false, if_true, if_false, Bool.false_eq_true, reduceIte, decide_true, decide_false, Nat.reduceLT, Nat.reduceLeDiff, reduceCtorEq, Option.some.injEq, Prod.mk.injEq, szOk0, hne]
    · rw [List.concat_eq_append] at *
      have hne : neD (IL (zs ++ [z])) (.list []) = some (.fz (.bool true)) := by rw [hne]; simp
      have hix : ixD (IL (zs ++ [z])) (.int (-1)) = some (.fz (.int z)) := ix_last (by rw [seq?, List.map_append]; rfl)
      by_cases hz0 : z = 0
      · subst hz0
        refine .inr ⟨[.dat (IL a), .own false (IL (zs ++ [0]))], [.dat (IL a), .own false (IL zs)], ?_, .inl ?_, ⟨zs, rfl, by simp at hb; omega, fun n => by rw [← hc, cf_zero_end]⟩, ?_⟩
        · simp only [g__law_trim_t1, mb, mr, mo, nameM, conM, binM, unM, boolM, ifM, DL.andM, DL.orM, DL.notM, andV, orV, notV, chainM, nilA, consA, dvs, dv, ownAt, fzs, lstM, tupM, callM, callP, permL, fzv, seqS, skipS, ifS, setS, asg, freeAt, retS, retV, dropS, frz, frzS, asgS, nilG, consG, tupG, subG, listAt, methM, augS, augSubS, forS, seqM, treeV, startD, endV, bodyF, bodyI, startI, ioAt, slM, partM, bors, callL, callI, callO, DL.flatV, DL.flat, List.filterMap_cons, List.filterMap_nil, List.map_cons, List.map_nil, List.getElem?_cons_zero, List.getElem?_cons_succ, List.getElem?_nil, List.set_cons_zero, List.set_cons_succ, List.cons_append, List.nil_append, List.length_cons, List.length_nil, Option.bind_some, Option.bind_none, Option.map_some, Option.map_none, Nat.reduceSub, Nat.reduceAdd, List.replicate_succ, List.replicate_zero, Bool.not_true, Bool.not_false, if_true, if_false, Bool.false_eq_true, reduceIte, decide_true, decide_false, Nat.reduceLT, Nat.reduceLeDiff, reduceCtorEq, Option.some.injEq, Prod.mk.injEq, szOk0, hne, negI, hix, eqD_int]
        · have hp : popL (List.map PyData.int (zs ++ [0])) [] = some (.int 0, zs.map .int) := by
            unfold popL
            simp
          simp only [g__law_trim_b1, mb, mr, mo, nameM, conM, binM, unM, boolM, ifM, DL.andM, DL.orM, DL.notM, andV, orV, notV, chainM, nilA, consA, dvs, dv, ownAt, fzs, lstM, tupM, callM, callP, permL, fzv, seqS, skipS, ifS, setS, asg, freeAt, retS, retV, dropS, frz, frzS, asgS, nilG, consG, tupG, subG, listAt, methM, augS, augSubS, forS, seqM, treeV, startD, endV, bodyF, bodyI, startI, ioAt, slM, partM, bors, callL, callI, callO, DL.flatV, DL.flat, List.filterMap_cons, List.filterMap_nil, List.map_cons, List.map_nil, List.getElem?_cons_zero, List.getElem?_cons_succ, List.getElem?_nil, List.set_cons_zero, List.set_cons_succ, List.cons_append, List.nil_append, List.length_cons, List.length_nil, Option.bind_some, Option.bind_none, Option.map_some, Option.map_none, Nat.reduceSub, Nat.reduceAdd, List.replicate_succ, List.replicate_zero, Bool.not_true, Bool.not_false, if_true, if_false, Bool.false_eq_true, reduceIte, decide_true, decide_false, Nat.reduceLT, Nat.reduceLeDiff, reduceCtorEq, Option.some.injEq, Prod.mk.injEq, hp]
        · show (zs.map PyData.int).length < ((zs ++ [0]).map PyData.int).length
          simp
      · refine .inl ⟨_, ?_, zs ++ [z], rfl, hb, hc, PL.nz_last hz0⟩
        simp only [g__law_trim_t1, mb, mr, mo, nameM, conM, binM, unM, boolM, ifM, DL.andM, DL.orM, DL.notM, andV, orV, notV, chainM, nilA, consA, dvs, dv, ownAt, fzs, lstM, tupM, callM, callP, permL, fzv, seqS, skipS, ifS, setS, asg, freeAt, retS, retV, dropS, frz, frzS, asgS, nilG, consG, tupG, subG, listAt, methM, augS, augSubS, forS, seqM, treeV, startD, endV, bodyF, bodyI, startI, ioAt, slM, partM, bors, callL, callI, callO, DL.flatV, DL.flat, List.filterMap_cons, List.filterMap_nil, List.map_cons, List.map_nil, List.getElem?_cons_zero, List.getElem?_cons_succ, List.getElem?_nil, List.set_cons_zero, List.set_cons_succ, List.cons_append, List.nil_append, List.length_cons, List.length_nil, Option.bind_some, Option.bind_none, Option.map_some, Option.map_none, Nat.reduceSub, Nat.reduceAdd, List.replicate_succ, List.replicate_zero, Bool.not_true, Bool.not_false, if_true, if_false, Bool.false_eq_true, reduceIte, decide_true, decide_false, Nat.reduceLT, Nat.reduceLeDiff, reduceCtorEq, Option.some.injEq, Prod.mk.injEq, szOk0, hne, negI, hix, eqD_int, decide_eq_false hz0]
  obtain ⟨δ', h1, b, rfl, h2, h3, h4⟩ := hw
  refine ⟨b, ?_, h4, h3, h2⟩
  have hl : listD [IL a] = some (.ow (IL a)) := rfl
  simp only [m__law_trim, g__law_trim, g__law_trim_s1, g__law_trim_s2, mb, mr, mo, nameM, conM, binM, unM, boolM, ifM, DL.andM, DL.orM, DL.notM, andV, orV, notV, chainM, nilA, consA, dvs, dv, ownAt, fzs, lstM, tupM, callM, callP, permL, fzv, seqS, skipS, ifS, setS, asg, freeAt, retS, retV, dropS, frz, frzS, asgS, nilG, consG, tupG, subG, listAt, methM, augS, augSubS, forS, seqM, treeV, startD, endV, bodyF, bodyI, startI, ioAt, slM, partM, bors, callL, callI, callO, DL.flatV, DL.flat, List.filterMap_cons, List.filterMap_nil, List.map_cons, List.map_nil, List.getElem?_cons_zero, List.getElem?_cons_succ, List.getElem?_nil, List.set_cons_zero, List.set_cons_succ, List.cons_append, List.nil_append, List.length_cons, List.length_nil, Option.bind_some, Option.bind_none, Option.map_some, Option.map_none, Nat.reduceSub, Nat.reduceAdd, List.replicate_succ, List.replicate_zero, Bool.not_true, Bool.not_false, if_true, if_false, Bool.false_eq_true, reduceIte, decide_true, decide_false, Nat.reduceLT, Nat.reduceLeDiff, reduceCtorEq, Option.some.injEq, Prod.mk.injEq, hl, h1]
end K11
end
section
set_option maxRecDepth 100000
set_option maxHeartbeats 1000000
namespace K11
open PySem PySem.Spec L2 DL
open PL (cf Nz cv vl sm)
/-! ### values: Horner's fold, the program's and the law's own are one -/
theorem vl_bound (x : Int) (hx : x.natAbs ≤ 7) {B : Nat} : ∀ {a : List Int}, (∀ y ∈ a, y.natAbs ≤ B) → (vl a x).natAbs ≤ B * 8 ^ a.length
  | [], _ => by simp [vl]
  | c :: a, h => by
    have ih := vl_bound x hx (B := B) (a := a) fun y hy => h y (List.mem_cons_of_mem _ hy)
    have hc := h c List.mem_cons_self
    show (vl a x * x + c).natAbs ≤ B * 8 ^ (a.length + 1)
    have h1 : (vl a x * x).natAbs ≤ B * 8 ^ a.length * 7 := by
      rw [Int.natAbs_mul]
      exact Nat.mul_le_mul ih hx
    have h2 : B ≤ B * 8 ^ a.length := Nat.le_mul_of_pos_right _ (Nat.pow_pos (by decide))
    have h3 : B * 8 ^ (a.length + 1) = B * 8 ^ a.length * 8 := by rw [Nat.pow_succ, Nat.mul_assoc]
    have := Int.natAbs_add_le (vl a x * x) c
    omega
theorem vl_drop (a : List Int) (x : Int) {k : Nat} (h : k < a.length) : vl (a.drop k) x = vl (a.drop (k + 1)) x * x + cf a k := by
  rw [List.drop_eq_getElem_cons h, PL.cf_get, List.getD_eq_getElem?_getD, List.getElem?_eq_getElem h]
  rfl
theorem value_f1 (gb : Ss) (a : List Int) (x : Int) (hx : x.natAbs ≤ 7) (hB : ∀ y ∈ a, y.natAbs ≤ 2 ^ 60) (hz : a.length ≤ 40) (hg : ∀ (v y : Int) , v.natAbs < 2 ^ 200 → gb [.dat (IL a), .dat (.int x), .dat (.int v), .dat (.int y)] = some (.nx, [.dat (IL a), .dat (.int x), .dat (.int (v * x + y)), .dat (.int y)])) :
    ∃ s, forS (seqM (unM revD (nameM 0))) (asg 3) gb [.dat (IL a), .dat (.int x), .dat (.int 0), .un] = some (.nx, [.dat (IL a), .dat (.int x), .dat (.int (vl a x)), s]) := by
  have hi : seqM (unM revD (nameM 0)) [.dat (IL a), .dat (.int x), .dat (.int 0), .un] = some ((a.map PyData.int).reverse, [.dat (IL a), .dat (.int x), .dat (.int 0), .un]) := by
    have : revD (IL a) = some (.ow (.list (a.map PyData.int).reverse)) := rfl
    simp only [mb, mr, mo, nameM, conM, binM, unM, boolM, ifM, DL.andM, DL.orM, DL.notM, andV, orV, notV, chainM, nilA, consA, dvs, dv, ownAt, fzs, lstM, tupM, callM, callP, permL, fzv, seqS, skipS, ifS, setS, asg, freeAt, retS, retV, dropS, frz, frzS, asgS, nilG, consG, tupG, subG, listAt, methM, augS, augSubS, forS, seqM, treeV, startD, endV, bodyF, bodyI, startI, ioAt, slM, partM, bors, callL, callI, callO, DL.flatV, DL.flat, List.filterMap_cons, List.filterMap_nil, List.map_cons, List.map_nil, List.getElem?_cons_zero, List.getElem?_cons_succ, List.getElem?_nil, List.set_cons_zero, List.set_cons_succ, List.cons_append, List.nil_append, List.length_cons, List.length_nil, Option.bind_some, Option.bind_none, Option.map_some, Option.map_none, Nat.reduceSub, Nat.reduceAdd, List.replicate_succ, List.replicate_zero, Bool.not_true, Bool.not_false, if_true, if_false, Bool.false_eq_true, reduceIte, decide_true, decide_false, Nat.reduceLT, Nat.reduceLeDiff, reduceCtorEq, Option.some.injEq, Prod.mk.injEq, this, itemsOf]
  obtain ⟨δ1, h1, s, rfl, -⟩ := for_at (gt := asg 3) (body := gb) _ (fun k δ => ∃ s, δ = [.dat (IL a), .dat (.int x), .dat (.int (vl (a.drop (a.length - k)) x)), s] ∧ plainS s) hi ⟨.un, by simp [vl], .inl rfl⟩ (by
    rintro k d δ hk ⟨s, rfl, hs⟩
    have hkl : k < a.length := by
      have := (List.getElem?_eq_some_iff.mp hk).1
      simpa using this
    have hd : d = .int (cf a (a.length - 1 - k)) := by
      rw [List.getElem?_reverse (by simpa using hkl), List.length_map, getD_ix (by omega)] at hk
      exact (Option.some.inj hk).symm
    subst hd
    have hv : (vl (a.drop (a.length - k)) x).natAbs < 2 ^ 200 := by
      have := vl_bound x hx (a := a.drop (a.length - k)) fun y hy => hB y (List.mem_of_mem_drop hy)
      refine Nat.lt_of_le_of_lt this (Nat.lt_of_le_of_lt (Nat.mul_le_mul_left _ (Nat.pow_le_pow_right (by decide) (show (a.drop (a.length - k)).length ≤ 40 by simp; omega))) (by decide))
    refine ⟨_, _, ?_, .inl (hg _ (cf a (a.length - 1 - k)) hv), .dat (.int (cf a (a.length - 1 - k))), ?_, .inr ⟨_, rfl⟩⟩
    · rcases hs with rfl | ⟨y, rfl⟩ <;> simp only [mb, mr, mo, nameM, conM, binM, unM, boolM, ifM, DL.andM, DL.orM, DL.notM, andV, orV, notV, chainM, nilA, consA, dvs, dv, ownAt, fzs, lstM, tupM, callM, callP, permL, fzv, seqS, skipS, ifS, setS, asg, freeAt, retS, retV, dropS, frz, frzS, asgS, nilG, consG, tupG, subG, listAt, methM, augS, augSubS, forS, seqM, treeV, startD, endV, bodyF, bodyI, startI, ioAt, slM, partM, bors, callL, callI, callO, DL.flatV, DL.flat, List.filterMap_cons, List.filterMap_nil, List.map_cons, List.map_nil, List.getElem?_cons_zero, List.getElem?_cons_succ, List.getElem?_nil, List.set_cons_zero, List.set_cons_succ, List.cons_append, List.nil_append, List.length_cons, List.length_nil, Option.bind_some, Option.bind_none, Option.map_some, Option.map_none, Nat.reduceSub, Nat.reduceAdd, List.replicate_succ, List.replicate_zero, Bool.not_true, Bool.not_false, if_true, if_false, Bool.false_eq_true, reduceIte, decide_true, decide_false, Nat.reduceLT, Nat.reduceLeDiff, reduceCtorEq, Option.some.injEq, Prod.mk.injEq]
    · have := vl_drop a x (k := a.length - 1 - k) (by omega)
      rw [show a.length - (k + 1) = a.length - 1 - k by omega, this, show a.length - 1 - k + 1 = a.length - k by omega])
  refine ⟨s, ?_⟩
  rw [h1, List.length_reverse, List.length_map, Nat.sub_self]
  rfl
theorem r_value_at (a : List Int) (x : Int) (hx : x.natAbs ≤ 7) (hB : ∀ y ∈ a, y.natAbs ≤ 2 ^ 60) (hz : a.length ≤ 40) : m_value_at [IL a, .int x] = some (.fz (.int (vl a x))) := by
  obtain ⟨s, h⟩ := value_f1 g_value_at_b1 a x hx hB hz fun v y hv => by
    have hm := mulD_lt hv (show x.natAbs < 2 ^ 200 from Nat.lt_of_le_of_lt hx (by decide))
    simp only [g_value_at_b1, mb, mr, mo, nameM, conM, binM, unM, boolM, ifM, DL.andM, DL.orM, DL.notM, andV, orV, notV, chainM, nilA, consA, dvs, dv, ownAt, fzs, lstM, tupM, callM, callP, permL, fzv, seqS, skipS, ifS, setS, asg, freeAt, retS, retV, dropS, frz, frzS, asgS, nilG, consG, tupG, subG, listAt, methM, augS, augSubS, forS, seqM, treeV, startD, endV, bodyF, bodyI, startI, ioAt, slM, partM, bors, callL, callI, callO, DL.flatV, DL.flat, List.filterMap_cons, List.filterMap_nil, List.map_cons, List.map_nil, List.getElem?_cons_zero, List.getElem?_cons_succ, List.getElem?_nil, List.set_cons_zero, List.set_cons_succ, List.cons_append, List.nil_append, List.length_cons, List.length_nil, Option.bind_some, Option.bind_none, Option.map_some, Option.map_none, Nat.reduceSub, Nat.reduceAdd, List.replicate_succ, List.replicate_zero, Bool.not_true, Bool.not_false, if_true, if_false, Bool.false_eq_true, reduceIte, decide_true, decide_false, Nat.reduceLT, Nat.reduceLeDiff, reduceCtorEq, Option.some.injEq, Prod.mk.injEq, hm, addD]
  have h : g_value_at_f1 [.dat (IL a), .dat (.int x), .dat (.int 0), .un] = _ := h
  simp only [m_value_at, g_value_at, g_value_at_s1, g_value_at_s2, mb, mr, mo, nameM, conM, binM, unM, boolM, ifM, DL.andM, DL.orM, DL.notM, andV, orV, notV, chainM, nilA, consA, dvs, dv, ownAt, fzs, lstM, tupM, callM, callP, permL, fzv, seqS, skipS, ifS, setS, asg, freeAt, retS, retV, dropS, frz, frzS, asgS, nilG, consG, tupG, subG, listAt, methM, augS, augSubS, forS, seqM, treeV, startD, endV, bodyF, bodyI, startI, ioAt, slM, partM, bors, callL, callI, callO, DL.flatV, DL.flat, List.filterMap_cons, List.filterMap_nil, List.map_cons, List.map_nil, List.getElem?_cons_zero, List.getElem?_cons_succ, List.getElem?_nil, List.set_cons_zero, List.set_cons_succ, List.cons_append, List.nil_append, List.length_cons, List.length_nil, Option.bind_some, Option.bind_none, Option.map_some, Option.map_none, Nat.reduceSub, Nat.reduceAdd, List.replicate_succ, List.replicate_zero, Bool.not_true, Bool.not_false, if_true, if_false, Bool.false_eq_true, reduceIte, decide_true, decide_false, Nat.reduceLT, Nat.reduceLeDiff, reduceCtorEq, Option.some.injEq, Prod.mk.injEq, h]
theorem r_law_value (a : List Int) (x : Int) (hx : x.natAbs ≤ 7) (hB : ∀ y ∈ a, y.natAbs ≤ 2 ^ 60) (hz : a.length ≤ 40) : m__law_value [IL a, .int x] = some (.fz (.int (vl a x))) := by
  obtain ⟨s, h⟩ := value_f1 g__law_value_b1 a x hx hB hz fun v y hv => by
    have hm := mulD_lt hv (show x.natAbs < 2 ^ 200 from Nat.lt_of_le_of_lt hx (by decide))
    simp only [g__law_value_b1, mb, mr, mo, nameM, conM, binM, unM, boolM, ifM, DL.andM, DL.orM, DL.notM, andV, orV, notV, chainM, nilA, consA, dvs, dv, ownAt, fzs, lstM, tupM, callM, callP, permL, fzv, seqS, skipS, ifS, setS, asg, freeAt, retS, retV, dropS, frz, frzS, asgS, nilG, consG, tupG, subG, listAt, methM, augS, augSubS, forS, seqM, treeV, startD, endV, bodyF, bodyI, startI, ioAt, slM, partM, bors, callL, callI, callO, DL.flatV, DL.flat, List.filterMap_cons, List.filterMap_nil, List.map_cons, List.map_nil, List.getElem?_cons_zero, List.getElem?_cons_succ, List.getElem?_nil, List.set_cons_zero, List.set_cons_succ, List.cons_append, List.nil_append, List.length_cons, List.length_nil, Option.bind_some, Option.bind_none, Option.map_some, Option.map_none, Nat.reduceSub, Nat.reduceAdd, List.replicate_succ, List.replicate_zero, Bool.not_true, Bool.not_false, if_true, if_false, Bool.false_eq_true, reduceIte, decide_true, decide_false, Nat.reduceLT, Nat.reduceLeDiff, reduceCtorEq, Option.some.injEq, Prod.mk.injEq, hm, addD]
  have h : g__law_value_f1 [.dat (IL a), .dat (.int x), .dat (.int 0), .un] = _ := h
  simp only [m__law_value, g__law_value, g__law_value_s1, g__law_value_s2, mb, mr, mo, nameM, conM, binM, unM, boolM, ifM, DL.andM, DL.orM, DL.notM, andV, orV, notV, chainM, nilA, consA, dvs, dv, ownAt, fzs, lstM, tupM, callM, callP, permL, fzv, seqS, skipS, ifS, setS, asg, freeAt, retS, retV, dropS, frz, frzS, asgS, nilG, consG, tupG, subG, listAt, methM, augS, augSubS, forS, seqM, treeV, startD, endV, bodyF, bodyI, startI, ioAt, slM, partM, bors, callL, callI, callO, DL.flatV, DL.flat, List.filterMap_cons, List.filterMap_nil, List.map_cons, List.map_nil, List.getElem?_cons_zero, List.getElem?_cons_succ, List.getElem?_nil, List.set_cons_zero, List.set_cons_succ, List.cons_append, List.nil_append, List.length_cons, List.length_nil, Option.bind_some, Option.bind_none, Option.map_some, Option.map_none, Nat.reduceSub, Nat.reduceAdd, List.replicate_succ, List.replicate_zero, Bool.not_true, Bool.not_false, if_true, if_false, Bool.false_eq_true, reduceIte, decide_true, decide_false, Nat.reduceLT, Nat.reduceLeDiff, reduceCtorEq, Option.some.injEq, Prod.mk.injEq, h]
end K11
end
section
set_option maxRecDepth 100000
set_option maxHeartbeats 1000000
namespace K11
open PySem PySem.Spec L2 DL
open PL (cf Nz cv vl sm)
/-! ### slopes -/
def slp (a : List Int) : List Int := (List.range (a.length - 1)).map fun n => ((n : Nat) + 1 : Int) * cf a (n + 1)
theorem cf_slp (a : List Int) (n : Nat) : cf (slp a) n = PL.dv (cf a) n := by
  unfold slp
  rw [cf_range]
  split
  · rfl
  · rw [PL.dv, PL.cf_beyond (a := a) (by omega), Int.mul_zero]
def enF (t : D) : Option D := match t with
  | .tuple [.int i, .int x] => some (.int (i * x))
  | _ => none
theorem enF_enum (a : List Int) : (enumD (a.map .int)).filterMap enF = ((List.range a.length).map fun n => ((n : Nat) : Int) * cf a n).map .int := by
  unfold enumD
  rw [List.zipIdx_map, List.map_map, List.filterMap_map]
  have : (enF ∘ ((fun p : D × Nat => PyData.tuple [.int (p.2 : Nat), p.1]) ∘ Prod.map PyData.int id)) = fun p : Int × Nat => some (PyData.int ((p.2 : Int) * p.1)) := rfl
  rw [this, List.filterMap_eq_map']
  refine List.ext_getElem (by simp) fun i h1 h2 => ?_
  have hi : i < a.length := by simpa using h1
  simp [PL.cf_get, List.getD_eq_getElem?_getD, hi]
theorem slope_c1 (a : List Int) (hz : a.length ≤ 900) (hB : ∀ y ∈ a, y.natAbs < 2 ^ 200) : g_slope_of_c1 [.dat (IL a), .un, .un] = some (.ow (IL ((List.range a.length).map fun n => ((n : Nat) : Int) * cf a n)), [.dat (IL a), .un, .un]) := by
  unfold g_slope_of_c1
  have e := compM_gen (fi := enumA (consA (nameM 0) nilA)) (gt := tupG 2 (consG (asg 1) (consG (asg 2) nilG))) (ft := mr true) (fe := binM mulD (nameM 1) (nameM 2)) (vs := [1, 2]) (δ := [.dat (IL a), .un, .un]) (ds := enumD (a.map .int)) enF ?_ rfl rfl ?_ ?_
  · rw [e, enF_enum]
  · simp only [mb, mr, mo, nameM, conM, binM, unM, boolM, ifM, DL.andM, DL.orM, DL.notM, andV, orV, notV, chainM, nilA, consA, dvs, dv, ownAt, fzs, lstM, tupM, callM, callP, permL, fzv, seqS, skipS, ifS, setS, asg, freeAt, retS, retV, dropS, frz, frzS, asgS, nilG, consG, tupG, subG, listAt, methM, augS, augSubS, forS, seqM, treeV, startD, endV, bodyF, bodyI, startI, ioAt, slM, partM, bors, callL, callI, callO, DL.flatV, DL.flat, List.filterMap_cons, List.filterMap_nil, List.map_cons, List.map_nil, List.getElem?_cons_zero, List.getElem?_cons_succ, List.getElem?_nil, List.set_cons_zero, List.set_cons_succ, List.cons_append, List.nil_append, List.length_cons, List.length_nil, Option.bind_some, Option.bind_none, Option.map_some, Option.map_none, Nat.reduceSub, Nat.reduceAdd, List.replicate_succ, List.replicate_zero, Bool.not_true, Bool.not_false, if_true, if_false, Bool.false_eq_true, reduceIte, decide_true, decide_false, Nat.reduceLT, Nat.reduceLeDiff, reduceCtorEq, Option.some.injEq, Prod.mk.injEq, enumA]
  · rw [enF_enum, List.length_map, List.length_map, List.length_range]
    exact szOkL (by omega)
  · intro t ht
    obtain ⟨p, hp, rfl⟩ := List.mem_map.mp ht
    rw [List.zipIdx_map] at hp
    obtain ⟨q, hq, rfl⟩ := List.mem_map.mp hp
    have h1 := (List.mem_zipIdx hq).2.1
    have h2 : q.1 ∈ a := by
      have := List.mem_zipIdx hq
      simp only [Nat.sub_zero] at this
      rw [this.2.2]
      exact List.getElem_mem _
    have hm : mulD (.int (q.2 : Nat)) (.int q.1) = some (.fz (.int ((q.2 : Int) * q.1))) := mulD_lt (by simp at h1; rw [Int.natAbs_natCast]; exact Nat.lt_trans (show q.2 < 1000 by omega) (by decide)) (hB _ h2)
    generalize hj : ((q.2 : Nat) : Int) = j at hm
    refine ⟨[.dat (IL a), .dat (.int j), .dat (.int q.1)], ?_, .inr ⟨.int (j * q.1), .fz (.int (j * q.1)), ?_, rfl, ?_, rfl⟩, ?_⟩
    · simp only [wipeD, Prod.map, id, itemsOf, mb, mr, mo, nameM, conM, binM, unM, boolM, ifM, DL.andM, DL.orM, DL.notM, andV, orV, notV, chainM, nilA, consA, dvs, dv, ownAt, fzs, lstM, tupM, callM, callP, permL, fzv, seqS, skipS, ifS, setS, asg, freeAt, retS, retV, dropS, frz, frzS, asgS, nilG, consG, tupG, subG, listAt, methM, augS, augSubS, forS, seqM, treeV, startD, endV, bodyF, bodyI, startI, ioAt, slM, partM, bors, callL, callI, callO, DL.flatV, DL.flat, List.filterMap_cons, List.filterMap_nil, List.map_cons, List.map_nil, List.getElem?_cons_zero, List.getElem?_cons_succ, List.getElem?_nil, List.set_cons_zero, List.set_cons_succ, List.cons_append, List.nil_append, List.length_cons, List.length_nil, Option.bind_some, Option.bind_none, Option.map_some, Option.map_none, Nat.reduceSub, Nat.reduceAdd, List.replicate_succ, List.replicate_zero, Bool.not_true, Bool.not_false, if_true, if_false, Bool.false_eq_true, reduceIte, decide_true, decide_false, Nat.reduceLT, Nat.reduceLeDiff, reduceCtorEq, Option.some.injEq, Prod.mk.injEq, hj]
    · show some (PyData.int (((q.2 : Nat) : Int) * q.1)) = _
      rw [hj]
    · simp only [mb, mr, mo, nameM, conM, binM, unM, boolM, ifM, DL.andM, DL.orM, DL.notM, andV, orV, notV, chainM, nilA, consA, dvs, dv, ownAt, fzs, lstM, tupM, callM, callP, permL, fzv, seqS, skipS, ifS, setS, asg, freeAt, retS, retV, dropS, frz, frzS, asgS, nilG, consG, tupG, subG, listAt, methM, augS, augSubS, forS, seqM, treeV, startD, endV, bodyF, bodyI, startI, ioAt, slM, partM, bors, callL, callI, callO, DL.flatV, DL.flat, List.filterMap_cons, List.filterMap_nil, List.map_cons, List.map_nil, List.getElem?_cons_zero, List.getElem?_cons_succ, List.getElem?_nil, List.set_cons_zero, List.set_cons_succ, List.cons_append, List.nil_append, List.length_cons, List.length_nil, Option.bind_some, Option.bind_none, Option.map_some, Option.map_none, Nat.reduceSub, Nat.reduceAdd, List.replicate_succ, List.replicate_zero, Bool.not_true, Bool.not_false, if_true, if_false, Bool.false_eq_true, reduceIte, decide_true, decide_false, Nat.reduceLT, Nat.reduceLeDiff, reduceCtorEq, Option.some.injEq, Prod.mk.injEq, hm]
    · simp only [wipeD, mb, mr, mo, nameM, conM, binM, unM, boolM, ifM, DL.andM, DL.orM, DL.notM, andV, orV, notV, chainM, nilA, consA, dvs, dv, ownAt, fzs, lstM, tupM, callM, callP, permL, fzv, seqS, skipS, ifS, setS, asg, freeAt, retS, retV, dropS, frz, frzS, asgS, nilG, consG, tupG, subG, listAt, methM, augS, augSubS, forS, seqM, treeV, startD, endV, bodyF, bodyI, startI, ioAt, slM, partM, bors, callL, callI, callO, DL.flatV, DL.flat, List.filterMap_cons, List.filterMap_nil, List.map_cons, List.map_nil, List.getElem?_cons_zero, List.getElem?_cons_succ, List.getElem?_nil, List.set_cons_zero, List.set_cons_succ, List.cons_append, List.nil_append, List.length_cons, List.length_nil, Option.bind_some, Option.bind_none, Option.map_some, Option.map_none, Nat.reduceSub, Nat.reduceAdd, List.replicate_succ, List.replicate_zero, Bool.not_true, Bool.not_false, if_true, if_false, Bool.false_eq_true, reduceIte, decide_true, decide_false, Nat.reduceLT, Nat.reduceLeDiff, reduceCtorEq, Option.some.injEq, Prod.mk.injEq]
theorem r_slope_of (a : List Int) (hz : a.length ≤ 900) (hB : ∀ y ∈ a, y.natAbs < 2 ^ 200) : m_slope_of [IL a] = some (.ow (IL (slp a))) := by
  have hc := slope_c1 a hz hB
  have hs : slD (IL ((List.range a.length).map fun n => ((n : Nat) : Int) * cf a n)) (some 1) none = some (.ow (IL (slp a))) := by
    have e : ((List.range a.length).map fun n => ((n : Nat) : Int) * cf a n).drop 1 = slp a := by
      refine List.ext_getElem (by simp [slp]) fun i h1 h2 => ?_
      simp [slp]
    by_cases h1 : 1 ≤ a.length
    · rw [← e]
      exact slD_from _ (k := 1) (by simpa using h1)
    · have : a = [] := List.eq_nil_of_length_eq_zero (by omega)
      subst this
      rfl
  generalize ((List.range a.length).map fun n => ((n : Nat) : Int) * cf a n) = l at hc hs
  simp only [m_slope_of, g_slope_of, g_slope_of_s1, mb, mr, mo, nameM, conM, binM, unM, boolM, ifM, DL.andM, DL.orM, DL.notM, andV, orV, notV, chainM, nilA, consA, dvs, dv, ownAt, fzs, lstM, tupM, callM, callP, permL, fzv, seqS, skipS, ifS, setS, asg, freeAt, retS, retV, dropS, frz, frzS, asgS, nilG, consG, tupG, subG, listAt, methM, augS, augSubS, forS, seqM, treeV, startD, endV, bodyF, bodyI, startI, ioAt, slM, partM, bors, callL, callI, callO, DL.flatV, DL.flat, List.filterMap_cons, List.filterMap_nil, List.map_cons, List.map_nil, List.getElem?_cons_zero, List.getElem?_cons_succ, List.getElem?_nil, List.set_cons_zero, List.set_cons_succ, List.cons_append, List.nil_append, List.length_cons, List.length_nil, Option.bind_some, Option.bind_none, Option.map_some, Option.map_none, Nat.reduceSub, Nat.reduceAdd, List.replicate_succ, List.replicate_zero, Bool.not_true, Bool.not_false, if_true, if_false, Bool.false_eq_true, reduceIte, decide_true, decide_false, Nat.reduceLT, Nat.reduceLeDiff, reduceCtorEq, Option.some.injEq, Prod.mk.injEq, hc, hs]
end K11
end
section
set_option maxRecDepth 100000
set_option maxHeartbeats 1000000
namespace K11
open PySem PySem.Spec L2 DL
open PL (cf Nz cv vl sm)
theorem rngM2_eq {fa : Me (List Val)} {δ δ' : DS} {i j : Int} (h : fa δ = some ([.fz (.int i), .fz (.int j)], δ')) (hi : rOk i = true) (hr : rOk j = true) : rngM2 fa δ = some (rngD i (j - i).toNat, δ') := by
  unfold rngM2 mb mo
  rw [h]
  simp only [hi, hr, Bool.and_self, if_true]
theorem slope_rng {la : D} {k : Int} (hl : lenD [la] = some (.fz (.int k))) : consA (conM (.int 1)) (consA (callM lenD (consA (nameM 0) nilA)) nilA) [.dat la, .un] = some ([.fz (.int 1), .fz (.int k)], [.dat la, .un]) := by
  simp only [mb, mr, mo, nameM, conM, binM, unM, boolM, ifM, DL.andM, DL.orM, DL.notM, andV, orV, notV, chainM, nilA, consA, dvs, dv, ownAt, fzs, lstM, tupM, callM, callP, permL, fzv, seqS, skipS, ifS, setS, asg, freeAt, retS, retV, dropS, frz, frzS, asgS, nilG, consG, tupG, subG, listAt, methM, augS, augSubS, forS, seqM, treeV, startD, endV, bodyF, bodyI, startI, ioAt, slM, partM, bors, callL, callI, callO, DL.flatV, DL.flat, List.filterMap_cons, List.filterMap_nil, List.map_cons, List.map_nil, List.getElem?_cons_zero, List.getElem?_cons_succ, List.getElem?_nil, List.set_cons_zero, List.set_cons_succ, List.cons_append, List.nil_append, List.length_cons, List.length_nil, Option.bind_some, Option.bind_none, Option.map_some, Option.map_none, Nat.reduceSub, Nat.reduceAdd, List.replicate_succ, List.replicate_zero, Bool.not_true, Bool.not_false, if_true, if_false, Bool.false_eq_true, reduceIte, decide_true, decide_false, Nat.reduceLT, Nat.reduceLeDiff, reduceCtorEq, Option.some.injEq, Prod.mk.injEq, hl]
theorem slope_el {la : D} {j v w : Int} (hx : ixD la (.int j) = some (.fz (.int v))) (hm : mulD (.int j) (.int v) = some (.fz (.int w))) : binM mulD (nameM 1) (binM ixD (nameM 0) (nameM 1)) [.dat la, .dat (.int j)] = some (.fz (.int w), [.dat la, .dat (.int j)]) := by
  simp only [mb, mr, mo, nameM, conM, binM, unM, boolM, ifM, DL.andM, DL.orM, DL.notM, andV, orV, notV, chainM, nilA, consA, dvs, dv, ownAt, fzs, lstM, tupM, callM, callP, permL, fzv, seqS, skipS, ifS, setS, asg, freeAt, retS, retV, dropS, frz, frzS, asgS, nilG, consG, tupG, subG, listAt, methM, augS, augSubS, forS, seqM, treeV, startD, endV, bodyF, bodyI, startI, ioAt, slM, partM, bors, callL, callI, callO, DL.flatV, DL.flat, List.filterMap_cons, List.filterMap_nil, List.map_cons, List.map_nil, List.getElem?_cons_zero, List.getElem?_cons_succ, List.getElem?_nil, List.set_cons_zero, List.set_cons_succ, List.cons_append, List.nil_append, List.length_cons, List.length_nil, Option.bind_some, Option.bind_none, Option.map_some, Option.map_none, Nat.reduceSub, Nat.reduceAdd, List.replicate_succ, List.replicate_zero, Bool.not_true, Bool.not_false, if_true, if_false, Bool.false_eq_true, reduceIte, decide_true, decide_false, Nat.reduceLT, Nat.reduceLeDiff, reduceCtorEq, Option.some.injEq, Prod.mk.injEq, hx, hm]
theorem slope_end {d l : D} (hc : g__law_slope_c1 [.dat d, .un] = some (.ow l, [.dat d, .un])) : m__law_slope [d] = some (.ow l) := by
  simp only [m__law_slope, g__law_slope, g__law_slope_s1, mb, mr, mo, nameM, conM, binM, unM, boolM, ifM, DL.andM, DL.orM, DL.notM, andV, orV, notV, chainM, nilA, consA, dvs, dv, ownAt, fzs, lstM, tupM, callM, callP, permL, fzv, seqS, skipS, ifS, setS, asg, freeAt, retS, retV, dropS, frz, frzS, asgS, nilG, consG, tupG, subG, listAt, methM, augS, augSubS, forS, seqM, treeV, startD, endV, bodyF, bodyI, startI, ioAt, slM, partM, bors, callL, callI, callO, DL.flatV, DL.flat, List.filterMap_cons, List.filterMap_nil, List.map_cons, List.map_nil, List.getElem?_cons_zero, List.getElem?_cons_succ, List.getElem?_nil, List.set_cons_zero, List.set_cons_succ, List.cons_append, List.nil_append, List.length_cons, List.length_nil, Option.bind_some, Option.bind_none, Option.map_some, Option.map_none, Nat.reduceSub, Nat.reduceAdd, List.replicate_succ, List.replicate_zero, Bool.not_true, Bool.not_false, if_true, if_false, Bool.false_eq_true, reduceIte, decide_true, decide_false, Nat.reduceLT, Nat.reduceLeDiff, reduceCtorEq, Option.some.injEq, Prod.mk.injEq, hc]
theorem r_law_slope (a : List Int) (hz : a.length ≤ 900) (hB : ∀ n, (cf a n).natAbs < 2 ^ 200) : m__law_slope [IL a] = some (.ow (IL (slp a))) := by
  have hc : g__law_slope_c1 [.dat (IL a), .un] = some (.ow (IL (slp a)), [.dat (IL a), .un]) := by
    unfold g__law_slope_c1
    have hi : rngM2 (consA (conM (.int 1)) (consA (callM lenD (consA (nameM 0) nilA)) nilA)) [.dat (IL a), .un] = some (rngD 1 (a.length - 1), [.dat (IL a), .un]) := by
      rw [rngM2_eq (slope_rng (lenD_IL a)) (rOk_small ⟨by decide, by decide⟩) (rOk_small ⟨by omega, by omega⟩)]
      rw [show (((a.length : Nat) : Int) - 1).toNat = a.length - 1 by omega]
    have e := comp_map (gt := asg 1) (fe := binM mulD (nameM 1) (binM ixD (nameM 0) (nameM 1))) (vs := [1]) (List.range (a.length - 1)) (fun i => .int ((1 : Int) + (i : Nat))) (fun i => .int (((i + 1 : Nat) : Int) * cf a (i + 1))) (fun i => [.dat (IL a), .dat (.int ((1 : Int) + (i : Nat)))]) hi rfl rfl (by rw [List.length_range]; omega) (fun i hi => by
      have hi := List.mem_range.mp hi
      have hx : ixD (IL a) (.int ((i + 1 : Nat) : Int)) = some (.fz (.int (cf a (i + 1)))) := ix_nat rfl (getD_ix (by omega))
      have hm : mulD (.int ((i + 1 : Nat) : Int)) (.int (cf a (i + 1))) = some (.fz (.int (((i + 1 : Nat) : Int) * cf a (i + 1)))) := mulD_lt (by rw [Int.natAbs_natCast]; exact Nat.lt_trans (show i + 1 < 1000 by omega) (by decide)) (hB _)
      rw [show (1 : Int) + (i : Nat) = ((i + 1 : Nat) : Int) by omega]
      exact ⟨rfl, ⟨_, slope_el hx hm, rfl⟩, rfl⟩)
    rw [e]
    unfold slp IL
    rw [List.map_map]
    refine congrArg (fun l => some (Val.ow (.list l), _)) (List.map_congr_left fun i _ => ?_)
    show PyData.int _ = PyData.int _
    rw [Int.natCast_add]
    rfl
  exact slope_end hc
end K11
end
section
set_option maxRecDepth 100000
set_option maxHeartbeats 1000000
namespace K11
open PySem PySem.Spec L2 DL
open PL (cf Nz cv vl sm tms inL outL outL')
/-! ### products -/
theorem tl_b1 {la lb : D} {F : List Int} {i k : Nat} {x y : Int} {n m : Sl} (hk : i + k < F.length) (hm : mulD (.int x) (.int y) = some (.fz (.int (x * y)))) :
    g_times_lines_b1 [.dat la, .dat lb, .own false (IL F), .dat (.int (i : Nat)), .dat (.int x), .dat (.int (k : Nat)), .dat (.int y)] = some (.nx, [.dat la, .dat lb, .own false (IL (PL.bump F (i + k) (x * y))), .dat (.int (i : Nat)), .dat (.int x), .dat (.int (k : Nat)), .dat (.int y)]) := by
  unfold g_times_lines_b1
  refine augSub_bump (io := false) (F := F) rfl ?_ ?_ hk
  · simp only [mb, mr, mo, nameM, conM, binM, unM, boolM, ifM, DL.andM, DL.orM, DL.notM, andV, orV, notV, chainM, nilA, consA, dvs, dv, ownAt, fzs, lstM, tupM, callM, callP, permL, fzv, seqS, skipS, ifS, setS, asg, freeAt, retS, retV, dropS, frz, frzS, asgS, nilG, consG, tupG, subG, listAt, methM, augS, augSubS, forS, seqM, treeV, startD, endV, bodyF, bodyI, startI, ioAt, slM, partM, bors, callL, callI, callO, DL.flatV, DL.flat, List.filterMap_cons, List.filterMap_nil, List.map_cons, List.map_nil, List.getElem?_cons_zero, List.getElem?_cons_succ, List.getElem?_nil, List.set_cons_zero, List.set_cons_succ, List.cons_append, List.nil_append, List.length_cons, List.length_nil, Option.bind_some, Option.bind_none, Option.map_some, Option.map_none, Nat.reduceSub, Nat.reduceAdd, List.replicate_succ, List.replicate_zero, Bool.not_true, Bool.not_false, if_true, if_false, Bool.false_eq_true, reduceIte, decide_true, decide_false, Nat.reduceLT, Nat.reduceLeDiff, reduceCtorEq, Option.some.injEq, Prod.mk.injEq, addD, ← Int.natCast_add]
  · simp only [mb, mr, mo, nameM, conM, binM, unM, boolM, ifM, DL.andM, DL.orM, DL.notM, andV, orV, notV, chainM, nilA, consA, dvs, dv, ownAt, fzs, lstM, tupM, callM, callP, permL, fzv, seqS, skipS, ifS, setS, asg, freeAt, retS, retV, dropS, frz, frzS, asgS, nilG, consG, tupG, subG, listAt, methM, augS, augSubS, forS, seqM, treeV, startD, endV, bodyF, bodyI, startI, ioAt, slM, partM, bors, callL, callI, callO, DL.flatV, DL.flat, List.filterMap_cons, List.filterMap_nil, List.map_cons, List.map_nil, List.getElem?_cons_zero, List.getElem?_cons_succ, List.getElem?_nil, List.set_cons_zero, List.set_cons_succ, List.cons_append, List.nil_append, List.length_cons, List.length_nil, Option.bind_some, Option.bind_none, Option.map_some, Option.map_none, Nat.reduceSub, Nat.reduceAdd, List.replicate_succ, List.replicate_zero, Bool.not_true, Bool.not_false, if_true, if_false, Bool.false_eq_true, reduceIte, decide_true, decide_false, Nat.reduceLT, Nat.reduceLeDiff, reduceCtorEq, Option.some.injEq, Prod.mk.injEq, hm]
theorem tl_f1 {la lb : D} {b F : List Int} {i : Nat} {x : Int} {r1 r2 : Option D} (hlb : seq? lb = some (b.map .int)) (hx : x.natAbs < 2 ^ 200) (hb : ∀ y ∈ b, y.natAbs < 2 ^ 200) (hF : i + b.length ≤ F.length) :
    ∃ r : Option D × Option D, g_times_lines_f1 [.dat la, .dat lb, .own false (IL F), .dat (.int (i : Nat)), .dat (.int x), rw' r1, rw' r2] = some (.nx, [.dat la, .dat lb, .own false (IL (b.zipIdx.foldl (inL i x) F)), .dat (.int (i : Nat)), .dat (.int x), rw' r.1, rw' r.2]) := by
  unfold g_times_lines_f1
  have hi : enumA (consA (nameM 1) nilA) [.dat la, .dat lb, .own false (IL F), .dat (.int (i : Nat)), .dat (.int x), rw' r1, rw' r2] = some (b.zipIdx.map fun p => .tuple [.int (p.2 : Nat), .int p.1], [.dat la, .dat lb, .own false (IL F), .dat (.int (i : Nat)), .dat (.int x), rw' r1, rw' r2]) := by
    rw [← enum_ints]
    rcases seq_cases hlb with rfl | rfl <;> simp only [mb, mr, mo, nameM, conM, binM, unM, boolM, ifM, DL.andM, DL.orM, DL.notM, andV, orV, notV, chainM, nilA, consA, dvs, dv, ownAt, fzs, lstM, tupM, callM, callP, permL, fzv, seqS, skipS, ifS, setS, asg, fr_z_un, fr_z_dat, fr_z_rw, fr_z_own, fr_s, turnF, retS, retV, dropS, frz, frzS, asgS, nilG, consG, tupG, subG, listAt, methM, augS, augSubS, forS, seqM, treeV, startD, endV, bodyF, bodyI, startI, ioAt, slM, partM, bors, callL, callI, callO, DL.flatV, DL.flat, List.filterMap_cons, List.filterMap_nil, List.map_cons, List.map_nil, List.getElem?_cons_zero, List.getElem?_cons_succ, List.getElem?_nil, List.set_cons_zero, List.set_cons_succ, List.cons_append, List.nil_append, List.length_cons, List.length_nil, Option.bind_some, Option.bind_none, Option.map_some, Option.map_none, Nat.reduceSub, Nat.reduceAdd, List.replicate_succ, List.replicate_zero, Bool.not_true, Bool.not_false, if_true, if_false, Bool.false_eq_true, reduceIte, decide_true, decide_false, Nat.reduceLT, Nat.reduceLeDiff, reduceCtorEq, Option.some.injEq, Prod.mk.injEq, enumA]
  obtain ⟨r', e, -⟩ := for_fold (gt := tupG 2 (consG (asg 5) (consG (asg 6) nilG))) (body := g_times_lines_b1) (fun p : Int × Nat => .tuple [.int (p.2 : Nat), .int p.1]) (fun (G : List Int) (r : Option D × Option D) => [.dat la, .dat lb, .own false (IL G), .dat (.int (i : Nat)), .dat (.int x), rw' r.1, rw' r.2]) (inL i x) (fun k G => G.length = F.length) b.zipIdx (s0 := F) (r0 := (r1, r2)) rfl hi rfl (fun k p G r hk hG => by
    obtain ⟨hp, hkl, hpc, hpm⟩ := zipIdx_mem hk
    refine ⟨⟨(some (.int (p.2 : Nat)), some (.int p.1)), ?_⟩, by rw [inL, PL.bump_len]; exact hG⟩
    have e1 := tl_b1 (la := la) (lb := lb) (F := G) (i := i) (k := p.2) (x := x) (y := p.1) (n := .un) (m := .un) (by omega) (mulD_lt hx (hb _ hpm))
    generalize ((p.2 : Nat) : Int) = pk at e1 ⊢
    generalize ((i : Nat) : Int) = ik at e1 ⊢
    simp only [mb, mr, mo, nameM, conM, binM, unM, boolM, ifM, DL.andM, DL.orM, DL.notM, andV, orV, notV, chainM, nilA, consA, dvs, dv, ownAt, fzs, lstM, tupM, callM, callP, permL, fzv, seqS, skipS, ifS, setS, asg, fr_z_un, fr_z_dat, fr_z_rw, fr_z_own, fr_s, turnF, retS, retV, dropS, frz, frzS, asgS, nilG, consG, tupG, subG, listAt, methM, augS, augSubS, forS, seqM, treeV, startD, endV, bodyF, bodyI, startI, ioAt, slM, partM, bors, callL, callI, callO, DL.flatV, DL.flat, List.filterMap_cons, List.filterMap_nil, List.map_cons, List.map_nil, List.getElem?_cons_zero, List.getElem?_cons_succ, List.getElem?_nil, List.set_cons_zero, List.set_cons_succ, List.cons_append, List.nil_append, List.length_cons, List.length_nil, Option.bind_some, Option.bind_none, Option.map_some, Option.map_none, Nat.reduceSub, Nat.reduceAdd, List.replicate_succ, List.replicate_zero, Bool.not_true, Bool.not_false, if_true, if_false, Bool.false_eq_true, reduceIte, decide_true, decide_false, Nat.reduceLT, Nat.reduceLeDiff, reduceCtorEq, Option.some.injEq, Prod.mk.injEq, itemsOf, e1]
    rfl)
  exact ⟨r', e⟩
theorem tl_f2 {la lb : D} {a b F : List Int} {r1 r2 r3 r4 : Option D} (hla : seq? la = some (a.map .int)) (hlb : seq? lb = some (b.map .int)) (ha : ∀ y ∈ a, y.natAbs < 2 ^ 200) (hb : ∀ y ∈ b, y.natAbs < 2 ^ 200) (hF : a.length + b.length ≤ F.length + 1) :
    ∃ r : Option D × Option D × Option D × Option D, g_times_lines_f2 [.dat la, .dat lb, .own false (IL F), rw' r1, rw' r2, rw' r3, rw' r4] = some (.nx, [.dat la, .dat lb, .own false (IL (a.zipIdx.foldl (outL b) F)), rw' r.1, rw' r.2.1, rw' r.2.2.1, rw' r.2.2.2]) := by
  unfold g_times_lines_f2
  have hi : enumA (consA (nameM 0) nilA) [.dat la, .dat lb, .own false (IL F), rw' r1, rw' r2, rw' r3, rw' r4] = some (a.zipIdx.map fun p => .tuple [.int (p.2 : Nat), .int p.1], [.dat la, .dat lb, .own false (IL F), rw' r1, rw' r2, rw' r3, rw' r4]) := by
    rw [← enum_ints]
    rcases seq_cases hla with rfl | rfl <;> simp only [mb, mr, mo, nameM, conM, binM, unM, boolM, ifM, DL.andM, DL.orM, DL.notM, andV, orV, notV, chainM, nilA, consA, dvs, dv, ownAt, fzs, lstM, tupM, callM, callP, permL, fzv, seqS, skipS, ifS, setS, asg, fr_z_un, fr_z_dat, fr_z_rw, fr_z_own, fr_s, turnF, retS, retV, dropS, frz, frzS, asgS, nilG, consG, tupG, subG, listAt, methM, augS, augSubS, forS, seqM, treeV, startD, endV, bodyF, bodyI, startI, ioAt, slM, partM, bors, callL, callI, callO, DL.flatV, DL.flat, List.filterMap_cons, List.filterMap_nil, List.map_cons, List.map_nil, List.getElem?_cons_zero, List.getElem?_cons_succ, List.getElem?_nil, List.set_cons_zero, List.set_cons_succ, List.cons_append, List.nil_append, List.length_cons, List.length_nil, Option.bind_some, Option.bind_none, Option.map_some, Option.map_none, Nat.reduceSub, Nat.reduceAdd, List.replicate_succ, List.replicate_zero, Bool.not_true, Bool.not_false, if_true, if_false, Bool.false_eq_true, reduceIte, decide_true, decide_false, Nat.reduceLT, Nat.reduceLeDiff, reduceCtorEq, Option.some.injEq, Prod.mk.injEq, enumA]
  obtain ⟨r', e, -⟩ := for_fold (gt := tupG 2 (consG (asg 3) (consG (asg 4) nilG))) (body := g_times_lines_b2) (fun p : Int × Nat => .tuple [.int (p.2 : Nat), .int p.1]) (fun (G : List Int) (r : Option D × Option D × Option D × Option D) => [.dat la, .dat lb, .own false (IL G), rw' r.1, rw' r.2.1, rw' r.2.2.1, rw' r.2.2.2]) (outL b) (fun k G => G.length = F.length) a.zipIdx (s0 := F) (r0 := (r1, r2, r3, r4)) rfl hi rfl (fun k p G r hk hG => by
    obtain ⟨hp, hkl, hpc, hpm⟩ := zipIdx_mem hk
    refine ⟨?_, by rw [outL, PL.inL_len]; exact hG⟩
    obtain ⟨r', e1⟩ := tl_f1 (la := la) (F := G) (i := p.2) (x := p.1) (r1 := r.2.2.1) (r2 := r.2.2.2) hlb (ha _ hpm) hb (by omega)
    by_cases h0 : p.1 = 0
    · refine ⟨(some (.int (p.2 : Nat)), some (.int p.1), r.2.2.1, r.2.2.2), ?_⟩
      have e2 : outL b G p = G := by rw [outL, h0, PL.inL_zero]
      rw [e2]
      generalize ((p.2 : Nat) : Int) = pk
      simp only [mb, mr, mo, nameM, conM, binM, unM, boolM, ifM, DL.andM, DL.orM, DL.notM, andV, orV, notV, chainM, nilA, consA, dvs, dv, ownAt, fzs, lstM, tupM, callM, callP, permL, fzv, seqS, skipS, ifS, setS, asg, fr_z_un, fr_z_dat, fr_z_rw, fr_z_own, fr_s, turnF, retS, retV, dropS, frz, frzS, asgS, nilG, consG, tupG, subG, listAt, methM, augS, augSubS, forS, seqM, treeV, startD, endV, bodyF, bodyI, startI, ioAt, slM, partM, bors, callL, callI, callO, DL.flatV, DL.flat, List.filterMap_cons, List.filterMap_nil, List.map_cons, List.map_nil, List.getElem?_cons_zero, List.getElem?_cons_succ, List.getElem?_nil, List.set_cons_zero, List.set_cons_succ, List.cons_append, List.nil_append, List.length_cons, List.length_nil, Option.bind_some, Option.bind_none, Option.map_some, Option.map_none, Nat.reduceSub, Nat.reduceAdd, List.replicate_succ, List.replicate_zero, Bool.not_true, Bool.not_false, if_true, if_false, Bool.false_eq_true, reduceIte, decide_true, decide_false, Nat.reduceLT, Nat.reduceLeDiff, reduceCtorEq, Option.some.injEq, Prod.mk.injEq, itemsOf, g_times_lines_b2, neD_int, decide_eq_true h0]
      rfl
    · refine ⟨(some (.int (p.2 : Nat)), some (.int p.1), r'.1, r'.2), ?_⟩
      rw [outL]
      generalize (b.zipIdx.foldl (inL p.2 p.1) G) = G2 at e1 ⊢
      generalize ((p.2 : Nat) : Int) = pk at e1 ⊢
      simp only [mb, mr, mo, nameM, conM, binM, unM, boolM, ifM, DL.andM, DL.orM, DL.notM, andV, orV, notV, chainM, nilA, consA, dvs, dv, ownAt, fzs, lstM, tupM, callM, callP, permL, fzv, seqS, skipS, ifS, setS, asg, fr_z_un, fr_z_dat, fr_z_rw, fr_z_own, fr_s, turnF, retS, retV, dropS, frz, frzS, asgS, nilG, consG, tupG, subG, listAt, methM, augS, augSubS, forS, seqM, treeV, startD, endV, bodyF, bodyI, startI, ioAt, slM, partM, bors, callL, callI, callO, DL.flatV, DL.flat, List.filterMap_cons, List.filterMap_nil, List.map_cons, List.map_nil, List.getElem?_cons_zero, List.getElem?_cons_succ, List.getElem?_nil, List.set_cons_zero, List.set_cons_succ, List.cons_append, List.nil_append, List.length_cons, List.length_nil, Option.bind_some, Option.bind_none, Option.map_some, Option.map_none, Nat.reduceSub, Nat.reduceAdd, List.replicate_succ, List.replicate_zero, Bool.not_true, Bool.not_false, if_true, if_false, Bool.false_eq_true, reduceIte, decide_true, decide_false, Nat.reduceLT, Nat.reduceLeDiff, reduceCtorEq, Option.some.injEq, Prod.mk.injEq, itemsOf, g_times_lines_b2, neD_int, decide_eq_false h0, e1]
      rfl)
  exact ⟨r', e⟩
theorem tl_end {la lb z c : D} {k1 k2 : Int} {δ : DS} (h1 : lenD [la] = some (.fz (.int k1))) (h2 : lenD [lb] = some (.fz (.int k2))) (n1 : k1 ≠ 0) (n2 : k2 ≠ 0) (hz : mulD (.list [.int 0]) (.int (k1 + k2 - 1)) = some (.ow z))
    (hf : g_times_lines_f2 [.dat la, .dat lb, .own false z, .un, .un, .un, .un] = some (.nx, .dat la :: .dat lb :: .own false c :: δ)) (hd : δ.length = 4) : m_times_lines [la, lb] = some (.ow c) := by
  simp only [m_times_lines, g_times_lines, g_times_lines_s1, g_times_lines_s2, g_times_lines_s3, mb, mr, mo, nameM, conM, binM, unM, boolM, ifM, DL.andM, DL.orM, DL.notM, andV, orV, notV, chainM, nilA, consA, dvs, dv, ownAt, fzs, lstM, tupM, callM, callP, permL, fzv, seqS, skipS, ifS, setS, asg, freeAt, retS, retV, dropS, frz, frzS, asgS, nilG, consG, tupG, subG, listAt, methM, augS, augSubS, forS, seqM, treeV, startD, endV, bodyF, bodyI, startI, ioAt, slM, partM, bors, callL, callI, callO, DL.flatV, DL.flat, List.filterMap_cons, List.filterMap_nil, List.map_cons, List.map_nil, List.getElem?_cons_zero, List.getElem?_cons_succ, List.getElem?_nil, List.set_cons_zero, List.set_cons_succ, List.cons_append, List.nil_append, List.length_cons, List.length_nil, Option.bind_some, Option.bind_none, Option.map_some, Option.map_none, Nat.reduceSub, Nat.reduceAdd, List.replicate_succ, List.replicate_zero, Bool.not_true, Bool.not_false, if_true, if_false, Bool.false_eq_true, reduceIte, decide_true, decide_false, Nat.reduceLT, Nat.reduceLeDiff, reduceCtorEq, Option.some.injEq, Prod.mk.injEq, h1, h2, eqD_int, decide_eq_false n1, decide_eq_false n2, szOk1, addD, subI, intB, hz, hf]
theorem tl_nil {la lb : D} {k1 k2 : Int} (h1 : lenD [la] = some (.fz (.int k1))) (h2 : lenD [lb] = some (.fz (.int k2))) (n : k1 = 0 ∨ k2 = 0) : m_times_lines [la, lb] = some (.ow (.list [])) := by
  by_cases n1 : k1 = 0
  · simp only [m_times_lines, g_times_lines, g_times_lines_s1, g_times_lines_s2, g_times_lines_s3, mb, mr, mo, nameM, conM, binM, unM, boolM, ifM, DL.andM, DL.orM, DL.notM, andV, orV, notV, chainM, nilA, consA, dvs, dv, ownAt, fzs, lstM, tupM, callM, callP, permL, fzv, seqS, skipS, ifS, setS, asg, freeAt, retS, retV, dropS, frz, frzS, asgS, nilG, consG, tupG, subG, listAt, methM, augS, augSubS, forS, seqM, treeV, startD, endV, bodyF, bodyI, startI, ioAt, slM, partM, bors, callL, callI, callO, DL.flatV, DL.flat, List.filterMap_cons, List.filterMap_nil, List.map_cons, List.map_nil, List.getElem?_cons_zero, List.getElem?_cons_succ, List.getElem?_nil, List.set_cons_zero, List.set_cons_succ, List.cons_append, List.nil_append, List.length_cons, List.length_nil, Option.bind_some, Option.bind_none, Option.map_some, Option.map_none, Nat.reduceSub, Nat.reduceAdd, List.replicate_succ, List.replicate_zero, Bool.not_true, Bool.not_false, if_true, if_false, Bool.false_eq_true, reduceIte, decide_true, decide_false, Nat.reduceLT, Nat.reduceLeDiff, reduceCtorEq, Option.some.injEq, Prod.mk.injEq, h1, h2, eqD_int, decide_eq_true n1, szOk0]
  · simp only [m_times_lines, g_times_lines, g_times_lines_s1, g_times_lines_s2, g_times_lines_s3, mb, mr, mo, nameM, conM, binM, unM, boolM, ifM, DL.andM, DL.orM, DL.notM, andV, orV, notV, chainM, nilA, consA, dvs, dv, ownAt, fzs, lstM, tupM, callM, callP, permL, fzv, seqS, skipS, ifS, setS, asg, freeAt, retS, retV, dropS, frz, frzS, asgS, nilG, consG, tupG, subG, listAt, methM, augS, augSubS, forS, seqM, treeV, startD, endV, bodyF, bodyI, startI, ioAt, slM, partM, bors, callL, callI, callO, DL.flatV, DL.flat, List.filterMap_cons, List.filterMap_nil, List.map_cons, List.map_nil, List.getElem?_cons_zero, List.getElem?_cons_succ, List.getElem?_nil, List.set_cons_zero, List.set_cons_succ, List.cons_append, List.nil_append, List.length_cons, List.length_nil, Option.bind_some, Option.bind_none, Option.map_some, Option.map_none, Nat.reduceSub, Nat.reduceAdd, List.replicate_succ, List.replicate_zero, Bool.not_true, Bool.not_false, if_true, if_false, Bool.false_eq_true, reduceIte, decide_true, decide_false, Nat.reduceLT, Nat.reduceLeDiff, reduceCtorEq, Option.some.injEq, Prod.mk.injEq, h1, h2, eqD_int, decide_eq_false n1, decide_eq_true (n.resolve_left n1), szOk0]
/-- the program's product -/
def pr (a b : List Int) : List Int := if a = [] ∨ b = [] then [] else tms a b
theorem r_times {la lb : D} {a b : List Int} (hla : seq? la = some (a.map .int)) (hlb : seq? lb = some (b.map .int)) (ha : ∀ y ∈ a, y.natAbs < 2 ^ 200) (hb : ∀ y ∈ b, y.natAbs < 2 ^ 200) (hz : a.length ≤ 900) (hy : b.length ≤ 900) : m_times_lines [la, lb] = some (.ow (IL (pr a b))) := by
  unfold pr
  by_cases h : a = [] ∨ b = []
  · rw [if_pos h]
    exact tl_nil (len_ints hla) (len_ints hlb) (h.imp (fun e => by rw [e]; rfl) fun e => by rw [e]; rfl)
  · rw [if_neg h]
    have h1 : 0 < a.length := List.length_pos_iff.mpr fun z => h (.inl z)
    have h2 : 0 < b.length := List.length_pos_iff.mpr fun z => h (.inr z)
    obtain ⟨r, e⟩ := tl_f2 (F := List.replicate (a.length + b.length - 1) 0) (r1 := none) (r2 := none) (r3 := none) (r4 := none) hla hlb ha hb (by rw [List.length_replicate]; omega)
    refine tl_end (len_ints hla) (len_ints hlb) (by omega) (by omega) ?_ e rfl
    rw [show ((a.length : Nat) : Int) + (b.length : Nat) - 1 = ((a.length + b.length - 1 : Nat) : Int) by omega]
    exact rep_zeros _ (by omega)
theorem cf_pr (a b : List Int) (n : Nat) : cf (pr a b) n = cv (cf a) (cf b) n := by
  unfold pr
  split
  · rename_i h
    rw [PL.cf_nil]
    rcases h with rfl | rfl
    · exact (PL.cv_nil _ _).symm
    · rw [PL.cv_comm]
      exact (PL.cv_nil _ _).symm
  · exact PL.cf_tms a b n
theorem nz_pr {a b : List Int} (ha : Nz a) (hb : Nz b) : Nz (pr a b) := by
  unfold pr
  split
  · exact PL.nz_nil
  · rename_i h
    exact PL.nz_tms ha hb (fun z => h (.inl z)) fun z => h (.inr z)
theorem pr_len (a b : List Int) : (pr a b).length ≤ a.length + b.length - 1 := by
  unfold pr
  split
  · exact Nat.zero_le _
  · rw [PL.tms_len]
    exact Nat.le_refl _
end K11
end
section
set_option maxRecDepth 100000
set_option maxHeartbeats 1000000
namespace K11
open PySem PySem.Spec L2 DL
open PL (cf Nz cv vl sm tms inL outL outL')
/-! ### greatest divisors -/
theorem gcd_w {d e : D} {a b : Nat} (ha : a < 2 ^ 200) (hb : b < 2 ^ 200) : g_divisor_of_w1 [.dat d, .dat e, .dat (.int a), .dat (.int b)] = some (.nx, [.dat d, .dat e, .dat (.int (Nat.gcd a b)), .dat (.int 0)]) := by
  unfold g_divisor_of_w1
  refine gcd_gen (fun x y => [.dat d, .dat e, .dat (.int x), .dat (.int y)]) (fun x y => ?_) (fun x y q p h1 h2 => ?_) ha hb (by unfold fuel; decide)
  · simp only [g_divisor_of_t1, mb, mr, mo, nameM, conM, binM, unM, boolM, ifM, DL.andM, DL.orM, DL.notM, andV, orV, notV, chainM, nilA, consA, dvs, dv, ownAt, fzs, lstM, tupM, callM, callP, permL, fzv, seqS, skipS, ifS, setS, asg, freeAt, retS, retV, dropS, frz, frzS, asgS, nilG, consG, tupG, subG, listAt, methM, augS, augSubS, forS, seqM, treeV, startD, endV, bodyF, bodyI, startI, ioAt, slM, partM, bors, callL, callI, callO, DL.flatV, DL.flat, List.filterMap_cons, List.filterMap_nil, List.map_cons, List.map_nil, List.getElem?_cons_zero, List.getElem?_cons_succ, List.getElem?_nil, List.set_cons_zero, List.set_cons_succ, List.cons_append, List.nil_append, List.length_cons, List.length_nil, Option.bind_some, Option.bind_none, Option.map_some, Option.map_none, Nat.reduceSub, Nat.reduceAdd, List.replicate_succ, List.replicate_zero, Bool.not_true, Bool.not_false, if_true, if_false, Bool.false_eq_true, reduceIte, decide_true, decide_false, Nat.reduceLT, Nat.reduceLeDiff, reduceCtorEq, Option.some.injEq, Prod.mk.injEq, neD_int]
  · simp only [g_divisor_of_b1, parS, mb, mr, mo, nameM, conM, binM, unM, boolM, ifM, DL.andM, DL.orM, DL.notM, andV, orV, notV, chainM, nilA, consA, dvs, dv, ownAt, fzs, lstM, tupM, callM, callP, permL, fzv, seqS, skipS, ifS, setS, asg, freeAt, retS, retV, dropS, frz, frzS, asgS, nilG, consG, tupG, subG, listAt, methM, augS, augSubS, forS, seqM, treeV, startD, endV, bodyF, bodyI, startI, ioAt, slM, partM, bors, callL, callI, callO, DL.flatV, DL.flat, List.filterMap_cons, List.filterMap_nil, List.map_cons, List.map_nil, List.getElem?_cons_zero, List.getElem?_cons_succ, List.getElem?_nil, List.set_cons_zero, List.set_cons_succ, List.cons_append, List.nil_append, List.length_cons, List.length_nil, Option.bind_some, Option.bind_none, Option.map_some, Option.map_none, Nat.reduceSub, Nat.reduceAdd, List.replicate_succ, List.replicate_zero, Bool.not_true, Bool.not_false, if_true, if_false, Bool.false_eq_true, reduceIte, decide_true, decide_false, Nat.reduceLT, Nat.reduceLeDiff, reduceCtorEq, Option.some.injEq, Prod.mk.injEq, h1, h2, subI, intB]
theorem div_end {i j a b c : Int} (h1 : absD [.int i] = some (.fz (.int a))) (h2 : absD [.int j] = some (.fz (.int b))) (hw : g_divisor_of_w1 [.dat (.int i), .dat (.int j), .dat (.int a), .dat (.int b)] = some (.nx, [.dat (.int i), .dat (.int j), .dat (.int c), .dat (.int 0)])) : m_divisor_of [.int i, .int j] = some (.fz (.int c)) := by
  simp only [m_divisor_of, g_divisor_of, g_divisor_of_s1, g_divisor_of_s2, parS, mb, mr, mo, nameM, conM, binM, unM, boolM, ifM, DL.andM, DL.orM, DL.notM, andV, orV, notV, chainM, nilA, consA, dvs, dv, ownAt, fzs, lstM, tupM, callM, callP, permL, fzv, seqS, skipS, ifS, setS, asg, freeAt, retS, retV, dropS, frz, frzS, asgS, nilG, consG, tupG, subG, listAt, methM, augS, augSubS, forS, seqM, treeV, startD, endV, bodyF, bodyI, startI, ioAt, slM, partM, bors, callL, callI, callO, DL.flatV, DL.flat, List.filterMap_cons, List.filterMap_nil, List.map_cons, List.map_nil, List.getElem?_cons_zero, List.getElem?_cons_succ, List.getElem?_nil, List.set_cons_zero, List.set_cons_succ, List.cons_append, List.nil_append, List.length_cons, List.length_nil, Option.bind_some, Option.bind_none, Option.map_some, Option.map_none, Nat.reduceSub, Nat.reduceAdd, List.replicate_succ, List.replicate_zero, Bool.not_true, Bool.not_false, if_true, if_false, Bool.false_eq_true, reduceIte, decide_true, decide_false, Nat.reduceLT, Nat.reduceLeDiff, reduceCtorEq, Option.some.injEq, Prod.mk.injEq, h1, h2, hw]
theorem r_divisor {i j : Int} (hi : i.natAbs < 2 ^ 200) (hj : j.natAbs < 2 ^ 200) : m_divisor_of [.int i, .int j] = some (.fz (.int (Nat.gcd i.natAbs j.natAbs))) := div_end (absD_int i) (absD_int j) (gcd_w hi hj)
theorem gcd_lt {g k : Nat} (h : g < 2 ^ 200) (hk : k < 2 ^ 200) : Nat.gcd g k < 2 ^ 200 := by
  by_cases h0 : g = 0
  · subst h0
    rw [Nat.gcd_zero_left]
    exact hk
  · exact Nat.lt_of_le_of_lt (Nat.gcd_le_left _ (Nat.pos_of_ne_zero h0)) h
theorem great_b1 {d : D} {g x v : Int} (h : m_divisor_of [.int g, .int x] = some (.fz (.int v))) : g_greatest_of_b1 [.dat d, .dat (.int g), .dat (.int x)] = some (.nx, [.dat d, .dat (.int v), .dat (.int x)]) := by
  simp only [g_greatest_of_b1, mb, mr, mo, nameM, conM, binM, unM, boolM, ifM, DL.andM, DL.orM, DL.notM, andV, orV, notV, chainM, nilA, consA, dvs, dv, ownAt, fzs, lstM, tupM, callM, callP, permL, fzv, seqS, skipS, ifS, setS, asg, freeAt, retS, retV, dropS, frz, frzS, asgS, nilG, consG, tupG, subG, listAt, methM, augS, augSubS, forS, seqM, treeV, startD, endV, bodyF, bodyI, startI, ioAt, slM, partM, bors, callL, callI, callO, DL.flatV, DL.flat, List.filterMap_cons, List.filterMap_nil, List.map_cons, List.map_nil, List.getElem?_cons_zero, List.getElem?_cons_succ, List.getElem?_nil, List.set_cons_zero, List.set_cons_succ, List.cons_append, List.nil_append, List.length_cons, List.length_nil, Option.bind_some, Option.bind_none, Option.map_some, Option.map_none, Nat.reduceSub, Nat.reduceAdd, List.replicate_succ, List.replicate_zero, Bool.not_true, Bool.not_false, if_true, if_false, Bool.false_eq_true, reduceIte, decide_true, decide_false, Nat.reduceLT, Nat.reduceLeDiff, reduceCtorEq, Option.some.injEq, Prod.mk.injEq, h]
theorem great_end {d : D} {v : Int} {s : Sl} (h : g_greatest_of_f1 [.dat d, .dat (.int 0), .un] = some (.nx, [.dat d, .dat (.int v), s])) : m_greatest_of [d] = some (.fz (.int v)) := by
  simp only [m_greatest_of, g_greatest_of, g_greatest_of_s1, g_greatest_of_s2, mb, mr, mo, nameM, conM, binM, unM, boolM, ifM, DL.andM, DL.orM, DL.notM, andV, orV, notV, chainM, nilA, consA, dvs, dv, ownAt, fzs, lstM, tupM, callM, callP, permL, fzv, seqS, skipS, ifS, setS, asg, freeAt, retS, retV, dropS, frz, frzS, asgS, nilG, consG, tupG, subG, listAt, methM, augS, augSubS, forS, seqM, treeV, startD, endV, bodyF, bodyI, startI, ioAt, slM, partM, bors, callL, callI, callO, DL.flatV, DL.flat, List.filterMap_cons, List.filterMap_nil, List.map_cons, List.map_nil, List.getElem?_cons_zero, List.getElem?_cons_succ, List.getElem?_nil, List.set_cons_zero, List.set_cons_succ, List.cons_append, List.nil_append, List.length_cons, List.length_nil, Option.bind_some, Option.bind_none, Option.map_some, Option.map_none, Nat.reduceSub, Nat.reduceAdd, List.replicate_succ, List.replicate_zero, Bool.not_true, Bool.not_false, if_true, if_false, Bool.false_eq_true, reduceIte, decide_true, decide_false, Nat.reduceLT, Nat.reduceLeDiff, reduceCtorEq, Option.some.injEq, Prod.mk.injEq, h]
theorem r_greatest {d : D} {a : List Int} (hd : seq? d = some (a.map .int)) (ha : ∀ y ∈ a, y.natAbs < 2 ^ 200) : m_greatest_of [d] = some (.fz (.int (gl a))) := by
  have hi : seqM (nameM 0) [.dat d, .dat (.int 0), .un] = some (a.map .int, [.dat d, .dat (.int 0), .un]) := by
    rcases seq_cases hd with rfl | rfl <;> simp only [mb, mr, mo, nameM, conM, binM, unM, boolM, ifM, DL.andM, DL.orM, DL.notM, andV, orV, notV, chainM, nilA, consA, dvs, dv, ownAt, fzs, lstM, tupM, callM, callP, permL, fzv, seqS, skipS, ifS, setS, asg, fr_z_un, fr_z_dat, fr_z_rw, fr_z_own, fr_s, turnF, retS, retV, dropS, frz, frzS, asgS, nilG, consG, tupG, subG, listAt, methM, augS, augSubS, forS, seqM, treeV, startD, endV, bodyF, bodyI, startI, ioAt, slM, partM, bors, callL, callI, callO, DL.flatV, DL.flat, List.filterMap_cons, List.filterMap_nil, List.map_cons, List.map_nil, List.getElem?_cons_zero, List.getElem?_cons_succ, List.getElem?_nil, List.set_cons_zero, List.set_cons_succ, List.cons_append, List.nil_append, List.length_cons, List.length_nil, Option.bind_some, Option.bind_none, Option.map_some, Option.map_none, Nat.reduceSub, Nat.reduceAdd, List.replicate_succ, List.replicate_zero, Bool.not_true, Bool.not_false, if_true, if_false, Bool.false_eq_true, reduceIte, decide_true, decide_false, Nat.reduceLT, Nat.reduceLeDiff, reduceCtorEq, Option.some.injEq, Prod.mk.injEq, itemsOf]
  obtain ⟨r', e, -⟩ := for_fold (gt := asg 2) (body := g_greatest_of_b1) (fun x : Int => .int x) (fun (g : Nat) (r : Option D) => [.dat d, .dat (.int g), rw' r]) (fun g x => Nat.gcd g x.natAbs) (fun k g => g < 2 ^ 200) a (s0 := 0) (r0 := none) rfl hi (by decide) (fun k x g r hk hg => by
    have hx := ha x (List.mem_of_getElem? hk)
    refine ⟨⟨some (.int x), ?_⟩, gcd_lt hg hx⟩
    have e := great_b1 (d := d) (r_divisor (i := (g : Int)) (j := x) (by rw [Int.natAbs_natCast]; exact hg) hx)
    rw [Int.natAbs_natCast] at e
    generalize ((Nat.gcd g x.natAbs : Nat) : Int) = v at e ⊢
    simp only [mb, mr, mo, nameM, conM, binM, unM, boolM, ifM, DL.andM, DL.orM, DL.notM, andV, orV, notV, chainM, nilA, consA, dvs, dv, ownAt, fzs, lstM, tupM, callM, callP, permL, fzv, seqS, skipS, ifS, setS, asg, fr_z_un, fr_z_dat, fr_z_rw, fr_z_own, fr_s, turnF, retS, retV, dropS, frz, frzS, asgS, nilG, consG, tupG, subG, listAt, methM, augS, augSubS, forS, seqM, treeV, startD, endV, bodyF, bodyI, startI, ioAt, slM, partM, bors, callL, callI, callO, DL.flatV, DL.flat, List.filterMap_cons, List.filterMap_nil, List.map_cons, List.map_nil, List.getElem?_cons_zero, List.getElem?_cons_succ, List.getElem?_nil, List.set_cons_zero, List.set_cons_succ, List.cons_append, List.nil_append, List.length_cons, List.length_nil, Option.bind_some, Option.bind_none, Option.map_some, Option.map_none, Nat.reduceSub, Nat.reduceAdd, List.replicate_succ, List.replicate_zero, Bool.not_true, Bool.not_false, if_true, if_false, Bool.false_eq_true, reduceIte, decide_true, decide_false, Nat.reduceLT, Nat.reduceLeDiff, reduceCtorEq, Option.some.injEq, Prod.mk.injEq, e]
    rfl)
  exact great_end e
theorem lgreat_b2 {d : D} {g x v u : Int} {r : Option D} (h1 : absD [.int x] = some (.fz (.int u))) (hw : g__law_greatest_w1 [.dat d, .dat (.int g), .dat (.int x), .dat (.int u)] = some (.nx, [.dat d, .dat (.int v), .dat (.int x), .dat (.int 0)])) : g__law_greatest_b2 [.dat d, .dat (.int g), .dat (.int x), rw' r] = some (.nx, [.dat d, .dat (.int v), .dat (.int x), .dat (.int 0)]) := by
  simp only [g__law_greatest_b2, mb, mr, mo, nameM, conM, binM, unM, boolM, ifM, DL.andM, DL.orM, DL.notM, andV, orV, notV, chainM, nilA, consA, dvs, dv, ownAt, fzs, lstM, tupM, callM, callP, permL, fzv, seqS, skipS, ifS, setS, asg, fr_z_un, fr_z_dat, fr_z_rw, fr_z_own, fr_s, turnF, retS, retV, dropS, frz, frzS, asgS, nilG, consG, tupG, subG, listAt, methM, augS, augSubS, forS, seqM, treeV, startD, endV, bodyF, bodyI, startI, ioAt, slM, partM, bors, callL, callI, callO, DL.flatV, DL.flat, List.filterMap_cons, List.filterMap_nil, List.map_cons, List.map_nil, List.getElem?_cons_zero, List.getElem?_cons_succ, List.getElem?_nil, List.set_cons_zero, List.set_cons_succ, List.cons_append, List.nil_append, List.length_cons, List.length_nil, Option.bind_some, Option.bind_none, Option.map_some, Option.map_none, Nat.reduceSub, Nat.reduceAdd, List.replicate_succ, List.replicate_zero, Bool.not_true, Bool.not_false, if_true, if_false, Bool.false_eq_true, reduceIte, decide_true, decide_false, Nat.reduceLT, Nat.reduceLeDiff, reduceCtorEq, Option.some.injEq, Prod.mk.injEq, h1, hw]
theorem lgreat_end {d : D} {v : Int} {s t : Sl} (h : g__law_greatest_f1 [.dat d, .dat (.int 0), .un, .un] = some (.nx, [.dat d, .dat (.int v), s, t])) : m__law_greatest [d] = some (.fz (.int v)) := by
  simp only [m__law_greatest, g__law_greatest, g__law_greatest_s1, g__law_greatest_s2, mb, mr, mo, nameM, conM, binM, unM, boolM, ifM, DL.andM, DL.orM, DL.notM, andV, orV, notV, chainM, nilA, consA, dvs, dv, ownAt, fzs, lstM, tupM, callM, callP, permL, fzv, seqS, skipS, ifS, setS, asg, freeAt, retS, retV, dropS, frz, frzS, asgS, nilG, consG, tupG, subG, listAt, methM, augS, augSubS, forS, seqM, treeV, startD, endV, bodyF, bodyI, startI, ioAt, slM, partM, bors, callL, callI, callO, DL.flatV, DL.flat, List.filterMap_cons, List.filterMap_nil, List.map_cons, List.map_nil, List.getElem?_cons_zero, List.getElem?_cons_succ, List.getElem?_nil, List.set_cons_zero, List.set_cons_succ, List.cons_append, List.nil_append, List.length_cons, List.length_nil, Option.bind_some, Option.bind_none, Option.map_some, Option.map_none, Nat.reduceSub, Nat.reduceAdd, List.replicate_succ, List.replicate_zero, Bool.not_true, Bool.not_false, if_true, if_false, Bool.false_eq_true, reduceIte, decide_true, decide_false, Nat.reduceLT, Nat.reduceLeDiff, reduceCtorEq, Option.some.injEq, Prod.mk.injEq, h]
theorem r_law_greatest {d : D} {a : List Int} (hd : seq? d = some (a.map .int)) (ha : ∀ y ∈ a, y.natAbs < 2 ^ 200) : m__law_greatest [d] = some (.fz (.int (gl a))) := by
  have hi : seqM (nameM 0) [.dat d, .dat (.int 0), .un, .un] = some (a.map .int, [.dat d, .dat (.int 0), .un, .un]) := by
    rcases seq_cases hd with rfl | rfl <;> simp only [mb, mr, mo, nameM, conM, binM, unM, boolM, ifM, DL.andM, DL.orM, DL.notM, andV, orV, notV, chainM, nilA, consA, dvs, dv, ownAt, fzs, lstM, tupM, callM, callP, permL, fzv, seqS, skipS, ifS, setS, asg, fr_z_un, fr_z_dat, fr_z_rw, fr_z_own, fr_s, turnF, retS, retV, dropS, frz, frzS, asgS, nilG, consG, tupG, subG, listAt, methM, augS, augSubS, forS, seqM, treeV, startD, endV, bodyF, bodyI, startI, ioAt, slM, partM, bors, callL, callI, callO, DL.flatV, DL.flat, List.filterMap_cons, List.filterMap_nil, List.map_cons, List.map_nil, List.getElem?_cons_zero, List.getElem?_cons_succ, List.getElem?_nil, List.set_cons_zero, List.set_cons_succ, List.cons_append, List.nil_append, List.length_cons, List.length_nil, Option.bind_some, Option.bind_none, Option.map_some, Option.map_none, Nat.reduceSub, Nat.reduceAdd, List.replicate_succ, List.replicate_zero, Bool.not_true, Bool.not_false, if_true, if_false, Bool.false_eq_true, reduceIte, decide_true, decide_false, Nat.reduceLT, Nat.reduceLeDiff, reduceCtorEq, Option.some.injEq, Prod.mk.injEq, itemsOf]
  obtain ⟨r', e, -⟩ := for_fold (gt := asg 2) (body := g__law_greatest_b2) (fun x : Int => .int x) (fun (g : Nat) (r : Option D × Option D) => [.dat d, .dat (.int g), rw' r.1, rw' r.2]) (fun g x => Nat.gcd g x.natAbs) (fun k g => g < 2 ^ 200) a (s0 := 0) (r0 := (none, none)) rfl hi (by decide) (fun k x g r hk hg => by
    have hx := ha x (List.mem_of_getElem? hk)
    refine ⟨⟨(some (.int x), some (.int 0)), ?_⟩, gcd_lt hg hx⟩
    have hw : g__law_greatest_w1 [.dat d, .dat (.int (g : Nat)), .dat (.int x), .dat (.int (x.natAbs : Nat))] = some (.nx, [.dat d, .dat (.int (Nat.gcd g x.natAbs : Nat)), .dat (.int x), .dat (.int 0)]) := by
      unfold g__law_greatest_w1
      refine gcd_gen (fun u v => [.dat d, .dat (.int u), .dat (.int x), .dat (.int v)]) (fun x y => ?_) (fun x y q p h1 h2 => ?_) hg hx (by unfold fuel; decide)
      · simp only [g__law_greatest_t1, mb, mr, mo, nameM, conM, binM, unM, boolM, ifM, DL.andM, DL.orM, DL.notM, andV, orV, notV, chainM, nilA, consA, dvs, dv, ownAt, fzs, lstM, tupM, callM, callP, permL, fzv, seqS, skipS, ifS, setS, asg, freeAt, retS, retV, dropS, frz, frzS, asgS, nilG, consG, tupG, subG, listAt, methM, augS, augSubS, forS, seqM, treeV, startD, endV, bodyF, bodyI, startI, ioAt, slM, partM, bors, callL, callI, callO, DL.flatV, DL.flat, List.filterMap_cons, List.filterMap_nil, List.map_cons, List.map_nil, List.getElem?_cons_zero, List.getElem?_cons_succ, List.getElem?_nil, List.set_cons_zero, List.set_cons_succ, List.cons_append, List.nil_append, List.length_cons, List.length_nil, Option.bind_some, Option.bind_none, Option.map_some, Option.map_none, Nat.reduceSub, Nat.reduceAdd, List.replicate_succ, List.replicate_zero, Bool.not_true, Bool.not_false, if_true, if_false, Bool.false_eq_true, reduceIte, decide_true, decide_false, Nat.reduceLT, Nat.reduceLeDiff, reduceCtorEq, Option.some.injEq, Prod.mk.injEq, neD_int]
      · simp only [g__law_greatest_b1, parS, mb, mr, mo, nameM, conM, binM, unM, boolM, ifM, DL.andM, DL.orM, DL.notM, andV, orV, notV, chainM, nilA, consA, dvs, dv, ownAt, fzs, lstM, tupM, callM, callP, permL, fzv, seqS, skipS, ifS, setS, asg, freeAt, retS, retV, dropS, frz, frzS, asgS, nilG, consG, tupG, subG, listAt, methM, augS, augSubS, forS, seqM, treeV, startD, endV, bodyF, bodyI, startI, ioAt, slM, partM, bors, callL, callI, callO, DL.flatV, DL.flat, List.filterMap_cons, List.filterMap_nil, List.map_cons, List.map_nil, List.getElem?_cons_zero, List.getElem?_cons_succ, List.getElem?_nil, List.set_cons_zero, List.set_cons_succ, List.cons_append, List.nil_append, List.length_cons, List.length_nil, Option.bind_some, Option.bind_none, Option.map_some, Option.map_none, Nat.reduceSub, Nat.reduceAdd, List.replicate_succ, List.replicate_zero, Bool.not_true, Bool.not_false, if_true, if_false, Bool.false_eq_true, reduceIte, decide_true, decide_false, Nat.reduceLT, Nat.reduceLeDiff, reduceCtorEq, Option.some.injEq, Prod.mk.injEq, h1, h2, subI, intB]
    have e := lgreat_b2 (r := r.2) (absD_int x) hw
    generalize ((Nat.gcd g x.natAbs : Nat) : Int) = v at e ⊢
    generalize ((g : Nat) : Int) = w at e ⊢
    simp only [mb, mr, mo, nameM, conM, binM, unM, boolM, ifM, DL.andM, DL.orM, DL.notM, andV, orV, notV, chainM, nilA, consA, dvs, dv, ownAt, fzs, lstM, tupM, callM, callP, permL, fzv, seqS, skipS, ifS, setS, asg, fr_z_un, fr_z_dat, fr_z_rw, fr_z_own, fr_s, turnF, retS, retV, dropS, frz, frzS, asgS, nilG, consG, tupG, subG, listAt, methM, augS, augSubS, forS, seqM, treeV, startD, endV, bodyF, bodyI, startI, ioAt, slM, partM, bors, callL, callI, callO, DL.flatV, DL.flat, List.filterMap_cons, List.filterMap_nil, List.map_cons, List.map_nil, List.getElem?_cons_zero, List.getElem?_cons_succ, List.getElem?_nil, List.set_cons_zero, List.set_cons_succ, List.cons_append, List.nil_append, List.length_cons, List.length_nil, Option.bind_some, Option.bind_none, Option.map_some, Option.map_none, Nat.reduceSub, Nat.reduceAdd, List.replicate_succ, List.replicate_zero, Bool.not_true, Bool.not_false, if_true, if_false, Bool.false_eq_true, reduceIte, decide_true, decide_false, Nat.reduceLT, Nat.reduceLeDiff, reduceCtorEq, Option.some.injEq, Prod.mk.injEq, e]
    rfl)
  exact lgreat_end e
end K11
end
section
set_option maxRecDepth 100000
set_option maxHeartbeats 1000000
namespace K11
open PySem PySem.Spec L2 DL
open PL (cf Nz cv vl sm tms inL outL outL')
/-! ### plain lines -/
theorem div_comp {d : D} {g : Int} {a : List Int} (hd : seq? d = some (a.map .int)) (h0 : g ≠ 0) (hg : g.natAbs < 2 ^ 200) (hz : a.length ≤ 900) : compM (seqM (nameM 0)) (asg 2) (mr true) (binM fdivD (nameM 2) (nameM 1)) [2] [.dat d, .dat (.int g), .un] = some (.ow (IL (a.map fun x => x.fdiv g)), [.dat d, .dat (.int g), .un]) := by
  have hi : seqM (nameM 0) [.dat d, .dat (.int g), .un] = some (a.map .int, [.dat d, .dat (.int g), .un]) := by
    rcases seq_cases hd with rfl | rfl <;> simp only [mb, mr, mo, nameM, conM, binM, unM, boolM, ifM, DL.andM, DL.orM, DL.notM, andV, orV, notV, chainM, nilA, consA, dvs, dv, ownAt, fzs, lstM, tupM, callM, callP, permL, fzv, seqS, skipS, ifS, setS, asg, fr_z_un, fr_z_dat, fr_z_rw, fr_z_own, fr_s, turnF, retS, retV, dropS, frz, frzS, asgS, nilG, consG, tupG, subG, listAt, methM, augS, augSubS, forS, seqM, treeV, startD, endV, bodyF, bodyI, startI, ioAt, slM, partM, bors, callL, callI, callO, DL.flatV, DL.flat, List.filterMap_cons, List.filterMap_nil, List.map_cons, List.map_nil, List.getElem?_cons_zero, List.getElem?_cons_succ, List.getElem?_nil, List.set_cons_zero, List.set_cons_succ, List.cons_append, List.nil_append, List.length_cons, List.length_nil, Option.bind_some, Option.bind_none, Option.map_some, Option.map_none, Nat.reduceSub, Nat.reduceAdd, List.replicate_succ, List.replicate_zero, Bool.not_true, Bool.not_false, if_true, if_false, Bool.false_eq_true, reduceIte, decide_true, decide_false, Nat.reduceLT, Nat.reduceLeDiff, reduceCtorEq, Option.some.injEq, Prod.mk.injEq, itemsOf]
  rw [comp_map (gt := asg 2) (fe := binM fdivD (nameM 2) (nameM 1)) (vs := [2]) a (fun x => .int x) (fun x => .int (x.fdiv g)) (fun x => [.dat d, .dat (.int g), .dat (.int x)]) hi rfl rfl (by omega) (fun x hx => by
    have hf := fdivD_lt (i := x) h0 hg
    exact ⟨rfl, ⟨.fz (.int (x.fdiv g)), by simp only [mb, mr, mo, nameM, conM, binM, unM, boolM, ifM, DL.andM, DL.orM, DL.notM, andV, orV, notV, chainM, nilA, consA, dvs, dv, ownAt, fzs, lstM, tupM, callM, callP, permL, fzv, seqS, skipS, ifS, setS, asg, fr_z_un, fr_z_dat, fr_z_rw, fr_z_own, fr_s, turnF, retS, retV, dropS, frz, frzS, asgS, nilG, consG, tupG, subG, listAt, methM, augS, augSubS, forS, seqM, treeV, startD, endV, bodyF, bodyI, startI, ioAt, slM, partM, bors, callL, callI, callO, DL.flatV, DL.flat, List.filterMap_cons, List.filterMap_nil, List.map_cons, List.map_nil, List.getElem?_cons_zero, List.getElem?_cons_succ, List.getElem?_nil, List.set_cons_zero, List.set_cons_succ, List.cons_append, List.nil_append, List.length_cons, List.length_nil, Option.bind_some, Option.bind_none, Option.map_some, Option.map_none, Nat.reduceSub, Nat.reduceAdd, List.replicate_succ, List.replicate_zero, Bool.not_true, Bool.not_false, if_true, if_false, Bool.false_eq_true, reduceIte, decide_true, decide_false, Nat.reduceLT, Nat.reduceLeDiff, reduceCtorEq, Option.some.injEq, Prod.mk.injEq, hf], rfl⟩, rfl⟩)]
  unfold IL
  rw [List.map_map]
  rfl
theorem plain_nil {d : D} (h1 : lenD [d] = some (.fz (.int 0))) : m_plain_of [d] = some (.ow (.list [])) := by
  simp only [m_plain_of, g_plain_of, g_plain_of_s1, g_plain_of_s2, g_plain_of_s3, g_plain_of_s4, mb, mr, mo, nameM, conM, binM, unM, boolM, ifM, DL.andM, DL.orM, DL.notM, andV, orV, notV, chainM, nilA, consA, dvs, dv, ownAt, fzs, lstM, tupM, callM, callP, permL, fzv, seqS, skipS, ifS, setS, asg, freeAt, retS, retV, dropS, frz, frzS, asgS, nilG, consG, tupG, subG, listAt, methM, augS, augSubS, forS, seqM, treeV, startD, endV, bodyF, bodyI, startI, ioAt, slM, partM, bors, callL, callI, callO, DL.flatV, DL.flat, List.filterMap_cons, List.filterMap_nil, List.map_cons, List.map_nil, List.getElem?_cons_zero, List.getElem?_cons_succ, List.getElem?_nil, List.set_cons_zero, List.set_cons_succ, List.cons_append, List.nil_append, List.length_cons, List.length_nil, Option.bind_some, Option.bind_none, Option.map_some, Option.map_none, Nat.reduceSub, Nat.reduceAdd, List.replicate_succ, List.replicate_zero, Bool.not_true, Bool.not_false, if_true, if_false, Bool.false_eq_true, reduceIte, decide_true, decide_false, Nat.reduceLT, Nat.reduceLeDiff, reduceCtorEq, Option.some.injEq, Prod.mk.injEq, h1, eqD_int, szOk0, decide_eq_true]
theorem plain_end {d c : D} {k g l g' : Int} (h1 : lenD [d] = some (.fz (.int k))) (hk : k ≠ 0) (h2 : m_greatest_of [d] = some (.fz (.int g))) (h3 : ixD d (.int (-1)) = some (.fz (.int l))) (hg : (if l < 0 then 0 - g else g) = g')
    (hc : g_plain_of_c1 [.dat d, .dat (.int g'), .un] = some (.ow c, [.dat d, .dat (.int g'), .un])) : m_plain_of [d] = some (.ow c) := by
  by_cases hl : l < 0
  · rw [if_pos hl] at hg
    simp only [m_plain_of, g_plain_of, g_plain_of_s1, g_plain_of_s2, g_plain_of_s3, g_plain_of_s4, mb, mr, mo, nameM, conM, binM, unM, boolM, ifM, DL.andM, DL.orM, DL.notM, andV, orV, notV, chainM, nilA, consA, dvs, dv, ownAt, fzs, lstM, tupM, callM, callP, permL, fzv, seqS, skipS, ifS, setS, asg, freeAt, retS, retV, dropS, frz, frzS, asgS, nilG, consG, tupG, subG, listAt, methM, augS, augSubS, forS, seqM, treeV, startD, endV, bodyF, bodyI, startI, ioAt, slM, partM, bors, callL, callI, callO, DL.flatV, DL.flat, List.filterMap_cons, List.filterMap_nil, List.map_cons, List.map_nil, List.getElem?_cons_zero, List.getElem?_cons_succ, List.getElem?_nil, List.set_cons_zero, List.set_cons_succ, List.cons_append, List.nil_append, List.length_cons, List.length_nil, Option.bind_some, Option.bind_none, Option.map_some, Option.map_none, Nat.reduceSub, Nat.reduceAdd, List.replicate_succ, List.replicate_zero, Bool.not_true, Bool.not_false, if_true, if_false, Bool.false_eq_true, reduceIte, decide_true, decide_false, Nat.reduceLT, Nat.reduceLeDiff, reduceCtorEq, Option.some.injEq, Prod.mk.injEq, h1, eqD_int, decide_eq_false hk, h2, negI, h3, ltI, subI, intB, decide_eq_true hl, hg, hc]
  · rw [if_neg hl] at hg
    simp only [m_plain_of, g_plain_of, g_plain_of_s1, g_plain_of_s2, g_plain_of_s3, g_plain_of_s4, mb, mr, mo, nameM, conM, binM, unM, boolM, ifM, DL.andM, DL.orM, DL.notM, andV, orV, notV, chainM, nilA, consA, dvs, dv, ownAt, fzs, lstM, tupM, callM, callP, permL, fzv, seqS, skipS, ifS, setS, asg, freeAt, retS, retV, dropS, frz, frzS, asgS, nilG, consG, tupG, subG, listAt, methM, augS, augSubS, forS, seqM, treeV, startD, endV, bodyF, bodyI, startI, ioAt, slM, partM, bors, callL, callI, callO, DL.flatV, DL.flat, List.filterMap_cons, List.filterMap_nil, List.map_cons, List.map_nil, List.getElem?_cons_zero, List.getElem?_cons_succ, List.getElem?_nil, List.set_cons_zero, List.set_cons_succ, List.cons_append, List.nil_append, List.length_cons, List.length_nil, Option.bind_some, Option.bind_none, Option.map_some, Option.map_none, Nat.reduceSub, Nat.reduceAdd, List.replicate_succ, List.replicate_zero, Bool.not_true, Bool.not_false, if_true, if_false, Bool.false_eq_true, reduceIte, decide_true, decide_false, Nat.reduceLT, Nat.reduceLeDiff, reduceCtorEq, Option.some.injEq, Prod.mk.injEq, h1, eqD_int, decide_eq_false hk, h2, negI, h3, ltI, subI, intB, decide_eq_false hl, hg, hc]
theorem r_plain {d : D} {a : List Int} (hd : seq? d = some (a.map .int)) (hn : Nz a) (ha : ∀ y ∈ a, y.natAbs < 2 ^ 200) (hz : a.length ≤ 900) : m_plain_of [d] = some (.ow (IL (pln a))) := by
  by_cases h : a = []
  · subst h
    exact plain_nil (len_ints hd)
  · have hp := List.length_pos_iff.mpr h
    have hc := div_comp (g := dg a) hd (dg_ne hn h) (by rw [dg_abs]; exact gl_lt hn h ha) hz
    have e : pln a = a.map fun x => x.fdiv (dg a) := by unfold pln; rw [if_neg h]
    rw [e]
    exact plain_end (len_ints hd) (by omega) (r_greatest hd ha) (ix_neg1 hd h) rfl hc
theorem lplain_nil {g : Int} (h2 : m__law_greatest [.list []] = some (.fz (.int g))) : m__law_plain [.list []] = some (.ow (.list [])) := by
  have e := eqD_nil (ds := []) shaped_nil
  simp only [m__law_plain, g__law_plain, g__law_plain_s1, g__law_plain_s2, g__law_plain_s3, g__law_plain_s4, mb, mr, mo, nameM, conM, binM, unM, boolM, ifM, DL.andM, DL.orM, DL.notM, andV, orV, notV, chainM, nilA, consA, dvs, dv, ownAt, fzs, lstM, tupM, callM, callP, permL, fzv, seqS, skipS, ifS, setS, asg, freeAt, retS, retV, dropS, frz, frzS, asgS, nilG, consG, tupG, subG, listAt, methM, augS, augSubS, forS, seqM, treeV, startD, endV, bodyF, bodyI, startI, ioAt, slM, partM, bors, callL, callI, callO, DL.flatV, DL.flat, List.filterMap_cons, List.filterMap_nil, List.map_cons, List.map_nil, List.getElem?_cons_zero, List.getElem?_cons_succ, List.getElem?_nil, List.set_cons_zero, List.set_cons_succ, List.cons_append, List.nil_append, List.length_cons, List.length_nil, Option.bind_some, Option.bind_none, Option.map_some, Option.map_none, Nat.reduceSub, Nat.reduceAdd, List.replicate_succ, List.replicate_zero, Bool.not_true, Bool.not_false, if_true, if_false, Bool.false_eq_true, reduceIte, decide_true, decide_false, Nat.reduceLT, Nat.reduceLeDiff, reduceCtorEq, Option.some.injEq, Prod.mk.injEq, h2, szOk0, e, List.isEmpty_nil]
theorem lplain_end {ds : List D} {c : D} {g l g' : Int} (h1 : eqD (.list ds) (.list []) = some (.fz (.bool false))) (h2 : m__law_greatest [.list ds] = some (.fz (.int g))) (h3 : ixD (.list ds) (.int (-1)) = some (.fz (.int l))) (hg : (if 0 < l then g else 0 - g) = g')
    (hc : g__law_plain_c1 [.dat (.list ds), .dat (.int g'), .un] = some (.ow c, [.dat (.list ds), .dat (.int g'), .un])) : m__law_plain [.list ds] = some (.ow c) := by
  by_cases hl : 0 < l
  · rw [if_pos hl] at hg
    subst hg
    simp only [m__law_plain, g__law_plain, g__law_plain_s1, g__law_plain_s2, g__law_plain_s3, g__law_plain_s4, mb, mr, mo, nameM, conM, binM, unM, boolM, ifM, DL.andM, DL.orM, DL.notM, andV, orV, notV, chainM, nilA, consA, dvs, dv, ownAt, fzs, lstM, tupM, callM, callP, permL, fzv, seqS, skipS, ifS, setS, asg, freeAt, retS, retV, dropS, frz, frzS, asgS, nilG, consG, tupG, subG, listAt, methM, augS, augSubS, forS, seqM, treeV, startD, endV, bodyF, bodyI, startI, ioAt, slM, partM, bors, callL, callI, callO, DL.flatV, DL.flat, List.filterMap_cons, List.filterMap_nil, List.map_cons, List.map_nil, List.getElem?_cons_zero, List.getElem?_cons_succ, List.getElem?_nil, List.set_cons_zero, List.set_cons_succ, List.cons_append, List.nil_append, List.length_cons, List.length_nil, Option.bind_some, Option.bind_none, Option.map_some, Option.map_none, Nat.reduceSub, Nat.reduceAdd, List.replicate_succ, List.replicate_zero, Bool.not_true, Bool.not_false, if_true, if_false, Bool.false_eq_true, reduceIte, decide_true, decide_false, Nat.reduceLT, Nat.reduceLeDiff, reduceCtorEq, Option.some.injEq, Prod.mk.injEq, h2, szOk0, h1, negI, h3, gtI, subI, intB, decide_eq_true hl, hc]
  · rw [if_neg hl] at hg
    simp only [m__law_plain, g__law_plain, g__law_plain_s1, g__law_plain_s2, g__law_plain_s3, g__law_plain_s4, mb, mr, mo, nameM, conM, binM, unM, boolM, ifM, DL.andM, DL.orM, DL.notM, andV, orV, notV, chainM, nilA, consA, dvs, dv, ownAt, fzs, lstM, tupM, callM, callP, permL, fzv, seqS, skipS, ifS, setS, asg, freeAt, retS, retV, dropS, frz, frzS, asgS, nilG, consG, tupG, subG, listAt, methM, augS, augSubS, forS, seqM, treeV, startD, endV, bodyF, bodyI, startI, ioAt, slM, partM, bors, callL, callI, callO, DL.flatV, DL.flat, List.filterMap_cons, List.filterMap_nil, List.map_cons, List.map_nil, List.getElem?_cons_zero, List.getElem?_cons_succ, List.getElem?_nil, List.set_cons_zero, List.set_cons_succ, List.cons_append, List.nil_append, List.length_cons, List.length_nil, Option.bind_some, Option.bind_none, Option.map_some, Option.map_none, Nat.reduceSub, Nat.reduceAdd, List.replicate_succ, List.replicate_zero, Bool.not_true, Bool.not_false, if_true, if_false, Bool.false_eq_true, reduceIte, decide_true, decide_false, Nat.reduceLT, Nat.reduceLeDiff, reduceCtorEq, Option.some.injEq, Prod.mk.injEq, h2, szOk0, h1, negI, h3, gtI, subI, intB, decide_eq_false hl, hg, hc]
theorem r_law_plain {a : List Int} (hn : Nz a) (ha : ∀ y ∈ a, y.natAbs < 2 ^ 200) (hz : a.length ≤ 900) : m__law_plain [IL a] = some (.ow (IL (pln a))) := by
  have hd : seq? (IL a) = some (a.map .int) := rfl
  by_cases h : a = []
  · subst h
    exact lplain_nil (r_law_greatest hd ha)
  · have hc := div_comp (g := dg a) hd (dg_ne hn h) (by rw [dg_abs]; exact gl_lt hn h ha) hz
    have e : pln a = a.map fun x => x.fdiv (dg a) := by unfold pln; rw [if_neg h]
    rw [e]
    refine lplain_end ?_ (r_law_greatest hd ha) (ix_neg1 hd h) ?_ hc
    · rw [eqD_nil (shaped_IL a)]
      cases a with
      | nil => exact absurd rfl h
      | cons x a => rfl
    · have := la_ne hn h
      unfold dg
      by_cases h1 : la a < 0
      · rw [if_pos h1, if_neg (by omega)]
      · rw [if_neg h1, if_pos (by omega)]
/-! ### the law's own products and sums -/
theorem lt_b1 {da db : D} {F : List Int} {i k : Nat} {x y : Int} (hk : i + k < F.length) (hm : mulD (.int x) (.int y) = some (.fz (.int (x * y)))) :
    g__law_times_b1 [.dat da, .dat db, .own false (IL F), .dat (.int (i : Nat)), .dat (.int x), .dat (.int (k : Nat)), .dat (.int y)] = some (.nx, [.dat da, .dat db, .own false (IL (PL.bump F (i + k) (x * y))), .dat (.int (i : Nat)), .dat (.int x), .dat (.int (k : Nat)), .dat (.int y)]) := by
  unfold g__law_times_b1
  refine asgSub_bump (io := false) (F := F) rfl ?_ ?_ hk
  · simp only [mb, mr, mo, nameM, conM, binM, unM, boolM, ifM, DL.andM, DL.orM, DL.notM, andV, orV, notV, chainM, nilA, consA, dvs, dv, ownAt, fzs, lstM, tupM, callM, callP, permL, fzv, seqS, skipS, ifS, setS, asg, freeAt, retS, retV, dropS, frz, frzS, asgS, nilG, consG, tupG, subG, listAt, methM, augS, augSubS, forS, seqM, treeV, startD, endV, bodyF, bodyI, startI, ioAt, slM, partM, bors, callL, callI, callO, DL.flatV, DL.flat, List.filterMap_cons, List.filterMap_nil, List.map_cons, List.map_nil, List.getElem?_cons_zero, List.getElem?_cons_succ, List.getElem?_nil, List.set_cons_zero, List.set_cons_succ, List.cons_append, List.nil_append, List.length_cons, List.length_nil, Option.bind_some, Option.bind_none, Option.map_some, Option.map_none, Nat.reduceSub, Nat.reduceAdd, List.replicate_succ, List.replicate_zero, Bool.not_true, Bool.not_false, if_true, if_false, Bool.false_eq_true, reduceIte, decide_true, decide_false, Nat.reduceLT, Nat.reduceLeDiff, reduceCtorEq, Option.some.injEq, Prod.mk.injEq, addD, ← Int.natCast_add]
  · simp only [mb, mr, mo, nameM, conM, binM, unM, boolM, ifM, DL.andM, DL.orM, DL.notM, andV, orV, notV, chainM, nilA, consA, dvs, dv, ownAt, fzs, lstM, tupM, callM, callP, permL, fzv, seqS, skipS, ifS, setS, asg, freeAt, retS, retV, dropS, frz, frzS, asgS, nilG, consG, tupG, subG, listAt, methM, augS, augSubS, forS, seqM, treeV, startD, endV, bodyF, bodyI, startI, ioAt, slM, partM, bors, callL, callI, callO, DL.flatV, DL.flat, List.filterMap_cons, List.filterMap_nil, List.map_cons, List.map_nil, List.getElem?_cons_zero, List.getElem?_cons_succ, List.getElem?_nil, List.set_cons_zero, List.set_cons_succ, List.cons_append, List.nil_append, List.length_cons, List.length_nil, Option.bind_some, Option.bind_none, Option.map_some, Option.map_none, Nat.reduceSub, Nat.reduceAdd, List.replicate_succ, List.replicate_zero, Bool.not_true, Bool.not_false, if_true, if_false, Bool.false_eq_true, reduceIte, decide_true, decide_false, Nat.reduceLT, Nat.reduceLeDiff, reduceCtorEq, Option.some.injEq, Prod.mk.injEq, hm]
theorem lt_f1 {da : D} {b F : List Int} {i : Nat} {x : Int} {r1 r2 : Option D} (hx : x.natAbs < 2 ^ 200) (hb : ∀ y ∈ b, y.natAbs < 2 ^ 200) (hF : i + b.length ≤ F.length) :
    ∃ r : Option D × Option D, g__law_times_f1 [.dat da, .dat (IL b), .own false (IL F), .dat (.int (i : Nat)), .dat (.int x), rw' r1, rw' r2] = some (.nx, [.dat da, .dat (IL b), .own false (IL (b.zipIdx.foldl (inL i x) F)), .dat (.int (i : Nat)), .dat (.int x), rw' r.1, rw' r.2]) := by
  unfold g__law_times_f1
  have hi : enumA (consA (nameM 1) nilA) [.dat da, .dat (IL b), .own false (IL F), .dat (.int (i : Nat)), .dat (.int x), rw' r1, rw' r2] = some (b.zipIdx.map fun p => .tuple [.int (p.2 : Nat), .int p.1], [.dat da, .dat (IL b), .own false (IL F), .dat (.int (i : Nat)), .dat (.int x), rw' r1, rw' r2]) := by
    rw [← enum_ints]
    simp only [mb, mr, mo, nameM, conM, binM, unM, boolM, ifM, DL.andM, DL.orM, DL.notM, andV, orV, notV, chainM, nilA, consA, dvs, dv, ownAt, fzs, lstM, tupM, callM, callP, permL, fzv, seqS, skipS, ifS, setS, asg, fr_z_un, fr_z_dat, fr_z_rw, fr_z_own, fr_s, turnF, retS, retV, dropS, frz, frzS, asgS, nilG, consG, tupG, subG, listAt, methM, augS, augSubS, forS, seqM, treeV, startD, endV, bodyF, bodyI, startI, ioAt, slM, partM, bors, callL, callI, callO, DL.flatV, DL.flat, List.filterMap_cons, List.filterMap_nil, List.map_cons, List.map_nil, List.getElem?_cons_zero, List.getElem?_cons_succ, List.getElem?_nil, List.set_cons_zero, List.set_cons_succ, List.cons_append, List.nil_append, List.length_cons, List.length_nil, Option.bind_some, Option.bind_none, Option.map_some, Option.map_none, Nat.reduceSub, Nat.reduceAdd, List.replicate_succ, List.replicate_zero, Bool.not_true, Bool.not_false, if_true, if_false, Bool.false_eq_true, reduceIte, decide_true, decide_false, Nat.reduceLT, Nat.reduceLeDiff, reduceCtorEq, Option.some.injEq, Prod.mk.injEq, enumA]
  obtain ⟨r', e, -⟩ := for_fold (gt := tupG 2 (consG (asg 5) (consG (asg 6) nilG))) (body := g__law_times_b1) (fun p : Int × Nat => .tuple [.int (p.2 : Nat), .int p.1]) (fun (G : List Int) (r : Option D × Option D) => [.dat da, .dat (IL b), .own false (IL G), .dat (.int (i : Nat)), .dat (.int x), rw' r.1, rw' r.2]) (inL i x) (fun k G => G.length = F.length) b.zipIdx (s0 := F) (r0 := (r1, r2)) rfl hi rfl (fun k p G r hk hG => by
    obtain ⟨hp, hkl, hpc, hpm⟩ := zipIdx_mem hk
    refine ⟨⟨(some (.int (p.2 : Nat)), some (.int p.1)), ?_⟩, by rw [inL, PL.bump_len]; exact hG⟩
    have e1 := lt_b1 (da := da) (db := IL b) (F := G) (i := i) (k := p.2) (x := x) (y := p.1) (by omega) (mulD_lt hx (hb _ hpm))
    generalize ((p.2 : Nat) : Int) = pk at e1 ⊢
    generalize ((i : Nat) : Int) = ik at e1 ⊢
    simp only [mb, mr, mo, nameM, conM, binM, unM, boolM, ifM, DL.andM, DL.orM, DL.notM, andV, orV, notV, chainM, nilA, consA, dvs, dv, ownAt, fzs, lstM, tupM, callM, callP, permL, fzv, seqS, skipS, ifS, setS, asg, fr_z_un, fr_z_dat, fr_z_rw, fr_z_own, fr_s, turnF, retS, retV, dropS, frz, frzS, asgS, nilG, consG, tupG, subG, listAt, methM, augS, augSubS, forS, seqM, treeV, startD, endV, bodyF, bodyI, startI, ioAt, slM, partM, bors, callL, callI, callO, DL.flatV, DL.flat, List.filterMap_cons, List.filterMap_nil, List.map_cons, List.map_nil, List.getElem?_cons_zero, List.getElem?_cons_succ, List.getElem?_nil, List.set_cons_zero, List.set_cons_succ, List.cons_append, List.nil_append, List.length_cons, List.length_nil, Option.bind_some, Option.bind_none, Option.map_some, Option.map_none, Nat.reduceSub, Nat.reduceAdd, List.replicate_succ, List.replicate_zero, Bool.not_true, Bool.not_false, if_true, if_false, Bool.false_eq_true, reduceIte, decide_true, decide_false, Nat.reduceLT, Nat.reduceLeDiff, reduceCtorEq, Option.some.injEq, Prod.mk.injEq, itemsOf, e1]
    rfl)
  exact ⟨r', e⟩
theorem lt_f2 {a b F : List Int} {r1 r2 r3 r4 : Option D} (ha : ∀ y ∈ a, y.natAbs < 2 ^ 200) (hb : ∀ y ∈ b, y.natAbs < 2 ^ 200) (hF : a.length + b.length ≤ F.length + 1) :
    ∃ r : Option D × Option D × Option D × Option D, g__law_times_f2 [.dat (IL a), .dat (IL b), .own false (IL F), rw' r1, rw' r2, rw' r3, rw' r4] = some (.nx, [.dat (IL a), .dat (IL b), .own false (IL (a.zipIdx.foldl (outL b) F)), rw' r.1, rw' r.2.1, rw' r.2.2.1, rw' r.2.2.2]) := by
  unfold g__law_times_f2
  have hi : enumA (consA (nameM 0) nilA) [.dat (IL a), .dat (IL b), .own false (IL F), rw' r1, rw' r2, rw' r3, rw' r4] = some (a.zipIdx.map fun p => .tuple [.int (p.2 : Nat), .int p.1], [.dat (IL a), .dat (IL b), .own false (IL F), rw' r1, rw' r2, rw' r3, rw' r4]) := by
    rw [← enum_ints]
    simp only [mb, mr, mo, nameM, conM, binM, unM, boolM, ifM, DL.andM, DL.orM, DL.notM, andV, orV, notV, chainM, nilA, consA, dvs, dv, ownAt, fzs, lstM, tupM, callM, callP, permL, fzv, seqS, skipS, ifS, setS, asg, fr_z_un, fr_z_dat, fr_z_rw, fr_z_own, fr_s, turnF, retS, retV, dropS, frz, frzS, asgS, nilG, consG, tupG, subG, listAt, methM, augS, augSubS, forS, seqM, treeV, startD, endV, bodyF, bodyI, startI, ioAt, slM, partM, bors, callL, callI, callO, DL.flatV, DL.flat, List.filterMap_cons, List.filterMap_nil, List.map_cons, List.map_nil, List.getElem?_cons_zero, List.getElem?_cons_succ, List.getElem?_nil, List.set_cons_zero, List.set_cons_succ, List.cons_append, List.nil_append, List.length_cons, List.length_nil, Option.bind_some, Option.bind_none, Option.map_some, Option.map_none, Nat.reduceSub, Nat.reduceAdd, List.replicate_succ, List.replicate_zero, Bool.not_true, Bool.not_false, if_true, if_false, Bool.false_eq_true, reduceIte, decide_true, decide_false, Nat.reduceLT, Nat.reduceLeDiff, reduceCtorEq, Option.some.injEq, Prod.mk.injEq, enumA]
  obtain ⟨r', e, -⟩ := for_fold (gt := tupG 2 (consG (asg 3) (consG (asg 4) nilG))) (body := g__law_times_b2) (fun p : Int × Nat => .tuple [.int (p.2 : Nat), .int p.1]) (fun (G : List Int) (r : Option D × Option D × Option D × Option D) => [.dat (IL a), .dat (IL b), .own false (IL G), rw' r.1, rw' r.2.1, rw' r.2.2.1, rw' r.2.2.2]) (outL b) (fun k G => G.length = F.length) a.zipIdx (s0 := F) (r0 := (r1, r2, r3, r4)) rfl hi rfl (fun k p G r hk hG => by
    obtain ⟨hp, hkl, hpc, hpm⟩ := zipIdx_mem hk
    refine ⟨?_, by rw [outL, PL.inL_len]; exact hG⟩
    obtain ⟨r', e1⟩ := lt_f1 (da := IL a) (F := G) (i := p.2) (x := p.1) (r1 := r.2.2.1) (r2 := r.2.2.2) (ha _ hpm) hb (by omega)
    refine ⟨(some (.int (p.2 : Nat)), some (.int p.1), r'.1, r'.2), ?_⟩
    rw [outL]
    generalize (b.zipIdx.foldl (inL p.2 p.1) G) = G2 at e1 ⊢
    generalize ((p.2 : Nat) : Int) = pk at e1 ⊢
    simp only [mb, mr, mo, nameM, conM, binM, unM, boolM, ifM, DL.andM, DL.orM, DL.notM, andV, orV, notV, chainM, nilA, consA, dvs, dv, ownAt, fzs, lstM, tupM, callM, callP, permL, fzv, seqS, skipS, ifS, setS, asg, fr_z_un, fr_z_dat, fr_z_rw, fr_z_own, fr_s, turnF, retS, retV, dropS, frz, frzS, asgS, nilG, consG, tupG, subG, listAt, methM, augS, augSubS, forS, seqM, treeV, startD, endV, bodyF, bodyI, startI, ioAt, slM, partM, bors, callL, callI, callO, DL.flatV, DL.flat, List.filterMap_cons, List.filterMap_nil, List.map_cons, List.map_nil, List.getElem?_cons_zero, List.getElem?_cons_succ, List.getElem?_nil, List.set_cons_zero, List.set_cons_succ, List.cons_append, List.nil_append, List.length_cons, List.length_nil, Option.bind_some, Option.bind_none, Option.map_some, Option.map_none, Nat.reduceSub, Nat.reduceAdd, List.replicate_succ, List.replicate_zero, Bool.not_true, Bool.not_false, if_true, if_false, Bool.false_eq_true, reduceIte, decide_true, decide_false, Nat.reduceLT, Nat.reduceLeDiff, reduceCtorEq, Option.some.injEq, Prod.mk.injEq, itemsOf, g__law_times_b2, e1]
    rfl)
  exact ⟨r', e⟩
theorem lt_end {da db z c t : D} {k1 k2 : Int} {δ : DS} (h1 : lenD [da] = some (.fz (.int k1))) (h2 : lenD [db] = some (.fz (.int k2))) (hz : mulD (.list [.int 0]) (.int (k1 + k2)) = some (.ow z))
    (hf : g__law_times_f2 [.dat da, .dat db, .own false z, .un, .un, .un, .un] = some (.nx, .dat da :: .dat db :: .own false c :: δ)) (ht : m__law_trim [c] = some (.ow t)) : m__law_times [da, db] = some (.ow t) := by
  simp only [m__law_times, g__law_times, g__law_times_s1, g__law_times_s2, mb, mr, mo, nameM, conM, binM, unM, boolM, ifM, DL.andM, DL.orM, DL.notM, andV, orV, notV, chainM, nilA, consA, dvs, dv, ownAt, fzs, lstM, tupM, callM, callP, permL, fzv, seqS, skipS, ifS, setS, asg, freeAt, retS, retV, dropS, frz, frzS, asgS, nilG, consG, tupG, subG, listAt, methM, augS, augSubS, forS, seqM, treeV, startD, endV, bodyF, bodyI, startI, ioAt, slM, partM, bors, callL, callI, callO, DL.flatV, DL.flat, List.filterMap_cons, List.filterMap_nil, List.map_cons, List.map_nil, List.getElem?_cons_zero, List.getElem?_cons_succ, List.getElem?_nil, List.set_cons_zero, List.set_cons_succ, List.cons_append, List.nil_append, List.length_cons, List.length_nil, Option.bind_some, Option.bind_none, Option.map_some, Option.map_none, Nat.reduceSub, Nat.reduceAdd, List.replicate_succ, List.replicate_zero, Bool.not_true, Bool.not_false, if_true, if_false, Bool.false_eq_true, reduceIte, decide_true, decide_false, Nat.reduceLT, Nat.reduceLeDiff, reduceCtorEq, Option.some.injEq, Prod.mk.injEq, h1, h2, szOk1, addD, hz, hf, ht]
theorem r_law_times {a b : List Int} (ha : ∀ y ∈ a, y.natAbs < 2 ^ 200) (hb : ∀ y ∈ b, y.natAbs < 2 ^ 200) (na : Nz a) (nb : Nz b) (hz : a.length ≤ 400) (hy : b.length ≤ 400) : m__law_times [IL a, IL b] = some (.ow (IL (pr a b))) := by
  obtain ⟨r, e⟩ := lt_f2 (F := List.replicate (a.length + b.length) 0) (r1 := none) (r2 := none) (r3 := none) (r4 := none) ha hb (by rw [List.length_replicate]; omega)
  obtain ⟨c, h1, h2, h3, h4⟩ := r_law_trim (a.zipIdx.foldl (outL b) (List.replicate (a.length + b.length) 0)) (by rw [PL.outL_len, List.length_replicate]; omega)
  have hc : c = pr a b := PL.nz_ext h2 (nz_pr na nb) fun n => by
    rw [h3, cf_pr, PL.cf_outL b a 0 _ (fun _ => by rw [List.length_replicate]; omega), PL.cf_zeros]
    simp
  rw [← hc]
  refine lt_end (len_ints rfl) (len_ints rfl) ?_ e h1
  rw [show ((a.length : Nat) : Int) + (b.length : Nat) = ((a.length + b.length : Nat) : Int) by omega]
  exact rep_zeros _ (by omega)
theorem ls_c1 {a b n f : List Int} {d e : D} {w : D} {t : Int} (ht : t.natAbs < 2 ^ 200) (hf : ∀ y ∈ f, y.natAbs < 2 ^ 200) (hz : n.length ≤ 900) :
    g__law_sum_c1 [.dat d, .dat e, .dat (.int t), .dat w, .dat (IL n), .dat (IL f), .un, .un] = some (.ow (IL ((n.zip f).map fun p => p.1 + t * p.2)), [.dat d, .dat e, .dat (.int t), .dat w, .dat (IL n), .dat (IL f), .un, .un]) := by
  unfold g__law_sum_c1
  have hi : zipM (consA (nameM 4) (consA (nameM 5) nilA)) [.dat d, .dat e, .dat (.int t), .dat w, .dat (IL n), .dat (IL f), .un, .un] = some ((n.zip f).map fun p => .tuple [.int p.1, .int p.2], [.dat d, .dat e, .dat (.int t), .dat w, .dat (IL n), .dat (IL f), .un, .un]) := by
    rw [← zip_ints]
    simp only [mb, mr, mo, nameM, conM, binM, unM, boolM, ifM, DL.andM, DL.orM, DL.notM, andV, orV, notV, chainM, nilA, consA, dvs, dv, ownAt, fzs, lstM, tupM, callM, callP, permL, fzv, seqS, skipS, ifS, setS, asg, fr_z_un, fr_z_dat, fr_z_rw, fr_z_own, fr_s, turnF, retS, retV, dropS, frz, frzS, asgS, nilG, consG, tupG, subG, listAt, methM, augS, augSubS, forS, seqM, treeV, startD, endV, bodyF, bodyI, startI, ioAt, slM, partM, bors, callL, callI, callO, DL.flatV, DL.flat, List.filterMap_cons, List.filterMap_nil, List.map_cons, List.map_nil, List.getElem?_cons_zero, List.getElem?_cons_succ, List.getElem?_nil, List.set_cons_zero, List.set_cons_succ, List.cons_append, List.nil_append, List.length_cons, List.length_nil, Option.bind_some, Option.bind_none, Option.map_some, Option.map_none, Nat.reduceSub, Nat.reduceAdd, List.replicate_succ, List.replicate_zero, Bool.not_true, Bool.not_false, if_true, if_false, Bool.false_eq_true, reduceIte, decide_true, decide_false, Nat.reduceLT, Nat.reduceLeDiff, reduceCtorEq, Option.some.injEq, Prod.mk.injEq, zipM]
  rw [comp_map (gt := tupG 2 (consG (asg 6) (consG (asg 7) nilG))) (fe := binM addD (nameM 6) (binM mulD (nameM 2) (nameM 7))) (vs := [6, 7]) (n.zip f) (fun p => .tuple [.int p.1, .int p.2]) (fun p => .int (p.1 + t * p.2)) (fun p => [.dat d, .dat e, .dat (.int t), .dat w, .dat (IL n), .dat (IL f), .dat (.int p.1), .dat (.int p.2)]) hi rfl rfl (by simp; omega) (fun p hp => by
    have hm := mulD_lt ht (hf _ (List.of_mem_zip hp).2)
    exact ⟨by simp only [wipeD, mb, mr, mo, nameM, conM, binM, unM, boolM, ifM, DL.andM, DL.orM, DL.notM, andV, orV, notV, chainM, nilA, consA, dvs, dv, ownAt, fzs, lstM, tupM, callM, callP, permL, fzv, seqS, skipS, ifS, setS, asg, fr_z_un, fr_z_dat, fr_z_rw, fr_z_own, fr_s, turnF, retS, retV, dropS, frz, frzS, asgS, nilG, consG, tupG, subG, listAt, methM, augS, augSubS, forS, seqM, treeV, startD, endV, bodyF, bodyI, startI, ioAt, slM, partM, bors, callL, callI, callO, DL.flatV, DL.flat, List.filterMap_cons, List.filterMap_nil, List.map_cons, List.map_nil, List.getElem?_cons_zero, List.getElem?_cons_succ, List.getElem?_nil, List.set_cons_zero, List.set_cons_succ, List.cons_append, List.nil_append, List.length_cons, List.length_nil, Option.bind_some, Option.bind_none, Option.map_some, Option.map_none, Nat.reduceSub, Nat.reduceAdd, List.replicate_succ, List.replicate_zero, Bool.not_true, Bool.not_false, if_true, if_false, Bool.false_eq_true, reduceIte, decide_true, decide_false, Nat.reduceLT, Nat.reduceLeDiff, reduceCtorEq, Option.some.injEq, Prod.mk.injEq, itemsOf], ⟨.fz (.int (p.1 + t * p.2)), by simp only [mb, mr, mo, nameM, conM, binM, unM, boolM, ifM, DL.andM, DL.orM, DL.notM, andV, orV, notV, chainM, nilA, consA, dvs, dv, ownAt, fzs, lstM, tupM, callM, callP, permL, fzv, seqS, skipS, ifS, setS, asg, fr_z_un, fr_z_dat, fr_z_rw, fr_z_own, fr_s, turnF, retS, retV, dropS, frz, frzS, asgS, nilG, consG, tupG, subG, listAt, methM, augS, augSubS, forS, seqM, treeV, startD, endV, bodyF, bodyI, startI, ioAt, slM, partM, bors, callL, callI, callO, DL.flatV, DL.flat, List.filterMap_cons, List.filterMap_nil, List.map_cons, List.map_nil, List.getElem?_cons_zero, List.getElem?_cons_succ, List.getElem?_nil, List.set_cons_zero, List.set_cons_succ, List.cons_append, List.nil_append, List.length_cons, List.length_nil, Option.bind_some, Option.bind_none, Option.map_some, Option.map_none, Nat.reduceSub, Nat.reduceAdd, List.replicate_succ, List.replicate_zero, Bool.not_true, Bool.not_false, if_true, if_false, Bool.false_eq_true, reduceIte, decide_true, decide_false, Nat.reduceLT, Nat.reduceLeDiff, reduceCtorEq, Option.some.injEq, Prod.mk.injEq, hm, addD], rfl⟩, rfl⟩)]
  unfold IL
  rw [List.map_map]
  rfl
theorem ls_end {a b za zb na nb s c : D} {t ka kb w : Int} (h1 : lenD [a] = some (.fz (.int ka))) (h2 : lenD [b] = some (.fz (.int kb))) (hw : (if kb > ka then kb else ka) = w) (hza : mulD (.list [.int 0]) (.int (w - ka)) = some (.ow za)) (hzb : mulD (.list [.int 0]) (.int (w - kb)) = some (.ow zb))
    (ha : addD a za = some (.ow na)) (hb : addD b zb = some (.ow nb)) (hc : g__law_sum_c1 [.dat a, .dat b, .dat (.int t), .dat (.int w), .dat na, .dat nb, .un, .un] = some (.ow s, [.dat a, .dat b, .dat (.int t), .dat (.int w), .dat na, .dat nb, .un, .un])) (ht : m__law_trim [s] = some (.ow c)) : m__law_sum [a, b, .int t] = some (.ow c) := by
  simp only [m__law_sum, g__law_sum, g__law_sum_s1, g__law_sum_s2, g__law_sum_s3, parS, mb, mr, mo, nameM, conM, binM, unM, boolM, ifM, DL.andM, DL.orM, DL.notM, andV, orV, notV, chainM, nilA, consA, dvs, dv, ownAt, fzs, lstM, tupM, callM, callP, permL, fzv, seqS, skipS, ifS, setS, asg, freeAt, retS, retV, dropS, frz, frzS, asgS, nilG, consG, tupG, subG, listAt, methM, augS, augSubS, forS, seqM, treeV, startD, endV, bodyF, bodyI, startI, ioAt, slM, partM, bors, callL, callI, callO, DL.flatV, DL.flat, List.filterMap_cons, List.filterMap_nil, List.map_cons, List.map_nil, List.getElem?_cons_zero, List.getElem?_cons_succ, List.getElem?_nil, List.set_cons_zero, List.set_cons_succ, List.cons_append, List.nil_append, List.length_cons, List.length_nil, Option.bind_some, Option.bind_none, Option.map_some, Option.map_none, Nat.reduceSub, Nat.reduceAdd, List.replicate_succ, List.replicate_zero, Bool.not_true, Bool.not_false, if_true, if_false, Bool.false_eq_true, reduceIte, decide_true, decide_false, Nat.reduceLT, Nat.reduceLeDiff, reduceCtorEq, Option.some.injEq, Prod.mk.injEq, h1, h2, max2D, hw, szOk1, subI, intB, hza, hzb, ha, hb, hc, ht]
theorem r_law_sum {a b : List Int} {t : Int} (ht : t.natAbs < 2 ^ 200) (hb : ∀ y ∈ b, y.natAbs < 2 ^ 200) (hz : a.length ≤ 400) (hy : b.length ≤ 400) : ∃ c, m__law_sum [IL a, IL b, .int t] = some (.ow (IL c)) ∧ Nz c ∧ (∀ n, cf c n = cf a n + t * cf b n) ∧ c.length ≤ max a.length b.length := by
  have e1 : ((max a.length b.length : Nat) : Int) = if ((b.length : Nat) : Int) > (a.length : Nat) then ((b.length : Nat) : Int) else (a.length : Nat) := by split <;> omega
  obtain ⟨w, hw⟩ : ∃ w, w = max a.length b.length := ⟨_, rfl⟩
  rw [← hw] at e1 ⊢
  have l1 : (a ++ List.replicate (w - a.length) 0).length = w := by rw [List.length_append, List.length_replicate]; omega
  have l2 : (b ++ List.replicate (w - b.length) 0).length = w := by rw [List.length_append, List.length_replicate]; omega
  have l3 : (((a ++ List.replicate (w - a.length) 0).zip (b ++ List.replicate (w - b.length) 0)).map fun p : Int × Int => p.1 + t * p.2).length = w := by rw [List.length_map, List.length_zip, l1, l2, Nat.min_self]
  obtain ⟨c, h1, h2, h3, h4⟩ := r_law_trim (((a ++ List.replicate (w - a.length) 0).zip (b ++ List.replicate (w - b.length) 0)).map fun p : Int × Int => p.1 + t * p.2) (by omega)
  refine ⟨c, ls_end (len_ints rfl) (len_ints rfl) e1.symm (za := IL (List.replicate (w - a.length) 0)) (zb := IL (List.replicate (w - b.length) 0)) ?_ ?_ (addD_IL _ _ (by rw [List.length_replicate]; omega)) (addD_IL _ _ (by rw [List.length_replicate]; omega)) (ls_c1 (a := a) (b := b) ht ?_ (by omega)) h1, h2, fun n => ?_, by omega⟩
  · rw [show ((w : Nat) : Int) - (a.length : Nat) = ((w - a.length : Nat) : Int) by omega]
    exact rep_zeros _ (by omega)
  · rw [show ((w : Nat) : Int) - (b.length : Nat) = ((w - b.length : Nat) : Int) by omega]
    exact rep_zeros _ (by omega)
  · intro y hy
    rcases List.mem_append.mp hy with h | h
    · exact hb y h
    · rw [(List.mem_replicate.mp h).2]
      decide
  · rw [h3]
    have ca : ∀ m, cf (a ++ List.replicate (w - a.length) 0) m = cf a m := fun m => by
      by_cases q : m < a.length
      · rw [PL.cf_append_left q]
      · rw [PL.cf_append_right (by omega), PL.cf_zeros, PL.cf_beyond (by omega)]
    have cb : ∀ m, cf (b ++ List.replicate (w - b.length) 0) m = cf b m := fun m => by
      by_cases q : m < b.length
      · rw [PL.cf_append_left q]
      · rw [PL.cf_append_right (by omega), PL.cf_zeros, PL.cf_beyond (by omega)]
    by_cases hn : n < w
    · rw [← ca n, ← cb n, PL.cf_get, PL.cf_get, PL.cf_get]
      simp only [List.getD_eq_getElem?_getD]
      rw [List.getElem?_eq_getElem (by omega), List.getElem?_eq_getElem (l := a ++ _) (by omega), List.getElem?_eq_getElem (l := b ++ _) (by omega)]
      simp
    · rw [PL.cf_beyond (by omega), PL.cf_beyond (a := a) (by omega), PL.cf_beyond (a := b) (by omega)]
      simp
end K11
end
section
set_option maxRecDepth 100000
set_option maxHeartbeats 1000000
namespace K11
open PySem PySem.Spec L2 DL
open PL (cf Nz cv vl sm tms Bd ad su)
theorem e_plus {a b : List Int} (ha : a.length ≤ 900) (hb : b.length ≤ 900) : m_plus_lines [IL a, IL b] = some (.ow (IL (ad a b))) := by
  obtain ⟨c, h1, h2, h3, -⟩ := r_plus a b ha hb
  rw [h1, PL.nz_ext h2 (PL.nz_ad a b) fun n => by rw [h3, PL.cf_ad]]
theorem e_minus {a b : List Int} (ha : a.length ≤ 900) (hb : b.length ≤ 900) (hy : ∀ y ∈ b, y.natAbs < 2 ^ 200) : m_minus_lines [IL a, IL b] = some (.ow (IL (su a b))) := by
  obtain ⟨c, h1, h2, h3, -⟩ := r_minus a b ha hb hy
  rw [h1, PL.nz_ext h2 (PL.nz_su a b) fun n => by rw [h3, PL.cf_su]]
theorem e_lsum {a b : List Int} (hz : a.length ≤ 400) (hy : b.length ≤ 400) (hb : ∀ y ∈ b, y.natAbs < 2 ^ 200) : m__law_sum [IL a, IL b, .int 1] = some (.ow (IL (ad a b))) := by
  obtain ⟨c, h1, h2, h3, -⟩ := r_law_sum (a := a) (b := b) (t := 1) (by decide) hb hz hy
  rw [h1, PL.nz_ext h2 (PL.nz_ad a b) fun n => by rw [h3, PL.cf_ad, Int.one_mul]]
theorem e_lless {a b : List Int} (hz : a.length ≤ 400) (hy : b.length ≤ 400) (hb : ∀ y ∈ b, y.natAbs < 2 ^ 200) : m__law_sum [IL a, IL b, .int (-1)] = some (.ow (IL (su a b))) := by
  obtain ⟨c, h1, h2, h3, -⟩ := r_law_sum (a := a) (b := b) (t := -1) (by decide) hb hz hy
  rw [h1, PL.nz_ext h2 (PL.nz_su a b) fun n => by rw [h3, PL.cf_su]; omega]
/-! ### what is called from outside -/
structure Gd (a : List Int) : Prop where
  len : a.length ≤ 13
  nz : Nz a
  bd : Bd (2 ^ 60) a
theorem Gd.mem {a : List Int} (g : Gd a) : ∀ y ∈ a, y.natAbs < 2 ^ 200 := fun y hy => Nat.lt_of_le_of_lt (PL.mem_bd g.bd y hy) (by decide)
theorem Gd.mem60 {a : List Int} (g : Gd a) : ∀ y ∈ a, y.natAbs ≤ 2 ^ 60 := PL.mem_bd g.bd
theorem want1 {d : D} {a : List Int} (hl : Ln d a) (g : Gd a) : m_want_line [d] = some (.ow (IL a)) := r_want_line hl g.len g.nz
theorem two {d e : D} {a b : List Int} (hl : Ln d a) (g : Gd a) (kl : Ln e b) (k : Gd b) : m_two_lines [d, e] = some (.fz (.tuple [IL a, IL b])) := r_two_lines hl g.len g.nz kl k.len k.nz
theorem ev_degree {d l : D} {k : Int} (h : m_want_line [d] = some (.ow l)) (h2 : lenD [l] = some (.fz (.int k))) : m_degree [d] = some (.fz (.int (k - 1))) := by
  simp only [m_degree, g_degree, g_degree_s1, mb, mr, mo, nameM, conM, binM, unM, boolM, ifM, DL.andM, DL.orM, DL.notM, andV, orV, notV, chainM, nilA, consA, dvs, dv, ownAt, fzs, lstM, tupM, callM, callP, permL, fzv, seqS, skipS, ifS, setS, asg, freeAt, retS, retV, dropS, frz, frzS, asgS, nilG, consG, tupG, subG, listAt, methM, augS, augSubS, forS, seqM, treeV, startD, endV, bodyF, bodyI, startI, ioAt, slM, partM, bors, callL, callI, callO, DL.flatV, DL.flat, List.filterMap_cons, List.filterMap_nil, List.map_cons, List.map_nil, List.getElem?_cons_zero, List.getElem?_cons_succ, List.getElem?_nil, List.set_cons_zero, List.set_cons_succ, List.cons_append, List.nil_append, List.length_cons, List.length_nil, Option.bind_some, Option.bind_none, Option.map_some, Option.map_none, Nat.reduceSub, Nat.reduceAdd, List.replicate_succ, List.replicate_zero, Bool.not_true, Bool.not_false, if_true, if_false, Bool.false_eq_true, reduceIte, decide_true, decide_false, Nat.reduceLT, Nat.reduceLeDiff, reduceCtorEq, Option.some.injEq, Prod.mk.injEq, h, h2, subI, intB]
theorem r_degree {d : D} {a : List Int} (hl : Ln d a) (g : Gd a) : m_degree [d] = some (.fz (.int ((a.length : Nat) - 1))) := ev_degree (want1 hl g) (len_ints rfl)
theorem ev_value {d l : D} {x v : Int} (h : m_want_line [d] = some (.ow l)) (h2 : m_value_at [l, .int x] = some (.fz (.int v))) : m_line_value [d, .int x] = some (.fz (.int v)) := by
  simp only [m_line_value, g_line_value, g_line_value_s1, g_line_value_s2, g_line_value_s3, mb, mr, mo, nameM, conM, binM, unM, boolM, ifM, DL.andM, DL.orM, DL.notM, andV, orV, notV, chainM, nilA, consA, dvs, dv, ownAt, fzs, lstM, tupM, callM, callP, permL, fzv, seqS, skipS, ifS, setS, asg, freeAt, retS, retV, dropS, frz, frzS, asgS, nilG, consG, tupG, subG, listAt, methM, augS, augSubS, forS, seqM, treeV, startD, endV, bodyF, bodyI, startI, ioAt, slM, partM, bors, callL, callI, callO, DL.flatV, DL.flat, List.filterMap_cons, List.filterMap_nil, List.map_cons, List.map_nil, List.getElem?_cons_zero, List.getElem?_cons_succ, List.getElem?_nil, List.set_cons_zero, List.set_cons_succ, List.cons_append, List.nil_append, List.length_cons, List.length_nil, Option.bind_some, Option.bind_none, Option.map_some, Option.map_none, Nat.reduceSub, Nat.reduceAdd, List.replicate_succ, List.replicate_zero, Bool.not_true, Bool.not_false, if_true, if_false, Bool.false_eq_true, reduceIte, decide_true, decide_false, Nat.reduceLT, Nat.reduceLeDiff, reduceCtorEq, Option.some.injEq, Prod.mk.injEq, h, r_want_number, h2, flatW, DL.flat]
theorem r_line_value {d : D} {a : List Int} {x : Int} (hl : Ln d a) (g : Gd a) (hx : x.natAbs ≤ 7) : m_line_value [d, .int x] = some (.fz (.int (vl a x))) := ev_value (want1 hl g) (r_value_at a x hx g.mem60 (by have := g.len; omega))
theorem ev_slope {d l c : D} (h : m_want_line [d] = some (.ow l)) (h2 : m_slope_of [l] = some (.ow c)) : m_line_slope [d] = some (.ow c) := by
  simp only [m_line_slope, g_line_slope, g_line_slope_s1, mb, mr, mo, nameM, conM, binM, unM, boolM, ifM, DL.andM, DL.orM, DL.notM, andV, orV, notV, chainM, nilA, consA, dvs, dv, ownAt, fzs, lstM, tupM, callM, callP, permL, fzv, seqS, skipS, ifS, setS, asg, freeAt, retS, retV, dropS, frz, frzS, asgS, nilG, consG, tupG, subG, listAt, methM, augS, augSubS, forS, seqM, treeV, startD, endV, bodyF, bodyI, startI, ioAt, slM, partM, bors, callL, callI, callO, DL.flatV, DL.flat, List.filterMap_cons, List.filterMap_nil, List.map_cons, List.map_nil, List.getElem?_cons_zero, List.getElem?_cons_succ, List.getElem?_nil, List.set_cons_zero, List.set_cons_succ, List.cons_append, List.nil_append, List.length_cons, List.length_nil, Option.bind_some, Option.bind_none, Option.map_some, Option.map_none, Nat.reduceSub, Nat.reduceAdd, List.replicate_succ, List.replicate_zero, Bool.not_true, Bool.not_false, if_true, if_false, Bool.false_eq_true, reduceIte, decide_true, decide_false, Nat.reduceLT, Nat.reduceLeDiff, reduceCtorEq, Option.some.injEq, Prod.mk.injEq, h, h2]
theorem r_line_slope {d : D} {a : List Int} (hl : Ln d a) (g : Gd a) : m_line_slope [d] = some (.ow (IL (slp a))) := ev_slope (want1 hl g) (r_slope_of a (by have := g.len; omega) g.mem)
theorem ev_plain {d l c : D} (h : m_want_line [d] = some (.ow l)) (h2 : m_plain_of [l] = some (.ow c)) : m_plain_line [d] = some (.ow c) := by
  simp only [m_plain_line, g_plain_line, g_plain_line_s1, mb, mr, mo, nameM, conM, binM, unM, boolM, ifM, DL.andM, DL.orM, DL.notM, andV, orV, notV, chainM, nilA, consA, dvs, dv, ownAt, fzs, lstM, tupM, callM, callP, permL, fzv, seqS, skipS, ifS, setS, asg, freeAt, retS, retV, dropS, frz, frzS, asgS, nilG, consG, tupG, subG, listAt, methM, augS, augSubS, forS, seqM, treeV, startD, endV, bodyF, bodyI, startI, ioAt, slM, partM, bors, callL, callI, callO, DL.flatV, DL.flat, List.filterMap_cons, List.filterMap_nil, List.map_cons, List.map_nil, List.getElem?_cons_zero, List.getElem?_cons_succ, List.getElem?_nil, List.set_cons_zero, List.set_cons_succ, List.cons_append, List.nil_append, List.length_cons, List.length_nil, Option.bind_some, Option.bind_none, Option.map_some, Option.map_none, Nat.reduceSub, Nat.reduceAdd, List.replicate_succ, List.replicate_zero, Bool.not_true, Bool.not_false, if_true, if_false, Bool.false_eq_true, reduceIte, decide_true, decide_false, Nat.reduceLT, Nat.reduceLeDiff, reduceCtorEq, Option.some.injEq, Prod.mk.injEq, h, h2]
theorem r_plain_line {d : D} {a : List Int} (hl : Ln d a) (g : Gd a) : m_plain_line [d] = some (.ow (IL (pln a))) := ev_plain (want1 hl g) (r_plain rfl g.nz g.mem (by have := g.len; omega))
theorem ev_sum {d e l k c : D} (h : m_two_lines [d, e] = some (.fz (.tuple [l, k]))) (h2 : m_plus_lines [l, k] = some (.ow c)) : m_line_sum [d, e] = some (.ow c) := by
  simp only [m_line_sum, g_line_sum, g_line_sum_s1, g_line_sum_s2, mb, mr, mo, nameM, conM, binM, unM, boolM, ifM, DL.andM, DL.orM, DL.notM, andV, orV, notV, chainM, nilA, consA, dvs, dv, ownAt, fzs, lstM, tupM, callM, callP, permL, fzv, seqS, skipS, ifS, setS, asg, freeAt, retS, retV, dropS, frz, frzS, asgS, nilG, consG, tupG, subG, listAt, methM, augS, augSubS, forS, seqM, treeV, startD, endV, bodyF, bodyI, startI, ioAt, slM, partM, bors, callL, callI, callO, DL.flatV, DL.flat, List.filterMap_cons, List.filterMap_nil, List.map_cons, List.map_nil, List.getElem?_cons_zero, List.getElem?_cons_succ, List.getElem?_nil, List.set_cons_zero, List.set_cons_succ, List.cons_append, List.nil_append, List.length_cons, List.length_nil, Option.bind_some, Option.bind_none, Option.map_some, Option.map_none, Nat.reduceSub, Nat.reduceAdd, List.replicate_succ, List.replicate_zero, Bool.not_true, Bool.not_false, if_true, if_false, Bool.false_eq_true, reduceIte, decide_true, decide_false, Nat.reduceLT, Nat.reduceLeDiff, reduceCtorEq, Option.some.injEq, Prod.mk.injEq, h, itemsOf, h2]
theorem r_line_sum {d e : D} {a b : List Int} (hl : Ln d a) (g : Gd a) (kl : Ln e b) (k : Gd b) : m_line_sum [d, e] = some (.ow (IL (ad a b))) := ev_sum (two hl g kl k) (e_plus (by have := g.len; omega) (by have := k.len; omega))
theorem ev_less {d e l k c : D} (h : m_two_lines [d, e] = some (.fz (.tuple [l, k]))) (h2 : m_minus_lines [l, k] = some (.ow c)) : m_line_less [d, e] = some (.ow c) := by
  simp only [m_line_less, g_line_less, g_line_less_s1, g_line_less_s2, mb, mr, mo, nameM, conM, binM, unM, boolM, ifM, DL.andM, DL.orM, DL.notM, andV, orV, notV, chainM, nilA, consA, dvs, dv, ownAt, fzs, lstM, tupM, callM, callP, permL, fzv, seqS, skipS, ifS, setS, asg, freeAt, retS, retV, dropS, frz, frzS, asgS, nilG, consG, tupG, subG, listAt, methM, augS, augSubS, forS, seqM, treeV, startD, endV, bodyF, bodyI, startI, ioAt, slM, partM, bors, callL, callI, callO, DL.flatV, DL.flat, List.filterMap_cons, List.filterMap_nil, List.map_cons, List.map_nil, List.getElem?_cons_zero, List.getElem?_cons_succ, List.getElem?_nil, List.set_cons_zero, List.set_cons_succ, List.cons_append, List.nil_append, List.length_cons, List.length_nil, Option.bind_some, Option.bind_none, Option.map_some, Option.map_none, Nat.reduceSub, Nat.reduceAdd, List.replicate_succ, List.replicate_zero, Bool.not_true, Bool.not_false, if_true, if_false, Bool.false_eq_true, reduceIte, decide_true, decide_false, Nat.reduceLT, Nat.reduceLeDiff, reduceCtorEq, Option.some.injEq, Prod.mk.injEq, h, itemsOf, h2]
theorem r_line_less {d e : D} {a b : List Int} (hl : Ln d a) (g : Gd a) (kl : Ln e b) (k : Gd b) : m_line_less [d, e] = some (.ow (IL (su a b))) := ev_less (two hl g kl k) (e_minus (by have := g.len; omega) (by have := k.len; omega) k.mem)
theorem ev_most {k : Int} (h : k ≤ 12) : m_want_at_most [.str "degree", .int 12, .int k] = some (.fz .none) := by
  simp only [m_want_at_most, g_want_at_most, g_want_at_most_s1, mb, mr, mo, nameM, conM, binM, unM, boolM, ifM, DL.andM, DL.orM, DL.notM, andV, orV, notV, chainM, nilA, consA, dvs, dv, ownAt, fzs, lstM, tupM, callM, callP, permL, fzv, seqS, skipS, ifS, setS, asg, freeAt, retS, retV, dropS, frz, frzS, asgS, nilG, consG, tupG, subG, listAt, methM, augS, augSubS, forS, seqM, treeV, startD, endV, bodyF, bodyI, startI, ioAt, slM, partM, bors, callL, callI, callO, DL.flatV, DL.flat, List.filterMap_cons, List.filterMap_nil, List.map_cons, List.map_nil, List.getElem?_cons_zero, List.getElem?_cons_succ, List.getElem?_nil, List.set_cons_zero, List.set_cons_succ, List.cons_append, List.nil_append, List.length_cons, List.length_nil, Option.bind_some, Option.bind_none, Option.map_some, Option.map_none, Nat.reduceSub, Nat.reduceAdd, List.replicate_succ, List.replicate_zero, Bool.not_true, Bool.not_false, if_true, if_false, Bool.false_eq_true, reduceIte, decide_true, decide_false, Nat.reduceLT, Nat.reduceLeDiff, reduceCtorEq, Option.some.injEq, Prod.mk.injEq, gtI, intB, decide_eq_false (show ¬ (12 : Int) < k by omega)]
theorem ev_times {d e l k c : D} {i j : Int} (h : m_two_lines [d, e] = some (.fz (.tuple [l, k]))) (h1 : lenD [l] = some (.fz (.int i))) (h2 : lenD [k] = some (.fz (.int j))) (hij : 0 < i → 0 < j → i + j - 2 ≤ 12) (h3 : m_times_lines [l, k] = some (.ow c)) : m_line_times [d, e] = some (.ow c) := by
  by_cases hi : 0 < i
  · by_cases hj : 0 < j
    · have hm := ev_most (hij hi hj)
      simp only [m_line_times, g_line_times, g_line_times_s1, g_line_times_s2, g_line_times_s3, mb, mr, mo, nameM, conM, binM, unM, boolM, ifM, DL.andM, DL.orM, DL.notM, andV, orV, notV, chainM, nilA, consA, dvs, dv, ownAt, fzs, lstM, tupM, callM, callP, permL, fzv, seqS, skipS, ifS, setS, asg, freeAt, retS, retV, dropS, frz, frzS, asgS, nilG, consG, tupG, subG, listAt, methM, augS, augSubS, forS, seqM, treeV, startD, endV, bodyF, bodyI, startI, ioAt, slM, partM, bors, callL, callI, callO, DL.flatV, DL.flat, List.filterMap_cons, List.filterMap_nil, List.map_cons, List.map_nil, List.getElem?_cons_zero, List.getElem?_cons_succ, List.getElem?_nil, List.set_cons_zero, List.set_cons_succ, List.cons_append, List.nil_append, List.length_cons, List.length_nil, Option.bind_some, Option.bind_none, Option.map_some, Option.map_none, Nat.reduceSub, Nat.reduceAdd, List.replicate_succ, List.replicate_zero, Bool.not_true, Bool.not_false, if_true, if_false, Bool.false_eq_true, reduceIte, decide_true, decide_false, Nat.reduceLT, Nat.reduceLeDiff, reduceCtorEq, Option.some.injEq, Prod.mk.injEq, h, itemsOf, h1, h2, gtI, intB, decide_eq_true hi, decide_eq_true hj, addD, subI, hm, h3]
    · simp only [m_line_times, g_line_times, g_line_times_s1, g_line_times_s2, g_line_times_s3, mb, mr, mo, nameM, conM, binM, unM, boolM, ifM, DL.andM, DL.orM, DL.notM, andV, orV, notV, chainM, nilA, consA, dvs, dv, ownAt, fzs, lstM, tupM, callM, callP, permL, fzv, seqS, skipS, ifS, setS, asg, freeAt, retS, retV, dropS, frz, frzS, asgS, nilG, consG, tupG, subG, listAt, methM, augS, augSubS, forS, seqM, treeV, startD, endV, bodyF, bodyI, startI, ioAt, slM, partM, bors, callL, callI, callO, DL.flatV, DL.flat, List.filterMap_cons, List.filterMap_nil, List.map_cons, List.map_nil, List.getElem?_cons_zero, List.getElem?_cons_succ, List.getElem?_nil, List.set_cons_zero, List.set_cons_succ, List.cons_append, List.nil_append, List.length_cons, List.length_nil, Option.bind_some, Option.bind_none, Option.map_some, Option.map_none, Nat.reduceSub, Nat.reduceAdd, List.replicate_succ, List.replicate_zero, Bool.not_true, Bool.not_false, if_true, if_false, Bool.false_eq_true, reduceIte, decide_true, decide_false, Nat.reduceLT, Nat.reduceLeDiff, reduceCtorEq, Option.some.injEq, Prod.mk.injEq, h, itemsOf, h1, h2, gtI, intB, decide_eq_true hi, decide_eq_false hj, h3]
  · simp only [m_line_times, g_line_times, g_line_times_s1, g_line_times_s2, g_line_times_s3, mb, mr, mo, nameM, conM, binM, unM, boolM, ifM, DL.andM, DL.orM, DL.notM, andV, orV, notV, chainM, nilA, consA, dvs, dv, ownAt, fzs, lstM, tupM, callM, callP, permL, fzv, seqS, skipS, ifS, setS, asg, freeAt, retS, retV, dropS, frz, frzS, asgS, nilG, consG, tupG, subG, listAt, methM, augS, augSubS, forS, seqM, treeV, startD, endV, bodyF, bodyI, startI, ioAt, slM, partM, bors, callL, callI, callO, DL.flatV, DL.flat, List.filterMap_cons, List.filterMap_nil, List.map_cons, List.map_nil, List.getElem?_cons_zero, List.getElem?_cons_succ, List.getElem?_nil, List.set_cons_zero, List.set_cons_succ, List.cons_append, List.nil_append, List.length_cons, List.length_nil, Option.bind_some, Option.bind_none, Option.map_some, Option.map_none, Nat.reduceSub, Nat.reduceAdd, List.replicate_succ, List.replicate_zero, Bool.not_true, Bool.not_false, if_true, if_false, Bool.false_eq_true, reduceIte, decide_true, decide_false, Nat.reduceLT, Nat.reduceLeDiff, reduceCtorEq, Option.some.injEq, Prod.mk.injEq, h, itemsOf, h1, h2, gtI, intB, decide_eq_false hi, h3]
theorem r_line_times {d e : D} {a b : List Int} (hl : Ln d a) (g : Gd a) (kl : Ln e b) (k : Gd b) (hz : a ≠ [] → b ≠ [] → a.length + b.length ≤ 14) : m_line_times [d, e] = some (.ow (IL (pr a b))) :=
  ev_times (two hl g kl k) (len_ints rfl) (len_ints rfl) (fun h1 h2 => by
    have := hz (fun z => by rw [z] at h1; simp at h1) (fun z => by rw [z] at h2; simp at h2)
    omega) (r_times rfl rfl g.mem k.mem (by have := g.len; omega) (by have := k.len; omega))
theorem gd_pr {a b : List Int} {A B : Nat} (na : Nz a) (nb : Nz b) (ha : Bd A a) (hb : Bd B b) (hz : a.length + b.length ≤ 14) (h : 14 * (A * B) ≤ 2 ^ 60) : Gd (pr a b) := ⟨Nat.le_trans (pr_len a b) (by omega), nz_pr na nb, PL.bd_le h (PL.bd_cv ha hb (cf_pr a b) hz)⟩
theorem gd_ad {a b : List Int} {A B : Nat} (ha : Bd A a) (hb : Bd B b) (hz : a.length ≤ 13) (hy : b.length ≤ 13) (h : A + B ≤ 2 ^ 60) : Gd (ad a b) := ⟨Nat.le_trans (PL.ad_len a b) (by omega), PL.nz_ad a b, PL.bd_le h (PL.bd_ad ha hb)⟩
end K11
end
section
set_option maxRecDepth 100000
set_option maxHeartbeats 1000000
namespace K11
open PySem PySem.Spec L2 DL
open PL (cf Nz cv vl sm tms Bd ad su)
/-! ### draws -/
theorem fdivD_21 (i : Int) : fdivD (.int i) (.int 21) = some (.fz (.int (i / 21))) := by
  rw [fdivD_lt (by decide) (by decide), Int.fdiv_eq_ediv_of_nonneg _ (show (0 : Int) ≤ 21 from by decide)]
def Pot (d : D) : Prop := ∃ a b : Int, d = .list [.int a, .int b] ∧ 0 ≤ a ∧ 0 ≤ b ∧ b < 2 ^ 32
theorem draw_ok {d : D} {n : Int} (hd : Pot d) (h0 : 0 < n) (h1 : n < 1073741824) : ∃ r d', m__law_draw d [.int n] = some (.fz (.int r), d') ∧ Pot d' ∧ 0 ≤ r ∧ r < n := by
  obtain ⟨a, b, rfl, ha, hb, hb2⟩ := hd
  by_cases ha0 : 0 < a
  · refine ⟨a % n, .list [.int (a / n), .int b], ?_, ⟨_, _, rfl, Int.ediv_nonneg ha (by omega), hb, hb2⟩, Int.emod_nonneg _ (by omega), Int.emod_lt_of_pos _ h0⟩
    simp only [m__law_draw, g__law_draw, g__law_draw_s1, g__law_draw_s2, g__law_draw_s3, mb, mr, mo, nameM, conM, binM, unM, boolM, ifM, DL.andM, DL.orM, DL.notM, andV, orV, notV, chainM, nilA, consA, dvs, dv, ownAt, fzs, lstM, tupM, callM, callP, permL, fzv, seqS, skipS, ifS, setS, asg, freeAt, retS, retV, dropS, frz, frzS, asgS, nilG, consG, tupG, subG, listAt, methM, augS, augSubS, forS, seqM, treeV, startD, endV, bodyF, bodyI, startI, ioAt, slM, partM, bors, callL, callI, callO, DL.flatV, DL.flat, List.filterMap_cons, List.filterMap_nil, List.map_cons, List.map_nil, List.getElem?_cons_zero, List.getElem?_cons_succ, List.getElem?_nil, List.set_cons_zero, List.set_cons_succ, List.cons_append, List.nil_append, List.length_cons, List.length_nil, Option.bind_some, Option.bind_none, Option.map_some, Option.map_none, Nat.reduceSub, Nat.reduceAdd, List.replicate_succ, List.replicate_zero, Bool.not_true, Bool.not_false, if_true, if_false, Bool.false_eq_true, reduceIte, decide_true, decide_false, Nat.reduceLT, Nat.reduceLeDiff, reduceCtorEq, Option.some.injEq, Prod.mk.injEq, ixL0, ixL1, gtI, intB, decide_eq_true ha0, divmodD, decide_eq_true h0, decide_eq_true h1, itemsOf, ixN20, ixN21, Bool.and_self, Bool.and_true]
  · obtain ⟨b', hb', q0, q1⟩ : ∃ b' : Int, (b * 40014 + 1109) % 2147483563 = b' ∧ 0 ≤ b' ∧ b' < 2147483563 := ⟨_, rfl, Int.emod_nonneg _ (by omega), Int.emod_lt_of_pos _ (by omega)⟩
    refine ⟨(b' * b') % 2147483587 / 21 % n, .list [.int a, .int b'], ?_, ⟨_, _, rfl, ha, q0, by omega⟩, Int.emod_nonneg _ (by omega), Int.emod_lt_of_pos _ h0⟩
    have m1 : mulD (.int b) (.int 40014) = some (.fz (.int (b * 40014))) := mulD_lt (by omega) (by decide)
    have m2 : mulD (.int b') (.int b') = some (.fz (.int (b' * b'))) := mulD_lt (by omega) (by omega)
    simp only [m__law_draw, g__law_draw, g__law_draw_s1, g__law_draw_s2, g__law_draw_s3, mb, mr, mo, nameM, conM, binM, unM, boolM, ifM, DL.andM, DL.orM, DL.notM, andV, orV, notV, chainM, nilA, consA, dvs, dv, ownAt, fzs, lstM, tupM, callM, callP, permL, fzv, seqS, skipS, ifS, setS, asg, freeAt, retS, retV, dropS, frz, frzS, asgS, nilG, consG, tupG, subG, listAt, methM, augS, augSubS, forS, seqM, treeV, startD, endV, bodyF, bodyI, startI, ioAt, slM, partM, bors, callL, callI, callO, DL.flatV, DL.flat, List.filterMap_cons, List.filterMap_nil, List.map_cons, List.map_nil, List.getElem?_cons_zero, List.getElem?_cons_succ, List.getElem?_nil, List.set_cons_zero, List.set_cons_succ, List.cons_append, List.nil_append, List.length_cons, List.length_nil, Option.bind_some, Option.bind_none, Option.map_some, Option.map_none, Nat.reduceSub, Nat.reduceAdd, List.replicate_succ, List.replicate_zero, Bool.not_true, Bool.not_false, if_true, if_false, Bool.false_eq_true, reduceIte, decide_true, decide_false, Nat.reduceLT, Nat.reduceLeDiff, reduceCtorEq, Option.some.injEq, Prod.mk.injEq, ixL0, ixL1, gtI, intB, decide_eq_false ha0, addD, fdivD_21, modD_pos _ h0, modD_pos _ (show (0 : Int) < 2147483587 from by decide), modD_pos _ (show (0 : Int) < 2147483563 from by decide), intD, m1, m2, hb', ixN20, ixN21]
theorem pot_s2 {s : D} {c : Int} (hc : 0 ≤ c) : ∃ d, g__law_pot_s2 [.dat s, .dat (.int 0), .dat (.int c)] = some (.rt (.ow d), [.dat s, .dat (.int 0), .dat (.int c)]) ∧ Pot d := by
  obtain ⟨r, hr, r0, r1⟩ : ∃ r : Int, c % 2147483549 = r ∧ 0 ≤ r ∧ r < 2147483549 := ⟨_, rfl, Int.emod_nonneg _ (by omega), Int.emod_lt_of_pos _ (by omega)⟩
  obtain ⟨b, hb, b0, b1⟩ : ∃ b : Int, (r * 40949 + 4021 * 0 + 509) % 2147483563 = b ∧ 0 ≤ b ∧ b < 2147483563 := ⟨_, rfl, Int.emod_nonneg _ (by omega), Int.emod_lt_of_pos _ (by omega)⟩
  have m1 : mulD (.int r) (.int 40949) = some (.fz (.int (r * 40949))) := mulD_lt (by omega) (by decide)
  have m2 : mulD (.int 4021) (.int 0) = some (.fz (.int (4021 * 0))) := mulD_lt (by decide) (by decide)
  refine ⟨_, ?_, ⟨if c - 1000000000000000000 > 0 then c - 1000000000000000000 else 0, b + 1, rfl, by split <;> omega, by omega, by omega⟩⟩
  simp only [g__law_pot_s2, mb, mr, mo, nameM, conM, binM, unM, boolM, ifM, DL.andM, DL.orM, DL.notM, andV, orV, notV, chainM, nilA, consA, dvs, dv, ownAt, fzs, lstM, tupM, callM, callP, permL, fzv, seqS, skipS, ifS, setS, asg, freeAt, retS, retV, dropS, frz, frzS, asgS, nilG, consG, tupG, subG, listAt, methM, augS, augSubS, forS, seqM, treeV, startD, endV, bodyF, bodyI, startI, ioAt, slM, partM, bors, callL, callI, callO, DL.flatV, DL.flat, List.filterMap_cons, List.filterMap_nil, List.map_cons, List.map_nil, List.getElem?_cons_zero, List.getElem?_cons_succ, List.getElem?_nil, List.set_cons_zero, List.set_cons_succ, List.cons_append, List.nil_append, List.length_cons, List.length_nil, Option.bind_some, Option.bind_none, Option.map_some, Option.map_none, Nat.reduceSub, Nat.reduceAdd, List.replicate_succ, List.replicate_zero, Bool.not_true, Bool.not_false, if_true, if_false, Bool.false_eq_true, reduceIte, decide_true, decide_false, Nat.reduceLT, Nat.reduceLeDiff, reduceCtorEq, Option.some.injEq, Prod.mk.injEq, max2D, subI, powE, intB, addD, modD_pos _ (show (0 : Int) < 2147483549 from by decide), modD_pos _ (show (0 : Int) < 2147483563 from by decide), intD, m1, m2, hr, hb, szOk2]
theorem pot_ok (ns : List Int) : ∃ d, m__law_pot [scrD ns, .int 0] = some (.ow d) ∧ Pot d := by
  cases ns with
  | nil =>
    obtain ⟨d, h, hp⟩ := pot_s2 (s := scrD []) (c := 499) (by decide)
    refine ⟨d, ?_, hp⟩
    have hl : lenD [scrD []] = some (.fz (.int 0)) := rfl
    have m2 : mulD (.int 547) (.int 0) = some (.fz (.int 0)) := mulD_lt (by decide) (by decide)
    simp only [m__law_pot, g__law_pot, g__law_pot_s1, mb, mr, mo, nameM, conM, binM, unM, boolM, ifM, DL.andM, DL.orM, DL.notM, andV, orV, notV, chainM, nilA, consA, dvs, dv, ownAt, fzs, lstM, tupM, callM, callP, permL, fzv, seqS, skipS, ifS, setS, asg, freeAt, retS, retV, dropS, frz, frzS, asgS, nilG, consG, tupG, subG, listAt, methM, augS, augSubS, forS, seqM, treeV, startD, endV, bodyF, bodyI, startI, ioAt, slM, partM, bors, callL, callI, callO, DL.flatV, DL.flat, List.filterMap_cons, List.filterMap_nil, List.map_cons, List.map_nil, List.getElem?_cons_zero, List.getElem?_cons_succ, List.getElem?_nil, List.set_cons_zero, List.set_cons_succ, List.cons_append, List.nil_append, List.length_cons, List.length_nil, Option.bind_some, Option.bind_none, Option.map_some, Option.map_none, Nat.reduceSub, Nat.reduceAdd, List.replicate_succ, List.replicate_zero, Bool.not_true, Bool.not_false, if_true, if_false, Bool.false_eq_true, reduceIte, decide_true, decide_false, Nat.reduceLT, Nat.reduceLeDiff, reduceCtorEq, Option.some.injEq, Prod.mk.injEq, hl, ltI, intB, addD, m2, show decide ((0 : Int) < 0) = false from rfl, show (0 : Int) + 499 = 499 from rfl, h]
  | cons n r =>
    obtain ⟨d, h, hp⟩ := pot_s2 (s := scrD (n :: r)) (c := if n < 0 then -n else n) (by split <;> omega)
    refine ⟨d, ?_, hp⟩
    obtain ⟨k, hk, hl⟩ : ∃ k : Int, 0 < k ∧ lenD [scrD (n :: r)] = some (.fz (.int k)) := ⟨(((n :: r).map PyData.int).length : Nat), by simp, rfl⟩
    have hx : ixD (scrD (n :: r)) (.int 0) = some (.fz (.int n)) := by
      show (atI ((n :: r).map PyData.int) 0).bind _ = _
      have := atI_natI ((n :: r).map PyData.int) 0 (by simp)
      rw [show ((0 : Nat) : Int) = 0 from rfl] at this
      rw [this]; rfl
    generalize scrD (n :: r) = s at h hl hx ⊢
    simp only [m__law_pot, g__law_pot, g__law_pot_s1, mb, mr, mo, nameM, conM, binM, unM, boolM, ifM, DL.andM, DL.orM, DL.notM, andV, orV, notV, chainM, nilA, consA, dvs, dv, ownAt, fzs, lstM, tupM, callM, callP, permL, fzv, seqS, skipS, ifS, setS, asg, freeAt, retS, retV, dropS, frz, frzS, asgS, nilG, consG, tupG, subG, listAt, methM, augS, augSubS, forS, seqM, treeV, startD, endV, bodyF, bodyI, startI, ioAt, slM, partM, bors, callL, callI, callO, DL.flatV, DL.flat, List.filterMap_cons, List.filterMap_nil, List.map_cons, List.map_nil, List.getElem?_cons_zero, List.getElem?_cons_succ, List.getElem?_nil, List.set_cons_zero, List.set_cons_succ, List.cons_append, List.nil_append, List.length_cons, List.length_nil, Option.bind_some, Option.bind_none, Option.map_some, Option.map_none, Nat.reduceSub, Nat.reduceAdd, List.replicate_succ, List.replicate_zero, Bool.not_true, Bool.not_false, if_true, if_false, Bool.false_eq_true, reduceIte, decide_true, decide_false, Nat.reduceLT, Nat.reduceLeDiff, reduceCtorEq, Option.some.injEq, Prod.mk.injEq, hl, hx, decide_eq_true hk, absD, ltI, intB, h]
theorem pick_ok {d : D} {xs : List D} (hd : Pot d) (h0 : xs ≠ []) (h1 : xs.length < 1073741824) : ∃ x ∈ xs, ∃ d', m__law_pick d [.list xs] = some (.fz x, d') ∧ Pot d' := by
  have hp := List.length_pos_iff.mpr h0
  obtain ⟨r, d', h, hd', r0, r1⟩ := draw_ok hd (n := (xs.length : Nat)) (by omega) (by omega)
  obtain ⟨k, rfl⟩ : ∃ k : Nat, r = k := ⟨r.toNat, by omega⟩
  have hk : k < xs.length := by omega
  refine ⟨xs[k], List.getElem_mem hk, d', ?_, hd'⟩
  have hx : ixD (.list xs) (.int (k : Nat)) = some (.fz xs[k]) := ix_nat rfl (List.getElem?_eq_getElem hk)
  have hl : lenD [.list xs] = some (.fz (.int (xs.length : Nat))) := rfl
  generalize ((k : Nat) : Int) = r at h hx
  generalize ((xs.length : Nat) : Int) = n at h hl
  generalize xs[k] = y at hx ⊢
  simp only [m__law_pick, g__law_pick, g__law_pick_s1, mb, mr, mo, nameM, conM, binM, unM, boolM, ifM, DL.andM, DL.orM, DL.notM, andV, orV, notV, chainM, nilA, consA, dvs, dv, ownAt, fzs, lstM, tupM, callM, callP, permL, fzv, seqS, skipS, ifS, setS, asg, freeAt, retS, retV, dropS, frz, frzS, asgS, nilG, consG, tupG, subG, listAt, methM, augS, augSubS, forS, seqM, treeV, startD, endV, bodyF, bodyI, startI, ioAt, slM, partM, bors, callL, callI, callO, DL.flatV, DL.flat, List.filterMap_cons, List.filterMap_nil, List.map_cons, List.map_nil, List.getElem?_cons_zero, List.getElem?_cons_succ, List.getElem?_nil, List.set_cons_zero, List.set_cons_succ, List.cons_append, List.nil_append, List.length_cons, List.length_nil, Option.bind_some, Option.bind_none, Option.map_some, Option.map_none, Nat.reduceSub, Nat.reduceAdd, List.replicate_succ, List.replicate_zero, Bool.not_true, Bool.not_false, if_true, if_false, Bool.false_eq_true, reduceIte, decide_true, decide_false, Nat.reduceLT, Nat.reduceLeDiff, reduceCtorEq, Option.some.injEq, Prod.mk.injEq, hl, h, hx]
end K11
end
section
set_option maxRecDepth 100000
set_option maxHeartbeats 1000000
namespace K11
open PySem PySem.Spec L2 DL
open PL (cf Nz cv vl sm tms Bd ad su)
theorem line_b1 {d d' : D} {m : Int} {xs : List Int} {x y : Int} {r : Option D} (h : m__law_draw d [.int 19] = some (.fz (.int x), d')) (hy : x - 9 = y) (hz : xs.length ≤ 900) : g__law_line_b1 [.own true d, .dat (.int m), .dat (.int 9), .own false (IL xs), rw' r] = some (.nx, [.own true d', .dat (.int m), .dat (.int 9), .own false (IL (xs ++ [y])), rw' r]) := by
  have m1 : mulD (.int 2) (.int 9) = some (.fz (.int 18)) := mulD_lt (by decide) (by decide)
  have ha : appendL (xs.map .int) [.int y] = some (.none, (xs ++ [y]).map .int) := by
    unfold appendL
    rw [List.map_append]
    simp only [List.length_map, szOkL (show xs.length + 1 ≤ 16777216 by omega), if_true]
    rfl
  simp only [g__law_line_b1, mb, mr, mo, nameM, conM, binM, unM, boolM, ifM, DL.andM, DL.orM, DL.notM, andV, orV, notV, chainM, nilA, consA, dvs, dv, ownAt, fzs, lstM, tupM, callM, callP, permL, fzv, seqS, skipS, ifS, setS, asg, fr_z_un, fr_z_dat, fr_z_rw, fr_z_own, fr_s, turnF, retS, retV, dropS, frz, frzS, asgS, nilG, consG, tupG, subG, listAt, methM, augS, augSubS, forS, seqM, treeV, startD, endV, bodyF, bodyI, startI, ioAt, slM, partM, bors, callL, callI, callO, DL.flatV, DL.flat, List.filterMap_cons, List.filterMap_nil, List.map_cons, List.map_nil, List.getElem?_cons_zero, List.getElem?_cons_succ, List.getElem?_nil, List.set_cons_zero, List.set_cons_succ, List.cons_append, List.nil_append, List.length_cons, List.length_nil, Option.bind_some, Option.bind_none, Option.map_some, Option.map_none, Nat.reduceSub, Nat.reduceAdd, List.replicate_succ, List.replicate_zero, Bool.not_true, Bool.not_false, if_true, if_false, Bool.false_eq_true, reduceIte, decide_true, decide_false, Nat.reduceLT, Nat.reduceLeDiff, reduceCtorEq, Option.some.injEq, Prod.mk.injEq, m1, addD, show (18 : Int) + 1 = 19 from rfl, h, subI, intB, hy, ha]
theorem line_end {d d' d'' x xs : D} {m : Int} {δ : DS} {ys : List D} (hf : g__law_line_f1 [.own true d, .dat (.int m), .dat (.int 9), .own false (.list []), .un] = some (.nx, .own true d' :: .dat (.int m) :: .dat (.int 9) :: .own false xs :: δ)) (hp : m__law_pick d' [.list [.int 1, .int (-1), .int 2, .int 3, .int (-8)]] = some (.fz x, d''))
    (ha : addD xs (.list [x]) = some (.ow (.list ys))) : m__law_line d [.int m, .int 9] = some (.ow (.list ys), d'') := by
  simp only [m__law_line, g__law_line, g__law_line_s1, g__law_line_s2, mb, mr, mo, nameM, conM, binM, unM, boolM, ifM, DL.andM, DL.orM, DL.notM, andV, orV, notV, chainM, nilA, consA, dvs, dv, ownAt, fzs, lstM, tupM, callM, callP, permL, fzv, seqS, skipS, ifS, setS, asg, freeAt, retS, retV, dropS, frz, frzS, asgS, nilG, consG, tupG, subG, listAt, methM, augS, augSubS, forS, seqM, treeV, startD, endV, bodyF, bodyI, startI, ioAt, slM, partM, bors, callL, callI, callO, DL.flatV, DL.flat, List.filterMap_cons, List.filterMap_nil, List.map_cons, List.map_nil, List.getElem?_cons_zero, List.getElem?_cons_succ, List.getElem?_nil, List.set_cons_zero, List.set_cons_succ, List.cons_append, List.nil_append, List.length_cons, List.length_nil, Option.bind_some, Option.bind_none, Option.map_some, Option.map_none, Nat.reduceSub, Nat.reduceAdd, List.replicate_succ, List.replicate_zero, Bool.not_true, Bool.not_false, if_true, if_false, Bool.false_eq_true, reduceIte, decide_true, decide_false, Nat.reduceLT, Nat.reduceLeDiff, reduceCtorEq, Option.some.injEq, Prod.mk.injEq, szOk0, hf, negI, subI, intB, show (1 : Int) - 9 = -8 from rfl, szOkL (show 5 ≤ 16777216 by decide), hp, szOk1, ha]
/-- a drawn line -/
structure Dr (a : List Int) : Prop where
  len : a.length ≤ 7
  nz : Nz a
  bd : Bd 9 a
theorem r_law_line {d : D} {m : Int} (hd : Pot d) (h0 : 0 ≤ m) (h1 : m ≤ 6) : ∃ a d', m__law_line d [.int m, .int 9] = some (.ow (IL a), d') ∧ Pot d' ∧ Dr a := by
  obtain ⟨s, r, e, p⟩ := for_ex (δ0 := [.own true d, .dat (.int m), .dat (.int 9), .own false (IL []), rw' none]) (fi := rngM1 (consA (nameM 1) nilA)) (gt := asg 4) (body := g__law_line_b1) (fun i : Nat => .int ((0 : Int) + (i : Nat))) (fun (s : D × List Int) (r : Option D) => [.own true s.1, .dat (.int m), .dat (.int 9), .own false (IL s.2), rw' r]) (fun k s => Pot s.1 ∧ s.2.length = k ∧ ∀ y ∈ s.2, y.natAbs ≤ 9) (List.range m.toNat) (s0 := (d, [])) (r0 := none) rfl (rng_1 (by simp only [mb, mr, mo, nameM, conM, binM, unM, boolM, ifM, DL.andM, DL.orM, DL.notM, andV, orV, notV, chainM, nilA, consA, dvs, dv, ownAt, fzs, lstM, tupM, callM, callP, permL, fzv, seqS, skipS, ifS, setS, asg, fr_z_un, fr_z_dat, fr_z_rw, fr_z_own, fr_s, turnF, retS, retV, dropS, frz, frzS, asgS, nilG, consG, tupG, subG, listAt, methM, augS, augSubS, forS, seqM, treeV, startD, endV, bodyF, bodyI, startI, ioAt, slM, partM, bors, callL, callI, callO, DL.flatV, DL.flat, List.filterMap_cons, List.filterMap_nil, List.map_cons, List.map_nil, List.getElem?_cons_zero, List.getElem?_cons_succ, List.getElem?_nil, List.set_cons_zero, List.set_cons_succ, List.cons_append, List.nil_append, List.length_cons, List.length_nil, Option.bind_some, Option.bind_none, Option.map_some, Option.map_none, Nat.reduceSub, Nat.reduceAdd, List.replicate_succ, List.replicate_zero, Bool.not_true, Bool.not_false, if_true, if_false, Bool.false_eq_true, reduceIte, decide_true, decide_false, Nat.reduceLT, Nat.reduceLeDiff, reduceCtorEq, Option.some.injEq, Prod.mk.injEq]) ⟨h0, by omega⟩) ⟨hd, rfl, by intro y hy; cases hy⟩ (fun k i s r hk p => by
    have hkl : k < m.toNat := by simpa using (List.getElem?_eq_some_iff.mp hk).1
    obtain ⟨x, d', hx, hd', x0, x1⟩ := draw_ok p.1 (n := 19) (by decide) (by decide)
    refine ⟨(d', s.2 ++ [x - 9]), some (.int ((0 : Int) + (i : Nat))), ?_, hd', by simp [p.2.1], fun y hy => ?_⟩
    · have e := line_b1 (m := m) (r := some (.int ((0 : Int) + (i : Nat)))) hx rfl (by omega : s.2.length ≤ 900)
      generalize (0 : Int) + (i : Nat) = j at e ⊢
      generalize s.2 ++ [x - 9] = ys at e ⊢
      unfold rw' at e
      simp only [mb, mr, mo, nameM, conM, binM, unM, boolM, ifM, DL.andM, DL.orM, DL.notM, andV, orV, notV, chainM, nilA, consA, dvs, dv, ownAt, fzs, lstM, tupM, callM, callP, permL, fzv, seqS, skipS, ifS, setS, asg, fr_z_un, fr_z_dat, fr_z_rw, fr_z_own, fr_s, turnF, retS, retV, dropS, frz, frzS, asgS, nilG, consG, tupG, subG, listAt, methM, augS, augSubS, forS, seqM, treeV, startD, endV, bodyF, bodyI, startI, ioAt, slM, partM, bors, callL, callI, callO, DL.flatV, DL.flat, List.filterMap_cons, List.filterMap_nil, List.map_cons, List.map_nil, List.getElem?_cons_zero, List.getElem?_cons_succ, List.getElem?_nil, List.set_cons_zero, List.set_cons_succ, List.cons_append, List.nil_append, List.length_cons, List.length_nil, Option.bind_some, Option.bind_none, Option.map_some, Option.map_none, Nat.reduceSub, Nat.reduceAdd, List.replicate_succ, List.replicate_zero, Bool.not_true, Bool.not_false, if_true, if_false, Bool.false_eq_true, reduceIte, decide_true, decide_false, Nat.reduceLT, Nat.reduceLeDiff, reduceCtorEq, Option.some.injEq, Prod.mk.injEq, e]
      rfl
    · rcases List.mem_append.mp hy with h | h
      · exact p.2.2 y h
      · rw [List.mem_singleton.mp h]
        omega)
  rw [List.length_range] at p
  obtain ⟨x, hx, d', hp, hd'⟩ := pick_ok (xs := [.int 1, .int (-1), .int 2, .int 3, .int (-8)]) p.1 (by simp) (by decide)
  obtain ⟨y, rfl, y0, y1⟩ : ∃ y : Int, x = .int y ∧ y ≠ 0 ∧ y.natAbs ≤ 9 := by
    simp only [List.mem_cons, List.not_mem_nil, or_false] at hx
    rcases hx with rfl | rfl | rfl | rfl | rfl <;> exact ⟨_, rfl, by decide, by decide⟩
  refine ⟨s.2 ++ [y], d', line_end e hp (addD_IL s.2 [y] (by simp; omega)), hd', by simp; omega, PL.nz_last y0, PL.bd_mem fun z hz => ?_⟩
  rcases List.mem_append.mp hz with h | h
  · exact p.2.2 z h
  · rw [List.mem_singleton.mp h]
    exact y1
theorem drawn_nil {d d' : D} (h : m__law_draw d [.int 8] = some (.fz (.int 0), d')) : m__law_drawn d [] = some (.ow (.list []), d') := by
  simp only [m__law_drawn, g__law_drawn, g__law_drawn_s1, mb, mr, mo, nameM, conM, binM, unM, boolM, ifM, DL.andM, DL.orM, DL.notM, andV, orV, notV, chainM, nilA, consA, dvs, dv, ownAt, fzs, lstM, tupM, callM, callP, permL, fzv, seqS, skipS, ifS, setS, asg, freeAt, retS, retV, dropS, frz, frzS, asgS, nilG, consG, tupG, subG, listAt, methM, augS, augSubS, forS, seqM, treeV, startD, endV, bodyF, bodyI, startI, ioAt, slM, partM, bors, callL, callI, callO, DL.flatV, DL.flat, List.filterMap_cons, List.filterMap_nil, List.map_cons, List.map_nil, List.getElem?_cons_zero, List.getElem?_cons_succ, List.getElem?_nil, List.set_cons_zero, List.set_cons_succ, List.cons_append, List.nil_append, List.length_cons, List.length_nil, Option.bind_some, Option.bind_none, Option.map_some, Option.map_none, Nat.reduceSub, Nat.reduceAdd, List.replicate_succ, List.replicate_zero, Bool.not_true, Bool.not_false, if_true, if_false, Bool.false_eq_true, reduceIte, decide_true, decide_false, Nat.reduceLT, Nat.reduceLeDiff, reduceCtorEq, Option.some.injEq, Prod.mk.injEq, h, eqD_int, decide_true, szOk0]
theorem drawn_line {d d1 d2 d3 l : D} {x m : Int} (h : m__law_draw d [.int 8] = some (.fz (.int x), d1)) (hx : x ≠ 0) (h2 : m__law_draw d1 [.int 7] = some (.fz (.int m), d2)) (h3 : m__law_line d2 [.int m, .int 9] = some (.ow l, d3)) : m__law_drawn d [] = some (.ow l, d3) := by
  simp only [m__law_drawn, g__law_drawn, g__law_drawn_s1, mb, mr, mo, nameM, conM, binM, unM, boolM, ifM, DL.andM, DL.orM, DL.notM, andV, orV, notV, chainM, nilA, consA, dvs, dv, ownAt, fzs, lstM, tupM, callM, callP, permL, fzv, seqS, skipS, ifS, setS, asg, freeAt, retS, retV, dropS, frz, frzS, asgS, nilG, consG, tupG, subG, listAt, methM, augS, augSubS, forS, seqM, treeV, startD, endV, bodyF, bodyI, startI, ioAt, slM, partM, bors, callL, callI, callO, DL.flatV, DL.flat, List.filterMap_cons, List.filterMap_nil, List.map_cons, List.map_nil, List.getElem?_cons_zero, List.getElem?_cons_succ, List.getElem?_nil, List.set_cons_zero, List.set_cons_succ, List.cons_append, List.nil_append, List.length_cons, List.length_nil, Option.bind_some, Option.bind_none, Option.map_some, Option.map_none, Nat.reduceSub, Nat.reduceAdd, List.replicate_succ, List.replicate_zero, Bool.not_true, Bool.not_false, if_true, if_false, Bool.false_eq_true, reduceIte, decide_true, decide_false, Nat.reduceLT, Nat.reduceLeDiff, reduceCtorEq, Option.some.injEq, Prod.mk.injEq, h, eqD_int, decide_eq_false hx, h2, h3]
theorem r_law_drawn {d : D} (hd : Pot d) : ∃ a d', m__law_drawn d [] = some (.ow (IL a), d') ∧ Pot d' ∧ Dr a := by
  obtain ⟨x, d1, h1, p1, -, -⟩ := draw_ok hd (n := 8) (by decide) (by decide)
  by_cases hx : x = 0
  · subst hx
    exact ⟨[], d1, drawn_nil h1, p1, by simp, PL.nz_nil, fun n => by rw [PL.cf_nil]; decide⟩
  · obtain ⟨m, d2, h2, p2, m0, m1⟩ := draw_ok p1 (n := 7) (by decide) (by decide)
    obtain ⟨a, d3, h3, p3, ha⟩ := r_law_line p2 m0 (by omega)
    exact ⟨a, d3, drawn_line h1 hx h2 h3, p3, ha⟩
end K11
end
section
set_option maxRecDepth 100000
set_option maxHeartbeats 1000000
namespace K11
open PySem PySem.Spec L2 DL
open PL (cf Nz cv vl sm tms Bd ad su)
theorem flatW_IL (a : List Int) : flatW (.ow (IL a)) = true := by
  show (a.map PyData.int).all DL.flat = true
  rw [List.all_map]
  exact List.all_eq_true.mpr fun _ _ => rfl
theorem append_IL {xs : List Int} {y : Int} (hz : xs.length ≤ 900) : appendL (xs.map .int) [.int y] = some (.none, (xs ++ [y]).map .int) := by
  unfold appendL
  rw [List.map_append]
  simp only [List.length_map, szOkL (show xs.length + 1 ≤ 16777216 by omega), if_true]
  rfl
theorem one_c1 {d : D} {c : Int} {a : List Int} (hc : c.natAbs < 2 ^ 200) (ha : ∀ y ∈ a, y.natAbs < 2 ^ 200) (hz : a.length ≤ 900) : g__law_one_right_c1 [.own true d, .dat (IL a), .dat (.int c), .un, .un, .un] = some (.ow (IL (a.map (c * ·))), [.own true d, .dat (IL a), .dat (.int c), .un, .un, .un]) := by
  unfold g__law_one_right_c1
  have hi : seqM (nameM 1) [.own true d, .dat (IL a), .dat (.int c), .un, .un, .un] = some (a.map .int, [.own true d, .dat (IL a), .dat (.int c), .un, .un, .un]) := by simp only [mb, mr, mo, nameM, conM, binM, unM, boolM, ifM, DL.andM, DL.orM, DL.notM, andV, orV, notV, chainM, nilA, consA, dvs, dv, ownAt, fzs, lstM, tupM, callM, callP, permL, fzv, seqS, skipS, ifS, setS, asg, fr_z_un, fr_z_dat, fr_z_rw, fr_z_own, fr_s, turnF, retS, retV, dropS, frz, frzS, asgS, nilG, consG, tupG, subG, listAt, methM, augS, augSubS, forS, seqM, treeV, startD, endV, bodyF, bodyI, startI, ioAt, slM, partM, bors, callL, callI, callO, DL.flatV, DL.flat, List.filterMap_cons, List.filterMap_nil, List.map_cons, List.map_nil, List.getElem?_cons_zero, List.getElem?_cons_succ, List.getElem?_nil, List.set_cons_zero, List.set_cons_succ, List.cons_append, List.nil_append, List.length_cons, List.length_nil, Option.bind_some, Option.bind_none, Option.map_some, Option.map_none, Nat.reduceSub, Nat.reduceAdd, List.replicate_succ, List.replicate_zero, Bool.not_true, Bool.not_false, if_true, if_false, Bool.false_eq_true, reduceIte, decide_true, decide_false, Nat.reduceLT, Nat.reduceLeDiff, reduceCtorEq, Option.some.injEq, Prod.mk.injEq, itemsOf]
  rw [comp_map (gt := asg 4) (fe := binM mulD (nameM 2) (nameM 4)) (vs := [4]) a (fun x => .int x) (fun x => .int (c * x)) (fun x => [.own true d, .dat (IL a), .dat (.int c), .un, .dat (.int x), .un]) hi rfl rfl (by omega) (fun x hx => by
    have hm := mulD_lt hc (ha x hx)
    exact ⟨rfl, ⟨.fz (.int (c * x)), by simp only [mb, mr, mo, nameM, conM, binM, unM, boolM, ifM, DL.andM, DL.orM, DL.notM, andV, orV, notV, chainM, nilA, consA, dvs, dv, ownAt, fzs, lstM, tupM, callM, callP, permL, fzv, seqS, skipS, ifS, setS, asg, fr_z_un, fr_z_dat, fr_z_rw, fr_z_own, fr_s, turnF, retS, retV, dropS, frz, frzS, asgS, nilG, consG, tupG, subG, listAt, methM, augS, augSubS, forS, seqM, treeV, startD, endV, bodyF, bodyI, startI, ioAt, slM, partM, bors, callL, callI, callO, DL.flatV, DL.flat, List.filterMap_cons, List.filterMap_nil, List.map_cons, List.map_nil, List.getElem?_cons_zero, List.getElem?_cons_succ, List.getElem?_nil, List.set_cons_zero, List.set_cons_succ, List.cons_append, List.nil_append, List.length_cons, List.length_nil, Option.bind_some, Option.bind_none, Option.map_some, Option.map_none, Nat.reduceSub, Nat.reduceAdd, List.replicate_succ, List.replicate_zero, Bool.not_true, Bool.not_false, if_true, if_false, Bool.false_eq_true, reduceIte, decide_true, decide_false, Nat.reduceLT, Nat.reduceLeDiff, reduceCtorEq, Option.some.injEq, Prod.mk.injEq, hm], rfl⟩, rfl⟩)]
  unfold IL
  rw [List.map_map]
  rfl
theorem one_ev {d d' a mn sl : D} {c k k1 : Int} {ts ts' : List D} (hp : m__law_pick d [.list [.int 1, .int (-1), .int 2, .int (-6), .int 12]] = some (.fz (.int c), d'))
    (hc : g__law_one_right_c1 [.own true d', .dat a, .dat (.int c), .un, .un, .un] = some (.ow mn, [.own true d', .dat a, .dat (.int c), .un, .un, .un]))
    (h1 : m_degree [a] = some (.fz (.int k))) (h2 : m_degree [mn] = some (.fz (.int k))) (h3 : lenD [a] = some (.fz (.int k1))) (hk : k1 - 1 = k)
    (h4 : m_line_slope [a] = some (.ow sl)) (h5 : m__law_slope [a] = some (.ow sl)) (n1 : neD sl sl = some (.fz (.bool false)))
    (h6 : m_plain_line [mn] = some (.ow (.list ts))) (f6 : flatW (.ow (.list ts)) = true) (h7 : m__law_plain [a] = some (.ow (.list ts))) (n2 : neD (.list ts) (.list ts) = some (.fz (.bool false)))
    (h8 : m_plain_line [.list ts] = some (.ow (.list ts))) (h9 : m_line_less [a, a] = some (.ow (.list []))) (n3 : neD (.list []) (.list []) = some (.fz (.bool false))) (h10 : m_line_sum [a, .list []] = some (.ow a)) (n4 : neD a a = some (.fz (.bool false)))
    (h11 : appendL ts [.int 1] = some (.none, ts')) (e1 : eqD (.list ts) (.list ts) = some (.fz (.bool true))) (h13 : m_line_times [a, .list [.int c]] = some (.ow mn)) (e2 : eqD mn mn = some (.fz (.bool true))) (h14 : m_line_times [.list [], a] = some (.ow (.list []))) (e3 : eqD (.list []) (.list []) = some (.fz (.bool true))) :
    m__law_one_right d [a] = some (.fz (.bool true), d') := by
  have fi : ∀ i, flatW (.fz (.int i)) = true := fun _ => rfl
  simp only [m__law_one_right, g__law_one_right, g__law_one_right_s1, g__law_one_right_s2, g__law_one_right_s3, g__law_one_right_s4, g__law_one_right_s5, g__law_one_right_s6, g__law_one_right_s7, mb, mr, mo, nameM, conM, binM, unM, boolM, ifM, DL.andM, DL.orM, DL.notM, andV, orV, notV, chainM, nilA, consA, dvs, dv, ownAt, fzs, lstM, tupM, callM, callP, permL, fzv, seqS, skipS, ifS, setS, asg, freeAt, retS, retV, dropS, frz, frzS, asgS, nilG, consG, tupG, subG, listAt, methM, augS, augSubS, forS, seqM, treeV, startD, endV, bodyF, bodyI, startI, ioAt, slM, partM, bors, callL, callI, callO, DL.flatV, DL.flat, List.filterMap_cons, List.filterMap_nil, List.map_cons, List.map_nil, List.getElem?_cons_zero, List.getElem?_cons_succ, List.getElem?_nil, List.set_cons_zero, List.set_cons_succ, List.cons_append, List.nil_append, List.length_cons, List.length_nil, Option.bind_some, Option.bind_none, Option.map_some, Option.map_none, Nat.reduceSub, Nat.reduceAdd, List.replicate_succ, List.replicate_zero, Bool.not_true, Bool.not_false, if_true, if_false, Bool.false_eq_true, reduceIte, decide_true, decide_false, Nat.reduceLT, Nat.reduceLeDiff, reduceCtorEq, Option.some.injEq, Prod.mk.injEq, szOkL (show 5 ≤ 16777216 by decide), negI, hp, hc, h1, h2, h3, subI, intB, hk, fi, neD_int, h4, h5, n1, h6, f6, h7, n2, h8, h9, szOk0, n3, h10, n4, h11, e1, szOk1, h13, e2, h14, e3]
theorem gd_dr {a : List Int} (h : Dr a) : Gd a := ⟨by have := h.len; omega, h.nz, PL.bd_le (by decide) h.bd⟩
theorem r_one {d : D} {a : List Int} (hd : Pot d) (ha : Dr a) : ∃ d', m__law_one_right d [IL a] = some (.fz (.bool true), d') ∧ Pot d' := by
  obtain ⟨x, hx, d', hp, hd'⟩ := pick_ok (xs := [.int 1, .int (-1), .int 2, .int (-6), .int 12]) hd (by simp) (by decide)
  obtain ⟨c, rfl, c0, c1⟩ : ∃ c : Int, x = .int c ∧ c ≠ 0 ∧ c.natAbs ≤ 12 := by
    simp only [List.mem_cons, List.not_mem_nil, or_false] at hx
    rcases hx with rfl | rfl | rfl | rfl | rfl <;> exact ⟨_, rfl, by decide, by decide⟩
  refine ⟨d', ?_, hd'⟩
  have g := gd_dr ha
  have gl7 := ha.len
  have cm : ∀ n, cf (a.map (c * ·)) n = c * cf a n := PL.cf_map (Int.mul_zero c) a
  have gm : Gd (a.map (c * ·)) := ⟨by rw [List.length_map]; exact g.len, PL.nz_iff.mpr (by
    rcases PL.nz_iff.mp ha.nz with h | h
    · left; rw [h]; rfl
    · right
      rw [cm, List.length_map]
      exact Int.mul_ne_zero c0 h), fun n => by
    have := ha.bd n
    rw [cm, Int.natAbs_mul]
    exact Nat.le_trans (Nat.mul_le_mul c1 this) (by decide)⟩
  have gp : Gd (pln a) := ⟨by rw [pln_len]; exact g.len, pln_nz ha.nz, PL.bd_mem fun y hy => by
    unfold pln at hy
    split at hy
    · cases hy
    · rename_i h0
      obtain ⟨z, hz, rfl⟩ := List.mem_map.mp hy
      obtain ⟨q, rfl⟩ := dg_dvd hz
      rw [Int.mul_fdiv_cancel_left _ (dg_ne ha.nz h0)]
      have h1 := PL.mem_bd ha.bd _ hz
      rw [Int.natAbs_mul, dg_abs] at h1
      have h2 := gl_pos ha.nz h0
      have h3 := Nat.le_mul_of_pos_left q.natAbs h2
      exact Nat.le_trans (Nat.le_trans h3 h1) (by decide)⟩
  have gn : Gd [] := ⟨by simp, PL.nz_nil, fun n => by rw [PL.cf_nil]; exact Nat.zero_le _⟩
  have gc : Gd [c] := ⟨by simp, PL.nz_last (a := []) c0, PL.bd_mem fun y hy => by rw [List.mem_singleton.mp hy]; exact Nat.le_trans c1 (by decide)⟩
  have hc := one_c1 (d := d') (c := c) (a := a) (Nat.lt_of_le_of_lt c1 (by decide)) g.mem (by omega)
  have e6 := r_plain_line (ln_IL _) gm
  rw [pln_map ha.nz c0] at e6
  have e8 := r_plain_line (ln_IL _) gp
  rw [pln_pln ha.nz] at e8
  have e9 := r_line_less (ln_IL _) g (ln_IL _) g
  rw [show su a a = [] from PL.nz_ext (PL.nz_su a a) PL.nz_nil fun n => by rw [PL.cf_su, PL.cf_nil]; omega] at e9
  have e10 := r_line_sum (ln_IL _) g (ln_IL []) gn
  rw [show ad a [] = a from PL.nz_ext (PL.nz_ad a []) ha.nz fun n => by rw [PL.cf_ad, PL.cf_nil]; omega] at e10
  have e13 := r_line_times (ln_IL _) g (ln_IL [c]) gc (fun _ _ => by simp; omega)
  rw [show pr a [c] = a.map (c * ·) from PL.nz_ext (nz_pr ha.nz gc.nz) gm.nz fun n => by rw [cf_pr, PL.cv_comm, PL.cv_one, cm]] at e13
  have e14 := r_line_times (ln_IL []) gn (ln_IL a) g (fun h => absurd rfl h)
  rw [show pr [] a = [] from rfl] at e14
  have e2 := r_degree (ln_IL _) gm
  rw [List.length_map] at e2
  exact one_ev hp hc (r_degree (ln_IL _) g) e2 (len_ints rfl) rfl (r_line_slope (ln_IL _) g) (r_law_slope a (by omega) fun n => Nat.lt_of_le_of_lt (ha.bd n) (by decide)) (neD_refl (shaped_IL _)) e6 (flatW_IL _) (r_law_plain ha.nz g.mem (by omega)) (neD_refl (shaped_IL _)) e8 e9 (neD_refl shaped_nil) e10 (neD_refl (shaped_IL _))
    (append_IL (by rw [pln_len]; omega)) (eqD_refl (shaped_IL _)) e13 (eqD_refl (shaped_IL _)) e14 (eqD_refl shaped_nil)
end K11
end
section
set_option maxRecDepth 100000
set_option maxHeartbeats 4000000
namespace K11
open PySem PySem.Spec L2 DL
open PL (cf Nz cv vl sm tms Bd ad su)
theorem pair_s12 {d d' a b n : D} {r : Int} {sh : Str} {bs : List D} (hd : m__law_draw d [.int 2] = some (.fz (.int r), d')) (h0 : r = 0 → tupleD [a] = some (.fz n)) (h1 : r ≠ 0 → listD [a] = some (.ow n)) (hb : listD [b] = some (.ow b)) (hs : reprD [.list [n, b]] = some (.fz (.str sh))) (ht : m_line_times [n, b] = some (.ow (.list bs))) (hf : flatW (.ow (.list bs)) = true) :
    seqS g__law_pair_right_s1 g__law_pair_right_s2 [.own true d, .dat a, .dat b, .un, .un, .un, .un, .un, .un, .un, .un] = some (.nx, [.own true d', .dat a, .dat b, .dat n, .dat b, .dat (.str sh), .own false (.list bs), .un, .un, .un, .un]) := by
  by_cases h : r = 0
  · have := h0 h
    simp only [g__law_pair_right_s1, g__law_pair_right_s2, parS, parO, mb, mr, mo, nameM, conM, binM, unM, boolM, ifM, DL.andM, DL.orM, DL.notM, andV, orV, notV, chainM, nilA, consA, dvs, dv, ownAt, fzs, lstM, tupM, callM, callP, permL, fzv, seqS, skipS, ifS, setS, asg, freeAt, retS, retV, dropS, frz, frzS, asgS, nilG, consG, tupG, subG, listAt, methM, augS, augSubS, forS, seqM, treeV, startD, endV, bodyF, bodyI, startI, ioAt, slM, partM, bors, callL, callI, callO, DL.flatV, DL.flat, List.filterMap_cons, List.filterMap_nil, List.map_cons, List.map_nil, List.getElem?_cons_zero, List.getElem?_cons_succ, List.getElem?_nil, List.set_cons_zero, List.set_cons_succ, List.cons_append, List.nil_append, List.length_cons, List.length_nil, Option.bind_some, Option.bind_none, Option.map_some, Option.map_none, Nat.reduceSub, Nat.reduceAdd, List.replicate_succ, List.replicate_zero, Bool.not_true, Bool.not_false, if_true, if_false, Bool.false_eq_true, reduceIte, decide_true, decide_false, Nat.reduceLT, Nat.reduceLeDiff, reduceCtorEq, Option.some.injEq, Prod.mk.injEq, hd, eqD_int, decide_eq_true h, this, hb, szOk2, hs, ht, hf]
  · have := h1 h
    simp only [g__law_pair_right_s1, g__law_pair_right_s2, parS, parO, mb, mr, mo, nameM, conM, binM, unM, boolM, ifM, DL.andM, DL.orM, DL.notM, andV, orV, notV, chainM, nilA, consA, dvs, dv, ownAt, fzs, lstM, tupM, callM, callP, permL, fzv, seqS, skipS, ifS, setS, asg, freeAt, retS, retV, dropS, frz, frzS, asgS, nilG, consG, tupG, subG, listAt, methM, augS, augSubS, forS, seqM, treeV, startD, endV, bodyF, bodyI, startI, ioAt, slM, partM, bors, callL, callI, callO, DL.flatV, DL.flat, List.filterMap_cons, List.filterMap_nil, List.map_cons, List.map_nil, List.getElem?_cons_zero, List.getElem?_cons_succ, List.getElem?_nil, List.set_cons_zero, List.set_cons_succ, List.cons_append, List.nil_append, List.length_cons, List.length_nil, Option.bind_some, Option.bind_none, Option.map_some, Option.map_none, Nat.reduceSub, Nat.reduceAdd, List.replicate_succ, List.replicate_zero, Bool.not_true, Bool.not_false, if_true, if_false, Bool.false_eq_true, reduceIte, decide_true, decide_false, Nat.reduceLT, Nat.reduceLeDiff, reduceCtorEq, Option.some.injEq, Prod.mk.injEq, hd, eqD_int, decide_eq_false h, this, hb, szOk2, hs, ht, hf]
theorem pair_s3 {d a b n f t s l : D} {bs : List D} (h1 : m_line_sum [n, f] = some (.ow s)) (f1 : flatW (.ow s) = true) (h2 : m__law_sum [a, b, .int 1] = some (.ow s)) (n1 : neD s s = some (.fz (.bool false))) (h3 : m_line_less [n, f] = some (.ow l)) (f2 : flatW (.ow l) = true) (h4 : m__law_sum [a, b, .int (-1)] = some (.ow l)) (n2 : neD l l = some (.fz (.bool false))) (h5 : m__law_times [a, b] = some (.ow (.list bs))) (n3 : neD (.list bs) (.list bs) = some (.fz (.bool false))) :
    g__law_pair_right_s3 [.own true d, .dat a, .dat b, .dat n, .dat f, .dat t, .own false (.list bs), .un, .un, .un, .un] = some (.nx, [.own true d, .dat a, .dat b, .dat n, .dat f, .dat t, .own false (.list bs), .un, .un, .un, .un]) := by
  simp only [g__law_pair_right_s3, mb, mr, mo, nameM, conM, binM, unM, boolM, ifM, DL.andM, DL.orM, DL.notM, andV, orV, notV, chainM, nilA, consA, dvs, dv, ownAt, fzs, lstM, tupM, callM, callP, permL, fzv, seqS, skipS, ifS, setS, asg, freeAt, retS, retV, dropS, frz, frzS, asgS, nilG, consG, tupG, subG, listAt, methM, augS, augSubS, forS, seqM, treeV, startD, endV, bodyF, bodyI, startI, ioAt, slM, partM, bors, callL, callI, callO, DL.flatV, DL.flat, List.filterMap_cons, List.filterMap_nil, List.map_cons, List.map_nil, List.getElem?_cons_zero, List.getElem?_cons_succ, List.getElem?_nil, List.set_cons_zero, List.set_cons_succ, List.cons_append, List.nil_append, List.length_cons, List.length_nil, Option.bind_some, Option.bind_none, Option.map_some, Option.map_none, Nat.reduceSub, Nat.reduceAdd, List.replicate_succ, List.replicate_zero, Bool.not_true, Bool.not_false, if_true, if_false, Bool.false_eq_true, reduceIte, decide_true, decide_false, Nat.reduceLT, Nat.reduceLeDiff, reduceCtorEq, Option.some.injEq, Prod.mk.injEq, h1, f1, h2, n1, h3, f2, negI, h4, n2, h5, n3]
theorem pair_s4 {d a b n f t s l : D} {bs : List D} (h1 : m_line_sum [n, f] = some (.ow s)) (f1 : flatW (.ow s) = true) (h2 : m_line_sum [f, n] = some (.ow s)) (n1 : neD s s = some (.fz (.bool false))) (h3 : m_line_times [f, n] = some (.ow (.list bs))) (f3 : flatW (.ow (.list bs)) = true) (n3 : neD (.list bs) (.list bs) = some (.fz (.bool false))) (h4 : m_line_less [f, n] = some (.ow l)) (f2 : flatW (.ow l) = true) (h5 : m__law_sum [b, a, .int (-1)] = some (.ow l)) (n2 : neD l l = some (.fz (.bool false))) :
    g__law_pair_right_s4 [.own true d, .dat a, .dat b, .dat n, .dat f, .dat t, .own false (.list bs), .un, .un, .un, .un] = some (.nx, [.own true d, .dat a, .dat b, .dat n, .dat f, .dat t, .own false (.list bs), .un, .un, .un, .un]) := by
  simp only [g__law_pair_right_s4, mb, mr, mo, nameM, conM, binM, unM, boolM, ifM, DL.andM, DL.orM, DL.notM, andV, orV, notV, chainM, nilA, consA, dvs, dv, ownAt, fzs, lstM, tupM, callM, callP, permL, fzv, seqS, skipS, ifS, setS, asg, freeAt, retS, retV, dropS, frz, frzS, asgS, nilG, consG, tupG, subG, listAt, methM, augS, augSubS, forS, seqM, treeV, startD, endV, bodyF, bodyI, startI, ioAt, slM, partM, bors, callL, callI, callO, DL.flatV, DL.flat, List.filterMap_cons, List.filterMap_nil, List.map_cons, List.map_nil, List.getElem?_cons_zero, List.getElem?_cons_succ, List.getElem?_nil, List.set_cons_zero, List.set_cons_succ, List.cons_append, List.nil_append, List.length_cons, List.length_nil, Option.bind_some, Option.bind_none, Option.map_some, Option.map_none, Nat.reduceSub, Nat.reduceAdd, List.replicate_succ, List.replicate_zero, Bool.not_true, Bool.not_false, if_true, if_false, Bool.false_eq_true, reduceIte, decide_true, decide_false, Nat.reduceLT, Nat.reduceLeDiff, reduceCtorEq, Option.some.injEq, Prod.mk.injEq, h1, f1, h2, n1, h3, f3, n3, h4, f2, negI, h5, n2]
theorem pair_s5 {d a b n f t sl sa sb p q : D} {bs : List D} (h1 : m_line_slope [.list bs] = some (.ow sl)) (f1 : flatW (.ow sl) = true) (h2 : m__law_slope [a] = some (.ow sa)) (h3 : m__law_slope [b] = some (.ow sb)) (h4 : m__law_times [sa, b] = some (.ow p)) (h5 : m__law_times [a, sb] = some (.ow q)) (h6 : m__law_sum [p, q, .int 1] = some (.ow sl)) (n1 : neD sl sl = some (.fz (.bool false))) :
    g__law_pair_right_s5 [.own true d, .dat a, .dat b, .dat n, .dat f, .dat t, .own false (.list bs), .un, .un, .un, .un] = some (.nx, [.own true d, .dat a, .dat b, .dat n, .dat f, .dat t, .own false (.list bs), .un, .un, .un, .un]) := by
  simp only [g__law_pair_right_s5, mb, mr, mo, nameM, conM, binM, unM, boolM, ifM, DL.andM, DL.orM, DL.notM, andV, orV, notV, chainM, nilA, consA, dvs, dv, ownAt, fzs, lstM, tupM, callM, callP, permL, fzv, seqS, skipS, ifS, setS, asg, freeAt, retS, retV, dropS, frz, frzS, asgS, nilG, consG, tupG, subG, listAt, methM, augS, augSubS, forS, seqM, treeV, startD, endV, bodyF, bodyI, startI, ioAt, slM, partM, bors, callL, callI, callO, DL.flatV, DL.flat, List.filterMap_cons, List.filterMap_nil, List.map_cons, List.map_nil, List.getElem?_cons_zero, List.getElem?_cons_succ, List.getElem?_nil, List.set_cons_zero, List.set_cons_succ, List.cons_append, List.nil_append, List.length_cons, List.length_nil, Option.bind_some, Option.bind_none, Option.map_some, Option.map_none, Nat.reduceSub, Nat.reduceAdd, List.replicate_succ, List.replicate_zero, Bool.not_true, Bool.not_false, if_true, if_false, Bool.false_eq_true, reduceIte, decide_true, decide_false, Nat.reduceLT, Nat.reduceLeDiff, reduceCtorEq, Option.some.injEq, Prod.mk.injEq, h1, f1, h2, h3, h4, h5, h6, n1]
theorem pair_s678 {d d' a b n f t s : D} {x y v1 v2 v3 v4 : Int} {bs : List D} (hd : m__law_draw d [.int 15] = some (.fz (.int x), d')) (hy : x - 7 = y) (h1 : m_line_value [n, .int y] = some (.fz (.int v1))) (h2 : m_line_value [f, .int y] = some (.fz (.int v2))) (h3 : m_line_value [.list bs, .int y] = some (.fz (.int v3))) (h4 : m_line_sum [n, f] = some (.ow s)) (f4 : flatW (.ow s) = true) (h5 : m_line_value [s, .int y] = some (.fz (.int v4))) (h6 : m__law_value [a, .int y] = some (.fz (.int v1))) (h7 : m__law_value [b, .int y] = some (.fz (.int v2))) :
    seqS (seqS g__law_pair_right_s6 g__law_pair_right_s7) g__law_pair_right_s8 [.own true d, .dat a, .dat b, .dat n, .dat f, .dat t, .own false (.list bs), .un, .un, .un, .un] = some (.nx, [.own true d', .dat a, .dat b, .dat n, .dat f, .dat t, .own false (.list bs), .dat (.int y), .own false (.list [.int v1, .int v2, .int v3, .int v4]), .dat (.int v1), .dat (.int v2)]) := by
  have fi : ∀ i, flatW (.fz (.int i)) = true := fun _ => rfl
  simp only [g__law_pair_right_s6, g__law_pair_right_s7, g__law_pair_right_s8, parS, mb, mr, mo, nameM, conM, binM, unM, boolM, ifM, DL.andM, DL.orM, DL.notM, andV, orV, notV, chainM, nilA, consA, dvs, dv, ownAt, fzs, lstM, tupM, callM, callP, permL, fzv, seqS, skipS, ifS, setS, asg, freeAt, retS, retV, dropS, frz, frzS, asgS, nilG, consG, tupG, subG, listAt, methM, augS, augSubS, forS, seqM, treeV, startD, endV, bodyF, bodyI, startI, ioAt, slM, partM, bors, callL, callI, callO, DL.flatV, DL.flat, List.filterMap_cons, List.filterMap_nil, List.map_cons, List.map_nil, List.getElem?_cons_zero, List.getElem?_cons_succ, List.getElem?_nil, List.set_cons_zero, List.set_cons_succ, List.cons_append, List.nil_append, List.length_cons, List.length_nil, Option.bind_some, Option.bind_none, Option.map_some, Option.map_none, Nat.reduceSub, Nat.reduceAdd, List.replicate_succ, List.replicate_zero, Bool.not_true, Bool.not_false, if_true, if_false, Bool.false_eq_true, reduceIte, decide_true, decide_false, Nat.reduceLT, Nat.reduceLeDiff, reduceCtorEq, Option.some.injEq, Prod.mk.injEq, hd, subI, intB, hy, h1, h2, h3, h4, f4, h5, h6, h7, fi, szOkL (show 4 ≤ 16777216 by decide)]
theorem pair_s9 {d a b n f y : D} {v1 v2 v3 v4 : Int} {sh : Str} {bs : List D} (hm : mulD (.int v1) (.int v2) = some (.fz (.int v3))) (ha : v1 + v2 = v4) (n1 : neD (.list [.int v1, .int v2, .int v3, .int v4]) (.list [.int v1, .int v2, .int v3, .int v4]) = some (.fz (.bool false))) (hs : reprD [.list [n, f]] = some (.fz (.str sh))) (n2 : neD (.str sh) (.str sh) = some (.fz (.bool false))) :
    g__law_pair_right_s9 [.own true d, .dat a, .dat b, .dat n, .dat f, .dat (.str sh), .own false (.list bs), .dat y, .own false (.list [.int v1, .int v2, .int v3, .int v4]), .dat (.int v1), .dat (.int v2)] = some (.nx, [.own true d, .dat a, .dat b, .dat n, .dat f, .dat (.str sh), .own false (.list bs), .dat y, .own false (.list [.int v1, .int v2, .int v3, .int v4]), .dat (.int v1), .dat (.int v2)]) := by
  simp only [g__law_pair_right_s9, mb, mr, mo, nameM, conM, binM, unM, boolM, ifM, DL.andM, DL.orM, DL.notM, andV, orV, notV, chainM, nilA, consA, dvs, dv, ownAt, fzs, lstM, tupM, callM, callP, permL, fzv, seqS, skipS, ifS, setS, asg, freeAt, retS, retV, dropS, frz, frzS, asgS, nilG, consG, tupG, subG, listAt, methM, augS, augSubS, forS, seqM, treeV, startD, endV, bodyF, bodyI, startI, ioAt, slM, partM, bors, callL, callI, callO, DL.flatV, DL.flat, List.filterMap_cons, List.filterMap_nil, List.map_cons, List.map_nil, List.getElem?_cons_zero, List.getElem?_cons_succ, List.getElem?_nil, List.set_cons_zero, List.set_cons_succ, List.cons_append, List.nil_append, List.length_cons, List.length_nil, Option.bind_some, Option.bind_none, Option.map_some, Option.map_none, Nat.reduceSub, Nat.reduceAdd, List.replicate_succ, List.replicate_zero, Bool.not_true, Bool.not_false, if_true, if_false, Bool.false_eq_true, reduceIte, decide_true, decide_false, Nat.reduceLT, Nat.reduceLeDiff, reduceCtorEq, Option.some.injEq, Prod.mk.injEq, hm, addD, ha, n1, hs, n2, szOk2, szOkL (show 4 ≤ 16777216 by decide)]
theorem pair_s1011 {d a b n f t y : D} {vs : Sl} {u1 u2 : Sl} {bs bs' : List D} (h1 : appendL bs [.int 1] = some (.none, bs')) (h2 : m_line_times [n, f] = some (.ow (.list bs))) (f2 : flatW (.ow (.list bs)) = true) (h3 : m__law_times [a, b] = some (.ow (.list bs))) (e : eqD (.list bs) (.list bs) = some (.fz (.bool true))) :
    seqS g__law_pair_right_s10 g__law_pair_right_s11 [.own true d, .dat a, .dat b, .dat n, .dat f, .dat t, .own false (.list bs), .dat y, vs, u1, u2] = some (.rt (.fz (.bool true)), [.own true d, .dat a, .dat b, .dat n, .dat f, .dat t, .own false (.list bs'), .dat y, vs, u1, u2]) := by
  simp only [g__law_pair_right_s10, g__law_pair_right_s11, mb, mr, mo, nameM, conM, binM, unM, boolM, ifM, DL.andM, DL.orM, DL.notM, andV, orV, notV, chainM, nilA, consA, dvs, dv, ownAt, fzs, lstM, tupM, callM, callP, permL, fzv, seqS, skipS, ifS, setS, asg, freeAt, retS, retV, dropS, frz, frzS, asgS, nilG, consG, tupG, subG, listAt, methM, augS, augSubS, forS, seqM, treeV, startD, endV, bodyF, bodyI, startI, ioAt, slM, partM, bors, callL, callI, callO, DL.flatV, DL.flat, List.filterMap_cons, List.filterMap_nil, List.map_cons, List.map_nil, List.getElem?_cons_zero, List.getElem?_cons_succ, List.getElem?_nil, List.set_cons_zero, List.set_cons_succ, List.cons_append, List.nil_append, List.length_cons, List.length_nil, Option.bind_some, Option.bind_none, Option.map_some, Option.map_none, Nat.reduceSub, Nat.reduceAdd, List.replicate_succ, List.replicate_zero, Bool.not_true, Bool.not_false, if_true, if_false, Bool.false_eq_true, reduceIte, decide_true, decide_false, Nat.reduceLT, Nat.reduceLeDiff, reduceCtorEq, Option.some.injEq, Prod.mk.injEq, h1, h2, f2, h3, e]
theorem seq_as (a b c : Ss) : seqS a (seqS b c) = seqS (seqS a b) c := by
  funext δ
  unfold seqS
  cases a δ with
  | none => rfl
  | some p =>
    obtain ⟨f, δ1⟩ := p
    cases f <;> rfl
theorem nz_slp {a : List Int} (h : Nz a) : Nz (slp a) := by
  by_cases h1 : a.length ≤ 1
  · have : slp a = [] := List.eq_nil_of_length_eq_zero (by unfold slp; rw [List.length_map, List.length_range]; omega)
    rw [this]
    exact PL.nz_nil
  · refine PL.nz_iff.mpr (.inr ?_)
    rw [cf_slp, PL.dv, show (slp a).length = a.length - 1 by unfold slp; rw [List.length_map, List.length_range], show a.length - 1 - 1 + 1 = a.length - 1 by omega]
    refine Int.mul_ne_zero (by omega) ((PL.nz_iff.mp h).resolve_left fun z => ?_)
    rw [z] at h1
    simp at h1
theorem slp_len (a : List Int) : (slp a).length = a.length - 1 := by unfold slp; rw [List.length_map, List.length_range]
theorem bd_slp {a : List Int} (h : Dr a) : Bd 63 (slp a) := fun n => by
  rw [cf_slp, PL.dv, Int.natAbs_mul]
  by_cases hn : n + 1 < a.length
  · have := h.len
    have h2 := h.bd (n + 1)
    exact Nat.le_trans (Nat.mul_le_mul (show ((n + 1 : Int)).natAbs ≤ 7 by omega) h2) (by decide)
  · rw [PL.cf_beyond (a := a) (by omega)]
    simp
theorem vl_pr (a b : List Int) (x : Int) : vl (pr a b) x = vl a x * vl b x := by
  rw [← PL.vl_mlS]
  exact PL.vl_ext x fun n => by rw [cf_pr, PL.cf_mlS]
theorem vl_ad (a b : List Int) (x : Int) : vl (ad a b) x = vl a x + vl b x := by
  rw [← PL.vl_adS]
  exact PL.vl_ext x fun n => by rw [PL.cf_ad, PL.cf_adS]
theorem pr_comm {a b : List Int} (ha : Nz a) (hb : Nz b) : pr a b = pr b a := PL.nz_ext (nz_pr ha hb) (nz_pr hb ha) fun n => by rw [cf_pr, cf_pr, PL.cv_comm]
theorem ad_comm (a b : List Int) : ad a b = ad b a := PL.nz_ext (PL.nz_ad a b) (PL.nz_ad b a) fun n => by rw [PL.cf_ad, PL.cf_ad, Int.add_comm]
theorem slp_pr {a b : List Int} (ha : Nz a) (hb : Nz b) : slp (pr a b) = ad (pr (slp a) b) (pr a (slp b)) := PL.nz_ext (nz_slp (nz_pr ha hb)) (PL.nz_ad _ _) fun n => by
  rw [cf_slp, PL.cf_ad, cf_pr, cf_pr, PL.dv_congr (cf_pr a b), PL.dv_cv, PL.cv_congr (fun i => (cf_slp a i).symm) (fun _ => rfl), PL.cv_congr (f := cf a) (fun _ => rfl) fun i => (cf_slp b i).symm]
theorem pair_all {d d2 : D} {a b : D} {δ1 δ2 δ3 : DS} (h12 : seqS g__law_pair_right_s1 g__law_pair_right_s2 [.own true d, .dat a, .dat b, .un, .un, .un, .un, .un, .un, .un, .un] = some (.nx, δ1)) (h3 : g__law_pair_right_s3 δ1 = some (.nx, δ1)) (h4 : g__law_pair_right_s4 δ1 = some (.nx, δ1)) (h5 : g__law_pair_right_s5 δ1 = some (.nx, δ1))
    (h678 : seqS (seqS g__law_pair_right_s6 g__law_pair_right_s7) g__law_pair_right_s8 δ1 = some (.nx, δ2)) (h9 : g__law_pair_right_s9 δ2 = some (.nx, δ2)) (h1011 : seqS g__law_pair_right_s10 g__law_pair_right_s11 δ2 = some (.rt (.fz (.bool true)), .own true d2 :: δ3)) : m__law_pair_right d [a, b] = some (.fz (.bool true), d2) := by
  have e : g__law_pair_right [.own true d, .dat a, .dat b, .un, .un, .un, .un, .un, .un, .un, .un] = some (.rt (.fz (.bool true)), .own true d2 :: δ3) := by
    unfold g__law_pair_right
    rw [seq_as, seq_ok h12, seq_ok h3, seq_ok h4, seq_ok h5, seq_as, seq_as, seq_ok h678, seq_ok h9, h1011]
  simp only [m__law_pair_right, mb, mr, mo, nameM, conM, binM, unM, boolM, ifM, DL.andM, DL.orM, DL.notM, andV, orV, notV, chainM, nilA, consA, dvs, dv, ownAt, fzs, lstM, tupM, callM, callP, permL, fzv, seqS, skipS, ifS, setS, asg, freeAt, retS, retV, dropS, frz, frzS, asgS, nilG, consG, tupG, subG, listAt, methM, augS, augSubS, forS, seqM, treeV, startD, endV, bodyF, bodyI, startI, ioAt, slM, partM, bors, callL, callI, callO, DL.flatV, DL.flat, List.filterMap_cons, List.filterMap_nil, List.map_cons, List.map_nil, List.getElem?_cons_zero, List.getElem?_cons_succ, List.getElem?_nil, List.set_cons_zero, List.set_cons_succ, List.cons_append, List.nil_append, List.length_cons, List.length_nil, Option.bind_some, Option.bind_none, Option.map_some, Option.map_none, Nat.reduceSub, Nat.reduceAdd, List.replicate_succ, List.replicate_zero, Bool.not_true, Bool.not_false, if_true, if_false, Bool.false_eq_true, reduceIte, decide_true, decide_false, Nat.reduceLT, Nat.reduceLeDiff, reduceCtorEq, Option.some.injEq, Prod.mk.injEq, e]
theorem r_pair {d : D} {a b : List Int} (hd : Pot d) (ha : Dr a) (hb : Dr b) : ∃ d', m__law_pair_right d [IL a, IL b] = some (.fz (.bool true), d') ∧ Pot d' := by
  obtain ⟨r, d1, h1, p1, -, -⟩ := draw_ok hd (n := 2) (by decide) (by decide)
  obtain ⟨x, d2, h2, p2, x0, x1⟩ := draw_ok p1 (n := 15) (by decide) (by decide)
  refine ⟨d2, ?_, p2⟩
  have ga := gd_dr ha
  have gb := gd_dr hb
  have la := ha.len
  have lb := hb.len
  have hi : ∀ {c : List Int}, Dr c → ∀ d ∈ c.map PyData.int, Sh 0 5 d := fun hc d hd => sh_ints (k := 4) (by decide) (by decide) (fun y hy => Nat.lt_of_le_of_lt (PL.mem_bd hc.bd y hy) (by decide)) d hd
  have hw : ∀ {c : List Int}, c.length ≤ 7 → (c.map PyData.int).length * (5 + 2) + 3 ≤ 100 := fun h => by rw [List.length_map]; omega
  obtain ⟨n, hn, hn0, hn1, hsh⟩ : ∃ n, Ln n a ∧ (r = 0 → tupleD [IL a] = some (.fz n)) ∧ (r ≠ 0 → listD [IL a] = some (.ow n)) ∧ Sh 1 100 n := by
    by_cases h : r = 0
    · exact ⟨.tuple (a.map .int), rfl, fun _ => rfl, fun z => absurd h z, (sh_tuple (hi ha)).mono (by decide) (hw la)⟩
    · exact ⟨IL a, rfl, fun z => absurd z h, fun _ => rfl, (sh_list (hi ha)).mono (by decide) (hw la)⟩
  have hpair := sh_list (sh_two hsh ((sh_list (hi hb)).mono (Nat.le_refl _) (hw lb)))
  have hs := hpair.repr (by decide) (by rw [List.length_cons, List.length_singleton]; decide)
  -- what the products are
  have gp : Gd (pr a b) := gd_pr ha.nz hb.nz ha.bd hb.bd (by omega) (by decide)
  have gs : Gd (ad a b) := gd_ad ha.bd hb.bd (by omega) (by omega) (by decide)
  have m1 := r_line_times hn ga (ln_IL b) gb (fun _ _ => by omega)
  have m2 := r_line_times (ln_IL b) gb hn ga (fun _ _ => by omega)
  rw [pr_comm hb.nz ha.nz] at m2
  have s1 := r_line_sum hn ga (ln_IL b) gb
  have s2 := r_line_sum (ln_IL b) gb hn ga
  rw [ad_comm] at s2
  have l1 := r_line_less hn ga (ln_IL b) gb
  have l2 := r_line_less (ln_IL b) gb hn ga
  have t1 := r_law_times ga.mem gb.mem ha.nz hb.nz (by omega) (by omega)
  have q1 := r_law_times (a := slp a) (b := b) (PL.mem_bd (bd_slp ha) · · |> fun h => Nat.lt_of_le_of_lt h (by decide)) gb.mem (nz_slp ha.nz) hb.nz (by rw [slp_len]; omega) (by omega)
  have q2 := r_law_times (a := a) (b := slp b) ga.mem (PL.mem_bd (bd_slp hb) · · |> fun h => Nat.lt_of_le_of_lt h (by decide)) ha.nz (nz_slp hb.nz) (by omega) (by rw [slp_len]; omega)
  have e3 := r_line_slope (ln_IL _) gp
  rw [slp_pr ha.nz hb.nz] at e3
  have hx : (x - 7).natAbs ≤ 7 := by omega
  have v1 := r_line_value hn ga hx
  have v2 := r_line_value (ln_IL b) gb hx
  have v3 := r_line_value (ln_IL _) gp hx
  have v4 := r_line_value (ln_IL _) gs hx
  rw [vl_pr] at v3
  rw [vl_ad] at v4
  have vb : ∀ {c : List Int}, Dr c → (vl c (x - 7)).natAbs < 2 ^ 200 := fun hc => Nat.lt_of_le_of_lt (vl_bound _ hx (PL.mem_bd hc.bd)) (Nat.lt_of_le_of_lt (Nat.mul_le_mul_left 9 (Nat.pow_le_pow_right (by decide) hc.len)) (by decide))
  have sl : ∀ c : List Int, neD (IL c) (IL c) = some (.fz (.bool false)) := fun c => neD_refl (shaped_IL c)
  refine pair_all (pair_s12 h1 hn0 hn1 rfl hs m1 (flatW_IL _)) ?_ ?_ ?_ (pair_s678 h2 rfl v1 v2 v3 s1 (flatW_IL _) v4 (r_law_value a _ hx ga.mem60 (by omega)) (r_law_value b _ hx gb.mem60 (by omega))) ?_ (pair_s1011 (append_IL (by have := pr_len a b; omega)) m1 (flatW_IL _) t1 (eqD_refl (shaped_IL _)))
  · exact pair_s3 s1 (flatW_IL _) (e_lsum (by omega) (by omega) gb.mem) (sl _) l1 (flatW_IL _) (e_lless (by omega) (by omega) gb.mem) (sl _) t1 (sl _)
  · exact pair_s4 s1 (flatW_IL _) s2 (sl _) m2 (flatW_IL _) (sl _) l2 (flatW_IL _) (e_lless (by omega) (by omega) ga.mem) (sl _)
  · refine pair_s5 e3 (flatW_IL _) (r_law_slope a (by omega) fun n => Nat.lt_of_le_of_lt (ha.bd n) (by decide)) (r_law_slope b (by omega) fun n => Nat.lt_of_le_of_lt (hb.bd n) (by decide)) q1 q2 (e_lsum ?_ ?_ ?_) (sl _)
    · have := pr_len (slp a) b
      rw [slp_len] at this
      omega
    · have := pr_len a (slp b)
      rw [slp_len] at this
      omega
    · exact fun y hy => Nat.lt_of_le_of_lt (PL.mem_bd (PL.bd_cv ha.bd (bd_slp hb) (cf_pr a (slp b)) (N := 14) (by rw [slp_len]; omega)) y hy) (by decide)
  · exact pair_s9 (mulD_lt (vb ha) (vb hb)) rfl (sl [_, _, _, _]) hs (neD_refl hpair.str)
end K11
end
section
set_option maxRecDepth 100000
set_option maxHeartbeats 4000000
namespace K11
open PySem PySem.Spec L2 DL
open PL (cf Nz cv vl sm tms Bd ad su)
theorem right_b1 {d d' l : D} {xs ys : List D} {r : Option D} (h : m__law_drawn d [] = some (.ow l, d')) (ha : appendL xs [l] = some (.none, ys)) : g__law_right_b1 [.own true d, .own false (.list xs), rw' r, .un, .un, .un, .un] = some (.nx, [.own true d', .own false (.list ys), rw' r, .un, .un, .un, .un]) := by
  simp only [g__law_right_b1, mb, mr, mo, nameM, conM, binM, unM, boolM, ifM, DL.andM, DL.orM, DL.notM, andV, orV, notV, chainM, nilA, consA, dvs, dv, ownAt, fzs, lstM, tupM, callM, callP, permL, fzv, seqS, skipS, ifS, setS, asg, fr_z_un, fr_z_dat, fr_z_rw, fr_z_own, fr_s, turnF, retS, retV, dropS, frz, frzS, asgS, nilG, consG, tupG, subG, listAt, methM, augS, augSubS, forS, seqM, treeV, startD, endV, bodyF, bodyI, startI, ioAt, slM, partM, bors, callL, callI, callO, DL.flatV, DL.flat, List.filterMap_cons, List.filterMap_nil, List.map_cons, List.map_nil, List.getElem?_cons_zero, List.getElem?_cons_succ, List.getElem?_nil, List.set_cons_zero, List.set_cons_succ, List.cons_append, List.nil_append, List.length_cons, List.length_nil, Option.bind_some, Option.bind_none, Option.map_some, Option.map_none, Nat.reduceSub, Nat.reduceAdd, List.replicate_succ, List.replicate_zero, Bool.not_true, Bool.not_false, if_true, if_false, Bool.false_eq_true, reduceIte, decide_true, decide_false, Nat.reduceLT, Nat.reduceLeDiff, reduceCtorEq, Option.some.injEq, Prod.mk.injEq, h, ha]
theorem append_any {xs : List D} {y : D} (hz : xs.length ≤ 900) : appendL xs [y] = some (.none, xs ++ [y]) := by
  unfold appendL
  simp only [szOkL (show xs.length + 1 ≤ 16777216 by omega), if_true]
theorem right_f1 {d : D} (hd : Pot d) : ∃ (d' : D) (ls : List (List Int)) (r : Option D), g__law_right_f1 [.own true d, .own false (.list []), .un, .un, .un, .un, .un] = some (.nx, [.own true d', .own false (.list (ls.map IL)), rw' r, .un, .un, .un, .un]) ∧ Pot d' ∧ ls.length = 3 ∧ ∀ a ∈ ls, Dr a := by
  unfold g__law_right_f1
  obtain ⟨s, r, e, p⟩ := for_ex (δ0 := [.own true d, .own false (.list []), rw' none, .un, .un, .un, .un]) (fi := rngM1 (consA (conM (.int 3)) nilA)) (gt := asg 2) (body := g__law_right_b1) (fun i : Nat => .int ((0 : Int) + (i : Nat))) (fun (s : D × List (List Int)) (r : Option D) => [.own true s.1, .own false (.list (s.2.map IL)), rw' r, .un, .un, .un, .un]) (fun k s => Pot s.1 ∧ s.2.length = k ∧ ∀ a ∈ s.2, Dr a) (List.range 3) (s0 := (d, [])) (r0 := none) rfl (rng_1 (j := 3) rfl (by decide)) ⟨hd, rfl, by intro y hy; cases hy⟩ (fun k i s r hk p => by
    have hkl : k < 3 := by simpa using (List.getElem?_eq_some_iff.mp hk).1
    obtain ⟨a, d', ha, hd', da⟩ := r_law_drawn p.1
    refine ⟨(d', s.2 ++ [a]), some (.int ((0 : Int) + (i : Nat))), ?_, hd', by simp [p.2.1], fun y hy => ?_⟩
    · have e := right_b1 (xs := s.2.map IL) (r := some (.int ((0 : Int) + (i : Nat)))) ha (append_any (by rw [List.length_map]; omega))
      rw [show s.2.map IL ++ [IL a] = (s.2 ++ [a]).map IL by rw [List.map_append]; rfl] at e
      generalize (s.2 ++ [a]).map IL = q at e ⊢
      generalize s.2.map IL = q' at e ⊢
      generalize (0 : Int) + (i : Nat) = j at e ⊢
      unfold rw' at e
      simp only [mb, mr, mo, nameM, conM, binM, unM, boolM, ifM, DL.andM, DL.orM, DL.notM, andV, orV, notV, chainM, nilA, consA, dvs, dv, ownAt, fzs, lstM, tupM, callM, callP, permL, fzv, seqS, skipS, ifS, setS, asg, fr_z_un, fr_z_dat, fr_z_rw, fr_z_own, fr_s, turnF, retS, retV, dropS, frz, frzS, asgS, nilG, consG, tupG, subG, listAt, methM, augS, augSubS, forS, seqM, treeV, startD, endV, bodyF, bodyI, startI, ioAt, slM, partM, bors, callL, callI, callO, DL.flatV, DL.flat, List.filterMap_cons, List.filterMap_nil, List.map_cons, List.map_nil, List.getElem?_cons_zero, List.getElem?_cons_succ, List.getElem?_nil, List.set_cons_zero, List.set_cons_succ, List.cons_append, List.nil_append, List.length_cons, List.length_nil, Option.bind_some, Option.bind_none, Option.map_some, Option.map_none, Nat.reduceSub, Nat.reduceAdd, List.replicate_succ, List.replicate_zero, Bool.not_true, Bool.not_false, if_true, if_false, Bool.false_eq_true, reduceIte, decide_true, decide_false, Nat.reduceLT, Nat.reduceLeDiff, reduceCtorEq, Option.some.injEq, Prod.mk.injEq, e]
      rfl
    · rcases List.mem_append.mp hy with h | h
      · exact p.2.2 y h
      · rw [List.mem_singleton.mp h]
        exact da)
  rw [List.length_range] at p
  exact ⟨s.1, s.2, r, e, p⟩
theorem right_b2 {d d' l a : D} {r : Sl} (h : m__law_one_right d [a] = some (.fz (.bool true), d')) : g__law_right_b2 [.own true d, .dat l, r, .dat a, .un, .un, .un] = some (.nx, [.own true d', .dat l, r, .dat a, .un, .un, .un]) := by
  simp only [g__law_right_b2, mb, mr, mo, nameM, conM, binM, unM, boolM, ifM, DL.andM, DL.orM, DL.notM, andV, orV, notV, chainM, nilA, consA, dvs, dv, ownAt, fzs, lstM, tupM, callM, callP, permL, fzv, seqS, skipS, ifS, setS, asg, freeAt, retS, retV, dropS, frz, frzS, asgS, nilG, consG, tupG, subG, listAt, methM, augS, augSubS, forS, seqM, treeV, startD, endV, bodyF, bodyI, startI, ioAt, slM, partM, bors, callL, callI, callO, DL.flatV, DL.flat, List.filterMap_cons, List.filterMap_nil, List.map_cons, List.map_nil, List.getElem?_cons_zero, List.getElem?_cons_succ, List.getElem?_nil, List.set_cons_zero, List.set_cons_succ, List.cons_append, List.nil_append, List.length_cons, List.length_nil, Option.bind_some, Option.bind_none, Option.map_some, Option.map_none, Nat.reduceSub, Nat.reduceAdd, List.replicate_succ, List.replicate_zero, Bool.not_true, Bool.not_false, if_true, if_false, Bool.false_eq_true, reduceIte, decide_true, decide_false, Nat.reduceLT, Nat.reduceLeDiff, reduceCtorEq, Option.some.injEq, Prod.mk.injEq, h]
theorem right_f2 {d : D} {ls : List (List Int)} {r : Option D} (hd : Pot d) (h : ∀ a ∈ ls, Dr a) : ∃ (d' : D) (r' : Option D), g__law_right_f2 [.own true d, .dat (.list (ls.map IL)), rw' r, .un, .un, .un, .un] = some (.nx, [.own true d', .dat (.list (ls.map IL)), rw' r, rw' r', .un, .un, .un]) ∧ Pot d' := by
  unfold g__law_right_f2
  have hi : seqM (nameM 1) [.own true d, .dat (.list (ls.map IL)), rw' r, rw' none, .un, .un, .un] = some (ls.map IL, [.own true d, .dat (.list (ls.map IL)), rw' r, rw' none, .un, .un, .un]) := by simp only [mb, mr, mo, nameM, conM, binM, unM, boolM, ifM, DL.andM, DL.orM, DL.notM, andV, orV, notV, chainM, nilA, consA, dvs, dv, ownAt, fzs, lstM, tupM, callM, callP, permL, fzv, seqS, skipS, ifS, setS, asg, fr_z_un, fr_z_dat, fr_z_rw, fr_z_own, fr_s, turnF, retS, retV, dropS, frz, frzS, asgS, nilG, consG, tupG, subG, listAt, methM, augS, augSubS, forS, seqM, treeV, startD, endV, bodyF, bodyI, startI, ioAt, slM, partM, bors, callL, callI, callO, DL.flatV, DL.flat, List.filterMap_cons, List.filterMap_nil, List.map_cons, List.map_nil, List.getElem?_cons_zero, List.getElem?_cons_succ, List.getElem?_nil, List.set_cons_zero, List.set_cons_succ, List.cons_append, List.nil_append, List.length_cons, List.length_nil, Option.bind_some, Option.bind_none, Option.map_some, Option.map_none, Nat.reduceSub, Nat.reduceAdd, List.replicate_succ, List.replicate_zero, Bool.not_true, Bool.not_false, if_true, if_false, Bool.false_eq_true, reduceIte, decide_true, decide_false, Nat.reduceLT, Nat.reduceLeDiff, reduceCtorEq, Option.some.injEq, Prod.mk.injEq, itemsOf]
  obtain ⟨s, r', e, p⟩ := for_ex (δ0 := [.own true d, .dat (.list (ls.map IL)), rw' r, rw' none, .un, .un, .un]) (gt := asg 3) (body := g__law_right_b2) IL (fun (s : D) (r' : Option D) => [.own true s, .dat (.list (ls.map IL)), rw' r, rw' r', .un, .un, .un]) (fun k s => Pot s) ls (s0 := d) (r0 := none) rfl hi hd (fun k a s r' hk p => by
    obtain ⟨d', h1, hd'⟩ := r_one p (h a (List.mem_of_getElem? hk))
    refine ⟨d', some (IL a), ?_, hd'⟩
    have e := right_b2 (l := .list (ls.map IL)) (r := rw' r) h1
    generalize ls.map IL = q at e ⊢
    generalize IL a = q' at e ⊢
    simp only [mb, mr, mo, nameM, conM, binM, unM, boolM, ifM, DL.andM, DL.orM, DL.notM, andV, orV, notV, chainM, nilA, consA, dvs, dv, ownAt, fzs, lstM, tupM, callM, callP, permL, fzv, seqS, skipS, ifS, setS, asg, fr_z_un, fr_z_dat, fr_z_rw, fr_z_own, fr_s, turnF, retS, retV, dropS, frz, frzS, asgS, nilG, consG, tupG, subG, listAt, methM, augS, augSubS, forS, seqM, treeV, startD, endV, bodyF, bodyI, startI, ioAt, slM, partM, bors, callL, callI, callO, DL.flatV, DL.flat, List.filterMap_cons, List.filterMap_nil, List.map_cons, List.map_nil, List.getElem?_cons_zero, List.getElem?_cons_succ, List.getElem?_nil, List.set_cons_zero, List.set_cons_succ, List.cons_append, List.nil_append, List.length_cons, List.length_nil, Option.bind_some, Option.bind_none, Option.map_some, Option.map_none, Nat.reduceSub, Nat.reduceAdd, List.replicate_succ, List.replicate_zero, Bool.not_true, Bool.not_false, if_true, if_false, Bool.false_eq_true, reduceIte, decide_true, decide_false, Nat.reduceLT, Nat.reduceLeDiff, reduceCtorEq, Option.some.injEq, Prod.mk.injEq, e]
    rfl)
  exact ⟨s, r', e, p⟩
theorem right_s1 {d d' : D} {l : List D} {δ : DS} (h : g__law_right_f1 [.own true d, .own false (.list []), .un, .un, .un, .un, .un] = some (.nx, .own true d' :: .own false (.list l) :: δ)) : seqS g__law_right_s1 g__law_right_f1 [.own true d, .un, .un, .un, .un, .un, .un] = some (.nx, .own true d' :: .own false (.list l) :: δ) := by
  simp only [g__law_right_s1, mb, mr, mo, nameM, conM, binM, unM, boolM, ifM, DL.andM, DL.orM, DL.notM, andV, orV, notV, chainM, nilA, consA, dvs, dv, ownAt, fzs, lstM, tupM, callM, callP, permL, fzv, seqS, skipS, ifS, setS, asg, freeAt, retS, retV, dropS, frz, frzS, asgS, nilG, consG, tupG, subG, listAt, methM, augS, augSubS, forS, seqM, treeV, startD, endV, bodyF, bodyI, startI, ioAt, slM, partM, bors, callL, callI, callO, DL.flatV, DL.flat, List.filterMap_cons, List.filterMap_nil, List.map_cons, List.map_nil, List.getElem?_cons_zero, List.getElem?_cons_succ, List.getElem?_nil, List.set_cons_zero, List.set_cons_succ, List.cons_append, List.nil_append, List.length_cons, List.length_nil, Option.bind_some, Option.bind_none, Option.map_some, Option.map_none, Nat.reduceSub, Nat.reduceAdd, List.replicate_succ, List.replicate_zero, Bool.not_true, Bool.not_false, if_true, if_false, Bool.false_eq_true, reduceIte, decide_true, decide_false, Nat.reduceLT, Nat.reduceLeDiff, reduceCtorEq, Option.some.injEq, Prod.mk.injEq, szOk0, h]
theorem right_s2 {d d' : D} {l : List D} {r r' : Option D} (h : g__law_right_f2 [.own true d, .dat (.list l), rw' r, .un, .un, .un, .un] = some (.nx, [.own true d', .dat (.list l), rw' r, rw' r', .un, .un, .un])) : g__law_right_s2 [.own true d, .own false (.list l), rw' r, .un, .un, .un, .un] = some (.nx, [.own true d', .dat (.list l), rw' r, rw' r', .un, .un, .un]) := by
  simp only [g__law_right_s2, mb, mr, mo, nameM, conM, binM, unM, boolM, ifM, DL.andM, DL.orM, DL.notM, andV, orV, notV, chainM, nilA, consA, dvs, dv, ownAt, fzs, lstM, tupM, callM, callP, permL, fzv, seqS, skipS, ifS, setS, asg, fr_z_un, fr_z_dat, fr_z_rw, fr_z_own, fr_s, turnF, retS, retV, dropS, frz, frzS, asgS, nilG, consG, tupG, subG, listAt, methM, augS, augSubS, forS, seqM, treeV, startD, endV, bodyF, bodyI, startI, ioAt, slM, partM, bors, callL, callI, callO, DL.flatV, DL.flat, List.filterMap_cons, List.filterMap_nil, List.map_cons, List.map_nil, List.getElem?_cons_zero, List.getElem?_cons_succ, List.getElem?_nil, List.set_cons_zero, List.set_cons_succ, List.cons_append, List.nil_append, List.length_cons, List.length_nil, Option.bind_some, Option.bind_none, Option.map_some, Option.map_none, Nat.reduceSub, Nat.reduceAdd, List.replicate_succ, List.replicate_zero, Bool.not_true, Bool.not_false, if_true, if_false, Bool.false_eq_true, reduceIte, decide_true, decide_false, Nat.reduceLT, Nat.reduceLeDiff, reduceCtorEq, Option.some.injEq, Prod.mk.injEq, h]
theorem right_s3 {d a b c : D} {r r' : Option D} : g__law_right_s3 [.own true d, .dat (.list [a, b, c]), rw' r, rw' r', .un, .un, .un] = some (.nx, [.own true d, .dat (.list [a, b, c]), rw' r, rw' r', .dat a, .dat b, .dat c]) := by
  simp only [g__law_right_s3, frzS, frz, List.getElem?_cons_zero, List.getElem?_cons_succ, asgS, nameM, tupA, itemsOf, List.length_cons, List.length_nil, if_true, consG, nilG, asg, fr_s, fr_z_un, Option.bind_some, List.set_cons_succ, List.set_cons_zero]
theorem right_s4 {d d1 d2 a b c l : D} {r r' : Sl} (h1 : m__law_pair_right d [a, b] = some (.fz (.bool true), d1)) (h2 : m__law_pair_right d1 [b, c] = some (.fz (.bool true), d2)) : g__law_right_s4 [.own true d, .dat l, r, r', .dat a, .dat b, .dat c] = some (.nx, [.own true d2, .dat l, r, r', .dat a, .dat b, .dat c]) := by
  simp only [g__law_right_s4, mb, mr, mo, nameM, conM, binM, unM, boolM, ifM, DL.andM, DL.orM, DL.notM, andV, orV, notV, chainM, nilA, consA, dvs, dv, ownAt, fzs, lstM, tupM, callM, callP, permL, fzv, seqS, skipS, ifS, setS, asg, freeAt, retS, retV, dropS, frz, frzS, asgS, nilG, consG, tupG, subG, listAt, methM, augS, augSubS, forS, seqM, treeV, startD, endV, bodyF, bodyI, startI, ioAt, slM, partM, bors, callL, callI, callO, DL.flatV, DL.flat, List.filterMap_cons, List.filterMap_nil, List.map_cons, List.map_nil, List.getElem?_cons_zero, List.getElem?_cons_succ, List.getElem?_nil, List.set_cons_zero, List.set_cons_succ, List.cons_append, List.nil_append, List.length_cons, List.length_nil, Option.bind_some, Option.bind_none, Option.map_some, Option.map_none, Nat.reduceSub, Nat.reduceAdd, List.replicate_succ, List.replicate_zero, Bool.not_true, Bool.not_false, if_true, if_false, Bool.false_eq_true, reduceIte, decide_true, decide_false, Nat.reduceLT, Nat.reduceLeDiff, reduceCtorEq, Option.some.injEq, Prod.mk.injEq, h1, h2]
theorem right_s5 {d a b c l s p q t : D} {r r' : Sl} {i j k i1 j1 k1 : Int} (h1 : lenD [a] = some (.fz (.int i))) (h2 : lenD [b] = some (.fz (.int j))) (h3 : lenD [c] = some (.fz (.int k))) (e1 : (if 1 > i then 1 else i) = i1) (e2 : (if 1 > j then 1 else j) = j1) (e3 : (if 1 > k then 1 else k) = k1) (hc : 12 < i1 + j1 + k1 - 3)
    (hs : m_line_sum [b, c] = some (.ow s)) (ht : m_line_times [a, s] = some (.ow t)) (hp : m_line_times [a, b] = some (.ow p)) (hq : m_line_times [a, c] = some (.ow q)) (hr : m_line_sum [p, q] = some (.ow t)) (he : eqD t t = some (.fz (.bool true))) :
    seqS g__law_right_s5 g__law_right_s6 [.own true d, .dat l, r, r', .dat a, .dat b, .dat c] = some (.rt (.fz (.bool true)), [.own true d, .dat l, r, r', .dat a, .dat b, .dat c]) := by
  simp only [g__law_right_s5, mb, mr, mo, nameM, conM, binM, unM, boolM, ifM, DL.andM, DL.orM, DL.notM, andV, orV, notV, chainM, nilA, consA, dvs, dv, ownAt, fzs, lstM, tupM, callM, callP, permL, fzv, seqS, skipS, ifS, setS, asg, freeAt, retS, retV, dropS, frz, frzS, asgS, nilG, consG, tupG, subG, listAt, methM, augS, augSubS, forS, seqM, treeV, startD, endV, bodyF, bodyI, startI, ioAt, slM, partM, bors, callL, callI, callO, DL.flatV, DL.flat, List.filterMap_cons, List.filterMap_nil, List.map_cons, List.map_nil, List.getElem?_cons_zero, List.getElem?_cons_succ, List.getElem?_nil, List.set_cons_zero, List.set_cons_succ, List.cons_append, List.nil_append, List.length_cons, List.length_nil, Option.bind_some, Option.bind_none, Option.map_some, Option.map_none, Nat.reduceSub, Nat.reduceAdd, List.replicate_succ, List.replicate_zero, Bool.not_true, Bool.not_false, if_true, if_false, Bool.false_eq_true, reduceIte, decide_true, decide_false, Nat.reduceLT, Nat.reduceLeDiff, reduceCtorEq, Option.some.injEq, Prod.mk.injEq, h1, h2, h3, max2D, e1, e2, e3, addD, subI, gtI, intB, decide_eq_true hc, hs, ht, hp, hq, hr, he]
theorem right_s6 {d a b c l p q t : D} {r r' : Sl} {i j k i1 j1 k1 : Int} (h1 : lenD [a] = some (.fz (.int i))) (h2 : lenD [b] = some (.fz (.int j))) (h3 : lenD [c] = some (.fz (.int k))) (e1 : (if 1 > i then 1 else i) = i1) (e2 : (if 1 > j then 1 else j) = j1) (e3 : (if 1 > k then 1 else k) = k1) (hc : ¬ 12 < i1 + j1 + k1 - 3)
    (hp : m_line_times [a, b] = some (.ow p)) (hq : m_line_times [p, c] = some (.ow t)) (hr : m_line_times [b, c] = some (.ow q)) (hs : m_line_times [a, q] = some (.ow t)) (he : eqD t t = some (.fz (.bool true))) :
    seqS g__law_right_s5 g__law_right_s6 [.own true d, .dat l, r, r', .dat a, .dat b, .dat c] = some (.rt (.fz (.bool true)), [.own true d, .dat l, r, r', .dat a, .dat b, .dat c]) := by
  simp only [g__law_right_s5, g__law_right_s6, mb, mr, mo, nameM, conM, binM, unM, boolM, ifM, DL.andM, DL.orM, DL.notM, andV, orV, notV, chainM, nilA, consA, dvs, dv, ownAt, fzs, lstM, tupM, callM, callP, permL, fzv, seqS, skipS, ifS, setS, asg, freeAt, retS, retV, dropS, frz, frzS, asgS, nilG, consG, tupG, subG, listAt, methM, augS, augSubS, forS, seqM, treeV, startD, endV, bodyF, bodyI, startI, ioAt, slM, partM, bors, callL, callI, callO, DL.flatV, DL.flat, List.filterMap_cons, List.filterMap_nil, List.map_cons, List.map_nil, List.getElem?_cons_zero, List.getElem?_cons_succ, List.getElem?_nil, List.set_cons_zero, List.set_cons_succ, List.cons_append, List.nil_append, List.length_cons, List.length_nil, Option.bind_some, Option.bind_none, Option.map_some, Option.map_none, Nat.reduceSub, Nat.reduceAdd, List.replicate_succ, List.replicate_zero, Bool.not_true, Bool.not_false, if_true, if_false, Bool.false_eq_true, reduceIte, decide_true, decide_false, Nat.reduceLT, Nat.reduceLeDiff, reduceCtorEq, Option.some.injEq, Prod.mk.injEq, h1, h2, h3, max2D, e1, e2, e3, addD, subI, gtI, intB, decide_eq_false hc, hp, hq, hr, hs, he]
theorem right_all {d d2 : D} {δ1 δ2 δ3 δ4 δ5 : DS} (h1 : seqS g__law_right_s1 g__law_right_f1 [.own true d, .un, .un, .un, .un, .un, .un] = some (.nx, δ1)) (h2 : g__law_right_s2 δ1 = some (.nx, δ2)) (h3 : g__law_right_s3 δ2 = some (.nx, δ3)) (h4 : g__law_right_s4 δ3 = some (.nx, δ4)) (h5 : seqS g__law_right_s5 g__law_right_s6 δ4 = some (.rt (.fz (.bool true)), .own true d2 :: δ5)) : m__law_right d [] = some (.fz (.bool true), d2) := by
  have e : g__law_right [.own true d, .un, .un, .un, .un, .un, .un] = some (.rt (.fz (.bool true)), .own true d2 :: δ5) := by
    unfold g__law_right
    rw [seq_as, seq_ok h1, seq_ok h2, seq_ok h3, seq_ok h4, h5]
  simp only [m__law_right, mb, mr, mo, nameM, conM, binM, unM, boolM, ifM, DL.andM, DL.orM, DL.notM, andV, orV, notV, chainM, nilA, consA, dvs, dv, ownAt, fzs, lstM, tupM, callM, callP, permL, fzv, seqS, skipS, ifS, setS, asg, freeAt, retS, retV, dropS, frz, frzS, asgS, nilG, consG, tupG, subG, listAt, methM, augS, augSubS, forS, seqM, treeV, startD, endV, bodyF, bodyI, startI, ioAt, slM, partM, bors, callL, callI, callO, DL.flatV, DL.flat, List.filterMap_cons, List.filterMap_nil, List.map_cons, List.map_nil, List.getElem?_cons_zero, List.getElem?_cons_succ, List.getElem?_nil, List.set_cons_zero, List.set_cons_succ, List.cons_append, List.nil_append, List.length_cons, List.length_nil, Option.bind_some, Option.bind_none, Option.map_some, Option.map_none, Nat.reduceSub, Nat.reduceAdd, List.replicate_succ, List.replicate_zero, Bool.not_true, Bool.not_false, if_true, if_false, Bool.false_eq_true, reduceIte, decide_true, decide_false, Nat.reduceLT, Nat.reduceLeDiff, reduceCtorEq, Option.some.injEq, Prod.mk.injEq, e]
theorem pr_ad {a b c : List Int} (ha : Nz a) : pr a (ad b c) = ad (pr a b) (pr a c) := PL.nz_ext (nz_pr ha (PL.nz_ad _ _)) (PL.nz_ad _ _) fun n => by
  rw [cf_pr, PL.cf_ad, cf_pr, cf_pr, PL.cv_congr (f := cf a) (fun _ => rfl) (PL.cf_ad b c), PL.cv_add_right]
theorem pr_assoc {a b c : List Int} (ha : Nz a) (hb : Nz b) (hc : Nz c) : pr (pr a b) c = pr a (pr b c) := PL.nz_ext (nz_pr (nz_pr ha hb) hc) (nz_pr ha (nz_pr hb hc)) fun n => by
  rw [cf_pr, cf_pr, PL.cv_congr (cf_pr a b) (fun _ => rfl), PL.cv_assoc, PL.cv_congr (f := cf a) (fun _ => rfl) (cf_pr b c)]
theorem r_right {d : D} (hd : Pot d) : ∃ d', m__law_right d [] = some (.fz (.bool true), d') := by
  obtain ⟨d1, ls, r, h1, p1, hl, hls⟩ := right_f1 hd
  obtain ⟨d2, r', h2, p2⟩ := right_f2 (r := r) p1 hls
  match ls, hl with
  | [a, b, c], _ =>
    have ha := hls a (by simp)
    have hb := hls b (by simp)
    have hc := hls c (by simp)
    obtain ⟨d3, h3, p3⟩ := r_pair p2 ha hb
    obtain ⟨d4, h4, p4⟩ := r_pair p3 hb hc
    have ga := gd_dr ha
    have gb := gd_dr hb
    have gc := gd_dr hc
    have la := ha.len
    have lb := hb.len
    have lc := hc.len
    refine ⟨d4, ?_⟩
    have e1 := right_s1 h1
    have e2 := right_s2 h2
    have e4 := right_s4 (l := .list [IL a, IL b, IL c]) (r := rw' r) (r' := rw' r') h3 h4
    have gab : Gd (pr a b) := gd_pr ha.nz hb.nz ha.bd hb.bd (by omega) (by decide)
    have gac : Gd (pr a c) := gd_pr ha.nz hc.nz ha.bd hc.bd (by omega) (by decide)
    have gbc : Gd (pr b c) := gd_pr hb.nz hc.nz hb.bd hc.bd (by omega) (by decide)
    have gs : Gd (ad b c) := gd_ad hb.bd hc.bd (by omega) (by omega) (by decide)
    have ls := PL.ad_len b c
    have hab := r_line_times (ln_IL a) ga (ln_IL b) gb (fun _ _ => by omega)
    have hac := r_line_times (ln_IL a) ga (ln_IL c) gc (fun _ _ => by omega)
    have hbc := r_line_times (ln_IL b) gb (ln_IL c) gc (fun _ _ => by omega)
    have pl1 := pr_len a b
    have pl2 := pr_len b c
    have pos : ∀ {c : List Int}, c ≠ [] → 0 < c.length := fun h => List.length_pos_iff.mpr h
    by_cases hq : 12 < (if (1 : Int) > (a.length : Nat) then (1 : Int) else (a.length : Nat)) + (if (1 : Int) > (b.length : Nat) then (1 : Int) else (b.length : Nat)) + (if (1 : Int) > (c.length : Nat) then (1 : Int) else (c.length : Nat)) - 3
    · have ht := r_line_times (ln_IL a) ga (ln_IL _) gs (fun _ _ => by omega)
      have hr := r_line_sum (ln_IL _) gab (ln_IL _) gac
      rw [← pr_ad ha.nz] at hr
      exact right_all e1 e2 right_s3 e4 (right_s5 (len_ints rfl) (len_ints rfl) (len_ints rfl) rfl rfl rfl hq (r_line_sum (ln_IL b) gb (ln_IL c) gc) ht hab hac hr (eqD_refl (shaped_IL _)))
    · have hsum : a ≠ [] → b ≠ [] → c ≠ [] → a.length + b.length + c.length ≤ 15 := fun q1 q2 q3 => by
        have := pos q1
        have := pos q2
        have := pos q3
        rw [if_neg (by omega), if_neg (by omega), if_neg (by omega)] at hq
        omega
      have prnil : ∀ {a b : List Int}, pr a b ≠ [] → a ≠ [] ∧ b ≠ [] := fun {a b} h => ⟨fun z => h (by rw [z]; rfl), fun z => h (by unfold pr; rw [if_pos (.inr z)])⟩
      have h1 := r_line_times (ln_IL _) gab (ln_IL c) gc (fun q1 q2 => by
        have := hsum (prnil q1).1 (prnil q1).2 q2
        have := pos (prnil q1).1
        omega)
      have h2 := r_line_times (ln_IL a) ga (ln_IL _) gbc (fun q1 q2 => by
        have := hsum q1 (prnil q2).1 (prnil q2).2
        have := pos (prnil q2).1
        omega)
      rw [← pr_assoc ha.nz hb.nz hc.nz] at h2
      exact right_all e1 e2 right_s3 e4 (right_s6 (len_ints rfl) (len_ints rfl) (len_ints rfl) rfl rfl rfl hq hab h1 hbc h2 (eqD_refl (shaped_IL _)))
theorem law_ev {s p d' : D} (h1 : m__law_pot [s, .int 0] = some (.ow p)) (h2 : m__law_right p [] = some (.fz (.bool true), d')) : m_law [s] = some (.fz (.bool true)) := by
  simp only [m_law, g_law, g_law_s1, mb, mr, mo, nameM, conM, binM, unM, boolM, ifM, DL.andM, DL.orM, DL.notM, andV, orV, notV, chainM, nilA, consA, dvs, dv, ownAt, fzs, lstM, tupM, callM, callP, permL, fzv, seqS, skipS, ifS, setS, asg, freeAt, retS, retV, dropS, frz, frzS, asgS, nilG, consG, tupG, subG, listAt, methM, augS, augSubS, forS, seqM, treeV, startD, endV, bodyF, bodyI, startI, ioAt, slM, partM, bors, callL, callI, callO, DL.flatV, DL.flat, List.filterMap_cons, List.filterMap_nil, List.map_cons, List.map_nil, List.getElem?_cons_zero, List.getElem?_cons_succ, List.getElem?_nil, List.set_cons_zero, List.set_cons_succ, List.cons_append, List.nil_append, List.length_cons, List.length_nil, Option.bind_some, Option.bind_none, Option.map_some, Option.map_none, Nat.reduceSub, Nat.reduceAdd, List.replicate_succ, List.replicate_zero, Bool.not_true, Bool.not_false, if_true, if_false, Bool.false_eq_true, reduceIte, decide_true, decide_false, Nat.reduceLT, Nat.reduceLeDiff, reduceCtorEq, Option.some.injEq, Prod.mk.injEq, h1, h2]
theorem law_true : ∀ ns : List Int, ns.length ≤ 63 → (∀ z ∈ ns, Builtin.Int.intBits z ≤ 1048576) → m_law [scrD ns] = some (.fz (.bool true)) := fun ns _ _ => by
  obtain ⟨p, h1, hp⟩ := pot_ok ns
  obtain ⟨d', h2⟩ := r_right hp
  exact law_ev h1 h2
end K11
end
section
set_option maxRecDepth 100000
set_option maxHeartbeats 4000000
namespace K11
open PySem PySem.Spec L2 DL
open PyProof.Rows hiding St

def topS (i : Nat) : Stmt := PySem.Challenge.pw_curvepieces_k11_whole_sums_products_valu.main.body.getD i (.Pass ⟨0, 0, 0, 0⟩)

abbrev s_is_integer : Stmt := topS 7

abbrev s_is_list : Stmt := topS 8

abbrev s_want_at_most : Stmt := topS 9

abbrev s_divisor_of : Stmt := topS 11

abbrev s_trimmed : Stmt := topS 16

abbrev s_scaled_line : Stmt := topS 18

abbrev s_times_lines : Stmt := topS 20

abbrev s_value_at : Stmt := topS 21

abbrev s_slope_of : Stmt := topS 22

abbrev s__law_pot : Stmt := topS 35

abbrev s__law_draw : Stmt := topS 36

abbrev s__law_trim : Stmt := topS 38

abbrev s__law_value : Stmt := topS 41

abbrev s__law_slope : Stmt := topS 42

abbrev s__law_greatest : Stmt := topS 43

abbrev s_greatest_of : Stmt := topS 12

abbrev s_want_number : Stmt := topS 13

abbrev s_plus_lines : Stmt := topS 17

abbrev s_line_in : Stmt := topS 24

abbrev s__law_pick : Stmt := topS 37

abbrev s__law_sum : Stmt := topS 39

abbrev s__law_times : Stmt := topS 40

abbrev s__law_plain : Stmt := topS 44

abbrev s_minus_lines : Stmt := topS 19

abbrev s_plain_of : Stmt := topS 23

abbrev s_want_line : Stmt := topS 25

abbrev s__law_line : Stmt := topS 45

abbrev s_two_lines : Stmt := topS 26

abbrev s_degree : Stmt := topS 27

abbrev s_line_value : Stmt := topS 28

abbrev s_line_slope : Stmt := topS 29

abbrev s_plain_line : Stmt := topS 30

abbrev s__law_drawn : Stmt := topS 46

abbrev s_line_sum : Stmt := topS 31

abbrev s_line_less : Stmt := topS 32

abbrev s_line_times : Stmt := topS 33

abbrev s__law_pair_right : Stmt := topS 47

abbrev s__law_one_right : Stmt := topS 48

abbrev s__law_right : Stmt := topS 49

abbrev s_law : Stmt := topS 50

structure Tx (K : Fg) (mg : Str → Option Value) where
  a_is_integer : Addr
  d_is_integer : FuncData
  f_is_integer : L2.Fun K "is_integer" "is_integer" s_is_integer a_is_integer d_is_integer
  g_is_integer : mg "is_integer" = some (.ref a_is_integer)
  a_is_list : Addr
  d_is_list : FuncData
  f_is_list : L2.Fun K "is_list" "is_list" s_is_list a_is_list d_is_list
  g_is_list : mg "is_list" = some (.ref a_is_list)
  a_want_at_most : Addr
  d_want_at_most : FuncData
  f_want_at_most : L2.Fun K "want_at_most" "want_at_most" s_want_at_most a_want_at_most d_want_at_most
  g_want_at_most : mg "want_at_most" = some (.ref a_want_at_most)
  a_divisor_of : Addr
  d_divisor_of : FuncData
  f_divisor_of : L2.Fun K "divisor_of" "divisor_of" s_divisor_of a_divisor_of d_divisor_of
  g_divisor_of : mg "divisor_of" = some (.ref a_divisor_of)
  a_trimmed : Addr
  d_trimmed : FuncData
  f_trimmed : L2.Fun K "trimmed" "trimmed" s_trimmed a_trimmed d_trimmed
  g_trimmed : mg "trimmed" = some (.ref a_trimmed)
  a_scaled_line : Addr
  d_scaled_line : FuncData
  f_scaled_line : L2.Fun K "scaled_line" "scaled_line" s_scaled_line a_scaled_line d_scaled_line
  g_scaled_line : mg "scaled_line" = some (.ref a_scaled_line)
  a_times_lines : Addr
  d_times_lines : FuncData
  f_times_lines : L2.Fun K "times_lines" "times_lines" s_times_lines a_times_lines d_times_lines
  g_times_lines : mg "times_lines" = some (.ref a_times_lines)
  a_value_at : Addr
  d_value_at : FuncData
  f_value_at : L2.Fun K "value_at" "value_at" s_value_at a_value_at d_value_at
  g_value_at : mg "value_at" = some (.ref a_value_at)
  a_slope_of : Addr
  d_slope_of : FuncData
  f_slope_of : L2.Fun K "slope_of" "slope_of" s_slope_of a_slope_of d_slope_of
  g_slope_of : mg "slope_of" = some (.ref a_slope_of)
  a__law_pot : Addr
  d__law_pot : FuncData
  f__law_pot : L2.Fun K "_law_pot" "_law_pot" s__law_pot a__law_pot d__law_pot
  g__law_pot : mg "_law_pot" = some (.ref a__law_pot)
  a__law_draw : Addr
  d__law_draw : FuncData
  f__law_draw : L2.Fun K "_law_draw" "_law_draw" s__law_draw a__law_draw d__law_draw
  g__law_draw : mg "_law_draw" = some (.ref a__law_draw)
  a__law_trim : Addr
  d__law_trim : FuncData
  f__law_trim : L2.Fun K "_law_trim" "_law_trim" s__law_trim a__law_trim d__law_trim
  g__law_trim : mg "_law_trim" = some (.ref a__law_trim)
  a__law_value : Addr
  d__law_value : FuncData
  f__law_value : L2.Fun K "_law_value" "_law_value" s__law_value a__law_value d__law_value
  g__law_value : mg "_law_value" = some (.ref a__law_value)
  a__law_slope : Addr
  d__law_slope : FuncData
  f__law_slope : L2.Fun K "_law_slope" "_law_slope" s__law_slope a__law_slope d__law_slope
  g__law_slope : mg "_law_slope" = some (.ref a__law_slope)
  a__law_greatest : Addr
  d__law_greatest : FuncData
  f__law_greatest : L2.Fun K "_law_greatest" "_law_greatest" s__law_greatest a__law_greatest d__law_greatest
  g__law_greatest : mg "_law_greatest" = some (.ref a__law_greatest)
  a_greatest_of : Addr
  d_greatest_of : FuncData
  f_greatest_of : L2.Fun K "greatest_of" "greatest_of" s_greatest_of a_greatest_of d_greatest_of
  g_greatest_of : mg "greatest_of" = some (.ref a_greatest_of)
  a_want_number : Addr
  d_want_number : FuncData
  f_want_number : L2.Fun K "want_number" "want_number" s_want_number a_want_number d_want_number
  g_want_number : mg "want_number" = some (.ref a_want_number)
  a_plus_lines : Addr
  d_plus_lines : FuncData
  f_plus_lines : L2.Fun K "plus_lines" "plus_lines" s_plus_lines a_plus_lines d_plus_lines
  g_plus_lines : mg "plus_lines" = some (.ref a_plus_lines)
  a_line_in : Addr
  d_line_in : FuncData
  f_line_in : L2.Fun K "line_in" "line_in" s_line_in a_line_in d_line_in
  g_line_in : mg "line_in" = some (.ref a_line_in)
  a__law_pick : Addr
  d__law_pick : FuncData
  f__law_pick : L2.Fun K "_law_pick" "_law_pick" s__law_pick a__law_pick d__law_pick
  g__law_pick : mg "_law_pick" = some (.ref a__law_pick)
  a__law_sum : Addr
  d__law_sum : FuncData
  f__law_sum : L2.Fun K "_law_sum" "_law_sum" s__law_sum a__law_sum d__law_sum
  g__law_sum : mg "_law_sum" = some (.ref a__law_sum)
  a__law_times : Addr
  d__law_times : FuncData
  f__law_times : L2.Fun K "_law_times" "_law_times" s__law_times a__law_times d__law_times
  g__law_times : mg "_law_times" = some (.ref a__law_times)
  a__law_plain : Addr
  d__law_plain : FuncData
  f__law_plain : L2.Fun K "_law_plain" "_law_plain" s__law_plain a__law_plain d__law_plain
  g__law_plain : mg "_law_plain" = some (.ref a__law_plain)
  a_minus_lines : Addr
  d_minus_lines : FuncData
  f_minus_lines : L2.Fun K "minus_lines" "minus_lines" s_minus_lines a_minus_lines d_minus_lines
  g_minus_lines : mg "minus_lines" = some (.ref a_minus_lines)
  a_plain_of : Addr
  d_plain_of : FuncData
  f_plain_of : L2.Fun K "plain_of" "plain_of" s_plain_of a_plain_of d_plain_of
  g_plain_of : mg "plain_of" = some (.ref a_plain_of)
  a_want_line : Addr
  d_want_line : FuncData
  f_want_line : L2.Fun K "want_line" "want_line" s_want_line a_want_line d_want_line
  g_want_line : mg "want_line" = some (.ref a_want_line)
  a__law_line : Addr
  d__law_line : FuncData
  f__law_line : L2.Fun K "_law_line" "_law_line" s__law_line a__law_line d__law_line
  g__law_line : mg "_law_line" = some (.ref a__law_line)
  a_two_lines : Addr
  d_two_lines : FuncData
  f_two_lines : L2.Fun K "two_lines" "two_lines" s_two_lines a_two_lines d_two_lines
  g_two_lines : mg "two_lines" = some (.ref a_two_lines)
  a_degree : Addr
  d_degree : FuncData
  f_degree : L2.Fun K "degree" "degree" s_degree a_degree d_degree
  g_degree : mg "degree" = some (.ref a_degree)
  a_line_value : Addr
  d_line_value : FuncData
  f_line_value : L2.Fun K "line_value" "line_value" s_line_value a_line_value d_line_value
  g_line_value : mg "line_value" = some (.ref a_line_value)
  a_line_slope : Addr
  d_line_slope : FuncData
  f_line_slope : L2.Fun K "line_slope" "line_slope" s_line_slope a_line_slope d_line_slope
  g_line_slope : mg "line_slope" = some (.ref a_line_slope)
  a_plain_line : Addr
  d_plain_line : FuncData
  f_plain_line : L2.Fun K "plain_line" "plain_line" s_plain_line a_plain_line d_plain_line
  g_plain_line : mg "plain_line" = some (.ref a_plain_line)
  a__law_drawn : Addr
  d__law_drawn : FuncData
  f__law_drawn : L2.Fun K "_law_drawn" "_law_drawn" s__law_drawn a__law_drawn d__law_drawn
  g__law_drawn : mg "_law_drawn" = some (.ref a__law_drawn)
  a_line_sum : Addr
  d_line_sum : FuncData
  f_line_sum : L2.Fun K "line_sum" "line_sum" s_line_sum a_line_sum d_line_sum
  g_line_sum : mg "line_sum" = some (.ref a_line_sum)
  a_line_less : Addr
  d_line_less : FuncData
  f_line_less : L2.Fun K "line_less" "line_less" s_line_less a_line_less d_line_less
  g_line_less : mg "line_less" = some (.ref a_line_less)
  a_line_times : Addr
  d_line_times : FuncData
  f_line_times : L2.Fun K "line_times" "line_times" s_line_times a_line_times d_line_times
  g_line_times : mg "line_times" = some (.ref a_line_times)
  a__law_pair_right : Addr
  d__law_pair_right : FuncData
  f__law_pair_right : L2.Fun K "_law_pair_right" "_law_pair_right" s__law_pair_right a__law_pair_right d__law_pair_right
  g__law_pair_right : mg "_law_pair_right" = some (.ref a__law_pair_right)
  a__law_one_right : Addr
  d__law_one_right : FuncData
  f__law_one_right : L2.Fun K "_law_one_right" "_law_one_right" s__law_one_right a__law_one_right d__law_one_right
  g__law_one_right : mg "_law_one_right" = some (.ref a__law_one_right)
  a__law_right : Addr
  d__law_right : FuncData
  f__law_right : L2.Fun K "_law_right" "_law_right" s__law_right a__law_right d__law_right
  g__law_right : mg "_law_right" = some (.ref a__law_right)
  a_law : Addr
  d_law : FuncData
  f_law : L2.Fun K "law" "law" s_law a_law d_law
  g_law : mg "law" = some (.ref a_law)
  u_MOST_DEGREE : Value
  e_MOST_DEGREE : mg "MOST_DEGREE" = some u_MOST_DEGREE
  r_MOST_DEGREE : ∃ t, u_MOST_DEGREE = .int 12 t
  z_abs : mg "abs" = none
  z_all : mg "all" = none
  z_bool : mg "bool" = none
  z_divmod : mg "divmod" = none
  z_enumerate : mg "enumerate" = none
  z_int : mg "int" = none
  z_isinstance : mg "isinstance" = none
  z_len : mg "len" = none
  z_list : mg "list" = none
  z_max : mg "max" = none
  z_range : mg "range" = none
  z_repr : mg "repr" = none
  z_tuple : mg "tuple" = none
  z_zip : mg "zip" = none

section
variable {P : Program} {w : World} {K : Fg} {mg : Str → Option Value} {base : Heap}
theorem sc_is_integer : FnScope ["value"] ["value"] (defScope s_is_integer) := ⟨rfl, rfl, rfl, by decide +kernel, rfl, by decide +kernel, by decide +kernel⟩
theorem ok_is_integer (T : Tx K mg) : FnG P w K mg base 1 T.a_is_integer T.d_is_integer ["value"] (spF K 1 m_is_integer) := by
  unfold m_is_integer
  refine ok_def (n := 1) rfl rfl T.f_is_integer sc_is_integer fun B cdv A outer s H E hr hgd => ?_
  unfold g_is_integer g_is_integer_s1
  exact (sb_one (ss_ret (de_and (de_isi (by rfl) T.z_isinstance (de_name 0) (by rfl) T.z_int bt_int) (de_one (de_not (de_isi (by rfl) T.z_isinstance (de_name 0) (by rfl) T.z_bool bt_bool))))))
theorem sc_is_list : FnScope ["value"] ["value"] (defScope s_is_list) := ⟨rfl, rfl, rfl, by decide +kernel, rfl, by decide +kernel, by decide +kernel⟩
theorem ok_is_list (T : Tx K mg) : FnG P w K mg base 1 T.a_is_list T.d_is_list ["value"] (spF K 1 m_is_list) := by
  unfold m_is_list
  refine ok_def (n := 1) rfl rfl T.f_is_list sc_is_list fun B cdv A outer s H E hr hgd => ?_
  unfold g_is_list g_is_list_s1
  exact (sb_one (ss_ret (de_isi2 (by rfl) T.z_isinstance (de_name 0) (by rfl) T.z_list bt_list (by rfl) T.z_tuple bt_tuple)))
theorem sc_want_at_most : FnScope ["what", "limit", "number"] ["what", "limit", "number"] (defScope s_want_at_most) := ⟨rfl, rfl, rfl, by decide +kernel, rfl, by decide +kernel, by decide +kernel⟩
theorem ok_want_at_most (T : Tx K mg) : FnG P w K mg base 1 T.a_want_at_most T.d_want_at_most ["what", "limit", "number"] (spF K 3 m_want_at_most) := by
  unfold m_want_at_most
  refine ok_def (n := 3) rfl rfl T.f_want_at_most sc_want_at_most fun B cdv A outer s H E hr hgd => ?_
  unfold g_want_at_most g_want_at_most_s1
  exact (sb_one (ss_if (dt_cmp op_gt od_gt (de_name 2) (de_name 1))
  sb_never
  sb_nil))
theorem sc_divisor_of : FnScope ["number", "other", "near", "far"] ["number", "other"] (defScope s_divisor_of) := ⟨rfl, rfl, rfl, by decide +kernel, rfl, by decide +kernel, by decide +kernel⟩
theorem ok_divisor_of (T : Tx K mg) : FnG P w K mg base 1 T.a_divisor_of T.d_divisor_of ["number", "other"] (spF K 2 m_divisor_of) := by
  unfold m_divisor_of
  refine ok_def (n := 4) rfl rfl T.f_divisor_of sc_divisor_of fun B cdv A outer s H E hr hgd => ?_
  unfold g_divisor_of g_divisor_of_s2 g_divisor_of_s1 g_divisor_of_w1 g_divisor_of_b1 g_divisor_of_t1
  exact (sb_cons (ss_par (i := 2) (j := 3) rfl sc_divisor_of.nd rfl rfl (by decide) rfl rfl (da_cons (de_callB call_abs fd_abs (by rfl) T.z_abs bt_abs (da_cons (de_name 0) da_nil)) (da_cons (de_callB call_abs fd_abs (by rfl) T.z_abs bt_abs (da_cons (de_name 1) da_nil)) da_nil)) (by rfl))
  (sb_cons (ss_while fuel PassesOwn.never (dt_cmp (op_neD hr.units) od_ne (de_name 3) de_int)
  (sb_one (ss_par (i := 2) (j := 3) rfl sc_divisor_of.nd rfl rfl (by decide) rfl rfl (da_cons (de_name 3) (da_cons (de_op op_sub od_sub (de_name 2) (de_op op_mulA od_mulA (de_op op_fdivZ od_fdivZ (de_name 2) (de_name 3)) (de_name 3))) da_nil)) (by rfl))))
  (sb_one (ss_ret (de_name 2)))))
theorem sc_trimmed : FnScope ["numbers", "many"] ["numbers"] (defScope s_trimmed) := ⟨rfl, rfl, rfl, by decide +kernel, rfl, by decide +kernel, by decide +kernel⟩
theorem ok_trimmed (T : Tx K mg) : FnG P w K mg base 1 T.a_trimmed T.d_trimmed ["numbers"] (spF K 1 m_trimmed) := by
  unfold m_trimmed
  refine ok_def (n := 2) rfl rfl T.f_trimmed sc_trimmed fun B cdv A outer s H E hr hgd => ?_
  unfold g_trimmed g_trimmed_s2 g_trimmed_s1 g_trimmed_w1 g_trimmed_b1 g_trimmed_t1
  exact (sb_cons (ss_set (i := 1) sc_trimmed.nd rfl (by first | exact Or.inl rfl | exact Or.inr rfl) (de_callB call_len fd_len (by rfl) T.z_len bt_len (da_cons (de_name 0) da_nil)))
  (sb_cons (ss_while fuel PassesOwn.never (dw_pt (dw_and (dt_cmp op_gt od_gt (de_name 1) de_int) (dw_and1 (dt_cmp (op_eqD hr.units) od_eq (de_ix (de_name 0) (de_op op_sub od_sub (de_name 1) de_int)) de_int))))
  (sb_one (ss_set (i := 1) sc_trimmed.nd rfl (by first | exact Or.inl rfl | exact Or.inr rfl) (de_op op_sub od_sub (de_name 1) de_int))))
  (sb_one (ss_ret (de_callT call_list_of fd_list (by rfl) T.z_list bt_list (da_cons (de_slice (de_name 0) dp_none (dp_some (de_name 1))) da_nil))))))
theorem sc_scaled_line : FnScope ["line", "number", "one"] ["line", "number"] (defScope s_scaled_line) := ⟨rfl, rfl, rfl, by decide +kernel, rfl, by decide +kernel, by decide +kernel⟩
theorem ok_scaled_line (T : Tx K mg) : FnG P w K mg base 1 T.a_scaled_line T.d_scaled_line ["line", "number"] (spF K 2 m_scaled_line) := by
  unfold m_scaled_line
  refine ok_def (n := 3) rfl rfl T.f_scaled_line sc_scaled_line fun B cdv A outer s H E hr hgd => ?_
  unfold g_scaled_line g_scaled_line_s1 g_scaled_line_c1
  exact (sb_one (ss_ret (de_if (dt_cmp (op_neD hr.units) od_ne (de_name 1) de_int) (de_lc (own := [("one", 2)]) rfl sc_scaled_line.nd (di_seq (de_name 0)) (blkOk_by (by kernel_rfl)) (by decide) (fun _ _ _ _ _ B => (dg_name 2 sc_scaled_line.nd rfl (by first | exact Or.inl rfl | exact Or.inr rfl))) (fun _ _ _ _ _ => dts_nil) (fun _ _ _ _ _ B => (de_op op_mulA od_mulA (de_name 1) (de_name 2)))) (de_lst da_nil))))
theorem sc_times_lines : FnScope ["line", "other", "found", "at", "near", "to", "far"] ["line", "other"] (defScope s_times_lines) := ⟨rfl, rfl, rfl, by decide +kernel, rfl, by decide +kernel, by decide +kernel⟩
theorem ok_times_lines (T : Tx K mg) : FnG P w K mg base 1 T.a_times_lines T.d_times_lines ["line", "other"] (spF K 2 m_times_lines) := by
  unfold m_times_lines
  refine ok_def (n := 7) rfl rfl T.f_times_lines sc_times_lines fun B cdv A outer s H E hr hgd => ?_
  unfold g_times_lines g_times_lines_s3 g_times_lines_s2 g_times_lines_s1 g_times_lines_f2 g_times_lines_b2 g_times_lines_f1 g_times_lines_b1
  exact (sb_cons (ss_if (dw_pt (dw_or (dt_cmp (op_eqD hr.units) od_eq (de_callB call_len fd_len (by rfl) T.z_len bt_len (da_cons (de_name 0) da_nil)) de_int) (dw_or1 (dt_cmp (op_eqD hr.units) od_eq (de_callB call_len fd_len (by rfl) T.z_len bt_len (da_cons (de_name 1) da_nil)) de_int))))
  (sb_one (ss_ret (de_lst da_nil)))
  sb_nil)
  (sb_cons (ss_set (i := 2) sc_times_lines.nd rfl (by first | exact Or.inl rfl | exact Or.inr rfl) (de_op op_mulA od_mulA (de_lst (da_cons de_int da_nil)) (de_op op_sub od_sub (de_op op_addA od_addA (de_callB call_len fd_len (by rfl) T.z_len bt_len (da_cons (de_name 0) da_nil)) (de_callB call_len fd_len (by rfl) T.z_len bt_len (da_cons (de_name 1) da_nil))) de_int)))
  (sb_cons (ss_for PassesOwn.never rfl (di_enumA (by rfl) T.z_enumerate (da_cons (de_name 0) da_nil)) (dg_tup rfl (dgs_cons (dg_name 3 sc_times_lines.nd rfl (by first | exact Or.inl rfl | exact Or.inr rfl)) (dgs_cons (dg_name 4 sc_times_lines.nd rfl (by first | exact Or.inl rfl | exact Or.inr rfl)) dgs_nil)))
  (sb_one (ss_if (dt_cmp (op_neD hr.units) od_ne (de_name 4) de_int)
  (sb_one (ss_for PassesOwn.never rfl (di_enumA (by rfl) T.z_enumerate (da_cons (de_name 1) da_nil)) (dg_tup rfl (dgs_cons (dg_name 5 sc_times_lines.nd rfl (by first | exact Or.inl rfl | exact Or.inr rfl)) (dgs_cons (dg_name 6 sc_times_lines.nd rfl (by first | exact Or.inl rfl | exact Or.inr rfl)) dgs_nil)))
  (sb_one (ss_augSub 2 (pv 2) (de_op op_addA od_addA (de_name 3) (de_name 5)) (de_op op_mulA od_mulA (de_name 4) (de_name 6)) iop_add od_iadd))))
  sb_nil)))
  (sb_one (ss_ret (de_name 2))))))
theorem sc_value_at : FnScope ["line", "number", "found", "one"] ["line", "number"] (defScope s_value_at) := ⟨rfl, rfl, rfl, by decide +kernel, rfl, by decide +kernel, by decide +kernel⟩
theorem ok_value_at (T : Tx K mg) : FnG P w K mg base 1 T.a_value_at T.d_value_at ["line", "number"] (spF K 2 m_value_at) := by
  unfold m_value_at
  refine ok_def (n := 4) rfl rfl T.f_value_at sc_value_at fun B cdv A outer s H E hr hgd => ?_
  unfold g_value_at g_value_at_s2 g_value_at_s1 g_value_at_f1 g_value_at_b1
  exact (sb_cons (ss_set (i := 2) sc_value_at.nd rfl (by first | exact Or.inl rfl | exact Or.inr rfl) de_int)
  (sb_cons (ss_for PassesOwn.never rfl (di_seq (de_rev (de_name 0))) (dg_name 3 sc_value_at.nd rfl (by first | exact Or.inl rfl | exact Or.inr rfl))
  (sb_one (ss_set (i := 2) sc_value_at.nd rfl (by first | exact Or.inl rfl | exact Or.inr rfl) (de_op op_addA od_addA (de_op op_mulA od_mulA (de_name 2) (de_name 1)) (de_name 3)))))
  (sb_one (ss_ret (de_name 2)))))
theorem sc_slope_of : FnScope ["line", "at", "number"] ["line"] (defScope s_slope_of) := ⟨rfl, rfl, rfl, by decide +kernel, rfl, by decide +kernel, by decide +kernel⟩
theorem ok_slope_of (T : Tx K mg) : FnG P w K mg base 1 T.a_slope_of T.d_slope_of ["line"] (spF K 1 m_slope_of) := by
  unfold m_slope_of
  refine ok_def (n := 3) rfl rfl T.f_slope_of sc_slope_of fun B cdv A outer s H E hr hgd => ?_
  unfold g_slope_of g_slope_of_s1 g_slope_of_c1
  exact (sb_one (ss_ret (de_slice (de_lc (own := [("at", 1), ("number", 2)]) rfl sc_slope_of.nd (di_enumA (by rfl) T.z_enumerate (da_cons (de_name 0) da_nil)) (blkOk_by (by kernel_rfl)) (by decide) (fun _ _ _ _ _ B => (dg_tup rfl (dgs_cons (dg_name 1 sc_slope_of.nd rfl (by first | exact Or.inl rfl | exact Or.inr rfl)) (dgs_cons (dg_name 2 sc_slope_of.nd rfl (by first | exact Or.inl rfl | exact Or.inr rfl)) dgs_nil)))) (fun _ _ _ _ _ => dts_nil) (fun _ _ _ _ _ B => (de_op op_mulA od_mulA (de_name 1) (de_name 2)))) (dp_some de_int) dp_none)))
theorem sc__law_pot : FnScope ["_law_script", "_law_k", "_law_cell"] ["_law_script", "_law_k"] (defScope s__law_pot) := ⟨rfl, rfl, rfl, by decide +kernel, rfl, by decide +kernel, by decide +kernel⟩
theorem ok__law_pot (T : Tx K mg) : FnG P w K mg base 1 T.a__law_pot T.d__law_pot ["_law_script", "_law_k"] (spF K 2 m__law_pot) := by
  unfold m__law_pot
  refine ok_def (n := 3) rfl rfl T.f__law_pot sc__law_pot fun B cdv A outer s H E hr hgd => ?_
  unfold g__law_pot g__law_pot_s2 g__law_pot_s1
  exact (sb_cons (ss_set (i := 2) sc__law_pot.nd rfl (by first | exact Or.inl rfl | exact Or.inr rfl) (de_if (dt_cmp op_lt od_lt (de_name 1) (de_callB call_len fd_len (by rfl) T.z_len bt_len (da_cons (de_name 0) da_nil))) (de_callB call_abs fd_abs (by rfl) T.z_abs bt_abs (da_cons (de_ix (de_name 0) (de_name 1)) da_nil)) (de_op op_addA od_addA (de_op op_mulA od_mulA de_int (de_name 1)) de_int)))
  (sb_one (ss_ret (de_lst (da_cons (de_callB (call_max2 rfl) fd_max2 (by rfl) T.z_max bt_max (da_cons de_int (da_cons (de_op op_sub od_sub (de_name 2) (de_op op_pow od_pow de_int de_int)) da_nil))) (da_cons (de_op op_addA od_addA (de_op op_modN od_modN (de_callT call_int1 fd_int (by rfl) T.z_int bt_int (da_cons (de_op op_addA od_addA (de_op op_addA od_addA (de_op op_mulA od_mulA (de_op op_modN od_modN (de_callT call_int1 fd_int (by rfl) T.z_int bt_int (da_cons (de_name 2) da_nil)) de_int) de_int) (de_op op_mulA od_mulA de_int (de_name 1))) de_int) da_nil)) de_int) de_int) da_nil))))))
theorem sc__law_draw : FnScope ["_law_pot_here", "_law_many", "_law_digit"] ["_law_pot_here", "_law_many"] (defScope s__law_draw) := ⟨rfl, rfl, rfl, by decide +kernel, rfl, by decide +kernel, by decide +kernel⟩
theorem ok__law_draw (T : Tx K mg) : FnG P w K mg base 1 T.a__law_draw T.d__law_draw ["_law_pot_here", "_law_many"] (spI K 2 m__law_draw) := by
  unfold m__law_draw
  refine ok_defI (n := 3) rfl rfl rfl T.f__law_draw sc__law_draw fun B cdv A outer s H E hr hgd => ?_
  unfold g__law_draw g__law_draw_s3 g__law_draw_s2 g__law_draw_s1
  exact (sb_cons (ss_if (dt_cmp op_gt od_gt (de_ix (de_name 0) de_int) de_int)
  (sb_cons (ss_asg (de_callB call_divmod fd_divmod (by rfl) T.z_divmod bt_divmod (da_cons (de_ix (de_name 0) de_int) (da_cons (de_name 1) da_nil))) (dg_tup rfl (dgs_cons (dg_sub 0 (pv 0) de_int) (dgs_cons (dg_name 2 sc__law_draw.nd rfl (by first | exact Or.inl rfl | exact Or.inr rfl)) dgs_nil))))
  (sb_one (ss_ret (de_name 2))))
  sb_nil)
  (sb_cons (ss_asg (de_op op_modN od_modN (de_callT call_int1 fd_int (by rfl) T.z_int bt_int (da_cons (de_op op_addA od_addA (de_op op_mulA od_mulA (de_ix (de_name 0) de_int) de_int) de_int) da_nil)) de_int) (dg_sub 0 (pv 0) de_int))
  (sb_one (ss_ret (de_op op_modN od_modN (de_callT call_int1 fd_int (by rfl) T.z_int bt_int (da_cons (de_op op_fdivZ od_fdivZ (de_op op_modN od_modN (de_callT call_int1 fd_int (by rfl) T.z_int bt_int (da_cons (de_op op_mulA od_mulA (de_ix (de_name 0) de_int) (de_ix (de_name 0) de_int)) da_nil)) de_int) de_int) da_nil)) (de_name 1))))))
theorem sc__law_trim : FnScope ["_law_numbers", "_law_found"] ["_law_numbers"] (defScope s__law_trim) := ⟨rfl, rfl, rfl, by decide +kernel, rfl, by decide +kernel, by decide +kernel⟩
theorem ok__law_trim (T : Tx K mg) : FnG P w K mg base 1 T.a__law_trim T.d__law_trim ["_law_numbers"] (spF K 1 m__law_trim) := by
  unfold m__law_trim
  refine ok_def (n := 2) rfl rfl T.f__law_trim sc__law_trim fun B cdv A outer s H E hr hgd => ?_
  unfold g__law_trim g__law_trim_s2 g__law_trim_s1 g__law_trim_w1 g__law_trim_b1 g__law_trim_t1
  exact (sb_cons (ss_set (i := 1) sc__law_trim.nd rfl (by first | exact Or.inl rfl | exact Or.inr rfl) (de_callT call_list_of fd_list (by rfl) T.z_list bt_list (da_cons (de_name 0) da_nil)))
  (sb_cons (ss_while fuel PassesOwn.never (dw_pt (dw_and (dt_cmp (op_neD hr.units) od_ne (de_name 1) (de_lst da_nil)) (dw_and1 (dt_cmp (op_eqD hr.units) od_eq (de_ix (de_name 1) (de_un un_neg ud_neg de_int)) de_int))))
  (sb_one (ss_expr (de_meth0 1 PySem.F.plainAttrs_list PySem.F.slot_list_pop PySem.F.type_list_pop mt_pop md_pop (pv 1)))))
  (sb_one (ss_ret (de_name 1)))))
theorem sc__law_value : FnScope ["_law_line_here", "_law_number", "_law_found", "_law_coefficient"] ["_law_line_here", "_law_number"] (defScope s__law_value) := ⟨rfl, rfl, rfl, by decide +kernel, rfl, by decide +kernel, by decide +kernel⟩
theorem ok__law_value (T : Tx K mg) : FnG P w K mg base 1 T.a__law_value T.d__law_value ["_law_line_here", "_law_number"] (spF K 2 m__law_value) := by
  unfold m__law_value
  refine ok_def (n := 4) rfl rfl T.f__law_value sc__law_value fun B cdv A outer s H E hr hgd => ?_
  unfold g__law_value g__law_value_s2 g__law_value_s1 g__law_value_f1 g__law_value_b1
  exact (sb_cons (ss_set (i := 2) sc__law_value.nd rfl (by first | exact Or.inl rfl | exact Or.inr rfl) de_int)
  (sb_cons (ss_for PassesOwn.never rfl (di_seq (de_rev (de_name 0))) (dg_name 3 sc__law_value.nd rfl (by first | exact Or.inl rfl | exact Or.inr rfl))
  (sb_one (ss_set (i := 2) sc__law_value.nd rfl (by first | exact Or.inl rfl | exact Or.inr rfl) (de_op op_addA od_addA (de_op op_mulA od_mulA (de_name 2) (de_name 1)) (de_name 3)))))
  (sb_one (ss_ret (de_name 2)))))
theorem sc__law_slope : FnScope ["_law_line_here", "_law_at"] ["_law_line_here"] (defScope s__law_slope) := ⟨rfl, rfl, rfl, by decide +kernel, rfl, by decide +kernel, by decide +kernel⟩
theorem ok__law_slope (T : Tx K mg) : FnG P w K mg base 1 T.a__law_slope T.d__law_slope ["_law_line_here"] (spF K 1 m__law_slope) := by
  unfold m__law_slope
  refine ok_def (n := 2) rfl rfl T.f__law_slope sc__law_slope fun B cdv A outer s H E hr hgd => ?_
  unfold g__law_slope g__law_slope_s1 g__law_slope_c1
  exact (sb_one (ss_ret (de_lc (own := [("_law_at", 1)]) rfl sc__law_slope.nd (di_range2 (by rfl) T.z_range (da_cons de_int (da_cons (de_callB call_len fd_len (by rfl) T.z_len bt_len (da_cons (de_name 0) da_nil)) da_nil))) (blkOk_by (by kernel_rfl)) (by decide) (fun _ _ _ _ _ B => (dg_name 1 sc__law_slope.nd rfl (by first | exact Or.inl rfl | exact Or.inr rfl))) (fun _ _ _ _ _ => dts_nil) (fun _ _ _ _ _ B => (de_op op_mulA od_mulA (de_name 1) (de_ix (de_name 0) (de_name 1)))))))
theorem sc__law_greatest : FnScope ["_law_some", "_law_found", "_law_number", "_law_other"] ["_law_some"] (defScope s__law_greatest) := ⟨rfl, rfl, rfl, by decide +kernel, rfl, by decide +kernel, by decide +kernel⟩
theorem ok__law_greatest (T : Tx K mg) : FnG P w K mg base 1 T.a__law_greatest T.d__law_greatest ["_law_some"] (spF K 1 m__law_greatest) := by
  unfold m__law_greatest
  refine ok_def (n := 4) rfl rfl T.f__law_greatest sc__law_greatest fun B cdv A outer s H E hr hgd => ?_
  unfold g__law_greatest g__law_greatest_s2 g__law_greatest_s1 g__law_greatest_f1 g__law_greatest_b2 g__law_greatest_w1 g__law_greatest_b1 g__law_greatest_t1
  exact (sb_cons (ss_set (i := 1) sc__law_greatest.nd rfl (by first | exact Or.inl rfl | exact Or.inr rfl) de_int)
  (sb_cons (ss_for PassesOwn.never rfl (di_seq (de_name 0)) (dg_name 2 sc__law_greatest.nd rfl (by first | exact Or.inl rfl | exact Or.inr rfl))
  (sb_cons (ss_set (i := 3) sc__law_greatest.nd rfl (by first | exact Or.inl rfl | exact Or.inr rfl) (de_callB call_abs fd_abs (by rfl) T.z_abs bt_abs (da_cons (de_name 2) da_nil)))
  (sb_one (ss_while fuel PassesOwn.never (dt_cmp (op_neD hr.units) od_ne (de_name 3) de_int)
  (sb_one (ss_par (i := 1) (j := 3) rfl sc__law_greatest.nd rfl rfl (by decide) rfl rfl (da_cons (de_name 3) (da_cons (de_op op_sub od_sub (de_name 1) (de_op op_mulA od_mulA (de_op op_fdivZ od_fdivZ (de_name 1) (de_name 3)) (de_name 3))) da_nil)) (by rfl)))))))
  (sb_one (ss_ret (de_name 1)))))
theorem sc_greatest_of : FnScope ["some", "found", "number"] ["some"] (defScope s_greatest_of) := ⟨rfl, rfl, rfl, by decide +kernel, rfl, by decide +kernel, by decide +kernel⟩
theorem ok_greatest_of (T : Tx K mg) : FnG P w K mg base 2 T.a_greatest_of T.d_greatest_of ["some"] (spF K 1 m_greatest_of) := by
  unfold m_greatest_of
  refine ok_def (n := 3) rfl rfl T.f_greatest_of sc_greatest_of fun B cdv A outer s H E hr hgd => ?_
  unfold g_greatest_of g_greatest_of_s2 g_greatest_of_s1 g_greatest_of_f1 g_greatest_of_b1
  exact (sb_cons (ss_set (i := 1) sc_greatest_of.nd rfl (by first | exact Or.inl rfl | exact Or.inr rfl) de_int)
  (sb_cons (ss_for PassesOwn.never rfl (di_seq (de_name 0)) (dg_name 2 sc_greatest_of.nd rfl (by first | exact Or.inl rfl | exact Or.inr rfl))
  (sb_one (ss_set (i := 1) sc_greatest_of.nd rfl (by first | exact Or.inl rfl | exact Or.inr rfl) (de_call (ok_divisor_of T) (hr.mono (by decide)) hgd (bindK_of (ks := []) (is := [0, 1]) T.f_divisor_of fun _ _ _ _ _ _ us ws h1 h2 => match us, ws, h1, h2 with | [_, _], [], _, _ => rfl) (by rfl) T.g_divisor_of T.f_divisor_of.kp (da_cons (de_name 1) (da_cons (de_name 2) da_nil)) dk_nil (lenA_cons (lenA_cons lenA_nil)) lenA_nil (fun xs h => match xs, h with | [_, _], _ => rfl)))))
  (sb_one (ss_ret (de_name 1)))))
theorem sc_want_number : FnScope ["value"] ["value"] (defScope s_want_number) := ⟨rfl, rfl, rfl, by decide +kernel, rfl, by decide +kernel, by decide +kernel⟩
theorem ok_want_number (T : Tx K mg) : FnG P w K mg base 2 T.a_want_number T.d_want_number ["value"] (spF K 1 m_want_number) := by
  unfold m_want_number
  refine ok_def (n := 1) rfl rfl T.f_want_number sc_want_number fun B cdv A outer s H E hr hgd => ?_
  unfold g_want_number g_want_number_s1
  exact (sb_one (ss_if (dt_not (dt_val (de_call (ok_is_integer T) (hr.mono (by decide)) hgd (bindK_of (ks := []) (is := [0]) T.f_is_integer fun _ _ _ _ _ _ us ws h1 h2 => match us, ws, h1, h2 with | [_], [], _, _ => rfl) (by rfl) T.g_is_integer T.f_is_integer.kp (da_cons (de_name 0) da_nil) dk_nil (lenA_cons lenA_nil) lenA_nil (fun xs h => match xs, h with | [_], _ => rfl))))
  sb_never
  sb_nil))
theorem sc_plus_lines : FnScope ["line", "other", "near", "far", "at"] ["line", "other"] (defScope s_plus_lines) := ⟨rfl, rfl, rfl, by decide +kernel, rfl, by decide +kernel, by decide +kernel⟩
theorem ok_plus_lines (T : Tx K mg) : FnG P w K mg base 2 T.a_plus_lines T.d_plus_lines ["line", "other"] (spF K 2 m_plus_lines) := by
  unfold m_plus_lines
  refine ok_def (n := 5) rfl rfl T.f_plus_lines sc_plus_lines fun B cdv A outer s H E hr hgd => ?_
  unfold g_plus_lines g_plus_lines_s2 g_plus_lines_s1 g_plus_lines_c1
  exact (sb_cons (ss_asg (de_if (dt_cmp op_ge od_ge (de_callB call_len fd_len (by rfl) T.z_len bt_len (da_cons (de_name 0) da_nil)) (de_callB call_len fd_len (by rfl) T.z_len bt_len (da_cons (de_name 1) da_nil))) (de_tup (da_cons (de_name 0) (da_cons (de_name 1) da_nil))) (de_tup (da_cons (de_name 1) (da_cons (de_name 0) da_nil)))) (dg_tup rfl (dgs_cons (dg_name 2 sc_plus_lines.nd rfl (by first | exact Or.inl rfl | exact Or.inr rfl)) (dgs_cons (dg_name 3 sc_plus_lines.nd rfl (by first | exact Or.inl rfl | exact Or.inr rfl)) dgs_nil))))
  (sb_one (ss_ret (de_call (ok_trimmed T) (hr.mono (by decide)) hgd (bindK_of (ks := []) (is := [0]) T.f_trimmed fun _ _ _ _ _ _ us ws h1 h2 => match us, ws, h1, h2 with | [_], [], _, _ => rfl) (by rfl) T.g_trimmed T.f_trimmed.kp (da_cons (de_op op_addA od_addA (de_lc (own := [("at", 4)]) rfl sc_plus_lines.nd (di_range1 (by rfl) T.z_range (da_cons (de_callB call_len fd_len (by rfl) T.z_len bt_len (da_cons (de_name 3) da_nil)) da_nil)) (blkOk_by (by kernel_rfl)) (by decide) (fun _ _ _ _ _ B => (dg_name 4 sc_plus_lines.nd rfl (by first | exact Or.inl rfl | exact Or.inr rfl))) (fun _ _ _ _ _ => dts_nil) (fun _ _ _ _ _ B => (de_op op_addA od_addA (de_ix (de_name 2) (de_name 4)) (de_ix (de_name 3) (de_name 4))))) (de_callT call_list_of fd_list (by rfl) T.z_list bt_list (da_cons (de_slice (de_name 2) (dp_some (de_callB call_len fd_len (by rfl) T.z_len bt_len (da_cons (de_name 3) da_nil))) dp_none) da_nil))) da_nil) dk_nil (lenA_cons lenA_nil) lenA_nil (fun xs h => match xs, h with | [_], _ => rfl)))))
theorem sc_line_in : FnScope ["value", "one"] ["value"] (defScope s_line_in) := ⟨rfl, rfl, rfl, by decide +kernel, rfl, by decide +kernel, by decide +kernel⟩
theorem ok_line_in (T : Tx K mg) : FnG P w K mg base 2 T.a_line_in T.d_line_in ["value"] (spF K 1 m_line_in) := by
  unfold m_line_in
  refine ok_def (n := 2) rfl rfl T.f_line_in sc_line_in fun B cdv A outer s H E hr hgd => ?_
  unfold g_line_in g_line_in_s2 g_line_in_s1 g_line_in_c1
  exact (sb_cons (ss_if (dw_pt (dw_or (dt_not (dt_val (de_call (ok_is_list T) (hr.mono (by decide)) hgd (bindK_of (ks := []) (is := [0]) T.f_is_list fun _ _ _ _ _ _ us ws h1 h2 => match us, ws, h1, h2 with | [_], [], _, _ => rfl) (by rfl) T.g_is_list T.f_is_list.kp (da_cons (de_name 0) da_nil) dk_nil (lenA_cons lenA_nil) lenA_nil (fun xs h => match xs, h with | [_], _ => rfl)))) (dw_or (dt_cmp op_gt od_gt (de_callB call_len fd_len (by rfl) T.z_len bt_len (da_cons (de_name 0) da_nil)) (de_op op_addA od_addA (de_gint (by rfl) T.e_MOST_DEGREE T.r_MOST_DEGREE) de_int)) (dw_or1 (dt_not (dt_val (de_callB (cr_all rfl) fd_all (by rfl) T.z_all bt_all (da_cons (de_lc (own := [("one", 1)]) rfl sc_line_in.nd (di_seq (de_name 0)) (blkOk_by (by kernel_rfl)) (by decide) (fun _ _ _ _ _ B => (dg_name 1 sc_line_in.nd rfl (by first | exact Or.inl rfl | exact Or.inr rfl))) (fun _ _ _ _ _ => dts_nil) (fun _ _ _ _ _ B => (de_call (ok_is_integer T) (hr.mono (by decide)) hgd (bindK_of (ks := []) (is := [0]) T.f_is_integer fun _ _ _ _ _ _ us ws h1 h2 => match us, ws, h1, h2 with | [_], [], _, _ => rfl) (by rfl) T.g_is_integer T.f_is_integer.kp (da_cons (de_name 1) da_nil) dk_nil (lenA_cons lenA_nil) lenA_nil (fun xs h => match xs, h with | [_], _ => rfl)))) da_nil))))))))
  (sb_one (ss_ret de_non))
  sb_nil)
  (sb_one (ss_ret (de_if (dw_pt (dw_or (dt_cmp (op_eqD hr.units) od_eq (de_callB call_len fd_len (by rfl) T.z_len bt_len (da_cons (de_name 0) da_nil)) de_int) (dw_or1 (dt_cmp (op_neD hr.units) od_ne (de_ix (de_name 0) (de_un un_neg ud_neg de_int)) de_int)))) (de_callT call_list_of fd_list (by rfl) T.z_list bt_list (da_cons (de_name 0) da_nil)) de_non))))
theorem sc__law_pick : FnScope ["_law_pot_here", "_law_some"] ["_law_pot_here", "_law_some"] (defScope s__law_pick) := ⟨rfl, rfl, rfl, by decide +kernel, rfl, by decide +kernel, by decide +kernel⟩
theorem ok__law_pick (T : Tx K mg) : FnG P w K mg base 2 T.a__law_pick T.d__law_pick ["_law_pot_here", "_law_some"] (spI K 2 m__law_pick) := by
  unfold m__law_pick
  refine ok_defI (n := 2) rfl rfl rfl T.f__law_pick sc__law_pick fun B cdv A outer s H E hr hgd => ?_
  unfold g__law_pick g__law_pick_s1
  exact (sb_one (ss_ret (de_ix (de_name 1) (de_callI (ok__law_draw T) (hr.mono (by decide)) hgd (bindK_of (ks := []) (is := [0, 1]) T.f__law_draw fun _ _ _ _ _ _ us ws h1 h2 => match us, ws, h1, h2 with | [_, _], [], _, _ => rfl) (by rfl) T.g__law_draw T.f__law_draw.kp (da_cons (de_name 0) (da_cons (de_callB call_len fd_len (by rfl) T.z_len bt_len (da_cons (de_name 1) da_nil)) da_nil)) (lenA_cons (lenA_cons lenA_nil)) fun xs h => match xs, h with | [_, _], _ => rfl))))
theorem sc__law_sum : FnScope ["_law_line_here", "_law_other", "_law_factor", "_law_wide", "_law_near", "_law_far", "_law_one", "_law_two"] ["_law_line_here", "_law_other", "_law_factor"] (defScope s__law_sum) := ⟨rfl, rfl, rfl, by decide +kernel, rfl, by decide +kernel, by decide +kernel⟩
theorem ok__law_sum (T : Tx K mg) : FnG P w K mg base 2 T.a__law_sum T.d__law_sum ["_law_line_here", "_law_other", "_law_factor"] (spF K 3 m__law_sum) := by
  unfold m__law_sum
  refine ok_def (n := 8) rfl rfl T.f__law_sum sc__law_sum fun B cdv A outer s H E hr hgd => ?_
  unfold g__law_sum g__law_sum_s3 g__law_sum_s2 g__law_sum_s1 g__law_sum_c1
  exact (sb_cons (ss_set (i := 3) sc__law_sum.nd rfl (by first | exact Or.inl rfl | exact Or.inr rfl) (de_callB (call_max2 rfl) fd_max2 (by rfl) T.z_max bt_max (da_cons (de_callB call_len fd_len (by rfl) T.z_len bt_len (da_cons (de_name 0) da_nil)) (da_cons (de_callB call_len fd_len (by rfl) T.z_len bt_len (da_cons (de_name 1) da_nil)) da_nil))))
  (sb_cons (ss_par (i := 4) (j := 5) rfl sc__law_sum.nd rfl rfl (by decide) rfl rfl (da_cons (de_op op_addA od_addA (de_name 0) (de_op op_mulA od_mulA (de_lst (da_cons de_int da_nil)) (de_op op_sub od_sub (de_name 3) (de_callB call_len fd_len (by rfl) T.z_len bt_len (da_cons (de_name 0) da_nil))))) (da_cons (de_op op_addA od_addA (de_name 1) (de_op op_mulA od_mulA (de_lst (da_cons de_int da_nil)) (de_op op_sub od_sub (de_name 3) (de_callB call_len fd_len (by rfl) T.z_len bt_len (da_cons (de_name 1) da_nil))))) da_nil)) (by rfl))
  (sb_one (ss_frz 5 (ss_frz 4 (ss_ret (de_call (ok__law_trim T) (hr.mono (by decide)) hgd (bindK_of (ks := []) (is := [0]) T.f__law_trim fun _ _ _ _ _ _ us ws h1 h2 => match us, ws, h1, h2 with | [_], [], _, _ => rfl) (by rfl) T.g__law_trim T.f__law_trim.kp (da_cons (de_lc (own := [("_law_one", 6), ("_law_two", 7)]) rfl sc__law_sum.nd (di_zip (by rfl) T.z_zip (da_cons (de_name 4) (da_cons (de_name 5) da_nil))) (blkOk_by (by kernel_rfl)) (by decide) (fun _ _ _ _ _ B => (dg_tup rfl (dgs_cons (dg_name 6 sc__law_sum.nd rfl (by first | exact Or.inl rfl | exact Or.inr rfl)) (dgs_cons (dg_name 7 sc__law_sum.nd rfl (by first | exact Or.inl rfl | exact Or.inr rfl)) dgs_nil)))) (fun _ _ _ _ _ => dts_nil) (fun _ _ _ _ _ B => (de_op op_addA od_addA (de_name 6) (de_op op_mulA od_mulA (de_name 2) (de_name 7))))) da_nil) dk_nil (lenA_cons lenA_nil) lenA_nil (fun xs h => match xs, h with | [_], _ => rfl))))))))
theorem sc__law_times : FnScope ["_law_line_here", "_law_other", "_law_found", "_law_at", "_law_near", "_law_to", "_law_far"] ["_law_line_here", "_law_other"] (defScope s__law_times) := ⟨rfl, rfl, rfl, by decide +kernel, rfl, by decide +kernel, by decide +kernel⟩
theorem ok__law_times (T : Tx K mg) : FnG P w K mg base 2 T.a__law_times T.d__law_times ["_law_line_here", "_law_other"] (spF K 2 m__law_times) := by
  unfold m__law_times
  refine ok_def (n := 7) rfl rfl T.f__law_times sc__law_times fun B cdv A outer s H E hr hgd => ?_
  unfold g__law_times g__law_times_s2 g__law_times_s1 g__law_times_f2 g__law_times_b2 g__law_times_f1 g__law_times_b1
  exact (sb_cons (ss_set (i := 2) sc__law_times.nd rfl (by first | exact Or.inl rfl | exact Or.inr rfl) (de_op op_mulA od_mulA (de_lst (da_cons de_int da_nil)) (de_op op_addA od_addA (de_callB call_len fd_len (by rfl) T.z_len bt_len (da_cons (de_name 0) da_nil)) (de_callB call_len fd_len (by rfl) T.z_len bt_len (da_cons (de_name 1) da_nil)))))
  (sb_cons (ss_for PassesOwn.never rfl (di_enumA (by rfl) T.z_enumerate (da_cons (de_name 0) da_nil)) (dg_tup rfl (dgs_cons (dg_name 3 sc__law_times.nd rfl (by first | exact Or.inl rfl | exact Or.inr rfl)) (dgs_cons (dg_name 4 sc__law_times.nd rfl (by first | exact Or.inl rfl | exact Or.inr rfl)) dgs_nil)))
  (sb_one (ss_for PassesOwn.never rfl (di_enumA (by rfl) T.z_enumerate (da_cons (de_name 1) da_nil)) (dg_tup rfl (dgs_cons (dg_name 5 sc__law_times.nd rfl (by first | exact Or.inl rfl | exact Or.inr rfl)) (dgs_cons (dg_name 6 sc__law_times.nd rfl (by first | exact Or.inl rfl | exact Or.inr rfl)) dgs_nil)))
  (sb_one (ss_asg (de_op op_addA od_addA (de_ix (de_name 2) (de_op op_addA od_addA (de_name 3) (de_name 5))) (de_op op_mulA od_mulA (de_name 4) (de_name 6))) (dg_sub 2 (pv 2) (de_op op_addA od_addA (de_name 3) (de_name 5))))))))
  (sb_one (ss_frz 2 (ss_ret (de_call (ok__law_trim T) (hr.mono (by decide)) hgd (bindK_of (ks := []) (is := [0]) T.f__law_trim fun _ _ _ _ _ _ us ws h1 h2 => match us, ws, h1, h2 with | [_], [], _, _ => rfl) (by rfl) T.g__law_trim T.f__law_trim.kp (da_cons (de_name 2) da_nil) dk_nil (lenA_cons lenA_nil) lenA_nil (fun xs h => match xs, h with | [_], _ => rfl)))))))
theorem sc__law_plain : FnScope ["_law_line_here", "_law_common", "_law_number"] ["_law_line_here"] (defScope s__law_plain) := ⟨rfl, rfl, rfl, by decide +kernel, rfl, by decide +kernel, by decide +kernel⟩
theorem ok__law_plain (T : Tx K mg) : FnG P w K mg base 2 T.a__law_plain T.d__law_plain ["_law_line_here"] (spF K 1 m__law_plain) := by
  unfold m__law_plain
  refine ok_def (n := 3) rfl rfl T.f__law_plain sc__law_plain fun B cdv A outer s H E hr hgd => ?_
  unfold g__law_plain g__law_plain_s4 g__law_plain_s3 g__law_plain_s2 g__law_plain_s1 g__law_plain_c1
  exact (sb_cons (ss_set (i := 1) sc__law_plain.nd rfl (by first | exact Or.inl rfl | exact Or.inr rfl) (de_call (ok__law_greatest T) (hr.mono (by decide)) hgd (bindK_of (ks := []) (is := [0]) T.f__law_greatest fun _ _ _ _ _ _ us ws h1 h2 => match us, ws, h1, h2 with | [_], [], _, _ => rfl) (by rfl) T.g__law_greatest T.f__law_greatest.kp (da_cons (de_name 0) da_nil) dk_nil (lenA_cons lenA_nil) lenA_nil (fun xs h => match xs, h with | [_], _ => rfl)))
  (sb_cons (ss_if (dt_cmp (op_eqD hr.units) od_eq (de_name 0) (de_lst da_nil))
  (sb_one (ss_ret (de_lst da_nil)))
  sb_nil)
  (sb_cons (ss_set (i := 1) sc__law_plain.nd rfl (by first | exact Or.inl rfl | exact Or.inr rfl) (de_if (dt_cmp op_gt od_gt (de_ix (de_name 0) (de_un un_neg ud_neg de_int)) de_int) (de_name 1) (de_op op_sub od_sub de_int (de_name 1))))
  (sb_one (ss_ret (de_lc (own := [("_law_number", 2)]) rfl sc__law_plain.nd (di_seq (de_name 0)) (blkOk_by (by kernel_rfl)) (by decide) (fun _ _ _ _ _ B => (dg_name 2 sc__law_plain.nd rfl (by first | exact Or.inl rfl | exact Or.inr rfl))) (fun _ _ _ _ _ => dts_nil) (fun _ _ _ _ _ B => (de_op op_fdivZ od_fdivZ (de_name 2) (de_name 1)))))))))
theorem sc_minus_lines : FnScope ["line", "other"] ["line", "other"] (defScope s_minus_lines) := ⟨rfl, rfl, rfl, by decide +kernel, rfl, by decide +kernel, by decide +kernel⟩
theorem ok_minus_lines (T : Tx K mg) : FnG P w K mg base 3 T.a_minus_lines T.d_minus_lines ["line", "other"] (spF K 2 m_minus_lines) := by
  unfold m_minus_lines
  refine ok_def (n := 2) rfl rfl T.f_minus_lines sc_minus_lines fun B cdv A outer s H E hr hgd => ?_
  unfold g_minus_lines g_minus_lines_s1
  exact (sb_one (ss_ret (de_call (ok_plus_lines T) (hr.mono (by decide)) hgd (bindK_of (ks := []) (is := [0, 1]) T.f_plus_lines fun _ _ _ _ _ _ us ws h1 h2 => match us, ws, h1, h2 with | [_, _], [], _, _ => rfl) (by rfl) T.g_plus_lines T.f_plus_lines.kp (da_cons (de_name 0) (da_cons (de_call (ok_scaled_line T) (hr.mono (by decide)) hgd (bindK_of (ks := []) (is := [0, 1]) T.f_scaled_line fun _ _ _ _ _ _ us ws h1 h2 => match us, ws, h1, h2 with | [_, _], [], _, _ => rfl) (by rfl) T.g_scaled_line T.f_scaled_line.kp (da_cons (de_name 1) (da_cons (de_un un_neg ud_neg de_int) da_nil)) dk_nil (lenA_cons (lenA_cons lenA_nil)) lenA_nil (fun xs h => match xs, h with | [_, _], _ => rfl)) da_nil)) dk_nil (lenA_cons (lenA_cons lenA_nil)) lenA_nil (fun xs h => match xs, h with | [_, _], _ => rfl))))
theorem sc_plain_of : FnScope ["line", "part", "number"] ["line"] (defScope s_plain_of) := ⟨rfl, rfl, rfl, by decide +kernel, rfl, by decide +kernel, by decide +kernel⟩
theorem ok_plain_of (T : Tx K mg) : FnG P w K mg base 3 T.a_plain_of T.d_plain_of ["line"] (spF K 1 m_plain_of) := by
  unfold m_plain_of
  refine ok_def (n := 3) rfl rfl T.f_plain_of sc_plain_of fun B cdv A outer s H E hr hgd => ?_
  unfold g_plain_of g_plain_of_s4 g_plain_of_s3 g_plain_of_s2 g_plain_of_s1 g_plain_of_c1
  exact (sb_cons (ss_if (dt_cmp (op_eqD hr.units) od_eq (de_callB call_len fd_len (by rfl) T.z_len bt_len (da_cons (de_name 0) da_nil)) de_int)
  (sb_one (ss_ret (de_lst da_nil)))
  sb_nil)
  (sb_cons (ss_set (i := 1) sc_plain_of.nd rfl (by first | exact Or.inl rfl | exact Or.inr rfl) (de_call (ok_greatest_of T) (hr.mono (by decide)) hgd (bindK_of (ks := []) (is := [0]) T.f_greatest_of fun _ _ _ _ _ _ us ws h1 h2 => match us, ws, h1, h2 with | [_], [], _, _ => rfl) (by rfl) T.g_greatest_of T.f_greatest_of.kp (da_cons (de_name 0) da_nil) dk_nil (lenA_cons lenA_nil) lenA_nil (fun xs h => match xs, h with | [_], _ => rfl)))
  (sb_cons (ss_if (dt_cmp op_lt od_lt (de_ix (de_name 0) (de_un un_neg ud_neg de_int)) de_int)
  (sb_one (ss_set (i := 1) sc_plain_of.nd rfl (by first | exact Or.inl rfl | exact Or.inr rfl) (de_op op_sub od_sub de_int (de_name 1))))
  sb_nil)
  (sb_one (ss_ret (de_lc (own := [("number", 2)]) rfl sc_plain_of.nd (di_seq (de_name 0)) (blkOk_by (by kernel_rfl)) (by decide) (fun _ _ _ _ _ B => (dg_name 2 sc_plain_of.nd rfl (by first | exact Or.inl rfl | exact Or.inr rfl))) (fun _ _ _ _ _ => dts_nil) (fun _ _ _ _ _ B => (de_op op_fdivZ od_fdivZ (de_name 2) (de_name 1)))))))))
theorem sc_want_line : FnScope ["value", "found"] ["value"] (defScope s_want_line) := ⟨rfl, rfl, rfl, by decide +kernel, rfl, by decide +kernel, by decide +kernel⟩
theorem ok_want_line (T : Tx K mg) : FnG P w K mg base 3 T.a_want_line T.d_want_line ["value"] (spF K 1 m_want_line) := by
  unfold m_want_line
  refine ok_def (n := 2) rfl rfl T.f_want_line sc_want_line fun B cdv A outer s H E hr hgd => ?_
  unfold g_want_line g_want_line_s3 g_want_line_s2 g_want_line_s1
  exact (sb_cons (ss_set (i := 1) sc_want_line.nd rfl (by first | exact Or.inl rfl | exact Or.inr rfl) (de_call (ok_line_in T) (hr.mono (by decide)) hgd (bindK_of (ks := []) (is := [0]) T.f_line_in fun _ _ _ _ _ _ us ws h1 h2 => match us, ws, h1, h2 with | [_], [], _, _ => rfl) (by rfl) T.g_line_in T.f_line_in.kp (da_cons (de_name 0) da_nil) dk_nil (lenA_cons lenA_nil) lenA_nil (fun xs h => match xs, h with | [_], _ => rfl)))
  (sb_cons (ss_if (dt_cmp op_isN od_is (de_name 1) de_non)
  sb_never
  sb_nil)
  (sb_one (ss_ret (de_name 1)))))
theorem sc__law_line : FnScope ["_law_pot_here", "_law_most", "_law_wide", "_law_found", "_law_power"] ["_law_pot_here", "_law_most", "_law_wide"] (defScope s__law_line) := ⟨rfl, rfl, rfl, by decide +kernel, rfl, by decide +kernel, by decide +kernel⟩
theorem ok__law_line (T : Tx K mg) : FnG P w K mg base 3 T.a__law_line T.d__law_line ["_law_pot_here", "_law_most", "_law_wide"] (spI K 3 m__law_line) := by
  unfold m__law_line
  refine ok_defI (n := 5) rfl rfl rfl T.f__law_line sc__law_line fun B cdv A outer s H E hr hgd => ?_
  unfold g__law_line g__law_line_s2 g__law_line_s1 g__law_line_f1 g__law_line_b1
  exact (sb_cons (ss_set (i := 3) sc__law_line.nd rfl (by first | exact Or.inl rfl | exact Or.inr rfl) (de_lst da_nil))
  (sb_cons (ss_for PassesOwn.never rfl (di_range1 (by rfl) T.z_range (da_cons (de_name 1) da_nil)) (dg_name 4 sc__law_line.nd rfl (by first | exact Or.inl rfl | exact Or.inr rfl))
  (sb_one (ss_expr (de_meth 3 PySem.F.plainAttrs_list PySem.F.slot_list_append PySem.F.type_list_append mt_append md_append (pv 3) (da_cons (de_op op_sub od_sub (de_callI (ok__law_draw T) (hr.mono (by decide)) hgd (bindK_of (ks := []) (is := [0, 1]) T.f__law_draw fun _ _ _ _ _ _ us ws h1 h2 => match us, ws, h1, h2 with | [_, _], [], _, _ => rfl) (by rfl) T.g__law_draw T.f__law_draw.kp (da_cons (de_name 0) (da_cons (de_op op_addA od_addA (de_op op_mulA od_mulA de_int (de_name 2)) de_int) da_nil)) (lenA_cons (lenA_cons lenA_nil)) fun xs h => match xs, h with | [_, _], _ => rfl) (de_name 2)) da_nil)))))
  (sb_one (ss_ret (de_op op_addA od_addA (de_name 3) (de_lst (da_cons (de_callI (ok__law_pick T) (hr.mono (by decide)) hgd (bindK_of (ks := []) (is := [0, 1]) T.f__law_pick fun _ _ _ _ _ _ us ws h1 h2 => match us, ws, h1, h2 with | [_, _], [], _, _ => rfl) (by rfl) T.g__law_pick T.f__law_pick.kp (da_cons (de_name 0) (da_cons (de_lst (da_cons de_int (da_cons (de_un un_neg ud_neg de_int) (da_cons de_int (da_cons de_int (da_cons (de_op op_sub od_sub de_int (de_name 2)) da_nil)))))) da_nil)) (lenA_cons (lenA_cons lenA_nil)) fun xs h => match xs, h with | [_, _], _ => rfl) da_nil)))))))
theorem sc_two_lines : FnScope ["line", "other", "near"] ["line", "other"] (defScope s_two_lines) := ⟨rfl, rfl, rfl, by decide +kernel, rfl, by decide +kernel, by decide +kernel⟩
theorem ok_two_lines (T : Tx K mg) : FnG P w K mg base 4 T.a_two_lines T.d_two_lines ["line", "other"] (spF K 2 m_two_lines) := by
  unfold m_two_lines
  refine ok_def (n := 3) rfl rfl T.f_two_lines sc_two_lines fun B cdv A outer s H E hr hgd => ?_
  unfold g_two_lines g_two_lines_s2 g_two_lines_s1
  exact (sb_cons (ss_set (i := 2) sc_two_lines.nd rfl (by first | exact Or.inl rfl | exact Or.inr rfl) (de_call (ok_want_line T) (hr.mono (by decide)) hgd (bindK_of (ks := []) (is := [0]) T.f_want_line fun _ _ _ _ _ _ us ws h1 h2 => match us, ws, h1, h2 with | [_], [], _, _ => rfl) (by rfl) T.g_want_line T.f_want_line.kp (da_cons (de_name 0) da_nil) dk_nil (lenA_cons lenA_nil) lenA_nil (fun xs h => match xs, h with | [_], _ => rfl)))
  (sb_one (ss_frz 2 (ss_ret (de_tup (da_cons (de_name 2) (da_cons (de_call (ok_want_line T) (hr.mono (by decide)) hgd (bindK_of (ks := []) (is := [0]) T.f_want_line fun _ _ _ _ _ _ us ws h1 h2 => match us, ws, h1, h2 with | [_], [], _, _ => rfl) (by rfl) T.g_want_line T.f_want_line.kp (da_cons (de_name 1) da_nil) dk_nil (lenA_cons lenA_nil) lenA_nil (fun xs h => match xs, h with | [_], _ => rfl)) da_nil)))))))
theorem sc_degree : FnScope ["line"] ["line"] (defScope s_degree) := ⟨rfl, rfl, rfl, by decide +kernel, rfl, by decide +kernel, by decide +kernel⟩
theorem ok_degree (T : Tx K mg) : FnG P w K mg base 4 T.a_degree T.d_degree ["line"] (spF K 1 m_degree) := by
  unfold m_degree
  refine ok_def (n := 1) rfl rfl T.f_degree sc_degree fun B cdv A outer s H E hr hgd => ?_
  unfold g_degree g_degree_s1
  exact (sb_one (ss_ret (de_op op_sub od_sub (de_callB call_len fd_len (by rfl) T.z_len bt_len (da_cons (de_call (ok_want_line T) (hr.mono (by decide)) hgd (bindK_of (ks := []) (is := [0]) T.f_want_line fun _ _ _ _ _ _ us ws h1 h2 => match us, ws, h1, h2 with | [_], [], _, _ => rfl) (by rfl) T.g_want_line T.f_want_line.kp (da_cons (de_name 0) da_nil) dk_nil (lenA_cons lenA_nil) lenA_nil (fun xs h => match xs, h with | [_], _ => rfl)) da_nil)) de_int)))
theorem sc_line_value : FnScope ["line", "number", "near"] ["line", "number"] (defScope s_line_value) := ⟨rfl, rfl, rfl, by decide +kernel, rfl, by decide +kernel, by decide +kernel⟩
theorem ok_line_value (T : Tx K mg) : FnG P w K mg base 4 T.a_line_value T.d_line_value ["line", "number"] (spF K 2 m_line_value) := by
  unfold m_line_value
  refine ok_def (n := 3) rfl rfl T.f_line_value sc_line_value fun B cdv A outer s H E hr hgd => ?_
  unfold g_line_value g_line_value_s3 g_line_value_s2 g_line_value_s1
  exact (sb_cons (ss_set (i := 2) sc_line_value.nd rfl (by first | exact Or.inl rfl | exact Or.inr rfl) (de_call (ok_want_line T) (hr.mono (by decide)) hgd (bindK_of (ks := []) (is := [0]) T.f_want_line fun _ _ _ _ _ _ us ws h1 h2 => match us, ws, h1, h2 with | [_], [], _, _ => rfl) (by rfl) T.g_want_line T.f_want_line.kp (da_cons (de_name 0) da_nil) dk_nil (lenA_cons lenA_nil) lenA_nil (fun xs h => match xs, h with | [_], _ => rfl)))
  (sb_cons (ss_expr (de_call (ok_want_number T) (hr.mono (by decide)) hgd (bindK_of (ks := []) (is := [0]) T.f_want_number fun _ _ _ _ _ _ us ws h1 h2 => match us, ws, h1, h2 with | [_], [], _, _ => rfl) (by rfl) T.g_want_number T.f_want_number.kp (da_cons (de_name 1) da_nil) dk_nil (lenA_cons lenA_nil) lenA_nil (fun xs h => match xs, h with | [_], _ => rfl)))
  (sb_one (ss_ret (de_callL (ok_value_at T) (hr.mono (by decide)) hgd (bindK_of (ks := []) (is := [0, 1]) T.f_value_at fun _ _ _ _ _ _ us ws h1 h2 => match us, ws, h1, h2 with | [_, _], [], _, _ => rfl) (by rfl) T.g_value_at T.f_value_at.kp (da_cons (de_name 2) (da_cons (de_name 1) da_nil)) (lenA_cons (lenA_cons lenA_nil)) fun xs h => match xs, h with | [_, _], _ => rfl)))))
theorem sc_line_slope : FnScope ["line"] ["line"] (defScope s_line_slope) := ⟨rfl, rfl, rfl, by decide +kernel, rfl, by decide +kernel, by decide +kernel⟩
theorem ok_line_slope (T : Tx K mg) : FnG P w K mg base 4 T.a_line_slope T.d_line_slope ["line"] (spF K 1 m_line_slope) := by
  unfold m_line_slope
  refine ok_def (n := 1) rfl rfl T.f_line_slope sc_line_slope fun B cdv A outer s H E hr hgd => ?_
  unfold g_line_slope g_line_slope_s1
  exact (sb_one (ss_ret (de_call (ok_slope_of T) (hr.mono (by decide)) hgd (bindK_of (ks := []) (is := [0]) T.f_slope_of fun _ _ _ _ _ _ us ws h1 h2 => match us, ws, h1, h2 with | [_], [], _, _ => rfl) (by rfl) T.g_slope_of T.f_slope_of.kp (da_cons (de_call (ok_want_line T) (hr.mono (by decide)) hgd (bindK_of (ks := []) (is := [0]) T.f_want_line fun _ _ _ _ _ _ us ws h1 h2 => match us, ws, h1, h2 with | [_], [], _, _ => rfl) (by rfl) T.g_want_line T.f_want_line.kp (da_cons (de_name 0) da_nil) dk_nil (lenA_cons lenA_nil) lenA_nil (fun xs h => match xs, h with | [_], _ => rfl)) da_nil) dk_nil (lenA_cons lenA_nil) lenA_nil (fun xs h => match xs, h with | [_], _ => rfl))))
theorem sc_plain_line : FnScope ["line"] ["line"] (defScope s_plain_line) := ⟨rfl, rfl, rfl, by decide +kernel, rfl, by decide +kernel, by decide +kernel⟩
theorem ok_plain_line (T : Tx K mg) : FnG P w K mg base 4 T.a_plain_line T.d_plain_line ["line"] (spF K 1 m_plain_line) := by
  unfold m_plain_line
  refine ok_def (n := 1) rfl rfl T.f_plain_line sc_plain_line fun B cdv A outer s H E hr hgd => ?_
  unfold g_plain_line g_plain_line_s1
  exact (sb_one (ss_ret (de_call (ok_plain_of T) (hr.mono (by decide)) hgd (bindK_of (ks := []) (is := [0]) T.f_plain_of fun _ _ _ _ _ _ us ws h1 h2 => match us, ws, h1, h2 with | [_], [], _, _ => rfl) (by rfl) T.g_plain_of T.f_plain_of.kp (da_cons (de_call (ok_want_line T) (hr.mono (by decide)) hgd (bindK_of (ks := []) (is := [0]) T.f_want_line fun _ _ _ _ _ _ us ws h1 h2 => match us, ws, h1, h2 with | [_], [], _, _ => rfl) (by rfl) T.g_want_line T.f_want_line.kp (da_cons (de_name 0) da_nil) dk_nil (lenA_cons lenA_nil) lenA_nil (fun xs h => match xs, h with | [_], _ => rfl)) da_nil) dk_nil (lenA_cons lenA_nil) lenA_nil (fun xs h => match xs, h with | [_], _ => rfl))))
theorem sc__law_drawn : FnScope ["_law_pot_here"] ["_law_pot_here"] (defScope s__law_drawn) := ⟨rfl, rfl, rfl, by decide +kernel, rfl, by decide +kernel, by decide +kernel⟩
theorem ok__law_drawn (T : Tx K mg) : FnG P w K mg base 4 T.a__law_drawn T.d__law_drawn ["_law_pot_here"] (spI K 1 m__law_drawn) := by
  unfold m__law_drawn
  refine ok_defI (n := 1) rfl rfl rfl T.f__law_drawn sc__law_drawn fun B cdv A outer s H E hr hgd => ?_
  unfold g__law_drawn g__law_drawn_s1
  exact (sb_one (ss_ret (de_if (dt_cmp (op_eqD hr.units) od_eq (de_callI (ok__law_draw T) (hr.mono (by decide)) hgd (bindK_of (ks := []) (is := [0, 1]) T.f__law_draw fun _ _ _ _ _ _ us ws h1 h2 => match us, ws, h1, h2 with | [_, _], [], _, _ => rfl) (by rfl) T.g__law_draw T.f__law_draw.kp (da_cons (de_name 0) (da_cons de_int da_nil)) (lenA_cons (lenA_cons lenA_nil)) fun xs h => match xs, h with | [_, _], _ => rfl) de_int) (de_lst da_nil) (de_callI (ok__law_line T) (hr.mono (by decide)) hgd (bindK_of (ks := []) (is := [0, 1, 2]) T.f__law_line fun _ _ _ _ _ _ us ws h1 h2 => match us, ws, h1, h2 with | [_, _, _], [], _, _ => rfl) (by rfl) T.g__law_line T.f__law_line.kp (da_cons (de_name 0) (da_cons (de_callI (ok__law_draw T) (hr.mono (by decide)) hgd (bindK_of (ks := []) (is := [0, 1]) T.f__law_draw fun _ _ _ _ _ _ us ws h1 h2 => match us, ws, h1, h2 with | [_, _], [], _, _ => rfl) (by rfl) T.g__law_draw T.f__law_draw.kp (da_cons (de_name 0) (da_cons de_int da_nil)) (lenA_cons (lenA_cons lenA_nil)) fun xs h => match xs, h with | [_, _], _ => rfl) (da_cons de_int da_nil))) (lenA_cons (lenA_cons (lenA_cons lenA_nil))) fun xs h => match xs, h with | [_, _, _], _ => rfl))))
theorem sc_line_sum : FnScope ["line", "other", "near", "far"] ["line", "other"] (defScope s_line_sum) := ⟨rfl, rfl, rfl, by decide +kernel, rfl, by decide +kernel, by decide +kernel⟩
theorem ok_line_sum (T : Tx K mg) : FnG P w K mg base 5 T.a_line_sum T.d_line_sum ["line", "other"] (spF K 2 m_line_sum) := by
  unfold m_line_sum
  refine ok_def (n := 4) rfl rfl T.f_line_sum sc_line_sum fun B cdv A outer s H E hr hgd => ?_
  unfold g_line_sum g_line_sum_s2 g_line_sum_s1
  exact (sb_cons (ss_asg (de_call (ok_two_lines T) (hr.mono (by decide)) hgd (bindK_of (ks := []) (is := [0, 1]) T.f_two_lines fun _ _ _ _ _ _ us ws h1 h2 => match us, ws, h1, h2 with | [_, _], [], _, _ => rfl) (by rfl) T.g_two_lines T.f_two_lines.kp (da_cons (de_name 0) (da_cons (de_name 1) da_nil)) dk_nil (lenA_cons (lenA_cons lenA_nil)) lenA_nil (fun xs h => match xs, h with | [_, _], _ => rfl)) (dg_tup rfl (dgs_cons (dg_name 2 sc_line_sum.nd rfl (by first | exact Or.inl rfl | exact Or.inr rfl)) (dgs_cons (dg_name 3 sc_line_sum.nd rfl (by first | exact Or.inl rfl | exact Or.inr rfl)) dgs_nil))))
  (sb_one (ss_ret (de_call (ok_plus_lines T) (hr.mono (by decide)) hgd (bindK_of (ks := []) (is := [0, 1]) T.f_plus_lines fun _ _ _ _ _ _ us ws h1 h2 => match us, ws, h1, h2 with | [_, _], [], _, _ => rfl) (by rfl) T.g_plus_lines T.f_plus_lines.kp (da_cons (de_name 2) (da_cons (de_name 3) da_nil)) dk_nil (lenA_cons (lenA_cons lenA_nil)) lenA_nil (fun xs h => match xs, h with | [_, _], _ => rfl)))))
theorem sc_line_less : FnScope ["line", "other", "near", "far"] ["line", "other"] (defScope s_line_less) := ⟨rfl, rfl, rfl, by decide +kernel, rfl, by decide +kernel, by decide +kernel⟩
theorem ok_line_less (T : Tx K mg) : FnG P w K mg base 5 T.a_line_less T.d_line_less ["line", "other"] (spF K 2 m_line_less) := by
  unfold m_line_less
  refine ok_def (n := 4) rfl rfl T.f_line_less sc_line_less fun B cdv A outer s H E hr hgd => ?_
  unfold g_line_less g_line_less_s2 g_line_less_s1
  exact (sb_cons (ss_asg (de_call (ok_two_lines T) (hr.mono (by decide)) hgd (bindK_of (ks := []) (is := [0, 1]) T.f_two_lines fun _ _ _ _ _ _ us ws h1 h2 => match us, ws, h1, h2 with | [_, _], [], _, _ => rfl) (by rfl) T.g_two_lines T.f_two_lines.kp (da_cons (de_name 0) (da_cons (de_name 1) da_nil)) dk_nil (lenA_cons (lenA_cons lenA_nil)) lenA_nil (fun xs h => match xs, h with | [_, _], _ => rfl)) (dg_tup rfl (dgs_cons (dg_name 2 sc_line_less.nd rfl (by first | exact Or.inl rfl | exact Or.inr rfl)) (dgs_cons (dg_name 3 sc_line_less.nd rfl (by first | exact Or.inl rfl | exact Or.inr rfl)) dgs_nil))))
  (sb_one (ss_ret (de_call (ok_minus_lines T) (hr.mono (by decide)) hgd (bindK_of (ks := []) (is := [0, 1]) T.f_minus_lines fun _ _ _ _ _ _ us ws h1 h2 => match us, ws, h1, h2 with | [_, _], [], _, _ => rfl) (by rfl) T.g_minus_lines T.f_minus_lines.kp (da_cons (de_name 2) (da_cons (de_name 3) da_nil)) dk_nil (lenA_cons (lenA_cons lenA_nil)) lenA_nil (fun xs h => match xs, h with | [_, _], _ => rfl)))))
theorem sc_line_times : FnScope ["line", "other", "near", "far"] ["line", "other"] (defScope s_line_times) := ⟨rfl, rfl, rfl, by decide +kernel, rfl, by decide +kernel, by decide +kernel⟩
theorem ok_line_times (T : Tx K mg) : FnG P w K mg base 5 T.a_line_times T.d_line_times ["line", "other"] (spF K 2 m_line_times) := by
  unfold m_line_times
  refine ok_def (n := 4) rfl rfl T.f_line_times sc_line_times fun B cdv A outer s H E hr hgd => ?_
  unfold g_line_times g_line_times_s3 g_line_times_s2 g_line_times_s1
  exact (sb_cons (ss_asg (de_call (ok_two_lines T) (hr.mono (by decide)) hgd (bindK_of (ks := []) (is := [0, 1]) T.f_two_lines fun _ _ _ _ _ _ us ws h1 h2 => match us, ws, h1, h2 with | [_, _], [], _, _ => rfl) (by rfl) T.g_two_lines T.f_two_lines.kp (da_cons (de_name 0) (da_cons (de_name 1) da_nil)) dk_nil (lenA_cons (lenA_cons lenA_nil)) lenA_nil (fun xs h => match xs, h with | [_, _], _ => rfl)) (dg_tup rfl (dgs_cons (dg_name 2 sc_line_times.nd rfl (by first | exact Or.inl rfl | exact Or.inr rfl)) (dgs_cons (dg_name 3 sc_line_times.nd rfl (by first | exact Or.inl rfl | exact Or.inr rfl)) dgs_nil))))
  (sb_cons (ss_if (dw_pt (dw_and (dt_cmp op_gt od_gt (de_callB call_len fd_len (by rfl) T.z_len bt_len (da_cons (de_name 2) da_nil)) de_int) (dw_and1 (dt_cmp op_gt od_gt (de_callB call_len fd_len (by rfl) T.z_len bt_len (da_cons (de_name 3) da_nil)) de_int))))
  (sb_one (ss_expr (de_call (ok_want_at_most T) (hr.mono (by decide)) hgd (bindK_of (ks := []) (is := [0, 1, 2]) T.f_want_at_most fun _ _ _ _ _ _ us ws h1 h2 => match us, ws, h1, h2 with | [_, _, _], [], _, _ => rfl) (by rfl) T.g_want_at_most T.f_want_at_most.kp (da_cons de_str (da_cons (de_gint (by rfl) T.e_MOST_DEGREE T.r_MOST_DEGREE) (da_cons (de_op op_sub od_sub (de_op op_addA od_addA (de_callB call_len fd_len (by rfl) T.z_len bt_len (da_cons (de_name 2) da_nil)) (de_callB call_len fd_len (by rfl) T.z_len bt_len (da_cons (de_name 3) da_nil))) de_int) da_nil))) dk_nil (lenA_cons (lenA_cons (lenA_cons lenA_nil))) lenA_nil (fun xs h => match xs, h with | [_, _, _], _ => rfl))))
  sb_nil)
  (sb_one (ss_ret (de_call (ok_times_lines T) (hr.mono (by decide)) hgd (bindK_of (ks := []) (is := [0, 1]) T.f_times_lines fun _ _ _ _ _ _ us ws h1 h2 => match us, ws, h1, h2 with | [_, _], [], _, _ => rfl) (by rfl) T.g_times_lines T.f_times_lines.kp (da_cons (de_name 2) (da_cons (de_name 3) da_nil)) dk_nil (lenA_cons (lenA_cons lenA_nil)) lenA_nil (fun xs h => match xs, h with | [_, _], _ => rfl))))))
theorem sc__law_pair_right : FnScope ["_law_pot_here", "_law_one", "_law_other", "_law_near", "_law_far", "_law_shown", "_law_both", "_law_at", "_law_told", "_law_first", "_law_second"] ["_law_pot_here", "_law_one", "_law_other"] (defScope s__law_pair_right) := ⟨rfl, rfl, rfl, by decide +kernel, rfl, by decide +kernel, by decide +kernel⟩
theorem ok__law_pair_right (T : Tx K mg) : FnG P w K mg base 6 T.a__law_pair_right T.d__law_pair_right ["_law_pot_here", "_law_one", "_law_other"] (spI K 3 m__law_pair_right) := by
  unfold m__law_pair_right
  refine ok_defI (n := 11) rfl rfl rfl T.f__law_pair_right sc__law_pair_right fun B cdv A outer s H E hr hgd => ?_
  unfold g__law_pair_right g__law_pair_right_s11 g__law_pair_right_s10 g__law_pair_right_s9 g__law_pair_right_s8 g__law_pair_right_s7 g__law_pair_right_s6 g__law_pair_right_s5 g__law_pair_right_s4 g__law_pair_right_s3 g__law_pair_right_s2 g__law_pair_right_s1
  exact (sb_cons (ss_par (i := 3) (j := 4) rfl sc__law_pair_right.nd rfl rfl (by decide) rfl rfl (da_cons (de_if (dt_cmp (op_eqD hr.units) od_eq (de_callI (ok__law_draw T) (hr.mono (by decide)) hgd (bindK_of (ks := []) (is := [0, 1]) T.f__law_draw fun _ _ _ _ _ _ us ws h1 h2 => match us, ws, h1, h2 with | [_, _], [], _, _ => rfl) (by rfl) T.g__law_draw T.f__law_draw.kp (da_cons (de_name 0) (da_cons de_int da_nil)) (lenA_cons (lenA_cons lenA_nil)) fun xs h => match xs, h with | [_, _], _ => rfl) de_int) (de_callT call_tuple_of fd_tuple (by rfl) T.z_tuple bt_tuple (da_cons (de_name 1) da_nil)) (de_callT call_list_of fd_list (by rfl) T.z_list bt_list (da_cons (de_name 1) da_nil))) (da_cons (de_callT call_list_of fd_list (by rfl) T.z_list bt_list (da_cons (de_name 2) da_nil)) da_nil)) (by rfl))
  (sb_cons (ss_frz 4 (ss_frz 3 (ss_parO (i := 5) (j := 6) rfl sc__law_pair_right.nd rfl rfl (by decide) rfl rfl (de_callB (call_reprD hgd hr.units) fd_repr (by rfl) T.z_repr bt_repr (da_cons (de_lst (da_cons (de_name 3) (da_cons (de_name 4) da_nil))) da_nil)) (de_callL (ok_line_times T) (hr.mono (by decide)) hgd (bindK_of (ks := []) (is := [0, 1]) T.f_line_times fun _ _ _ _ _ _ us ws h1 h2 => match us, ws, h1, h2 with | [_, _], [], _, _ => rfl) (by rfl) T.g_line_times T.f_line_times.kp (da_cons (de_name 3) (da_cons (de_name 4) da_nil)) (lenA_cons (lenA_cons lenA_nil)) fun xs h => match xs, h with | [_, _], _ => rfl) (by rfl))))
  (sb_cons (ss_if (dw_pt (dw_or (dt_cmp (op_neD hr.units) od_ne (de_callL (ok_line_sum T) (hr.mono (by decide)) hgd (bindK_of (ks := []) (is := [0, 1]) T.f_line_sum fun _ _ _ _ _ _ us ws h1 h2 => match us, ws, h1, h2 with | [_, _], [], _, _ => rfl) (by rfl) T.g_line_sum T.f_line_sum.kp (da_cons (de_name 3) (da_cons (de_name 4) da_nil)) (lenA_cons (lenA_cons lenA_nil)) fun xs h => match xs, h with | [_, _], _ => rfl) (de_call (ok__law_sum T) (hr.mono (by decide)) hgd (bindK_of (ks := []) (is := [0, 1, 2]) T.f__law_sum fun _ _ _ _ _ _ us ws h1 h2 => match us, ws, h1, h2 with | [_, _, _], [], _, _ => rfl) (by rfl) T.g__law_sum T.f__law_sum.kp (da_cons (de_name 1) (da_cons (de_name 2) (da_cons de_int da_nil))) dk_nil (lenA_cons (lenA_cons (lenA_cons lenA_nil))) lenA_nil (fun xs h => match xs, h with | [_, _, _], _ => rfl))) (dw_or (dt_cmp (op_neD hr.units) od_ne (de_callL (ok_line_less T) (hr.mono (by decide)) hgd (bindK_of (ks := []) (is := [0, 1]) T.f_line_less fun _ _ _ _ _ _ us ws h1 h2 => match us, ws, h1, h2 with | [_, _], [], _, _ => rfl) (by rfl) T.g_line_less T.f_line_less.kp (da_cons (de_name 3) (da_cons (de_name 4) da_nil)) (lenA_cons (lenA_cons lenA_nil)) fun xs h => match xs, h with | [_, _], _ => rfl) (de_call (ok__law_sum T) (hr.mono (by decide)) hgd (bindK_of (ks := []) (is := [0, 1, 2]) T.f__law_sum fun _ _ _ _ _ _ us ws h1 h2 => match us, ws, h1, h2 with | [_, _, _], [], _, _ => rfl) (by rfl) T.g__law_sum T.f__law_sum.kp (da_cons (de_name 1) (da_cons (de_name 2) (da_cons (de_un un_neg ud_neg de_int) da_nil))) dk_nil (lenA_cons (lenA_cons (lenA_cons lenA_nil))) lenA_nil (fun xs h => match xs, h with | [_, _, _], _ => rfl))) (dw_or1 (dt_cmp (op_neD hr.units) od_ne (de_name 6) (de_call (ok__law_times T) (hr.mono (by decide)) hgd (bindK_of (ks := []) (is := [0, 1]) T.f__law_times fun _ _ _ _ _ _ us ws h1 h2 => match us, ws, h1, h2 with | [_, _], [], _, _ => rfl) (by rfl) T.g__law_times T.f__law_times.kp (da_cons (de_name 1) (da_cons (de_name 2) da_nil)) dk_nil (lenA_cons (lenA_cons lenA_nil)) lenA_nil (fun xs h => match xs, h with | [_, _], _ => rfl)))))))
  (sb_one (ss_ret de_bl))
  sb_nil)
  (sb_cons (ss_if (dw_pt (dw_or (dt_cmp (op_neD hr.units) od_ne (de_callL0 (ok_line_sum T) (hr.mono (by decide)) hgd (bindK_of (ks := ["other", "line"]) (is := [1, 0]) T.f_line_sum fun _ _ _ _ _ _ us ws h1 h2 => match us, ws, h1, h2 with | [], [_, _], _, _ => rfl) (by rfl) T.g_line_sum T.f_line_sum.kp (dk_cons (de_name 3) (dk_cons (de_name 4) dk_nil)) (lenA_cons (lenA_cons lenA_nil)) (fun xs h => match xs, h with | [_, _], _ => rfl)) (de_callL (ok_line_sum T) (hr.mono (by decide)) hgd (bindK_of (ks := []) (is := [0, 1]) T.f_line_sum fun _ _ _ _ _ _ us ws h1 h2 => match us, ws, h1, h2 with | [_, _], [], _, _ => rfl) (by rfl) T.g_line_sum T.f_line_sum.kp (da_cons (de_name 3) (da_cons (de_name 4) da_nil)) (lenA_cons (lenA_cons lenA_nil)) fun xs h => match xs, h with | [_, _], _ => rfl)) (dw_or (dt_cmp (op_neD hr.units) od_ne (de_callL0 (ok_line_times T) (hr.mono (by decide)) hgd (bindK_of (ks := ["other", "line"]) (is := [1, 0]) T.f_line_times fun _ _ _ _ _ _ us ws h1 h2 => match us, ws, h1, h2 with | [], [_, _], _, _ => rfl) (by rfl) T.g_line_times T.f_line_times.kp (dk_cons (de_name 3) (dk_cons (de_name 4) dk_nil)) (lenA_cons (lenA_cons lenA_nil)) (fun xs h => match xs, h with | [_, _], _ => rfl)) (de_name 6)) (dw_or1 (dt_cmp (op_neD hr.units) od_ne (de_callL (ok_line_less T) (hr.mono (by decide)) hgd (bindK_of (ks := []) (is := [0, 1]) T.f_line_less fun _ _ _ _ _ _ us ws h1 h2 => match us, ws, h1, h2 with | [_, _], [], _, _ => rfl) (by rfl) T.g_line_less T.f_line_less.kp (da_cons (de_name 4) (da_cons (de_name 3) da_nil)) (lenA_cons (lenA_cons lenA_nil)) fun xs h => match xs, h with | [_, _], _ => rfl) (de_call (ok__law_sum T) (hr.mono (by decide)) hgd (bindK_of (ks := []) (is := [0, 1, 2]) T.f__law_sum fun _ _ _ _ _ _ us ws h1 h2 => match us, ws, h1, h2 with | [_, _, _], [], _, _ => rfl) (by rfl) T.g__law_sum T.f__law_sum.kp (da_cons (de_name 2) (da_cons (de_name 1) (da_cons (de_un un_neg ud_neg de_int) da_nil))) dk_nil (lenA_cons (lenA_cons (lenA_cons lenA_nil))) lenA_nil (fun xs h => match xs, h with | [_, _, _], _ => rfl)))))))
  (sb_one (ss_ret de_bl))
  sb_nil)
  (sb_cons (ss_if (dt_cmp (op_neD hr.units) od_ne (de_callL (ok_line_slope T) (hr.mono (by decide)) hgd (bindK_of (ks := []) (is := [0]) T.f_line_slope fun _ _ _ _ _ _ us ws h1 h2 => match us, ws, h1, h2 with | [_], [], _, _ => rfl) (by rfl) T.g_line_slope T.f_line_slope.kp (da_cons (de_name 6) da_nil) (lenA_cons lenA_nil) fun xs h => match xs, h with | [_], _ => rfl) (de_call (ok__law_sum T) (hr.mono (by decide)) hgd (bindK_of (ks := []) (is := [0, 1, 2]) T.f__law_sum fun _ _ _ _ _ _ us ws h1 h2 => match us, ws, h1, h2 with | [_, _, _], [], _, _ => rfl) (by rfl) T.g__law_sum T.f__law_sum.kp (da_cons (de_call (ok__law_times T) (hr.mono (by decide)) hgd (bindK_of (ks := []) (is := [0, 1]) T.f__law_times fun _ _ _ _ _ _ us ws h1 h2 => match us, ws, h1, h2 with | [_, _], [], _, _ => rfl) (by rfl) T.g__law_times T.f__law_times.kp (da_cons (de_call (ok__law_slope T) (hr.mono (by decide)) hgd (bindK_of (ks := []) (is := [0]) T.f__law_slope fun _ _ _ _ _ _ us ws h1 h2 => match us, ws, h1, h2 with | [_], [], _, _ => rfl) (by rfl) T.g__law_slope T.f__law_slope.kp (da_cons (de_name 1) da_nil) dk_nil (lenA_cons lenA_nil) lenA_nil (fun xs h => match xs, h with | [_], _ => rfl)) (da_cons (de_name 2) da_nil)) dk_nil (lenA_cons (lenA_cons lenA_nil)) lenA_nil (fun xs h => match xs, h with | [_, _], _ => rfl)) (da_cons (de_call (ok__law_times T) (hr.mono (by decide)) hgd (bindK_of (ks := []) (is := [0, 1]) T.f__law_times fun _ _ _ _ _ _ us ws h1 h2 => match us, ws, h1, h2 with | [_, _], [], _, _ => rfl) (by rfl) T.g__law_times T.f__law_times.kp (da_cons (de_name 1) (da_cons (de_call (ok__law_slope T) (hr.mono (by decide)) hgd (bindK_of (ks := []) (is := [0]) T.f__law_slope fun _ _ _ _ _ _ us ws h1 h2 => match us, ws, h1, h2 with | [_], [], _, _ => rfl) (by rfl) T.g__law_slope T.f__law_slope.kp (da_cons (de_name 2) da_nil) dk_nil (lenA_cons lenA_nil) lenA_nil (fun xs h => match xs, h with | [_], _ => rfl)) da_nil)) dk_nil (lenA_cons (lenA_cons lenA_nil)) lenA_nil (fun xs h => match xs, h with | [_, _], _ => rfl)) (da_cons de_int da_nil))) dk_nil (lenA_cons (lenA_cons (lenA_cons lenA_nil))) lenA_nil (fun xs h => match xs, h with | [_, _, _], _ => rfl)))
  (sb_one (ss_ret de_bl))
  sb_nil)
  (sb_cons (ss_set (i := 7) sc__law_pair_right.nd rfl (by first | exact Or.inl rfl | exact Or.inr rfl) (de_op op_sub od_sub (de_callI (ok__law_draw T) (hr.mono (by decide)) hgd (bindK_of (ks := []) (is := [0, 1]) T.f__law_draw fun _ _ _ _ _ _ us ws h1 h2 => match us, ws, h1, h2 with | [_, _], [], _, _ => rfl) (by rfl) T.g__law_draw T.f__law_draw.kp (da_cons (de_name 0) (da_cons de_int da_nil)) (lenA_cons (lenA_cons lenA_nil)) fun xs h => match xs, h with | [_, _], _ => rfl) de_int))
  (sb_cons (ss_set (i := 8) sc__law_pair_right.nd rfl (by first | exact Or.inl rfl | exact Or.inr rfl) (de_lst (da_cons (de_callL (ok_line_value T) (hr.mono (by decide)) hgd (bindK_of (ks := []) (is := [0, 1]) T.f_line_value fun _ _ _ _ _ _ us ws h1 h2 => match us, ws, h1, h2 with | [_, _], [], _, _ => rfl) (by rfl) T.g_line_value T.f_line_value.kp (da_cons (de_name 3) (da_cons (de_name 7) da_nil)) (lenA_cons (lenA_cons lenA_nil)) fun xs h => match xs, h with | [_, _], _ => rfl) (da_cons (de_callL0 (ok_line_value T) (hr.mono (by decide)) hgd (bindK_of (ks := ["number", "line"]) (is := [1, 0]) T.f_line_value fun _ _ _ _ _ _ us ws h1 h2 => match us, ws, h1, h2 with | [], [_, _], _, _ => rfl) (by rfl) T.g_line_value T.f_line_value.kp (dk_cons (de_name 7) (dk_cons (de_name 4) dk_nil)) (lenA_cons (lenA_cons lenA_nil)) (fun xs h => match xs, h with | [_, _], _ => rfl)) (da_cons (de_callL (ok_line_value T) (hr.mono (by decide)) hgd (bindK_of (ks := []) (is := [0, 1]) T.f_line_value fun _ _ _ _ _ _ us ws h1 h2 => match us, ws, h1, h2 with | [_, _], [], _, _ => rfl) (by rfl) T.g_line_value T.f_line_value.kp (da_cons (de_name 6) (da_cons (de_name 7) da_nil)) (lenA_cons (lenA_cons lenA_nil)) fun xs h => match xs, h with | [_, _], _ => rfl) (da_cons (de_call (ok_line_value T) (hr.mono (by decide)) hgd (bindK_of (ks := []) (is := [0, 1]) T.f_line_value fun _ _ _ _ _ _ us ws h1 h2 => match us, ws, h1, h2 with | [_, _], [], _, _ => rfl) (by rfl) T.g_line_value T.f_line_value.kp (da_cons (de_callL (ok_line_sum T) (hr.mono (by decide)) hgd (bindK_of (ks := []) (is := [0, 1]) T.f_line_sum fun _ _ _ _ _ _ us ws h1 h2 => match us, ws, h1, h2 with | [_, _], [], _, _ => rfl) (by rfl) T.g_line_sum T.f_line_sum.kp (da_cons (de_name 3) (da_cons (de_name 4) da_nil)) (lenA_cons (lenA_cons lenA_nil)) fun xs h => match xs, h with | [_, _], _ => rfl) (da_cons (de_name 7) da_nil)) dk_nil (lenA_cons (lenA_cons lenA_nil)) lenA_nil (fun xs h => match xs, h with | [_, _], _ => rfl)) da_nil))))))
  (sb_cons (ss_par (i := 9) (j := 10) rfl sc__law_pair_right.nd rfl rfl (by decide) rfl rfl (da_cons (de_call (ok__law_value T) (hr.mono (by decide)) hgd (bindK_of (ks := []) (is := [0, 1]) T.f__law_value fun _ _ _ _ _ _ us ws h1 h2 => match us, ws, h1, h2 with | [_, _], [], _, _ => rfl) (by rfl) T.g__law_value T.f__law_value.kp (da_cons (de_name 1) (da_cons (de_name 7) da_nil)) dk_nil (lenA_cons (lenA_cons lenA_nil)) lenA_nil (fun xs h => match xs, h with | [_, _], _ => rfl)) (da_cons (de_call (ok__law_value T) (hr.mono (by decide)) hgd (bindK_of (ks := []) (is := [0, 1]) T.f__law_value fun _ _ _ _ _ _ us ws h1 h2 => match us, ws, h1, h2 with | [_, _], [], _, _ => rfl) (by rfl) T.g__law_value T.f__law_value.kp (da_cons (de_name 2) (da_cons (de_name 7) da_nil)) dk_nil (lenA_cons (lenA_cons lenA_nil)) lenA_nil (fun xs h => match xs, h with | [_, _], _ => rfl)) da_nil)) (by rfl))
  (sb_cons (ss_frz 4 (ss_frz 3 (ss_if (dw_pt (dw_or (dt_cmp (op_neD hr.units) od_ne (de_name 8) (de_lst (da_cons (de_name 9) (da_cons (de_name 10) (da_cons (de_op op_mulA od_mulA (de_name 9) (de_name 10)) (da_cons (de_op op_addA od_addA (de_name 9) (de_name 10)) da_nil)))))) (dw_or1 (dt_cmp (op_neD hr.units) od_ne (de_callB (call_reprD hgd hr.units) fd_repr (by rfl) T.z_repr bt_repr (da_cons (de_lst (da_cons (de_name 3) (da_cons (de_name 4) da_nil))) da_nil)) (de_name 5)))))
  (sb_one (ss_ret de_bl))
  sb_nil)))
  (sb_cons (ss_expr (de_meth 6 PySem.F.plainAttrs_list PySem.F.slot_list_append PySem.F.type_list_append mt_append md_append (pv 6) (da_cons de_int da_nil)))
  (sb_one (ss_ret (de_cmp (op_eqD hr.units) od_eq (de_callL (ok_line_times T) (hr.mono (by decide)) hgd (bindK_of (ks := []) (is := [0, 1]) T.f_line_times fun _ _ _ _ _ _ us ws h1 h2 => match us, ws, h1, h2 with | [_, _], [], _, _ => rfl) (by rfl) T.g_line_times T.f_line_times.kp (da_cons (de_name 3) (da_cons (de_name 4) da_nil)) (lenA_cons (lenA_cons lenA_nil)) fun xs h => match xs, h with | [_, _], _ => rfl) (de_call (ok__law_times T) (hr.mono (by decide)) hgd (bindK_of (ks := []) (is := [0, 1]) T.f__law_times fun _ _ _ _ _ _ us ws h1 h2 => match us, ws, h1, h2 with | [_, _], [], _, _ => rfl) (by rfl) T.g__law_times T.f__law_times.kp (da_cons (de_name 1) (da_cons (de_name 2) da_nil)) dk_nil (lenA_cons (lenA_cons lenA_nil)) lenA_nil (fun xs h => match xs, h with | [_, _], _ => rfl)))))))))))))))
theorem sc__law_one_right : FnScope ["_law_pot_here", "_law_one", "_law_number", "_law_many", "_law_coefficient", "_law_told"] ["_law_pot_here", "_law_one"] (defScope s__law_one_right) := ⟨rfl, rfl, rfl, by decide +kernel, rfl, by decide +kernel, by decide +kernel⟩
theorem ok__law_one_right (T : Tx K mg) : FnG P w K mg base 6 T.a__law_one_right T.d__law_one_right ["_law_pot_here", "_law_one"] (spI K 2 m__law_one_right) := by
  unfold m__law_one_right
  refine ok_defI (n := 6) rfl rfl rfl T.f__law_one_right sc__law_one_right fun B cdv A outer s H E hr hgd => ?_
  unfold g__law_one_right g__law_one_right_s7 g__law_one_right_s6 g__law_one_right_s5 g__law_one_right_s4 g__law_one_right_s3 g__law_one_right_s2 g__law_one_right_s1 g__law_one_right_c1
  exact (sb_cons (ss_set (i := 2) sc__law_one_right.nd rfl (by first | exact Or.inl rfl | exact Or.inr rfl) (de_callI (ok__law_pick T) (hr.mono (by decide)) hgd (bindK_of (ks := []) (is := [0, 1]) T.f__law_pick fun _ _ _ _ _ _ us ws h1 h2 => match us, ws, h1, h2 with | [_, _], [], _, _ => rfl) (by rfl) T.g__law_pick T.f__law_pick.kp (da_cons (de_name 0) (da_cons (de_lst (da_cons de_int (da_cons (de_un un_neg ud_neg de_int) (da_cons de_int (da_cons (de_un un_neg ud_neg de_int) (da_cons de_int da_nil)))))) da_nil)) (lenA_cons (lenA_cons lenA_nil)) fun xs h => match xs, h with | [_, _], _ => rfl))
  (sb_cons (ss_setLc (i := 3) (own := [("_law_coefficient", 4)]) rfl sc__law_one_right.nd rfl rfl (sw_true rfl rfl rfl (by decide +kernel)) (di_seq (de_name 1)) (blkOk_by (by kernel_rfl)) (by decide) (fun _ _ _ _ _ B => (dg_name 4 sc__law_one_right.nd rfl (by first | exact Or.inl rfl | exact Or.inr rfl))) (fun _ _ _ _ _ => dts_nil) (fun _ _ _ _ _ B => (de_op op_mulA od_mulA (de_name 2) (de_name 4))))
  (sb_cons (ss_if (dw_pt (dw_or (dt_cmp (op_neD hr.units) od_ne (de_call (ok_degree T) (hr.mono (by decide)) hgd (bindK_of (ks := []) (is := [0]) T.f_degree fun _ _ _ _ _ _ us ws h1 h2 => match us, ws, h1, h2 with | [_], [], _, _ => rfl) (by rfl) T.g_degree T.f_degree.kp (da_cons (de_name 1) da_nil) dk_nil (lenA_cons lenA_nil) lenA_nil (fun xs h => match xs, h with | [_], _ => rfl)) (de_op op_sub od_sub (de_callB call_len fd_len (by rfl) T.z_len bt_len (da_cons (de_name 1) da_nil)) de_int)) (dw_or (dt_cmp (op_neD hr.units) od_ne (de_callL0 (ok_degree T) (hr.mono (by decide)) hgd (bindK_of (ks := ["line"]) (is := [0]) T.f_degree fun _ _ _ _ _ _ us ws h1 h2 => match us, ws, h1, h2 with | [], [_], _, _ => rfl) (by rfl) T.g_degree T.f_degree.kp (dk_cons (de_name 3) dk_nil) (lenA_cons lenA_nil) (fun xs h => match xs, h with | [_], _ => rfl)) (de_op op_sub od_sub (de_callB call_len fd_len (by rfl) T.z_len bt_len (da_cons (de_name 1) da_nil)) de_int)) (dw_or1 (dt_cmp (op_neD hr.units) od_ne (de_call (ok_line_slope T) (hr.mono (by decide)) hgd (bindK_of (ks := []) (is := [0]) T.f_line_slope fun _ _ _ _ _ _ us ws h1 h2 => match us, ws, h1, h2 with | [_], [], _, _ => rfl) (by rfl) T.g_line_slope T.f_line_slope.kp (da_cons (de_name 1) da_nil) dk_nil (lenA_cons lenA_nil) lenA_nil (fun xs h => match xs, h with | [_], _ => rfl)) (de_call (ok__law_slope T) (hr.mono (by decide)) hgd (bindK_of (ks := []) (is := [0]) T.f__law_slope fun _ _ _ _ _ _ us ws h1 h2 => match us, ws, h1, h2 with | [_], [], _, _ => rfl) (by rfl) T.g__law_slope T.f__law_slope.kp (da_cons (de_name 1) da_nil) dk_nil (lenA_cons lenA_nil) lenA_nil (fun xs h => match xs, h with | [_], _ => rfl)))))))
  (sb_one (ss_ret de_bl))
  sb_nil)
  (sb_cons (ss_set (i := 5) sc__law_one_right.nd rfl (by first | exact Or.inl rfl | exact Or.inr rfl) (de_callL (ok_plain_line T) (hr.mono (by decide)) hgd (bindK_of (ks := []) (is := [0]) T.f_plain_line fun _ _ _ _ _ _ us ws h1 h2 => match us, ws, h1, h2 with | [_], [], _, _ => rfl) (by rfl) T.g_plain_line T.f_plain_line.kp (da_cons (de_name 3) da_nil) (lenA_cons lenA_nil) fun xs h => match xs, h with | [_], _ => rfl))
  (sb_cons (ss_if (dw_pt (dw_or (dt_cmp (op_neD hr.units) od_ne (de_name 5) (de_call (ok__law_plain T) (hr.mono (by decide)) hgd (bindK_of (ks := []) (is := [0]) T.f__law_plain fun _ _ _ _ _ _ us ws h1 h2 => match us, ws, h1, h2 with | [_], [], _, _ => rfl) (by rfl) T.g__law_plain T.f__law_plain.kp (da_cons (de_name 1) da_nil) dk_nil (lenA_cons lenA_nil) lenA_nil (fun xs h => match xs, h with | [_], _ => rfl))) (dw_or (dt_cmp (op_neD hr.units) od_ne (de_callL0 (ok_plain_line T) (hr.mono (by decide)) hgd (bindK_of (ks := ["line"]) (is := [0]) T.f_plain_line fun _ _ _ _ _ _ us ws h1 h2 => match us, ws, h1, h2 with | [], [_], _, _ => rfl) (by rfl) T.g_plain_line T.f_plain_line.kp (dk_cons (de_name 5) dk_nil) (lenA_cons lenA_nil) (fun xs h => match xs, h with | [_], _ => rfl)) (de_name 5)) (dw_or (dt_cmp (op_neD hr.units) od_ne (de_call (ok_line_less T) (hr.mono (by decide)) hgd (bindK_of (ks := []) (is := [0, 1]) T.f_line_less fun _ _ _ _ _ _ us ws h1 h2 => match us, ws, h1, h2 with | [_, _], [], _, _ => rfl) (by rfl) T.g_line_less T.f_line_less.kp (da_cons (de_name 1) (da_cons (de_name 1) da_nil)) dk_nil (lenA_cons (lenA_cons lenA_nil)) lenA_nil (fun xs h => match xs, h with | [_, _], _ => rfl)) (de_lst da_nil)) (dw_or1 (dt_cmp (op_neD hr.units) od_ne (de_call (ok_line_sum T) (hr.mono (by decide)) hgd (bindK_of (ks := []) (is := [0, 1]) T.f_line_sum fun _ _ _ _ _ _ us ws h1 h2 => match us, ws, h1, h2 with | [_, _], [], _, _ => rfl) (by rfl) T.g_line_sum T.f_line_sum.kp (da_cons (de_name 1) (da_cons (de_lst da_nil) da_nil)) dk_nil (lenA_cons (lenA_cons lenA_nil)) lenA_nil (fun xs h => match xs, h with | [_, _], _ => rfl)) (de_name 1)))))))
  (sb_one (ss_ret de_bl))
  sb_nil)
  (sb_cons (ss_expr (de_meth 5 PySem.F.plainAttrs_list PySem.F.slot_list_append PySem.F.type_list_append mt_append md_append (pv 5) (da_cons de_int da_nil)))
  (sb_one (ss_frz 2 (ss_ret (de_and (de_cmp (op_eqD hr.units) od_eq (de_callL (ok_plain_line T) (hr.mono (by decide)) hgd (bindK_of (ks := []) (is := [0]) T.f_plain_line fun _ _ _ _ _ _ us ws h1 h2 => match us, ws, h1, h2 with | [_], [], _, _ => rfl) (by rfl) T.g_plain_line T.f_plain_line.kp (da_cons (de_name 3) da_nil) (lenA_cons lenA_nil) fun xs h => match xs, h with | [_], _ => rfl) (de_call (ok__law_plain T) (hr.mono (by decide)) hgd (bindK_of (ks := []) (is := [0]) T.f__law_plain fun _ _ _ _ _ _ us ws h1 h2 => match us, ws, h1, h2 with | [_], [], _, _ => rfl) (by rfl) T.g__law_plain T.f__law_plain.kp (da_cons (de_name 1) da_nil) dk_nil (lenA_cons lenA_nil) lenA_nil (fun xs h => match xs, h with | [_], _ => rfl))) (de_and (de_cmp (op_eqD hr.units) od_eq (de_call (ok_line_times T) (hr.mono (by decide)) hgd (bindK_of (ks := []) (is := [0, 1]) T.f_line_times fun _ _ _ _ _ _ us ws h1 h2 => match us, ws, h1, h2 with | [_, _], [], _, _ => rfl) (by rfl) T.g_line_times T.f_line_times.kp (da_cons (de_name 1) (da_cons (de_lst (da_cons (de_name 2) da_nil)) da_nil)) dk_nil (lenA_cons (lenA_cons lenA_nil)) lenA_nil (fun xs h => match xs, h with | [_, _], _ => rfl)) (de_name 3)) (de_one (de_cmp (op_eqD hr.units) od_eq (de_call (ok_line_times T) (hr.mono (by decide)) hgd (bindK_of (ks := []) (is := [0, 1]) T.f_line_times fun _ _ _ _ _ _ us ws h1 h2 => match us, ws, h1, h2 with | [_, _], [], _, _ => rfl) (by rfl) T.g_line_times T.f_line_times.kp (da_cons (de_lst da_nil) (da_cons (de_name 1) da_nil)) dk_nil (lenA_cons (lenA_cons lenA_nil)) lenA_nil (fun xs h => match xs, h with | [_, _], _ => rfl)) (de_lst da_nil))))))))))))))
theorem sc__law_right : FnScope ["_law_pot_here", "_law_lines", "_law_turn", "_law_one", "_law_first", "_law_second", "_law_third"] ["_law_pot_here"] (defScope s__law_right) := ⟨rfl, rfl, rfl, by decide +kernel, rfl, by decide +kernel, by decide +kernel⟩
theorem ok__law_right (T : Tx K mg) : FnG P w K mg base 7 T.a__law_right T.d__law_right ["_law_pot_here"] (spI K 1 m__law_right) := by
  unfold m__law_right
  refine ok_defI (n := 7) rfl rfl rfl T.f__law_right sc__law_right fun B cdv A outer s H E hr hgd => ?_
  unfold g__law_right g__law_right_s6 g__law_right_s5 g__law_right_s4 g__law_right_s3 g__law_right_s2 g__law_right_s1 g__law_right_f2 g__law_right_b2 g__law_right_f1 g__law_right_b1
  exact (sb_cons (ss_set (i := 1) sc__law_right.nd rfl (by first | exact Or.inl rfl | exact Or.inr rfl) (de_lst da_nil))
  (sb_cons (ss_for PassesOwn.never rfl (di_range1 (by rfl) T.z_range (da_cons de_int da_nil)) (dg_name 2 sc__law_right.nd rfl (by first | exact Or.inl rfl | exact Or.inr rfl))
  (sb_one (ss_expr (de_meth 1 PySem.F.plainAttrs_list PySem.F.slot_list_append PySem.F.type_list_append mt_append md_append (pv 1) (da_cons (de_callI (ok__law_drawn T) (hr.mono (by decide)) hgd (bindK_of (ks := []) (is := [0]) T.f__law_drawn fun _ _ _ _ _ _ us ws h1 h2 => match us, ws, h1, h2 with | [_], [], _, _ => rfl) (by rfl) T.g__law_drawn T.f__law_drawn.kp (da_cons (de_name 0) da_nil) (lenA_cons lenA_nil) fun xs h => match xs, h with | [_], _ => rfl) da_nil)))))
  (sb_cons (ss_frz 1 (ss_for PassesOwn.never rfl (di_seq (de_name 1)) (dg_name 3 sc__law_right.nd rfl (by first | exact Or.inl rfl | exact Or.inr rfl))
  (sb_one (ss_if (dt_not (dt_val (de_callI (ok__law_one_right T) (hr.mono (by decide)) hgd (bindK_of (ks := []) (is := [0, 1]) T.f__law_one_right fun _ _ _ _ _ _ us ws h1 h2 => match us, ws, h1, h2 with | [_, _], [], _, _ => rfl) (by rfl) T.g__law_one_right T.f__law_one_right.kp (da_cons (de_name 0) (da_cons (de_name 3) da_nil)) (lenA_cons (lenA_cons lenA_nil)) fun xs h => match xs, h with | [_, _], _ => rfl)))
  (sb_one (ss_ret de_bl))
  sb_nil))))
  (sb_cons (ss_frz 1 (ss_asg (de_name 1) (dg_tupA rfl (dgs_cons (dg_name 4 sc__law_right.nd rfl (by first | exact Or.inl rfl | exact Or.inr rfl)) (dgs_cons (dg_name 5 sc__law_right.nd rfl (by first | exact Or.inl rfl | exact Or.inr rfl)) (dgs_cons (dg_name 6 sc__law_right.nd rfl (by first | exact Or.inl rfl | exact Or.inr rfl)) dgs_nil))))))
  (sb_cons (ss_if (dw_pt (dw_or (dt_not (dt_val (de_callI (ok__law_pair_right T) (hr.mono (by decide)) hgd (bindK_of (ks := []) (is := [0, 1, 2]) T.f__law_pair_right fun _ _ _ _ _ _ us ws h1 h2 => match us, ws, h1, h2 with | [_, _, _], [], _, _ => rfl) (by rfl) T.g__law_pair_right T.f__law_pair_right.kp (da_cons (de_name 0) (da_cons (de_name 4) (da_cons (de_name 5) da_nil))) (lenA_cons (lenA_cons (lenA_cons lenA_nil))) fun xs h => match xs, h with | [_, _, _], _ => rfl))) (dw_or1 (dt_not (dt_val (de_callI (ok__law_pair_right T) (hr.mono (by decide)) hgd (bindK_of (ks := []) (is := [0, 1, 2]) T.f__law_pair_right fun _ _ _ _ _ _ us ws h1 h2 => match us, ws, h1, h2 with | [_, _, _], [], _, _ => rfl) (by rfl) T.g__law_pair_right T.f__law_pair_right.kp (da_cons (de_name 0) (da_cons (de_name 5) (da_cons (de_name 6) da_nil))) (lenA_cons (lenA_cons (lenA_cons lenA_nil))) fun xs h => match xs, h with | [_, _, _], _ => rfl))))))
  (sb_one (ss_ret de_bl))
  sb_nil)
  (sb_cons (ss_if (dt_cmp op_gt od_gt (de_op op_sub od_sub (de_op op_addA od_addA (de_op op_addA od_addA (de_callB (call_max2 rfl) fd_max2 (by rfl) T.z_max bt_max (da_cons (de_callB call_len fd_len (by rfl) T.z_len bt_len (da_cons (de_name 4) da_nil)) (da_cons de_int da_nil))) (de_callB (call_max2 rfl) fd_max2 (by rfl) T.z_max bt_max (da_cons (de_callB call_len fd_len (by rfl) T.z_len bt_len (da_cons (de_name 5) da_nil)) (da_cons de_int da_nil)))) (de_callB (call_max2 rfl) fd_max2 (by rfl) T.z_max bt_max (da_cons (de_callB call_len fd_len (by rfl) T.z_len bt_len (da_cons (de_name 6) da_nil)) (da_cons de_int da_nil)))) de_int) de_int)
  (sb_one (ss_ret (de_cmp (op_eqD hr.units) od_eq (de_call (ok_line_times T) (hr.mono (by decide)) hgd (bindK_of (ks := []) (is := [0, 1]) T.f_line_times fun _ _ _ _ _ _ us ws h1 h2 => match us, ws, h1, h2 with | [_, _], [], _, _ => rfl) (by rfl) T.g_line_times T.f_line_times.kp (da_cons (de_name 4) (da_cons (de_call (ok_line_sum T) (hr.mono (by decide)) hgd (bindK_of (ks := []) (is := [0, 1]) T.f_line_sum fun _ _ _ _ _ _ us ws h1 h2 => match us, ws, h1, h2 with | [_, _], [], _, _ => rfl) (by rfl) T.g_line_sum T.f_line_sum.kp (da_cons (de_name 5) (da_cons (de_name 6) da_nil)) dk_nil (lenA_cons (lenA_cons lenA_nil)) lenA_nil (fun xs h => match xs, h with | [_, _], _ => rfl)) da_nil)) dk_nil (lenA_cons (lenA_cons lenA_nil)) lenA_nil (fun xs h => match xs, h with | [_, _], _ => rfl)) (de_call (ok_line_sum T) (hr.mono (by decide)) hgd (bindK_of (ks := []) (is := [0, 1]) T.f_line_sum fun _ _ _ _ _ _ us ws h1 h2 => match us, ws, h1, h2 with | [_, _], [], _, _ => rfl) (by rfl) T.g_line_sum T.f_line_sum.kp (da_cons (de_call (ok_line_times T) (hr.mono (by decide)) hgd (bindK_of (ks := []) (is := [0, 1]) T.f_line_times fun _ _ _ _ _ _ us ws h1 h2 => match us, ws, h1, h2 with | [_, _], [], _, _ => rfl) (by rfl) T.g_line_times T.f_line_times.kp (da_cons (de_name 4) (da_cons (de_name 5) da_nil)) dk_nil (lenA_cons (lenA_cons lenA_nil)) lenA_nil (fun xs h => match xs, h with | [_, _], _ => rfl)) (da_cons (de_call (ok_line_times T) (hr.mono (by decide)) hgd (bindK_of (ks := []) (is := [0, 1]) T.f_line_times fun _ _ _ _ _ _ us ws h1 h2 => match us, ws, h1, h2 with | [_, _], [], _, _ => rfl) (by rfl) T.g_line_times T.f_line_times.kp (da_cons (de_name 4) (da_cons (de_name 6) da_nil)) dk_nil (lenA_cons (lenA_cons lenA_nil)) lenA_nil (fun xs h => match xs, h with | [_, _], _ => rfl)) da_nil)) dk_nil (lenA_cons (lenA_cons lenA_nil)) lenA_nil (fun xs h => match xs, h with | [_, _], _ => rfl)))))
  sb_nil)
  (sb_one (ss_ret (de_cmp (op_eqD hr.units) od_eq (de_call (ok_line_times T) (hr.mono (by decide)) hgd (bindK_of (ks := []) (is := [0, 1]) T.f_line_times fun _ _ _ _ _ _ us ws h1 h2 => match us, ws, h1, h2 with | [_, _], [], _, _ => rfl) (by rfl) T.g_line_times T.f_line_times.kp (da_cons (de_call (ok_line_times T) (hr.mono (by decide)) hgd (bindK_of (ks := []) (is := [0, 1]) T.f_line_times fun _ _ _ _ _ _ us ws h1 h2 => match us, ws, h1, h2 with | [_, _], [], _, _ => rfl) (by rfl) T.g_line_times T.f_line_times.kp (da_cons (de_name 4) (da_cons (de_name 5) da_nil)) dk_nil (lenA_cons (lenA_cons lenA_nil)) lenA_nil (fun xs h => match xs, h with | [_, _], _ => rfl)) (da_cons (de_name 6) da_nil)) dk_nil (lenA_cons (lenA_cons lenA_nil)) lenA_nil (fun xs h => match xs, h with | [_, _], _ => rfl)) (de_call (ok_line_times T) (hr.mono (by decide)) hgd (bindK_of (ks := []) (is := [0, 1]) T.f_line_times fun _ _ _ _ _ _ us ws h1 h2 => match us, ws, h1, h2 with | [_, _], [], _, _ => rfl) (by rfl) T.g_line_times T.f_line_times.kp (da_cons (de_name 4) (da_cons (de_call (ok_line_times T) (hr.mono (by decide)) hgd (bindK_of (ks := []) (is := [0, 1]) T.f_line_times fun _ _ _ _ _ _ us ws h1 h2 => match us, ws, h1, h2 with | [_, _], [], _, _ => rfl) (by rfl) T.g_line_times T.f_line_times.kp (da_cons (de_name 5) (da_cons (de_name 6) da_nil)) dk_nil (lenA_cons (lenA_cons lenA_nil)) lenA_nil (fun xs h => match xs, h with | [_, _], _ => rfl)) da_nil)) dk_nil (lenA_cons (lenA_cons lenA_nil)) lenA_nil (fun xs h => match xs, h with | [_, _], _ => rfl)))))))))))
theorem sc_law : FnScope ["_law_script"] ["_law_script"] (defScope s_law) := ⟨rfl, rfl, rfl, by decide +kernel, rfl, by decide +kernel, by decide +kernel⟩
theorem ok_law (T : Tx K mg) : FnG P w K mg base 8 T.a_law T.d_law ["_law_script"] (spF K 1 m_law) := by
  unfold m_law
  refine ok_def (n := 1) rfl rfl T.f_law sc_law fun B cdv A outer s H E hr hgd => ?_
  unfold g_law g_law_s1
  exact (sb_one (ss_ret (de_callO (ok__law_right T) (hr.mono (by decide)) hgd (bindK_of (ks := []) (is := [0]) T.f__law_right fun _ _ _ _ _ _ us ws h1 h2 => match us, ws, h1, h2 with | [_], [], _, _ => rfl) (by rfl) T.g__law_right T.f__law_right.kp (de_call (ok__law_pot T) (hr.mono (by decide)) hgd (bindK_of (ks := []) (is := [0, 1]) T.f__law_pot fun _ _ _ _ _ _ us ws h1 h2 => match us, ws, h1, h2 with | [_, _], [], _, _ => rfl) (by rfl) T.g__law_pot T.f__law_pot.kp (da_cons (de_name 0) (da_cons de_int da_nil)) dk_nil (lenA_cons (lenA_cons lenA_nil)) lenA_nil (fun xs h => match xs, h with | [_, _], _ => rfl)) fun xs h => match xs, h with | [_], _ => rfl)))
end
theorem all_mk {l : PySem.W.OpenLaw} {w : World} {K : Fg} {h : Heap} {mg : Str → Option Value} {fa : Addr} (X : K.In h) (G : h.Ns mainGlobals mg) (hfa : mg "law" = some (.ref fa))
        {f1 : Addr} {od1 an1 : Option Addr} {sl1 : Array (Option Value)} {oc1 kV1 dc1 pm1 cd1 ct1 : Value} (a1 : PySem.W.nsIn K mainGlobals "is_integer" = some (some (.ref f1))) (l1 : K.lookup f1 = some ⟨oc1, od1, .func (PySem.W.fnOf "is_integer" "is_integer" (defArgs s_is_integer) (defBody s_is_integer) (defScope s_is_integer) .none kV1 dc1 pm1 an1 cd1 ct1), sl1⟩) (c1 : PySem.W.codeIn K cd1 "is_integer" = true) (k1 : PySem.W.keepIn K (.ref f1) = true)
    {f2 : Addr} {od2 an2 : Option Addr} {sl2 : Array (Option Value)} {oc2 kV2 dc2 pm2 cd2 ct2 : Value} (a2 : PySem.W.nsIn K mainGlobals "is_list" = some (some (.ref f2))) (l2 : K.lookup f2 = some ⟨oc2, od2, .func (PySem.W.fnOf "is_list" "is_list" (defArgs s_is_list) (defBody s_is_list) (defScope s_is_list) .none kV2 dc2 pm2 an2 cd2 ct2), sl2⟩) (c2 : PySem.W.codeIn K cd2 "is_list" = true) (k2 : PySem.W.keepIn K (.ref f2) = true)
    {f3 : Addr} {od3 an3 : Option Addr} {sl3 : Array (Option Value)} {oc3 kV3 dc3 pm3 cd3 ct3 : Value} (a3 : PySem.W.nsIn K mainGlobals "want_at_most" = some (some (.ref f3))) (l3 : K.lookup f3 = some ⟨oc3, od3, .func (PySem.W.fnOf "want_at_most" "want_at_most" (defArgs s_want_at_most) (defBody s_want_at_most) (defScope s_want_at_most) .none kV3 dc3 pm3 an3 cd3 ct3), sl3⟩) (c3 : PySem.W.codeIn K cd3 "want_at_most" = true) (k3 : PySem.W.keepIn K (.ref f3) = true)
    {f4 : Addr} {od4 an4 : Option Addr} {sl4 : Array (Option Value)} {oc4 kV4 dc4 pm4 cd4 ct4 : Value} (a4 : PySem.W.nsIn K mainGlobals "divisor_of" = some (some (.ref f4))) (l4 : K.lookup f4 = some ⟨oc4, od4, .func (PySem.W.fnOf "divisor_of" "divisor_of" (defArgs s_divisor_of) (defBody s_divisor_of) (defScope s_divisor_of) .none kV4 dc4 pm4 an4 cd4 ct4), sl4⟩) (c4 : PySem.W.codeIn K cd4 "divisor_of" = true) (k4 : PySem.W.keepIn K (.ref f4) = true)
    {f5 : Addr} {od5 an5 : Option Addr} {sl5 : Array (Option Value)} {oc5 kV5 dc5 pm5 cd5 ct5 : Value} (a5 : PySem.W.nsIn K mainGlobals "trimmed" = some (some (.ref f5))) (l5 : K.lookup f5 = some ⟨oc5, od5, .func (PySem.W.fnOf "trimmed" "trimmed" (defArgs s_trimmed) (defBody s_trimmed) (defScope s_trimmed) .none kV5 dc5 pm5 an5 cd5 ct5), sl5⟩) (c5 : PySem.W.codeIn K cd5 "trimmed" = true) (k5 : PySem.W.keepIn K (.ref f5) = true)
    {f6 : Addr} {od6 an6 : Option Addr} {sl6 : Array (Option Value)} {oc6 kV6 dc6 pm6 cd6 ct6 : Value} (a6 : PySem.W.nsIn K mainGlobals "scaled_line" = some (some (.ref f6))) (l6 : K.lookup f6 = some ⟨oc6, od6, .func (PySem.W.fnOf "scaled_line" "scaled_line" (defArgs s_scaled_line) (defBody s_scaled_line) (defScope s_scaled_line) .none kV6 dc6 pm6 an6 cd6 ct6), sl6⟩) (c6 : PySem.W.codeIn K cd6 "scaled_line" = true) (k6 : PySem.W.keepIn K (.ref f6) = true)
    {f7 : Addr} {od7 an7 : Option Addr} {sl7 : Array (Option Value)} {oc7 kV7 dc7 pm7 cd7 ct7 : Value} (a7 : PySem.W.nsIn K mainGlobals "times_lines" = some (some (.ref f7))) (l7 : K.lookup f7 = some ⟨oc7, od7, .func (PySem.W.fnOf "times_lines" "times_lines" (defArgs s_times_lines) (defBody s_times_lines) (defScope s_times_lines) .none kV7 dc7 pm7 an7 cd7 ct7), sl7⟩) (c7 : PySem.W.codeIn K cd7 "times_lines" = true) (k7 : PySem.W.keepIn K (.ref f7) = true)
    {f8 : Addr} {od8 an8 : Option Addr} {sl8 : Array (Option Value)} {oc8 kV8 dc8 pm8 cd8 ct8 : Value} (a8 : PySem.W.nsIn K mainGlobals "value_at" = some (some (.ref f8))) (l8 : K.lookup f8 = some ⟨oc8, od8, .func (PySem.W.fnOf "value_at" "value_at" (defArgs s_value_at) (defBody s_value_at) (defScope s_value_at) .none kV8 dc8 pm8 an8 cd8 ct8), sl8⟩) (c8 : PySem.W.codeIn K cd8 "value_at" = true) (k8 : PySem.W.keepIn K (.ref f8) = true)
    {f9 : Addr} {od9 an9 : Option Addr} {sl9 : Array (Option Value)} {oc9 kV9 dc9 pm9 cd9 ct9 : Value} (a9 : PySem.W.nsIn K mainGlobals "slope_of" = some (some (.ref f9))) (l9 : K.lookup f9 = some ⟨oc9, od9, .func (PySem.W.fnOf "slope_of" "slope_of" (defArgs s_slope_of) (defBody s_slope_of) (defScope s_slope_of) .none kV9 dc9 pm9 an9 cd9 ct9), sl9⟩) (c9 : PySem.W.codeIn K cd9 "slope_of" = true) (k9 : PySem.W.keepIn K (.ref f9) = true)
    {f10 : Addr} {od10 an10 : Option Addr} {sl10 : Array (Option Value)} {oc10 kV10 dc10 pm10 cd10 ct10 : Value} (a10 : PySem.W.nsIn K mainGlobals "_law_pot" = some (some (.ref f10))) (l10 : K.lookup f10 = some ⟨oc10, od10, .func (PySem.W.fnOf "_law_pot" "_law_pot" (defArgs s__law_pot) (defBody s__law_pot) (defScope s__law_pot) .none kV10 dc10 pm10 an10 cd10 ct10), sl10⟩) (c10 : PySem.W.codeIn K cd10 "_law_pot" = true) (k10 : PySem.W.keepIn K (.ref f10) = true)
    {f11 : Addr} {od11 an11 : Option Addr} {sl11 : Array (Option Value)} {oc11 kV11 dc11 pm11 cd11 ct11 : Value} (a11 : PySem.W.nsIn K mainGlobals "_law_draw" = some (some (.ref f11))) (l11 : K.lookup f11 = some ⟨oc11, od11, .func (PySem.W.fnOf "_law_draw" "_law_draw" (defArgs s__law_draw) (defBody s__law_draw) (defScope s__law_draw) .none kV11 dc11 pm11 an11 cd11 ct11), sl11⟩) (c11 : PySem.W.codeIn K cd11 "_law_draw" = true) (k11 : PySem.W.keepIn K (.ref f11) = true)
    {f12 : Addr} {od12 an12 : Option Addr} {sl12 : Array (Option Value)} {oc12 kV12 dc12 pm12 cd12 ct12 : Value} (a12 : PySem.W.nsIn K mainGlobals "_law_trim" = some (some (.ref f12))) (l12 : K.lookup f12 = some ⟨oc12, od12, .func (PySem.W.fnOf "_law_trim" "_law_trim" (defArgs s__law_trim) (defBody s__law_trim) (defScope s__law_trim) .none kV12 dc12 pm12 an12 cd12 ct12), sl12⟩) (c12 : PySem.W.codeIn K cd12 "_law_trim" = true) (k12 : PySem.W.keepIn K (.ref f12) = true)
    {f13 : Addr} {od13 an13 : Option Addr} {sl13 : Array (Option Value)} {oc13 kV13 dc13 pm13 cd13 ct13 : Value} (a13 : PySem.W.nsIn K mainGlobals "_law_value" = some (some (.ref f13))) (l13 : K.lookup f13 = some ⟨oc13, od13, .func (PySem.W.fnOf "_law_value" "_law_value" (defArgs s__law_value) (defBody s__law_value) (defScope s__law_value) .none kV13 dc13 pm13 an13 cd13 ct13), sl13⟩) (c13 : PySem.W.codeIn K cd13 "_law_value" = true) (k13 : PySem.W.keepIn K (.ref f13) = true)
    {f14 : Addr} {od14 an14 : Option Addr} {sl14 : Array (Option Value)} {oc14 kV14 dc14 pm14 cd14 ct14 : Value} (a14 : PySem.W.nsIn K mainGlobals "_law_slope" = some (some (.ref f14))) (l14 : K.lookup f14 = some ⟨oc14, od14, .func (PySem.W.fnOf "_law_slope" "_law_slope" (defArgs s__law_slope) (defBody s__law_slope) (defScope s__law_slope) .none kV14 dc14 pm14 an14 cd14 ct14), sl14⟩) (c14 : PySem.W.codeIn K cd14 "_law_slope" = true) (k14 : PySem.W.keepIn K (.ref f14) = true)
    {f15 : Addr} {od15 an15 : Option Addr} {sl15 : Array (Option Value)} {oc15 kV15 dc15 pm15 cd15 ct15 : Value} (a15 : PySem.W.nsIn K mainGlobals "_law_greatest" = some (some (.ref f15))) (l15 : K.lookup f15 = some ⟨oc15, od15, .func (PySem.W.fnOf "_law_greatest" "_law_greatest" (defArgs s__law_greatest) (defBody s__law_greatest) (defScope s__law_greatest) .none kV15 dc15 pm15 an15 cd15 ct15), sl15⟩) (c15 : PySem.W.codeIn K cd15 "_law_greatest" = true) (k15 : PySem.W.keepIn K (.ref f15) = true)
    {f16 : Addr} {od16 an16 : Option Addr} {sl16 : Array (Option Value)} {oc16 kV16 dc16 pm16 cd16 ct16 : Value} (a16 : PySem.W.nsIn K mainGlobals "greatest_of" = some (some (.ref f16))) (l16 : K.lookup f16 = some ⟨oc16, od16, .func (PySem.W.fnOf "greatest_of" "greatest_of" (defArgs s_greatest_of) (defBody s_greatest_of) (defScope s_greatest_of) .none kV16 dc16 pm16 an16 cd16 ct16), sl16⟩) (c16 : PySem.W.codeIn K cd16 "greatest_of" = true) (k16 : PySem.W.keepIn K (.ref f16) = true)
    {f17 : Addr} {od17 an17 : Option Addr} {sl17 : Array (Option Value)} {oc17 kV17 dc17 pm17 cd17 ct17 : Value} (a17 : PySem.W.nsIn K mainGlobals "want_number" = some (some (.ref f17))) (l17 : K.lookup f17 = some ⟨oc17, od17, .func (PySem.W.fnOf "want_number" "want_number" (defArgs s_want_number) (defBody s_want_number) (defScope s_want_number) .none kV17 dc17 pm17 an17 cd17 ct17), sl17⟩) (c17 : PySem.W.codeIn K cd17 "want_number" = true) (k17 : PySem.W.keepIn K (.ref f17) = true)
    {f18 : Addr} {od18 an18 : Option Addr} {sl18 : Array (Option Value)} {oc18 kV18 dc18 pm18 cd18 ct18 : Value} (a18 : PySem.W.nsIn K mainGlobals "plus_lines" = some (some (.ref f18))) (l18 : K.lookup f18 = some ⟨oc18, od18, .func (PySem.W.fnOf "plus_lines" "plus_lines" (defArgs s_plus_lines) (defBody s_plus_lines) (defScope s_plus_lines) .none kV18 dc18 pm18 an18 cd18 ct18), sl18⟩) (c18 : PySem.W.codeIn K cd18 "plus_lines" = true) (k18 : PySem.W.keepIn K (.ref f18) = true)
    {f19 : Addr} {od19 an19 : Option Addr} {sl19 : Array (Option Value)} {oc19 kV19 dc19 pm19 cd19 ct19 : Value} (a19 : PySem.W.nsIn K mainGlobals "line_in" = some (some (.ref f19))) (l19 : K.lookup f19 = some ⟨oc19, od19, .func (PySem.W.fnOf "line_in" "line_in" (defArgs s_line_in) (defBody s_line_in) (defScope s_line_in) .none kV19 dc19 pm19 an19 cd19 ct19), sl19⟩) (c19 : PySem.W.codeIn K cd19 "line_in" = true) (k19 : PySem.W.keepIn K (.ref f19) = true)
    {f20 : Addr} {od20 an20 : Option Addr} {sl20 : Array (Option Value)} {oc20 kV20 dc20 pm20 cd20 ct20 : Value} (a20 : PySem.W.nsIn K mainGlobals "_law_pick" = some (some (.ref f20))) (l20 : K.lookup f20 = some ⟨oc20, od20, .func (PySem.W.fnOf "_law_pick" "_law_pick" (defArgs s__law_pick) (defBody s__law_pick) (defScope s__law_pick) .none kV20 dc20 pm20 an20 cd20 ct20), sl20⟩) (c20 : PySem.W.codeIn K cd20 "_law_pick" = true) (k20 : PySem.W.keepIn K (.ref f20) = true)
    {f21 : Addr} {od21 an21 : Option Addr} {sl21 : Array (Option Value)} {oc21 kV21 dc21 pm21 cd21 ct21 : Value} (a21 : PySem.W.nsIn K mainGlobals "_law_sum" = some (some (.ref f21))) (l21 : K.lookup f21 = some ⟨oc21, od21, .func (PySem.W.fnOf "_law_sum" "_law_sum" (defArgs s__law_sum) (defBody s__law_sum) (defScope s__law_sum) .none kV21 dc21 pm21 an21 cd21 ct21), sl21⟩) (c21 : PySem.W.codeIn K cd21 "_law_sum" = true) (k21 : PySem.W.keepIn K (.ref f21) = true)
    {f22 : Addr} {od22 an22 : Option Addr} {sl22 : Array (Option Value)} {oc22 kV22 dc22 pm22 cd22 ct22 : Value} (a22 : PySem.W.nsIn K mainGlobals "_law_times" = some (some (.ref f22))) (l22 : K.lookup f22 = some ⟨oc22, od22, .func (PySem.W.fnOf "_law_times" "_law_times" (defArgs s__law_times) (defBody s__law_times) (defScope s__law_times) .none kV22 dc22 pm22 an22 cd22 ct22), sl22⟩) (c22 : PySem.W.codeIn K cd22 "_law_times" = true) (k22 : PySem.W.keepIn K (.ref f22) = true)
    {f23 : Addr} {od23 an23 : Option Addr} {sl23 : Array (Option Value)} {oc23 kV23 dc23 pm23 cd23 ct23 : Value} (a23 : PySem.W.nsIn K mainGlobals "_law_plain" = some (some (.ref f23))) (l23 : K.lookup f23 = some ⟨oc23, od23, .func (PySem.W.fnOf "_law_plain" "_law_plain" (defArgs s__law_plain) (defBody s__law_plain) (defScope s__law_plain) .none kV23 dc23 pm23 an23 cd23 ct23), sl23⟩) (c23 : PySem.W.codeIn K cd23 "_law_plain" = true) (k23 : PySem.W.keepIn K (.ref f23) = true)
    {f24 : Addr} {od24 an24 : Option Addr} {sl24 : Array (Option Value)} {oc24 kV24 dc24 pm24 cd24 ct24 : Value} (a24 : PySem.W.nsIn K mainGlobals "minus_lines" = some (some (.ref f24))) (l24 : K.lookup f24 = some ⟨oc24, od24, .func (PySem.W.fnOf "minus_lines" "minus_lines" (defArgs s_minus_lines) (defBody s_minus_lines) (defScope s_minus_lines) .none kV24 dc24 pm24 an24 cd24 ct24), sl24⟩) (c24 : PySem.W.codeIn K cd24 "minus_lines" = true) (k24 : PySem.W.keepIn K (.ref f24) = true)
    {f25 : Addr} {od25 an25 : Option Addr} {sl25 : Array (Option Value)} {oc25 kV25 dc25 pm25 cd25 ct25 : Value} (a25 : PySem.W.nsIn K mainGlobals "plain_of" = some (some (.ref f25))) (l25 : K.lookup f25 = some ⟨oc25, od25, .func (PySem.W.fnOf "plain_of" "plain_of" (defArgs s_plain_of) (defBody s_plain_of) (defScope s_plain_of) .none kV25 dc25 pm25 an25 cd25 ct25), sl25⟩) (c25 : PySem.W.codeIn K cd25 "plain_of" = true) (k25 : PySem.W.keepIn K (.ref f25) = true)
    {f26 : Addr} {od26 an26 : Option Addr} {sl26 : Array (Option Value)} {oc26 kV26 dc26 pm26 cd26 ct26 : Value} (a26 : PySem.W.nsIn K mainGlobals "want_line" = some (some (.ref f26))) (l26 : K.lookup f26 = some ⟨oc26, od26, .func (PySem.W.fnOf "want_line" "want_line" (defArgs s_want_line) (defBody s_want_line) (defScope s_want_line) .none kV26 dc26 pm26 an26 cd26 ct26), sl26⟩) (c26 : PySem.W.codeIn K cd26 "want_line" = true) (k26 : PySem.W.keepIn K (.ref f26) = true)
    {f27 : Addr} {od27 an27 : Option Addr} {sl27 : Array (Option Value)} {oc27 kV27 dc27 pm27 cd27 ct27 : Value} (a27 : PySem.W.nsIn K mainGlobals "_law_line" = some (some (.ref f27))) (l27 : K.lookup f27 = some ⟨oc27, od27, .func (PySem.W.fnOf "_law_line" "_law_line" (defArgs s__law_line) (defBody s__law_line) (defScope s__law_line) .none kV27 dc27 pm27 an27 cd27 ct27), sl27⟩) (c27 : PySem.W.codeIn K cd27 "_law_line" = true) (k27 : PySem.W.keepIn K (.ref f27) = true)
    {f28 : Addr} {od28 an28 : Option Addr} {sl28 : Array (Option Value)} {oc28 kV28 dc28 pm28 cd28 ct28 : Value} (a28 : PySem.W.nsIn K mainGlobals "two_lines" = some (some (.ref f28))) (l28 : K.lookup f28 = some ⟨oc28, od28, .func (PySem.W.fnOf "two_lines" "two_lines" (defArgs s_two_lines) (defBody s_two_lines) (defScope s_two_lines) .none kV28 dc28 pm28 an28 cd28 ct28), sl28⟩) (c28 : PySem.W.codeIn K cd28 "two_lines" = true) (k28 : PySem.W.keepIn K (.ref f28) = true)
    {f29 : Addr} {od29 an29 : Option Addr} {sl29 : Array (Option Value)} {oc29 kV29 dc29 pm29 cd29 ct29 : Value} (a29 : PySem.W.nsIn K mainGlobals "degree" = some (some (.ref f29))) (l29 : K.lookup f29 = some ⟨oc29, od29, .func (PySem.W.fnOf "degree" "degree" (defArgs s_degree) (defBody s_degree) (defScope s_degree) .none kV29 dc29 pm29 an29 cd29 ct29), sl29⟩) (c29 : PySem.W.codeIn K cd29 "degree" = true) (k29 : PySem.W.keepIn K (.ref f29) = true)
    {f30 : Addr} {od30 an30 : Option Addr} {sl30 : Array (Option Value)} {oc30 kV30 dc30 pm30 cd30 ct30 : Value} (a30 : PySem.W.nsIn K mainGlobals "line_value" = some (some (.ref f30))) (l30 : K.lookup f30 = some ⟨oc30, od30, .func (PySem.W.fnOf "line_value" "line_value" (defArgs s_line_value) (defBody s_line_value) (defScope s_line_value) .none kV30 dc30 pm30 an30 cd30 ct30), sl30⟩) (c30 : PySem.W.codeIn K cd30 "line_value" = true) (k30 : PySem.W.keepIn K (.ref f30) = true)
    {f31 : Addr} {od31 an31 : Option Addr} {sl31 : Array (Option Value)} {oc31 kV31 dc31 pm31 cd31 ct31 : Value} (a31 : PySem.W.nsIn K mainGlobals "line_slope" = some (some (.ref f31))) (l31 : K.lookup f31 = some ⟨oc31, od31, .func (PySem.W.fnOf "line_slope" "line_slope" (defArgs s_line_slope) (defBody s_line_slope) (defScope s_line_slope) .none kV31 dc31 pm31 an31 cd31 ct31), sl31⟩) (c31 : PySem.W.codeIn K cd31 "line_slope" = true) (k31 : PySem.W.keepIn K (.ref f31) = true)
    {f32 : Addr} {od32 an32 : Option Addr} {sl32 : Array (Option Value)} {oc32 kV32 dc32 pm32 cd32 ct32 : Value} (a32 : PySem.W.nsIn K mainGlobals "plain_line" = some (some (.ref f32))) (l32 : K.lookup f32 = some ⟨oc32, od32, .func (PySem.W.fnOf "plain_line" "plain_line" (defArgs s_plain_line) (defBody s_plain_line) (defScope s_plain_line) .none kV32 dc32 pm32 an32 cd32 ct32), sl32⟩) (c32 : PySem.W.codeIn K cd32 "plain_line" = true) (k32 : PySem.W.keepIn K (.ref f32) = true)
    {f33 : Addr} {od33 an33 : Option Addr} {sl33 : Array (Option Value)} {oc33 kV33 dc33 pm33 cd33 ct33 : Value} (a33 : PySem.W.nsIn K mainGlobals "_law_drawn" = some (some (.ref f33))) (l33 : K.lookup f33 = some ⟨oc33, od33, .func (PySem.W.fnOf "_law_drawn" "_law_drawn" (defArgs s__law_drawn) (defBody s__law_drawn) (defScope s__law_drawn) .none kV33 dc33 pm33 an33 cd33 ct33), sl33⟩) (c33 : PySem.W.codeIn K cd33 "_law_drawn" = true) (k33 : PySem.W.keepIn K (.ref f33) = true)
    {f34 : Addr} {od34 an34 : Option Addr} {sl34 : Array (Option Value)} {oc34 kV34 dc34 pm34 cd34 ct34 : Value} (a34 : PySem.W.nsIn K mainGlobals "line_sum" = some (some (.ref f34))) (l34 : K.lookup f34 = some ⟨oc34, od34, .func (PySem.W.fnOf "line_sum" "line_sum" (defArgs s_line_sum) (defBody s_line_sum) (defScope s_line_sum) .none kV34 dc34 pm34 an34 cd34 ct34), sl34⟩) (c34 : PySem.W.codeIn K cd34 "line_sum" = true) (k34 : PySem.W.keepIn K (.ref f34) = true)
    {f35 : Addr} {od35 an35 : Option Addr} {sl35 : Array (Option Value)} {oc35 kV35 dc35 pm35 cd35 ct35 : Value} (a35 : PySem.W.nsIn K mainGlobals "line_less" = some (some (.ref f35))) (l35 : K.lookup f35 = some ⟨oc35, od35, .func (PySem.W.fnOf "line_less" "line_less" (defArgs s_line_less) (defBody s_line_less) (defScope s_line_less) .none kV35 dc35 pm35 an35 cd35 ct35), sl35⟩) (c35 : PySem.W.codeIn K cd35 "line_less" = true) (k35 : PySem.W.keepIn K (.ref f35) = true)
    {f36 : Addr} {od36 an36 : Option Addr} {sl36 : Array (Option Value)} {oc36 kV36 dc36 pm36 cd36 ct36 : Value} (a36 : PySem.W.nsIn K mainGlobals "line_times" = some (some (.ref f36))) (l36 : K.lookup f36 = some ⟨oc36, od36, .func (PySem.W.fnOf "line_times" "line_times" (defArgs s_line_times) (defBody s_line_times) (defScope s_line_times) .none kV36 dc36 pm36 an36 cd36 ct36), sl36⟩) (c36 : PySem.W.codeIn K cd36 "line_times" = true) (k36 : PySem.W.keepIn K (.ref f36) = true)
    {f37 : Addr} {od37 an37 : Option Addr} {sl37 : Array (Option Value)} {oc37 kV37 dc37 pm37 cd37 ct37 : Value} (a37 : PySem.W.nsIn K mainGlobals "_law_pair_right" = some (some (.ref f37))) (l37 : K.lookup f37 = some ⟨oc37, od37, .func (PySem.W.fnOf "_law_pair_right" "_law_pair_right" (defArgs s__law_pair_right) (defBody s__law_pair_right) (defScope s__law_pair_right) .none kV37 dc37 pm37 an37 cd37 ct37), sl37⟩) (c37 : PySem.W.codeIn K cd37 "_law_pair_right" = true) (k37 : PySem.W.keepIn K (.ref f37) = true)
    {f38 : Addr} {od38 an38 : Option Addr} {sl38 : Array (Option Value)} {oc38 kV38 dc38 pm38 cd38 ct38 : Value} (a38 : PySem.W.nsIn K mainGlobals "_law_one_right" = some (some (.ref f38))) (l38 : K.lookup f38 = some ⟨oc38, od38, .func (PySem.W.fnOf "_law_one_right" "_law_one_right" (defArgs s__law_one_right) (defBody s__law_one_right) (defScope s__law_one_right) .none kV38 dc38 pm38 an38 cd38 ct38), sl38⟩) (c38 : PySem.W.codeIn K cd38 "_law_one_right" = true) (k38 : PySem.W.keepIn K (.ref f38) = true)
    {f39 : Addr} {od39 an39 : Option Addr} {sl39 : Array (Option Value)} {oc39 kV39 dc39 pm39 cd39 ct39 : Value} (a39 : PySem.W.nsIn K mainGlobals "_law_right" = some (some (.ref f39))) (l39 : K.lookup f39 = some ⟨oc39, od39, .func (PySem.W.fnOf "_law_right" "_law_right" (defArgs s__law_right) (defBody s__law_right) (defScope s__law_right) .none kV39 dc39 pm39 an39 cd39 ct39), sl39⟩) (c39 : PySem.W.codeIn K cd39 "_law_right" = true) (k39 : PySem.W.keepIn K (.ref f39) = true)
    {f40 : Addr} {od40 an40 : Option Addr} {sl40 : Array (Option Value)} {oc40 kV40 dc40 pm40 cd40 ct40 : Value} (a40 : PySem.W.nsIn K mainGlobals "law" = some (some (.ref f40))) (l40 : K.lookup f40 = some ⟨oc40, od40, .func (PySem.W.fnOf "law" "law" (defArgs s_law) (defBody s_law) (defScope s_law) .none kV40 dc40 pm40 an40 cd40 ct40), sl40⟩) (c40 : PySem.W.codeIn K cd40 "law" = true) (k40 : PySem.W.keepIn K (.ref f40) = true)
    {t_MOST_DEGREE : Tok} (e_MOST_DEGREE : PySem.W.nsIn K mainGlobals "MOST_DEGREE" = some (some (.int 12 t_MOST_DEGREE)))
    (z_abs : PySem.W.nsIn K mainGlobals "abs" = some none)
    (z_all : PySem.W.nsIn K mainGlobals "all" = some none)
    (z_bool : PySem.W.nsIn K mainGlobals "bool" = some none)
    (z_divmod : PySem.W.nsIn K mainGlobals "divmod" = some none)
    (z_enumerate : PySem.W.nsIn K mainGlobals "enumerate" = some none)
    (z_int : PySem.W.nsIn K mainGlobals "int" = some none)
    (z_isinstance : PySem.W.nsIn K mainGlobals "isinstance" = some none)
    (z_len : PySem.W.nsIn K mainGlobals "len" = some none)
    (z_list : PySem.W.nsIn K mainGlobals "list" = some none)
    (z_max : PySem.W.nsIn K mainGlobals "max" = some none)
    (z_range : PySem.W.nsIn K mainGlobals "range" = some none)
    (z_repr : PySem.W.nsIn K mainGlobals "repr" = some none)
    (z_tuple : PySem.W.nsIn K mainGlobals "tuple" = some none)
    (z_zip : PySem.W.nsIn K mainGlobals "zip" = some none) :
    ∃ fd : FuncData, (∀ (s : Shared) (v : Value), BindsTo s fd ⟨[v], []⟩ [("_law_script", v)]) ∧ ∀ base : Heap, K.In base → base.Ns mainGlobals mg → FnG l.prog w K mg base 8 fa fd ["_law_script"] (spF K 1 m_law) := by
  have e := hfa.symm.trans (PySem.W.mg_of X G a40)
  cases e
  let T : Tx K mg := { a_is_integer := _, d_is_integer := _, f_is_integer := fun_mk (st := s_is_integer) l1 c1 k1, g_is_integer := PySem.W.mg_of X G a1, a_is_list := _, d_is_list := _, f_is_list := fun_mk (st := s_is_list) l2 c2 k2, g_is_list := PySem.W.mg_of X G a2, a_want_at_most := _, d_want_at_most := _, f_want_at_most := fun_mk (st := s_want_at_most) l3 c3 k3, g_want_at_most := PySem.W.mg_of X G a3, a_divisor_of := _, d_divisor_of := _, f_divisor_of := fun_mk (st := s_divisor_of) l4 c4 k4, g_divisor_of := PySem.W.mg_of X G a4, a_trimmed := _, d_trimmed := _, f_trimmed := fun_mk (st := s_trimmed) l5 c5 k5, g_trimmed := PySem.W.mg_of X G a5, a_scaled_line := _, d_scaled_line := _, f_scaled_line := fun_mk (st := s_scaled_line) l6 c6 k6, g_scaled_line := PySem.W.mg_of X G a6, a_times_lines := _, d_times_lines := _, f_times_lines := fun_mk (st := s_times_lines) l7 c7 k7, g_times_lines := PySem.W.mg_of X G a7, a_value_at := _, d_value_at := _, f_value_at := fun_mk (st := s_value_at) l8 c8 k8, g_value_at := PySem.W.mg_of X G a8, a_slope_of := _, d_slope_of := _, f_slope_of := fun_mk (st := s_slope_of) l9 c9 k9, g_slope_of := PySem.W.mg_of X G a9, a__law_pot := _, d__law_pot := _, f__law_pot := fun_mk (st := s__law_pot) l10 c10 k10, g__law_pot := PySem.W.mg_of X G a10, a__law_draw := _, d__law_draw := _, f__law_draw := fun_mk (st := s__law_draw) l11 c11 k11, g__law_draw := PySem.W.mg_of X G a11, a__law_trim := _, d__law_trim := _, f__law_trim := fun_mk (st := s__law_trim) l12 c12 k12, g__law_trim := PySem.W.mg_of X G a12, a__law_value := _, d__law_value := _, f__law_value := fun_mk (st := s__law_value) l13 c13 k13, g__law_value := PySem.W.mg_of X G a13, a__law_slope := _, d__law_slope := _, f__law_slope := fun_mk (st := s__law_slope) l14 c14 k14, g__law_slope := PySem.W.mg_of X G a14, a__law_greatest := _, d__law_greatest := _, f__law_greatest := fun_mk (st := s__law_greatest) l15 c15 k15, g__law_greatest := PySem.W.mg_of X G a15, a_greatest_of := _, d_greatest_of := _, f_greatest_of := fun_mk (st := s_greatest_of) l16 c16 k16, g_greatest_of := PySem.W.mg_of X G a16, a_want_number := _, d_want_number := _, f_want_number := fun_mk (st := s_want_number) l17 c17 k17, g_want_number := PySem.W.mg_of X G a17, a_plus_lines := _, d_plus_lines := _, f_plus_lines := fun_mk (st := s_plus_lines) l18 c18 k18, g_plus_lines := PySem.W.mg_of X G a18, a_line_in := _, d_line_in := _, f_line_in := fun_mk (st := s_line_in) l19 c19 k19, g_line_in := PySem.W.mg_of X G a19, a__law_pick := _, d__law_pick := _, f__law_pick := fun_mk (st := s__law_pick) l20 c20 k20, g__law_pick := PySem.W.mg_of X G a20, a__law_sum := _, d__law_sum := _, f__law_sum := fun_mk (st := s__law_sum) l21 c21 k21, g__law_sum := PySem.W.mg_of X G a21, a__law_times := _, d__law_times := _, f__law_times := fun_mk (st := s__law_times) l22 c22 k22, g__law_times := PySem.W.mg_of X G a22, a__law_plain := _, d__law_plain := _, f__law_plain := fun_mk (st := s__law_plain) l23 c23 k23, g__law_plain := PySem.W.mg_of X G a23, a_minus_lines := _, d_minus_lines := _, f_minus_lines := fun_mk (st := s_minus_lines) l24 c24 k24, g_minus_lines := PySem.W.mg_of X G a24, a_plain_of := _, d_plain_of := _, f_plain_of := fun_mk (st := s_plain_of) l25 c25 k25, g_plain_of := PySem.W.mg_of X G a25, a_want_line := _, d_want_line := _, f_want_line := fun_mk (st := s_want_line) l26 c26 k26, g_want_line := PySem.W.mg_of X G a26, a__law_line := _, d__law_line := _, f__law_line := fun_mk (st := s__law_line) l27 c27 k27, g__law_line := PySem.W.mg_of X G a27, a_two_lines := _, d_two_lines := _, f_two_lines := fun_mk (st := s_two_lines) l28 c28 k28, g_two_lines := PySem.W.mg_of X G a28, a_degree := _, d_degree := _, f_degree := fun_mk (st := s_degree) l29 c29 k29, g_degree := PySem.W.mg_of X G a29, a_line_value := _, d_line_value := _, f_line_value := fun_mk (st := s_line_value) l30 c30 k30, g_line_value := PySem.W.mg_of X G a30, a_line_slope := _, d_line_slope := _, f_line_slope := fun_mk (st := s_line_slope) l31 c31 k31, g_line_slope := PySem.W.mg_of X G a31, a_plain_line := _, d_plain_line := _, f_plain_line := fun_mk (st := s_plain_line) l32 c32 k32, g_plain_line := PySem.W.mg_of X G a32, a__law_drawn := _, d__law_drawn := _, f__law_drawn := fun_mk (st := s__law_drawn) l33 c33 k33, g__law_drawn := PySem.W.mg_of X G a33, a_line_sum := _, d_line_sum := _, f_line_sum := fun_mk (st := s_line_sum) l34 c34 k34, g_line_sum := PySem.W.mg_of X G a34, a_line_less := _, d_line_less := _, f_line_less := fun_mk (st := s_line_less) l35 c35 k35, g_line_less := PySem.W.mg_of X G a35, a_line_times := _, d_line_times := _, f_line_times := fun_mk (st := s_line_times) l36 c36 k36, g_line_times := PySem.W.mg_of X G a36, a__law_pair_right := _, d__law_pair_right := _, f__law_pair_right := fun_mk (st := s__law_pair_right) l37 c37 k37, g__law_pair_right := PySem.W.mg_of X G a37, a__law_one_right := _, d__law_one_right := _, f__law_one_right := fun_mk (st := s__law_one_right) l38 c38 k38, g__law_one_right := PySem.W.mg_of X G a38, a__law_right := _, d__law_right := _, f__law_right := fun_mk (st := s__law_right) l39 c39 k39, g__law_right := PySem.W.mg_of X G a39, a_law := _, d_law := _, f_law := fun_mk (st := s_law) l40 c40 k40, g_law := PySem.W.mg_of X G a40, u_MOST_DEGREE := _, e_MOST_DEGREE := PySem.W.mg_of X G e_MOST_DEGREE, r_MOST_DEGREE := ⟨_, rfl⟩, z_abs := PySem.W.mg_none_of X G z_abs, z_all := PySem.W.mg_none_of X G z_all, z_bool := PySem.W.mg_none_of X G z_bool, z_divmod := PySem.W.mg_none_of X G z_divmod, z_enumerate := PySem.W.mg_none_of X G z_enumerate, z_int := PySem.W.mg_none_of X G z_int, z_isinstance := PySem.W.mg_none_of X G z_isinstance, z_len := PySem.W.mg_none_of X G z_len, z_list := PySem.W.mg_none_of X G z_list, z_max := PySem.W.mg_none_of X G z_max, z_range := PySem.W.mg_none_of X G z_range, z_repr := PySem.W.mg_none_of X G z_repr, z_tuple := PySem.W.mg_none_of X G z_tuple, z_zip := PySem.W.mg_none_of X G z_zip }
  exact ⟨T.d_law, fun s v => .of_eq rfl, fun base _ _ => ok_law T⟩
end K11
end
open PySem PySem.W PyProof.Rows
set_option maxHeartbeats 0 in
theorem PySem.Challenge.cw_curvepieces_k11_whole_sums_products_valu_holds : PySem.Challenge.rw_curvepieces_k11_whole_sums_products_valu.Holds := by
  w_on; o_law; k_head; (case hw => w_witness2)
  k_fill
  refine DL.walk_ofG (l := PySem.Challenge.rw_curvepieces_k11_whole_sums_products_valu) (n := 63) (k := 8) (x := "_law_script") (F := K11.m_law) rfl (by decide) rfl ⟨rfl, by decide, by decide⟩ (fun w h Y => PySem.W.kIn_of Y) ?F K11.law_true
  case F =>
    intro w mg fa h KX G hmg
    refine' K11.all_mk KX G hmg ?a1 ?l1 ?c1 ?k1 ?a2 ?l2 ?c2 ?k2 ?a3 ?l3 ?c3 ?k3 ?a4 ?l4 ?c4 ?k4 ?a5 ?l5 ?c5 ?k5 ?a6 ?l6 ?c6 ?k6 ?a7 ?l7 ?c7 ?k7 ?a8 ?l8 ?c8 ?k8 ?a9 ?l9 ?c9 ?k9 ?a10 ?l10 ?c10 ?k10 ?a11 ?l11 ?c11 ?k11 ?a12 ?l12 ?c12 ?k12 ?a13 ?l13 ?c13 ?k13 ?a14 ?l14 ?c14 ?k14 ?a15 ?l15 ?c15 ?k15 ?a16 ?l16 ?c16 ?k16 ?a17 ?l17 ?c17 ?k17 ?a18 ?l18 ?c18 ?k18 ?a19 ?l19 ?c19 ?k19 ?a20 ?l20 ?c20 ?k20 ?a21 ?l21 ?c21 ?k21 ?a22 ?l22 ?c22 ?k22 ?a23 ?l23 ?c23 ?k23 ?a24 ?l24 ?c24 ?k24 ?a25 ?l25 ?c25 ?k25 ?a26 ?l26 ?c26 ?k26 ?a27 ?l27 ?c27 ?k27 ?a28 ?l28 ?c28 ?k28 ?a29 ?l29 ?c29 ?k29 ?a30 ?l30 ?c30 ?k30 ?a31 ?l31 ?c31 ?k31 ?a32 ?l32 ?c32 ?k32 ?a33 ?l33 ?c33 ?k33 ?a34 ?l34 ?c34 ?k34 ?a35 ?l35 ?c35 ?k35 ?a36 ?l36 ?c36 ?k36 ?a37 ?l37 ?c37 ?k37 ?a38 ?l38 ?c38 ?k38 ?a39 ?l39 ?c39 ?k39 ?a40 ?l40 ?c40 ?k40 ?e_MOST_DEGREE ?z_abs ?z_all ?z_bool ?z_divmod ?z_enumerate ?z_int ?z_isinstance ?z_len ?z_list ?z_max ?z_range ?z_repr ?z_tuple ?z_zip
    (case a1 => k_is); (case l1 => k_is); (case c1 => k_is); (case k1 => k_is); (case a2 => k_is); (case l2 => k_is); (case c2 => k_is); (case k2 => k_is); (case a3 => k_is); (case l3 => k_is); (case c3 => k_is); (case k3 => k_is); (case a4 => k_is); (case l4 => k_is); (case c4 => k_is); (case k4 => k_is); (case a5 => k_is); (case l5 => k_is); (case c5 => k_is); (case k5 => k_is); (case a6 => k_is); (case l6 => k_is); (case c6 => k_is); (case k6 => k_is); (case a7 => k_is); (case l7 => k_is); (case c7 => k_is); (case k7 => k_is); (case a8 => k_is); (case l8 => k_is); (case c8 => k_is); (case k8 => k_is); (case a9 => k_is); (case l9 => k_is); (case c9 => k_is); (case k9 => k_is); (case a10 => k_is); (case l10 => k_is); (case c10 => k_is); (case k10 => k_is); (case a11 => k_is); (case l11 => k_is); (case c11 => k_is); (case k11 => k_is); (case a12 => k_is); (case l12 => k_is); (case c12 => k_is); (case k12 => k_is); (case a13 => k_is); (case l13 => k_is); (case c13 => k_is); (case k13 => k_is); (case a14 => k_is); (case l14 => k_is); (case c14 => k_is); (case k14 => k_is); (case a15 => k_is); (case l15 => k_is); (case c15 => k_is); (case k15 => k_is); (case a16 => k_is); (case l16 => k_is); (case c16 => k_is); (case k16 => k_is); (case a17 => k_is); (case l17 => k_is); (case c17 => k_is); (case k17 => k_is); (case a18 => k_is); (case l18 => k_is); (case c18 => k_is); (case k18 => k_is); (case a19 => k_is); (case l19 => k_is); (case c19 => k_is); (case k19 => k_is); (case a20 => k_is); (case l20 => k_is); (case c20 => k_is); (case k20 => k_is); (case a21 => k_is); (case l21 => k_is); (case c21 => k_is); (case k21 => k_is); (case a22 => k_is); (case l22 => k_is); (case c22 => k_is); (case k22 => k_is); (case a23 => k_is); (case l23 => k_is); (case c23 => k_is); (case k23 => k_is); (case a24 => k_is); (case l24 => k_is); (case c24 => k_is); (case k24 => k_is); (case a25 => k_is); (case l25 => k_is); (case c25 => k_is); (case k25 => k_is); (case a26 => k_is); (case l26 => k_is); (case c26 => k_is); (case k26 => k_is); (case a27 => k_is); (case l27 => k_is); (case c27 => k_is); (case k27 => k_is); (case a28 => k_is); (case l28 => k_is); (case c28 => k_is); (case k28 => k_is); (case a29 => k_is); (case l29 => k_is); (case c29 => k_is); (case k29 => k_is); (case a30 => k_is); (case l30 => k_is); (case c30 => k_is); (case k30 => k_is); (case a31 => k_is); (case l31 => k_is); (case c31 => k_is); (case k31 => k_is); (case a32 => k_is); (case l32 => k_is); (case c32 => k_is); (case k32 => k_is); (case a33 => k_is); (case l33 => k_is); (case c33 => k_is); (case k33 => k_is); (case a34 => k_is); (case l34 => k_is); (case c34 => k_is); (case k34 => k_is); (case a35 => k_is); (case l35 => k_is); (case c35 => k_is); (case k35 => k_is); (case a36 => k_is); (case l36 => k_is); (case c36 => k_is); (case k36 => k_is); (case a37 => k_is); (case l37 => k_is); (case c37 => k_is); (case k37 => k_is); (case a38 => k_is); (case l38 => k_is); (case c38 => k_is); (case k38 => k_is); (case a39 => k_is); (case l39 => k_is); (case c39 => k_is); (case k39 => k_is); (case a40 => k_is); (case l40 => k_is); (case c40 => k_is); (case k40 => k_is); (case e_MOST_DEGREE => k_is); (case z_abs => k_is); (case z_all => k_is); (case z_bool => k_is); (case z_divmod => k_is); (case z_enumerate => k_is); (case z_int => k_is); (case z_isinstance => k_is); (case z_len => k_is); (case z_list => k_is); (case z_max => k_is); (case z_range => k_is); (case z_repr => k_is); (case z_tuple => k_is); (case z_zip => k_is)
