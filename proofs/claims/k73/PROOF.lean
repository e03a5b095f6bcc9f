import PyProof.Rows.All
import Wide.All
import OpenK.AllK
import Wide.FinOn
import HandS.ForMost
import HandS.ForExc
import HandS.Style
import HandS.Zip
import HandS.Wide
import HandS.TupAny
import HandS.TupMul
import HandS.Deep
import HandS.Small
import HandS.IsInst
import HandS.SetKeys
import HandS.TupLen
import PyProof.DictMoreH
import HandS.WordsExc
import HandS.ExcIs
import HandS.TryOnly
import HandS.TupSets
import PyProof.WalksMore
import KE.SortData
import HandS.DictComp
import KE.KEqDict
import KE.DataMinMax
import KE.KDictWalk
import PySem.Challenge.RW_talkwright_k73_rings
set_option Elab.async false
section
set_option Elab.async false
set_option linter.all false
set_option maxRecDepth 100000
/-! EvCore: abstract values (tuples by value, changing things by handle), the store, its relation to the layer's heap. -/
namespace EV
open PySem PySem.Spec PyProof.Rows L2

/-- an abstract value -/
inductive A where
  | non
  | bl (b : Bool)
  | int (i : Int)
  | str (x : Str)
  | tup (xs : List A)
  | ref (n : Nat)
  | scr (ns : List Int)
  deriving Inhabited
/-- a dict's key: an int, a text, or a tuple of these -/
abbrev Kk := Sum Key (List Key)
/-- what stands at a handle: a list, the script's list, a dict (of tuple keys or not), a dict that is walked, an instance -/
inductive Ob where
  | lst (xs : List A)
  | rol (xs : List A)
  | dct (t : Bool) (kvs : List (Kk × A))
  | ldk (t : Bool) (kvs : List (Kk × A))
  | ins (c : Str) (fs : List (Str × A))
structure Sto where
  n : Nat
  f : Nat → Option Ob
def Sto.put (S : Sto) (k : Nat) (o : Ob) : Sto := ⟨S.n, fun m => if m = k then some o else S.f m⟩
def Sto.new (S : Sto) (o : Ob) : Sto := ⟨S.n + 1, fun m => if m = S.n then some o else S.f m⟩
structure Ex where
  cls : Str
  fl : List (Str × A)
inductive Res (α : Type) where
  | ok (a : α) (S : Sto)
  | exc (e : Ex) (S : Sto)
  | bad
abbrev M (α : Type) := Sto → Res α
@[reducible] def rt {α : Type} (a : α) : M α := fun S => .ok a S
@[reducible] def bnd {α β : Type} (m : M α) (f : α → M β) : M β := fun S => match m S with
  | .ok a S' => f a S'
  | .exc e S' => .exc e S'
  | .bad => .bad
@[reducible] def stuck {α : Type} : M α := fun _ => .bad
abbrev Env := List (Option A)
/-- how a statement ends: on, out of the loop, to its next turn, with a value, with an exception -/
inductive Fl where
  | nx (e : Env)
  | bk (e : Env)
  | ct (e : Env)
  | rt (a : A)
  | ex (x : Ex) (e : Env)
abbrev CE := Env → M A
abbrev CB := Env → M Bool
abbrev CL := Env → M (List A)
abbrev CS := Env → M Fl

/-! ### the relation -/
structure Gd where
  P : Program
  w : World
  K : PySem.W.Frag
  mg : Str → Option Value
abbrev gd (X : Cx) : Gd := ⟨X.prog, X.w, X.K, X.mg⟩
abbrev Rn := Nat → Option Addr
/-- a list of ints that stands in the written part (the script may) -/
def KLst (K : PySem.W.Frag) (a : Addr) (ns : List Int) : Prop := ∃ (o : Obj) (its : Array Value) (n : Nat), K.lookup a = some o ∧ o.cls = .type "list" ∧ o.dict = none ∧ o.data = .seq its n ∧ its.size ≤ sizeLine ∧ Vals (ns.map V.int) its.toList
mutual
inductive RV (K : PySem.W.Frag) (ρ : Rn) (H : Hp) : A → V → Prop
  | non : RV K ρ H .non .non
  | bl (b : Bool) : RV K ρ H (.bl b) (.bl b)
  | int (i : Int) : RV K ρ H (.int i) (.int i)
  | str (x : Str) : RV K ρ H (.str x) (.str x)
  | tup {p : Addr} {vs : List V} {xs : List A} : H p = some (.tup vs) → RVs K ρ H xs vs → RV K ρ H (.tup xs) (.ref p)
  | ref {n : Nat} {p : Addr} : ρ n = some p → RV K ρ H (.ref n) (.ref p)
  | scr {p : Addr} {ns : List Int} : KLst K p ns → RV K ρ H (.scr ns) (.ref p)
inductive RVs (K : PySem.W.Frag) (ρ : Rn) (H : Hp) : List A → List V → Prop
  | nil : RVs K ρ H [] []
  | cons {a : A} {v : V} {xs : List A} {vs : List V} : RV K ρ H a v → RVs K ρ H xs vs → RVs K ρ H (a :: xs) (v :: vs)
end
def keyA : Key → A
  | .inl i => .int i
  | .inr x => .str x
def keyK : A → Option Key
  | .int i => some (.inl i)
  | .str x => some (.inr x)
  | _ => none
def keyKs : List A → Option (List Key)
  | [] => some []
  | a :: r => match keyK a, keyKs r with
    | some k, some ks => some (k :: ks)
    | _, _ => none
def keyOf : A → Option Kk
  | .tup xs => (keyKs xs).map .inr
  | a => (keyK a).map .inl
def keyTo : Kk → A
  | .inl k => keyA k
  | .inr ks => .tup (ks.map keyA)
def FR (K : PySem.W.Frag) (ρ : Rn) (H : Hp) : List (Str × A) → List (Str × V) → Prop := Paired fun p q => p.1 = q.1 ∧ RV K ρ H p.2 q.2
def KR (K : PySem.W.Frag) (ρ : Rn) (H : Hp) : List (Kk × A) → List (Key × V) → Prop := Paired fun p q => p.1 = .inl q.1 ∧ RV K ρ H p.2 q.2
def TR (K : PySem.W.Frag) (ρ : Rn) (H : Hp) : List (Kk × A) → List (List Key × V) → Prop := Paired fun p q => p.1 = .inr q.1 ∧ RV K ρ H p.2 q.2
inductive ObR (G : Gd) (ρ : Rn) (H : Hp) : Ob → HO → Prop
  | lst {xs : List A} {vs : List V} : RVs G.K ρ H xs vs → ObR G ρ H (.lst xs) (.lst vs)
  | rol {xs : List A} {vs : List V} {o : Obj} : RVs G.K ρ H xs vs → ObR G ρ H (.rol xs) (.frz o (.lst vs))
  | dk {kvs : List (Kk × A)} {ks : List (Key × V)} : KR G.K ρ H kvs ks → ObR G ρ H (.dct false kvs) (.dK ks)
  | dt {kvs : List (Kk × A)} {ks : List (List Key × V)} : TR G.K ρ H kvs ks → ObR G ρ H (.dct true kvs) (.dT ks)
  | lk {kvs : List (Kk × A)} {ks : List (Key × V)} {o : Obj} : KR G.K ρ H kvs ks → ObR G ρ H (.ldk false kvs) (.frz o (.dK ks))
  | lt {kvs : List (Kk × A)} {ks : List (List Key × V)} {o : Obj} : TR G.K ρ H kvs ks → ObR G ρ H (.ldk true kvs) (.frz o (.dT ks))
  | ins {c : Str} {fs : List (Str × A)} {gs : List (Str × V)} {C dx : Addr} : G.mg c = some (.ref C) → FR G.K ρ H fs gs → ObR G ρ H (.ins c fs) (.ins C dx gs)
structure Rep (G : Gd) (ρ : Rn) (S : Sto) (H : Hp) : Prop where
  ob : ∀ n o, S.f n = some o → ∃ p h, ρ n = some p ∧ H p = some h ∧ ObR G ρ H o h
  inj : ∀ n m p, ρ n = some p → ρ m = some p → n = m
  lt : ∀ n p, ρ n = some p → n < S.n ∧ ∃ o, S.f n = some o
/-- what a run leaves: names, tuples, and what no handle names among the places Pv -/
structure ExtP (Pv : Addr → Prop) (K : PySem.W.Frag) (ρ : Rn) (H : Hp) (ρ' : Rn) (H' : Hp) : Prop where
  m : ∀ n p, ρ n = some p → ρ' n = some p
  t : ∀ p vs, H p = some (.tup vs) → H' p = some (.tup vs)
  k : ∀ p o, Pv p → H p = some o → (∀ n, ρ n ≠ some p) → H' p = some o ∧ ∀ n, ρ' n ≠ some p
  z : ∀ p o u, H p = some (.frz o u) → H' p = some (.frz o u)
abbrev AllP : Addr → Prop := fun _ => True
abbrev Ext := ExtP AllP
def RE (K : PySem.W.Frag) (ρ : Rn) (H : Hp) (ε : Env) (σ : L2.St) : Prop := ε.length = σ.length ∧ ∀ (i : Nat) (a : A), ε[i]? = some (some a) → ∃ v, σ[i]? = some (some v) ∧ RV K ρ H a v
def XR (G : Gd) (ρ : Rn) (H : Hp) (e : Ex) (v : Value) (d : Option Addr) : Prop :=
  G.mg e.cls = some v ∧ ((e.fl = [] ∧ d = none) ∨ e.fl ≠ [] ∧ ∃ dd fs, d = some dd ∧ H dd = some (.xd fs) ∧ FR G.K ρ H e.fl fs)

section
variable {Pv : Addr → Prop} {K : PySem.W.Frag} {G : Gd} {ρ ρ' ρ1 : Rn} {H H' H1 : Hp} {S S' : Sto}
theorem ExtP.refl : ExtP Pv K ρ H ρ H := ⟨fun _ _ h => h, fun _ _ h => h, fun _ _ _ h n => ⟨h, n⟩, fun _ _ _ h => h⟩
theorem Ext.refl : Ext K ρ H ρ H := ExtP.refl
theorem ExtP.of (x : Ext K ρ H ρ' H') : ExtP Pv K ρ H ρ' H' := ⟨x.m, x.t, fun p o _ h n => x.k p o trivial h n, x.z⟩
theorem ExtP.trans (a : ExtP Pv K ρ H ρ1 H1) (b : ExtP Pv K ρ1 H1 ρ' H') : ExtP Pv K ρ H ρ' H' := ⟨fun n p h => b.m n p (a.m n p h), fun p vs h => b.t p vs (a.t p vs h), fun p o c h n => let ⟨h1, n1⟩ := a.k p o c h n; b.k p o c h1 n1, fun p o u h => b.z p o u (a.z p o u h)⟩
mutual
theorem RV.mono (x : ExtP Pv K ρ H ρ' H') : ∀ {a : A} {v : V}, RV K ρ H a v → RV K ρ' H' a v
  | _, _, .non => .non
  | _, _, .bl b => .bl b
  | _, _, .int i => .int i
  | _, _, .str z => .str z
  | _, _, .tup t r => .tup (x.t _ _ t) (RVs.mono x r)
  | _, _, .ref e => .ref (x.m _ _ e)
  | _, _, .scr e => .scr e
theorem RVs.mono (x : ExtP Pv K ρ H ρ' H') : ∀ {a : List A} {v : List V}, RVs K ρ H a v → RVs K ρ' H' a v
  | _, _, .nil => .nil
  | _, _, .cons r s => .cons (RV.mono x r) (RVs.mono x s)
end
mutual
theorem rvT (t : ∀ q vs, H q = some (.tup vs) → H' q = some (.tup vs)) : ∀ {a : A} {v : V}, RV K ρ H a v → RV K ρ H' a v
  | _, _, .non => .non
  | _, _, .bl b => .bl b
  | _, _, .int i => .int i
  | _, _, .str z => .str z
  | _, _, .tup q r => .tup (t _ _ q) (rvsT t r)
  | _, _, .ref e => .ref e
  | _, _, .scr e => .scr e
theorem rvsT (t : ∀ q vs, H q = some (.tup vs) → H' q = some (.tup vs)) : ∀ {a : List A} {v : List V}, RVs K ρ H a v → RVs K ρ H' a v
  | _, _, .nil => .nil
  | _, _, .cons r s => .cons (rvT t r) (rvsT t s)
end
theorem FR.mono (x : ExtP Pv K ρ H ρ' H') {a b} (h : FR K ρ H a b) : FR K ρ' H' a b := Paired.mapP h fun _ _ q => ⟨q.1, q.2.mono x⟩
theorem KR.mono (x : ExtP Pv K ρ H ρ' H') {a b} (h : KR K ρ H a b) : KR K ρ' H' a b := Paired.mapP h fun _ _ q => ⟨q.1, q.2.mono x⟩
theorem TR.mono (x : ExtP Pv K ρ H ρ' H') {a b} (h : TR K ρ H a b) : TR K ρ' H' a b := Paired.mapP h fun _ _ q => ⟨q.1, q.2.mono x⟩
theorem ObR.mono (x : ExtP Pv G.K ρ H ρ' H') {o h} (r : ObR G ρ H o h) : ObR G ρ' H' o h := by
  cases r with
  | lst r => exact .lst (r.mono x)
  | rol r => exact .rol (r.mono x)
  | dk r => exact .dk (r.mono x)
  | dt r => exact .dt (r.mono x)
  | lk r => exact .lk (r.mono x)
  | lt r => exact .lt (r.mono x)
  | ins e r => exact .ins e (r.mono x)
theorem ObR.monoT (t : ∀ q vs, H q = some (.tup vs) → H' q = some (.tup vs)) {o h} (r : ObR G ρ H o h) : ObR G ρ H' o h := by
  cases r with
  | lst r => exact .lst (rvsT t r)
  | rol r => exact .rol (rvsT t r)
  | dk r' => exact .dk (Paired.mapP r' fun _ _ z => ⟨z.1, rvT t z.2⟩)
  | dt r' => exact .dt (Paired.mapP r' fun _ _ z => ⟨z.1, rvT t z.2⟩)
  | lk r' => exact .lk (Paired.mapP r' fun _ _ z => ⟨z.1, rvT t z.2⟩)
  | lt r' => exact .lt (Paired.mapP r' fun _ _ z => ⟨z.1, rvT t z.2⟩)
  | ins e' r' => exact .ins e' (Paired.mapP r' fun _ _ z => ⟨z.1, rvT t z.2⟩)
theorem RE.mono (x : ExtP Pv K ρ H ρ' H') {ε σ} (r : RE K ρ H ε σ) : RE K ρ' H' ε σ := ⟨r.1, fun i a e => let ⟨v, h1, h2⟩ := r.2 i a e; ⟨v, h1, h2.mono x⟩⟩
theorem RVs.length {xs : List A} {vs : List V} (r : RVs K ρ H xs vs) : xs.length = vs.length := by
  induction xs generalizing vs with
  | nil => cases r; rfl
  | cons a xs ih => cases r with | cons h t => simp [ih t]
theorem RVs.get : ∀ {xs : List A} {vs : List V} {i : Nat} {a : A}, RVs K ρ H xs vs → xs[i]? = some a → ∃ v, vs[i]? = some v ∧ RV K ρ H a v
  | _, _, _, _, .nil, e => by simp at e
  | _, _, 0, _, .cons r _, e => by simp at e; subst e; exact ⟨_, rfl, r⟩
  | _, _, i + 1, a, .cons _ t, e => by
    obtain ⟨u, h1, h2⟩ := RVs.get (i := i) (a := a) t (by simpa using e)
    exact ⟨u, by simpa using h1, h2⟩
theorem RVs.app : ∀ {xs ys : List A} {vs ws : List V}, RVs K ρ H xs vs → RVs K ρ H ys ws → RVs K ρ H (xs ++ ys) (vs ++ ws)
  | _, _, _, _, .nil, s => s
  | _, _, _, _, .cons r t, s => .cons r (RVs.app t s)
theorem RVs.take : ∀ {xs : List A} {vs : List V} (n : Nat), RVs K ρ H xs vs → RVs K ρ H (xs.take n) (vs.take n)
  | _, _, 0, _ => .nil
  | _, _, _ + 1, .nil => .nil
  | _, _, n + 1, .cons r t => .cons r (RVs.take n t)
theorem RVs.drop : ∀ {xs : List A} {vs : List V} (n : Nat), RVs K ρ H xs vs → RVs K ρ H (xs.drop n) (vs.drop n)
  | _, _, 0, r => r
  | _, _, _ + 1, .nil => .nil
  | _, _, n + 1, .cons _ t => RVs.drop n t
theorem RVs.set {a : A} {v : V} (r : RV K ρ H a v) : ∀ {xs : List A} {vs : List V} (i : Nat), RVs K ρ H xs vs → RVs K ρ H (xs.set i a) (vs.set i v)
  | _, _, _, .nil => .nil
  | _, _, 0, .cons _ t => .cons r t
  | _, _, i + 1, .cons q t => .cons q (RVs.set r i t)
theorem RVs.erase : ∀ {xs : List A} {vs : List V} (i : Nat), RVs K ρ H xs vs → RVs K ρ H (xs.eraseIdx i) (vs.eraseIdx i)
  | _, _, _, .nil => .nil
  | _, _, 0, .cons _ t => t
  | _, _, i + 1, .cons r t => .cons r (RVs.erase i t)
theorem RVs.dropLast {xs : List A} {vs : List V} (r : RVs K ρ H xs vs) : RVs K ρ H xs.dropLast vs.dropLast := by
  rw [List.dropLast_eq_take, List.dropLast_eq_take, r.length]
  exact r.take _
theorem RVs.reverse : ∀ {xs : List A} {vs : List V}, RVs K ρ H xs vs → RVs K ρ H xs.reverse vs.reverse
  | _, _, .nil => .nil
  | _, _, .cons r t => by rw [List.reverse_cons, List.reverse_cons]; exact t.reverse.app (.cons r .nil)
theorem RE.set {ε σ} (r : RE K ρ H ε σ) {a : A} {v : V} (q : RV K ρ H a v) (i : Nat) : RE K ρ H (ε.set i (some a)) (σ.set i (some v)) := by
  refine ⟨by rw [List.length_set, List.length_set]; exact r.1, fun j b e => ?_⟩
  rw [List.getElem?_set] at e ⊢
  by_cases h : i = j
  · subst h
    rw [if_pos rfl] at e ⊢
    by_cases h2 : i < ε.length
    · rw [if_pos h2] at e
      rw [if_pos (by rw [← r.1]; exact h2)]
      cases e
      exact ⟨v, rfl, q⟩
    · rw [if_neg h2] at e; cases e
  · rw [if_neg h] at e ⊢
    exact r.2 j b e
/-- nothing that stays: neither a tuple nor a locked one -/
def NoT (h : HO) : Prop := ∀ vs, h ≠ .tup vs ∧ ∀ o, h ≠ .frz o (.tup vs)
theorem sqT_upd {p : Addr} {h : HO} (hp : H p = none ∨ ∃ u, H p = some u ∧ NoT u) {q : Addr} {vs : List V} (t : H q = some (.tup vs)) : upd H p h q = some (.tup vs) := by
  rw [upd_ne]
  · exact t
  · intro z
    subst z
    rcases hp with z | ⟨u', e', n⟩
    · rw [t] at z; cases z
    · rw [t] at e'; cases e'; exact (n vs).1 rfl
theorem Rep.fresh (R : Rep G ρ S H) : ρ S.n = none := by
  cases e : ρ S.n with
  | none => rfl
  | some p => exact absurd (R.lt _ _ e).1 (Nat.lt_irrefl _)
theorem Rep.there (R : Rep G ρ S H) {n p} (e : ρ n = some p) : ∃ o h, S.f n = some o ∧ H p = some h ∧ ObR G ρ H o h := by
  obtain ⟨_, o, ho⟩ := R.lt n p e
  obtain ⟨p', h, e', hh, r⟩ := R.ob n o ho
  rw [e] at e'; cases e'
  exact ⟨o, h, ho, hh, r⟩
/-- a new name for a new place -/
def ren (ρ : Rn) (n : Nat) (p : Addr) : Rn := fun m => if m = n then some p else ρ m
theorem ren_self {n : Nat} {p : Addr} : ren ρ n p n = some p := by unfold ren; rw [if_pos rfl]
theorem Rep.ext_new (R : Rep G ρ S H) {p : Addr} {h : HO} (hp : H p = none) : Ext G.K ρ H (ren ρ S.n p) (upd H p h) := by
  refine ⟨fun n q e => ?_, fun q vs t => sqT_upd (.inl hp) t, fun q o _ e nq => ?_, fun q o u e => by rw [upd_ne fun z => by rw [z, hp] at e; cases e]; exact e⟩
  · unfold ren
    rw [if_neg]
    · exact e
    · intro z
      rw [z, R.fresh] at e
      cases e
  · have ne : q ≠ p := fun z => by rw [z, hp] at e; cases e
    refine ⟨by rw [upd_ne ne]; exact e, fun n z => ?_⟩
    unfold ren at z
    by_cases hn : n = S.n
    · rw [if_pos hn] at z
      exact ne (Option.some.inj z).symm
    · rw [if_neg hn] at z
      exact nq n z
theorem ObR.noT {o h} (r : ObR G ρ H o h) : NoT h := by
  intro vs
  cases r <;> exact ⟨fun z => (nomatch z), fun o z => (nomatch z)⟩
theorem Rep.new (R : Rep G ρ S H) {p : Addr} {o : Ob} {h : HO} (hp : H p = none) (r : ObR G (ren ρ S.n p) (upd H p h) o h) : Rep G (ren ρ S.n p) (S.new o) (upd H p h) := by
  have x := R.ext_new (h := h) hp
  have old : ∀ n q, ρ n = some q → q ≠ p := fun n q e z => by
    obtain ⟨_, u, _, hu, _⟩ := R.there e
    rw [z, hp] at hu
    cases hu
  refine ⟨fun n u e => ?_, fun n m q e1 e2 => ?_, fun n q e => ?_⟩
  · unfold Sto.new at e
    dsimp only at e
    by_cases hn : n = S.n
    · rw [if_pos hn] at e
      cases e
      subst hn
      exact ⟨p, h, ren_self, upd_same, r⟩
    · rw [if_neg hn] at e
      obtain ⟨q, u', e1, e2, e3⟩ := R.ob n u e
      exact ⟨q, u', x.m _ _ e1, by rw [upd_ne (old n q e1)]; exact e2, e3.mono x⟩
  · unfold ren at e1 e2
    by_cases h1 : n = S.n
    · by_cases h2 : m = S.n
      · rw [h1, h2]
      · rw [if_pos h1] at e1
        rw [if_neg h2] at e2
        cases e1
        exact absurd rfl (old _ _ e2)
    · by_cases h2 : m = S.n
      · rw [if_neg h1] at e1
        rw [if_pos h2] at e2
        cases e2
        exact absurd rfl (old _ _ e1)
      · rw [if_neg h1] at e1
        rw [if_neg h2] at e2
        exact R.inj _ _ _ e1 e2
  · unfold ren at e
    unfold Sto.new
    dsimp only
    by_cases h1 : n = S.n
    · subst h1
      exact ⟨Nat.lt_succ_self _, o, if_pos rfl⟩
    · rw [if_neg h1] at e
      obtain ⟨a, u, b⟩ := R.lt _ _ e
      exact ⟨Nat.lt_succ_of_lt a, u, by rw [if_neg h1]; exact b⟩
theorem Rep.ext_put (R : Rep G ρ S H) {n : Nat} {p : Addr} {h : HO} (e : ρ n = some p) (hz : ∀ o u, H p ≠ some (.frz o u)) : Ext G.K ρ H ρ (upd H p h) := by
  obtain ⟨o, u, _, hu, r⟩ := R.there e
  exact ⟨fun _ _ z => z, fun q vs t => sqT_upd (.inr ⟨u, hu, r.noT⟩) t, fun q o' _ e' nq => ⟨by rw [upd_ne fun z => nq n (by rw [e, z])]; exact e', nq⟩, fun q o' u' e' => by rw [upd_ne fun z => by rw [z] at e'; exact hz _ _ e']; exact e'⟩
theorem Rep.put (R : Rep G ρ S H) {n : Nat} {p : Addr} {o : Ob} {h : HO} (e : ρ n = some p) (r : ObR G ρ (upd H p h) o h) : Rep G ρ (S.put n o) (upd H p h) := by
  have t : ∀ q vs, H q = some (.tup vs) → (upd H p h) q = some (.tup vs) := fun q vs t => by
    obtain ⟨o, u, _, hu, r⟩ := R.there e
    exact sqT_upd (.inr ⟨u, hu, r.noT⟩) t
  refine ⟨fun m u e1 => ?_, R.inj, fun m q e1 => ?_⟩
  · unfold Sto.put at e1
    dsimp only at e1
    by_cases hm : m = n
    · rw [if_pos hm] at e1
      cases e1
      subst hm
      exact ⟨p, h, e, upd_same, r⟩
    · rw [if_neg hm] at e1
      obtain ⟨q, u', e2, e3, e4⟩ := R.ob m u e1
      refine ⟨q, u', e2, ?_, e4.monoT t⟩
      rw [upd_ne fun z => hm (R.inj _ _ p (by rw [← z]; exact e2) e)]
      exact e3
  · obtain ⟨a, u, b⟩ := R.lt _ _ e1
    refine ⟨a, ?_⟩
    unfold Sto.put
    dsimp only
    by_cases hm : m = n
    · exact ⟨o, if_pos hm⟩
    · exact ⟨u, by rw [if_neg hm]; exact b⟩
/-- a new tuple on the heap names nothing in the store -/
theorem Rep.tup (R : Rep G ρ S H) {p : Addr} {h : HO} (hp : H p = none) : Rep G ρ S (upd H p h) ∧ Ext G.K ρ H ρ (upd H p h) := by
  have x : Ext G.K ρ H ρ (upd H p h) := ⟨fun _ _ z => z, fun q vs t => sqT_upd (.inl hp) t, fun q o' _ e' nq => ⟨by rw [upd_ne fun z => by rw [z, hp] at e'; cases e']; exact e', nq⟩, fun q o u e => by rw [upd_ne fun z => by rw [z, hp] at e; cases e]; exact e⟩
  refine ⟨⟨fun n u e => ?_, R.inj, R.lt⟩, x⟩
  obtain ⟨q, u', e2, e3, e4⟩ := R.ob n u e
  refine ⟨q, u', e2, ?_, e4.mono x⟩
  rw [upd_ne fun z => by rw [z, hp] at e3; cases e3]
  exact e3
/-- a place that no handle names is written -/
theorem Rep.out (R : Rep G ρ S H) {p : Addr} {h : HO} (nq : ∀ n, ρ n ≠ some p) (hp : ∀ u, H p = some u → NoT u) : Rep G ρ S (upd H p h) ∧ (∀ q vs, H q = some (.tup vs) → (upd H p h) q = some (.tup vs)) := by
  have t : ∀ q vs, H q = some (.tup vs) → (upd H p h) q = some (.tup vs) := fun q vs t => by
    cases e : H p with
    | none => exact sqT_upd (.inl e) t
    | some u => exact sqT_upd (.inr ⟨u, e, hp u e⟩) t
  refine ⟨⟨fun n u e => ?_, R.inj, R.lt⟩, t⟩
  obtain ⟨q, u', e2, e3, e4⟩ := R.ob n u e
  have ne : q ≠ p := fun z => nq n (by rw [e2, z])
  exact ⟨q, u', e2, by rw [upd_ne ne]; exact e3, e4.monoT t⟩
end
end EV

end

section
set_option Elab.async false
set_option linter.all false
set_option maxRecDepth 100000
/-! EvRules: what a computation promises (Sat), the judgements' readings (tE, tT, tA, tS), the rules of names, constants, and, or, not, if, blocks, while. -/
namespace EV
open PySem PySem.Spec PyProof.Rows L2

abbrev Post (α : Type) := α → Rn → Sto → Hp → Prop
def SatP (Pv : Addr → Prop) {α : Type} (G : Gd) (W : WX) (σ : L2.St) (ρ : Rn) (H : Hp) (r : Res α) (post : Post α) : Prop := match r with
  | .ok a S' => ∀ ρ' H', ExtP Pv G.K ρ H ρ' H' → Rep G ρ' S' H' → post a ρ' S' H'
  | .exc e S' => ∀ ρ' H' v d, ExtP Pv G.K ρ H ρ' H' → Rep G ρ' S' H' → XR G ρ' H' e v d → W v d σ H'
  | .bad => False
section
variable {Pv : Addr → Prop} {α β : Type} {G : Gd} {W : WX} {σ : L2.St} {ρ ρ1 : Rn} {H H1 : Hp} {r : Res α} {post post' : Post α}
theorem SatP.mono (x : ExtP Pv G.K ρ H ρ1 H1) (h : SatP Pv G W σ ρ H r post) : SatP Pv G W σ ρ1 H1 r post := by
  cases r with
  | ok a S => exact fun ρ' H' y R => h ρ' H' (x.trans y) R
  | exc e S => exact fun ρ' H' v d y R z => h ρ' H' v d (x.trans y) R z
  | bad => exact h
theorem SatP.imp (h : SatP Pv G W σ ρ H r post) (k : ∀ a ρ' S' H', ExtP Pv G.K ρ H ρ' H' → Rep G ρ' S' H' → post a ρ' S' H' → post' a ρ' S' H') : SatP Pv G W σ ρ H r post' := by
  cases r with
  | ok a S => exact fun ρ' H' y R => k a ρ' S H' y R (h ρ' H' y R)
  | exc e S => exact h
  | bad => exact h
theorem SatP.bnd {m : M α} {f : α → M β} {S : Sto} {post : Post β} (h : SatP Pv G W σ ρ H (bnd m f S) post) : SatP Pv G W σ ρ H (m S) (fun a ρ1 S1 H1 => SatP Pv G W σ ρ1 H1 (f a S1) post) := by
  unfold EV.bnd at h
  cases e : m S with
  | ok a S1 =>
    rw [e] at h
    exact fun ρ' H' x R => SatP.mono x h
  | exc e' S1 =>
    rw [e] at h
    exact h
  | bad =>
    rw [e] at h
    exact h
theorem SatP.rt {a : α} {S : Sto} (h : SatP Pv G W σ ρ H (EV.rt a S) post) (R : Rep G ρ S H) : post a ρ S H := h ρ H ExtP.refl R
/-- the hypothesis about other places may be stronger -/
theorem SatP.toSat (h : SatP Pv G W σ ρ H r post) (k : ∀ a ρ' S' H', Ext G.K ρ H ρ' H' → Rep G ρ' S' H' → post a ρ' S' H' → post' a ρ' S' H') : SatP AllP G W σ ρ H r post' := by
  cases r with
  | ok a S => exact fun ρ' H' y R => k a ρ' S H' y R (h ρ' H' (ExtP.of y) R)
  | exc e S => exact fun ρ' H' v d y R z => h ρ' H' v d (ExtP.of y) R z
  | bad => exact h
end
abbrev Sat {α : Type} (G : Gd) (W : WX) (σ : L2.St) (ρ : Rn) (H : Hp) (r : Res α) (post : Post α) : Prop := SatP AllP G W σ ρ H r post

/-- the readings -/
def tE (G : Gd) (W : WX) (c : CE) : TE := fun σ H Q => ∃ ρ S ε, Rep G ρ S H ∧ RE G.K ρ H ε σ ∧ Sat G W σ ρ H (c ε S) fun a ρ' _ H' => ∀ x, RV G.K ρ' H' a x → Q x H'
def tT (G : Gd) (W : WX) (c : CB) : TT := fun σ H Q => ∃ ρ S ε, Rep G ρ S H ∧ RE G.K ρ H ε σ ∧ Sat G W σ ρ H (c ε S) fun b _ _ H' => Q b H'
def tL (G : Gd) (W : WX) (c : CL) : TA := fun σ H Q => ∃ ρ S ε, Rep G ρ S H ∧ RE G.K ρ H ε σ ∧ Sat G W σ ρ H (c ε S) fun as ρ' _ H' => ∀ xs, RVs G.K ρ' H' as xs → Q xs H'
/-- what a statement's end leads to -/
def FlOk (G : Gd) (W : WX) (D : Ends) (ρ' : Rn) (H' : Hp) : Fl → Prop
  | .nx ε => ∀ σ, RE G.K ρ' H' ε σ → D.nx σ H'
  | .bk ε => ∀ σ, RE G.K ρ' H' ε σ → D.bk σ H'
  | .ct ε => ∀ σ, RE G.K ρ' H' ε σ → D.ct σ H'
  | .rt a => ∀ x, RV G.K ρ' H' a x → D.rt x H'
  | .ex e ε => ∀ σ v d, RE G.K ρ' H' ε σ → XR G ρ' H' e v d → W v d σ H'
def noW : WX := fun _ _ _ _ => False
def tS (G : Gd) (W : WX) (c : CS) : TS := fun D σ H => ∃ ρ S ε, Rep G ρ S H ∧ RE G.K ρ H ε σ ∧ Sat G noW σ ρ H (c ε S) fun fl ρ' _ H' => FlOk G W D ρ' H' fl

theorem PE.imp {X : Cx} {e : Expr} {t t' : TE} (h : PE X e t) (k : ∀ σ H Q, t' σ H Q → t σ H Q) : PE X e t' := ⟨fun pins s σ H Q I q => h.run pins s σ H Q I (k σ H Q q)⟩
theorem PT.imp {X : Cx} {e : Expr} {t t' : TT} (h : PT X e t) (k : ∀ σ H Q, t' σ H Q → t σ H Q) : PT X e t' := ⟨fun pins s σ H Q I q => h.run pins s σ H Q I (k σ H Q q)⟩
theorem PW.imp {X : Cx} {e : Expr} {t t' : TT} (h : PW X e t) (k : ∀ σ H Q, t' σ H Q → t σ H Q) : PW X e t' := ⟨fun wh pins s σ H Q I q => h.run wh pins s σ H Q I (k σ H Q q)⟩
theorem PA.imp {X : Cx} {es : List Expr} {t t' : TA} (h : PA X es t) (k : ∀ σ H Q, t' σ H Q → t σ H Q) : PA X es t' := ⟨fun pos pins s σ H Q I q => h.run pos pins s σ H Q I (k σ H Q q)⟩
theorem PS.imp {X : Cx} {e : Stmt} {t t' : TS} (h : PS X e t) (k : ∀ D σ H, t' D σ H → t D σ H) : PS X e t' := ⟨fun pins s σ H D I q => h.run pins s σ H D I (k D σ H q)⟩
theorem PSs.imp {X : Cx} {e : List Stmt} {t t' : TS} (h : PSs X e t) (k : ∀ D σ H, t' D σ H → t D σ H) : PSs X e t' := ⟨fun pins s σ H D I q => h.run pins s σ H D I (k D σ H q)⟩

/-! ### the judgements -/
abbrev JE (X : Cx) (W : WX) (e : Expr) (c : CE) : Prop := PE X e (tE (gd X) W c)
abbrev JT (X : Cx) (W : WX) (e : Expr) (c : CB) : Prop := PT X e (tT (gd X) W c)
abbrev JW (X : Cx) (W : WX) (e : Expr) (c : CB) : Prop := PW X e (tT (gd X) W c)
abbrev JA (X : Cx) (W : WX) (es : List Expr) (c : CL) : Prop := PA X es (tL (gd X) W c)
abbrev JS (X : Cx) (W : WX) (st : Stmt) (c : CS) : Prop := PS X st (tS (gd X) W c)
abbrev JB (X : Cx) (W : WX) (st : List Stmt) (c : CS) : Prop := PSs X st (tS (gd X) W c)

section
variable {X : Cx} {W : WX} {σ : L2.St} {H : Hp}
/-- one computation behind another -/
theorem tE_seq {β : Type} {c : CE} {k : A → Env → M β} {post : Post β} (h : ∃ ρ S ε, Rep (gd X) ρ S H ∧ RE X.K ρ H ε σ ∧ Sat (gd X) W σ ρ H (bnd (c ε) (fun a => k a ε) S) post) :
    tE (gd X) W c σ H fun x H1 => ∃ ρ S ε a, Rep (gd X) ρ S H1 ∧ RE X.K ρ H1 ε σ ∧ RV X.K ρ H1 a x ∧ Sat (gd X) W σ ρ H1 (k a ε S) post := by
  obtain ⟨ρ, S, ε, R, r, h⟩ := h
  exact ⟨ρ, S, ε, R, r, (SatP.bnd h).imp fun a ρ' S' H' x R' q v hv => ⟨ρ', S', ε, a, R', r.mono x, hv, q⟩⟩
theorem tT_seq {β : Type} {c : CB} {k : Bool → Env → M β} {post : Post β} (h : ∃ ρ S ε, Rep (gd X) ρ S H ∧ RE X.K ρ H ε σ ∧ Sat (gd X) W σ ρ H (bnd (c ε) (fun a => k a ε) S) post) :
    tT (gd X) W c σ H fun b H1 => ∃ ρ S ε, Rep (gd X) ρ S H1 ∧ RE X.K ρ H1 ε σ ∧ Sat (gd X) W σ ρ H1 (k b ε S) post := by
  obtain ⟨ρ, S, ε, R, r, h⟩ := h
  exact ⟨ρ, S, ε, R, r, (SatP.bnd h).imp fun b ρ' S' H' x R' q => ⟨ρ', S', ε, R', r.mono x, q⟩⟩
theorem tL_seq {β : Type} {c : CL} {k : List A → Env → M β} {post : Post β} (h : ∃ ρ S ε, Rep (gd X) ρ S H ∧ RE X.K ρ H ε σ ∧ Sat (gd X) W σ ρ H (bnd (c ε) (fun a => k a ε) S) post) :
    tL (gd X) W c σ H fun xs H1 => ∃ ρ S ε as, Rep (gd X) ρ S H1 ∧ RE X.K ρ H1 ε σ ∧ RVs X.K ρ H1 as xs ∧ Sat (gd X) W σ ρ H1 (k as ε S) post := by
  obtain ⟨ρ, S, ε, R, r, h⟩ := h
  exact ⟨ρ, S, ε, R, r, (SatP.bnd h).imp fun a ρ' S' H' x R' q v hv => ⟨ρ', S', ε, a, R', r.mono x, hv, q⟩⟩

/-! ### names, constants -/
def cVar (i : Nat) : CE := fun ε S => match ε[i]? with
  | some (some a) => .ok a S
  | _ => .bad
def cC (a : A) : CE := fun _ S => .ok a S
theorem je_var {x : Str} {pos : Pos} (i : Nat) (hN : X.N[i]? = some x := by rfl) (hv : Vis X.env.scope x := by first | exact Or.inl rfl | exact Or.inr (Or.inl rfl) | exact Or.inr (Or.inr rfl)) (hd : (x == ("__debug__" : Str)) = false := by decide)
    (hcd : (x == ("__classdict__" : Str)) = false := by decide) : JE X W (.Name x pos) (cVar i) := by
  refine PE.imp (pe_var hN hv hd hcd) fun σ H Q h => ?_
  obtain ⟨ρ, S, ε, R, r, h⟩ := h
  unfold cVar at h
  cases e : ε[i]? with
  | none => rw [e] at h; exact h.elim
  | some o =>
    cases o with
    | none => rw [e] at h; exact h.elim
    | some a =>
      rw [e] at h
      obtain ⟨v, hv, rv⟩ := r.2 i a e
      exact ⟨v, hv, h ρ H Ext.refl R v rv⟩
theorem je_c {e : Expr} {a : A} {v : V} (h : PE X e (tC v)) (r : ∀ ρ H, RV X.K ρ H a v) : JE X W e (cC a) := by
  refine PE.imp h fun σ H Q h => ?_
  obtain ⟨ρ, S, ε, R, re, h⟩ := h
  exact h ρ H Ext.refl R v (r ρ H)
theorem je_int {i : Int} {j pos} : JE X W (.Constant (.int i) j pos) (cC (.int i)) := je_c pe_int fun _ _ => .int i
theorem je_bl {b : Bool} {j pos} : JE X W (.Constant (.bool b) j pos) (cC (.bl b)) := je_c pe_bl fun _ _ => .bl b
theorem je_non {j pos} : JE X W (.Constant .none j pos) (cC .non) := je_c pe_non fun _ _ => .non
theorem je_str {x : Str} {j pos} : JE X W (.Constant (.str x) j pos) (cC (.str x)) := je_c pe_str fun _ _ => .str x
theorem je_gint {x : Str} {pos : Pos} {i : Int} {t : Tok} (hm : X.mg x = some (.int i t)) (hg : Gl X x := by rfl) (hd : (x == ("__debug__" : Str)) = false := by decide) : JE X W (.Name x pos) (cC (.int i)) := je_c (v := .int i) (pe_glob hg hm ⟨t, rfl⟩ hd) fun _ _ => .int i
theorem je_gstr {x : Str} {pos : Pos} {z : Str} {t : Tok} (hm : X.mg x = some (.str z t)) (hg : Gl X x := by rfl) (hd : (x == ("__debug__" : Str)) = false := by decide) : JE X W (.Name x pos) (cC (.str z)) := je_c (v := .str z) (pe_glob hg hm ⟨t, rfl⟩ hd) fun _ _ => .str z

/-! ### and, or, not, if -/
def isB (a : A) : M Bool := match a with
  | .bl b => rt b
  | _ => stuck
def cAnd (a b : CE) : CE := fun ε => bnd (a ε) fun x => bnd (isB x) fun k => match k with
  | true => b ε
  | false => rt (.bl false)
def cOr (a b : CE) : CE := fun ε => bnd (a ε) fun x => bnd (isB x) fun k => match k with
  | true => rt (.bl true)
  | false => b ε
def cNot (a : CE) : CE := fun ε => bnd (a ε) fun x => bnd (isB x) fun k => rt (.bl (!k))
def cIf (t : CB) (a b : CE) : CE := fun ε => bnd (t ε) fun k => match k with
  | true => a ε
  | false => b ε
def bAnd (a b : CB) : CB := fun ε => bnd (a ε) fun k => match k with
  | true => b ε
  | false => rt false
def bOr (a b : CB) : CB := fun ε => bnd (a ε) fun k => match k with
  | true => rt true
  | false => b ε
def bNot (a : CB) : CB := fun ε => bnd (a ε) fun k => rt (!k)
def bOf (a : CE) : CB := fun ε => bnd (a ε) isB
theorem isB_inv {β : Type} {a : A} {x : V} {ρ : Rn} {S : Sto} {f : Bool → M β} {post : Post β} (r : RV X.K ρ H a x) (h : Sat (gd X) W σ ρ H (bnd (isB a) f S) post) : ∃ k, x = .bl k ∧ a = .bl k ∧ Sat (gd X) W σ ρ H (f k S) post := by
  cases r with
  | bl k => exact ⟨k, rfl, rfl, h⟩
  | _ => exact h.elim
theorem isB_inv0 {a : A} {x : V} {ρ : Rn} {S : Sto} {post : Post Bool} (r : RV X.K ρ H a x) (R : Rep (gd X) ρ S H) (h : Sat (gd X) W σ ρ H (isB a S) post) : ∃ k, x = .bl k ∧ post k ρ S H := by
  cases r with
  | bl k => exact ⟨k, rfl, SatP.rt h R⟩
  | _ => exact h.elim
variable {a b : Expr} {pos : Pos} {rest : List Expr} {op : BoolOp}
theorem je_one {c : CE} (h : JE X W a c) : JE X W (.BoolOp op [a] pos) c := pe_one h
theorem je_and {ca cb : CE} (ha : JE X W a ca) (hb : JE X W (.BoolOp .And (b :: rest) pos) cb) : JE X W (.BoolOp .And (a :: b :: rest) pos) (cAnd ca cb) := by
  refine PE.imp (pe_and ha hb) fun σ H Q h => ?_
  obtain ⟨ρ0, S0, ε0, R0, r0, h⟩ := h
  have q := tE_seq (c := ca) (k := fun x ε => bnd (isB x) fun k => match k with | true => cb ε | false => rt (.bl false)) ⟨ρ0, S0, ε0, R0, r0, h⟩
  obtain ⟨ρ, S, ε, R, r, q⟩ := q
  refine ⟨ρ, S, ε, R, r, q.imp fun a ρ' S' H' x R' p v hv => ?_⟩
  obtain ⟨ρ1, S1, ε1, a1, R1, r1, rv, p⟩ := p v hv
  obtain ⟨k, e1, e2, p⟩ := isB_inv rv p
  refine ⟨k, e1, ?_⟩
  cases k with
  | true => exact iteT (⟨ρ1, S1, ε1, R1, r1, p⟩)
  | false => exact iteF (p ρ1 H' Ext.refl R1 _ (.bl false))
theorem je_or {ca cb : CE} (ha : JE X W a ca) (hb : JE X W (.BoolOp .Or (b :: rest) pos) cb) : JE X W (.BoolOp .Or (a :: b :: rest) pos) (cOr ca cb) := by
  refine PE.imp (pe_or ha hb) fun σ H Q h => ?_
  obtain ⟨ρ0, S0, ε0, R0, r0, h⟩ := h
  have q := tE_seq (c := ca) (k := fun x ε => bnd (isB x) fun k => match k with | true => rt (.bl true) | false => cb ε) ⟨ρ0, S0, ε0, R0, r0, h⟩
  obtain ⟨ρ, S, ε, R, r, q⟩ := q
  refine ⟨ρ, S, ε, R, r, q.imp fun a ρ' S' H' x R' p v hv => ?_⟩
  obtain ⟨ρ1, S1, ε1, a1, R1, r1, rv, p⟩ := p v hv
  obtain ⟨k, e1, e2, p⟩ := isB_inv rv p
  refine ⟨k, e1, ?_⟩
  cases k with
  | true => exact iteT (p ρ1 H' Ext.refl R1 _ (.bl true))
  | false => exact iteF (⟨ρ1, S1, ε1, R1, r1, p⟩)
theorem je_not {ca : CE} (ha : JE X W a ca) : JE X W (.UnaryOp .Not a pos) (cNot ca) := by
  refine PE.imp (pe_not ha) fun σ H Q h => ?_
  obtain ⟨ρ0, S0, ε0, R0, r0, h⟩ := h
  have q := tE_seq (c := ca) (β := A) (k := fun x ε => bnd (isB x) fun k => rt (.bl (!k))) ⟨ρ0, S0, ε0, R0, r0, h⟩
  obtain ⟨ρ, S, ε, R, r, q⟩ := q
  refine ⟨ρ, S, ε, R, r, q.imp fun a ρ' S' H' x R' p v hv => ?_⟩
  obtain ⟨ρ1, S1, ε1, a1, R1, r1, rv, p⟩ := p v hv
  obtain ⟨k, e1, e2, p⟩ := isB_inv rv p
  exact ⟨k, e1, p ρ1 H' Ext.refl R1 _ (.bl _)⟩
theorem je_ifExp {c : Expr} {t : CB} {ca cb : CE} (hc : JT X W c t) (ha : JE X W a ca) (hb : JE X W b cb) : JE X W (.IfExp c a b pos) (cIf t ca cb) := by
  refine PE.imp (pe_ifExp hc ha hb) fun σ H Q h => ?_
  have q := tT_seq (c := t) (k := fun k ε => match k with | true => ca ε | false => cb ε) h
  obtain ⟨ρ, S, ε, R, r, q⟩ := q
  refine ⟨ρ, S, ε, R, r, q.imp fun k ρ' S' H' x R' p => ?_⟩
  obtain ⟨ρ1, S1, ε1, R1, r1, p⟩ := p
  cases k with
  | true => exact iteT (⟨ρ1, S1, ε1, R1, r1, p⟩)
  | false => exact iteF (⟨ρ1, S1, ε1, R1, r1, p⟩)
theorem jt_val {e : Expr} {c : CE} (h : JE X W e c) (he : ∀ whole, isTrue e X.env whole = (do let v ← whole; standAt e.pos; holding [v] (truthy v)) := by intro _; rfl) : JT X W e (bOf c) := by
  refine PT.imp (pt_val h he) fun σ H Q h => ?_
  obtain ⟨ρ0, S0, ε0, R0, r0, h⟩ := h
  have q := tE_seq (c := c) (k := fun x ε => isB x) ⟨ρ0, S0, ε0, R0, r0, h⟩
  obtain ⟨ρ, S, ε, R, r, q⟩ := q
  refine ⟨ρ, S, ε, R, r, q.imp fun a ρ' S' H' x R' p v hv => ?_⟩
  obtain ⟨ρ1, S1, ε1, a1, R1, r1, rv, p⟩ := p v hv
  exact isB_inv0 rv R1 p
theorem jw_and1 {ca : CB} (ha : JT X W a ca) : JW X W (.BoolOp .And [a] pos) ca := pw_and1 ha
theorem jw_or1 {ca : CB} (ha : JT X W a ca) : JW X W (.BoolOp .Or [a] pos) ca := pw_or1 ha
theorem jw_and {ca cb : CB} (ha : JT X W a ca) (hb : JW X W (.BoolOp .And (b :: rest) pos) cb) : JW X W (.BoolOp .And (a :: b :: rest) pos) (bAnd ca cb) := by
  refine PW.imp (pw_and ha hb) fun σ H Q h => ?_
  have q := tT_seq (c := ca) (k := fun k ε => match k with | true => cb ε | false => rt false) h
  obtain ⟨ρ, S, ε, R, r, q⟩ := q
  refine ⟨ρ, S, ε, R, r, q.imp fun k ρ' S' H' x R' p => ?_⟩
  obtain ⟨ρ1, S1, ε1, R1, r1, p⟩ := p
  cases k with
  | true => exact iteT (⟨ρ1, S1, ε1, R1, r1, p⟩)
  | false => exact iteF (SatP.rt p R1)
theorem jw_or {ca cb : CB} (ha : JT X W a ca) (hb : JW X W (.BoolOp .Or (b :: rest) pos) cb) : JW X W (.BoolOp .Or (a :: b :: rest) pos) (bOr ca cb) := by
  refine PW.imp (pw_or ha hb) fun σ H Q h => ?_
  have q := tT_seq (c := ca) (k := fun k ε => match k with | true => rt true | false => cb ε) h
  obtain ⟨ρ, S, ε, R, r, q⟩ := q
  refine ⟨ρ, S, ε, R, r, q.imp fun k ρ' S' H' x R' p => ?_⟩
  obtain ⟨ρ1, S1, ε1, R1, r1, p⟩ := p
  cases k with
  | true => exact iteT (SatP.rt p R1)
  | false => exact iteF (⟨ρ1, S1, ε1, R1, r1, p⟩)
theorem jt_not {ca : CB} (ha : JT X W a ca) : JT X W (.UnaryOp .Not a pos) (bNot ca) := by
  refine PT.imp (pt_not ha) fun σ H Q h => ?_
  have q := tT_seq (c := ca) (k := fun k ε => rt (!k)) h
  obtain ⟨ρ, S, ε, R, r, q⟩ := q
  refine ⟨ρ, S, ε, R, r, q.imp fun k ρ' S' H' x R' p => ?_⟩
  obtain ⟨ρ1, S1, ε1, R1, r1, p⟩ := p
  exact SatP.rt p R1

/-! ### argument lists -/
def lNil : CL := fun _ => rt []
def lCons (a : CE) (r : CL) : CL := fun ε => bnd (a ε) fun x => bnd (r ε) fun xs => rt (x :: xs)
theorem ja_nil : JA X W [] lNil := by
  refine PA.imp pa_nil fun σ H Q h => ?_
  obtain ⟨ρ, S, ε, R, r, h⟩ := h
  exact SatP.rt h R _ .nil
theorem ja_cons {e : Expr} {es : List Expr} {c : CE} {r : CL} (ha : JE X W e c) (hr : JA X W es r) (hs : starEach (e :: es) X.env = (false, eval e X.env) :: starEach es X.env := by rfl) : JA X W (e :: es) (lCons c r) := by
  refine PA.imp (pa_cons ha hr hs) fun σ H Q h => ?_
  have q := tE_seq (c := c) (k := fun x ε => bnd (r ε) fun xs => rt (x :: xs)) h
  obtain ⟨ρ, S, ε, R, re, q⟩ := q
  refine ⟨ρ, S, ε, R, re, q.imp fun a ρ' S' H' x R' p v hv => ?_⟩
  obtain ⟨ρ1, S1, ε1, a1, R1, r1, rv, p⟩ := p v hv
  refine ⟨ρ1, S1, ε1, R1, r1, (SatP.bnd p).imp fun as ρ2 S2 H2 x2 R2 q2 vs hvs => ?_⟩
  exact SatP.rt q2 R2 _ (.cons (rv.mono x2) hvs)
end

/-! ### statements -/
section
variable {X : Cx} {W : WX}
def sNext : CS := fun ε => rt (.nx ε)
def sSeq (a b : CS) : CS := fun ε => bnd (a ε) fun fl => match fl with
  | .nx ε' => b ε'
  | _ => rt fl
/-- an expression's end, in a statement -/
def stE {α : Type} (m : M α) (ε : Env) (k : α → M Fl) : M Fl := fun S => match m S with
  | .ok a S' => k a S'
  | .exc e S' => .ok (.ex e ε) S'
  | .bad => .bad
theorem Sat.stE {α : Type} {σ : L2.St} {ρ : Rn} {H : Hp} {m : M α} {ε : Env} {k : α → M Fl} {S : Sto} {D : Ends} (re : RE X.K ρ H ε σ) (h : Sat (gd X) noW σ ρ H (stE m ε k S) fun fl ρ' _ H' => FlOk (gd X) W D ρ' H' fl) :
    Sat (gd X) W σ ρ H (m S) (fun a ρ1 S1 H1 => Sat (gd X) noW σ ρ1 H1 (k a S1) fun fl ρ' _ H' => FlOk (gd X) W D ρ' H' fl) := by
  unfold EV.stE at h
  cases e : m S with
  | ok a S1 =>
    rw [e] at h
    exact fun ρ' H' x R => SatP.mono x h
  | exc e' S1 =>
    rw [e] at h
    exact fun ρ' H' v d x R z => h ρ' H' x R σ v d (re.mono x) z
  | bad =>
    rw [e] at h
    exact h
variable {st : Stmt} {rest : List Stmt} {pos : Pos} {e : Expr}
theorem jb_nil : JB X W [] sNext := by
  refine PSs.imp pss_nil fun D σ H h => ?_
  obtain ⟨ρ, S, ε, R, r, h⟩ := h
  exact SatP.rt h R σ r
theorem jb_cons {c d : CS} (h1 : JS X W st c) (h2 : JB X W rest d) : JB X W (st :: rest) (sSeq c d) := by
  refine PSs.imp (pss_cons h1 h2) fun D σ H h => ?_
  obtain ⟨ρ, S, ε, R, r, h⟩ := h
  refine ⟨ρ, S, ε, R, r, (SatP.bnd h).imp fun fl ρ1 S1 H1 x R1 q => ?_⟩
  cases fl with
  | nx ε' => exact fun σ' r' => ⟨ρ1, S1, ε', R1, r', q.imp fun _ _ _ _ _ _ z => z⟩
  | bk ε' => exact SatP.rt q R1
  | ct ε' => exact SatP.rt q R1
  | rt a => exact SatP.rt q R1
  | ex x' ε' => exact SatP.rt q R1
theorem jb_one {c : CS} (h1 : JS X W st c) : JB X W [st] c := pss_one h1
theorem js_pass : JS X W (.Pass pos) sNext := by
  refine PS.imp ps_pass fun D σ H h => ?_
  obtain ⟨ρ, S, ε, R, r, h⟩ := h
  exact SatP.rt h R σ r
def sBreak : CS := fun ε => rt (.bk ε)
def sCont : CS := fun ε => rt (.ct ε)
theorem js_break : JS X W (.Break pos) sBreak := by
  refine PS.imp ps_break fun D σ H h => ?_
  obtain ⟨ρ, S, ε, R, r, h⟩ := h
  exact SatP.rt h R σ r
theorem js_cont : JS X W (.Continue pos) sCont := by
  refine PS.imp ps_continue fun D σ H h => ?_
  obtain ⟨ρ, S, ε, R, r, h⟩ := h
  exact SatP.rt h R σ r
def sExpr (c : CE) : CS := fun ε => stE (c ε) ε fun _ => rt (.nx ε)
theorem js_expr {c : CE} (he : JE X W e c) (hs : swapsWith e none pos.line X.env = pure false := by rfl) : JS X W (.Expr e pos) (sExpr c) := by
  refine PS.imp (ps_expr he hs) fun D σ H h => ?_
  obtain ⟨ρ, S, ε, R, r, h⟩ := h
  exact ⟨ρ, S, ε, R, r, (Sat.stE r h).imp fun a ρ' S' H' x R' q v hv => SatP.rt q R' σ (r.mono x)⟩
def sRet (c : CE) : CS := fun ε => stE (c ε) ε fun a => rt (.rt a)
theorem js_ret {c : CE} (he : JE X W e c) : JS X W (.Return (some e) pos) (sRet c) := by
  refine PS.imp (ps_ret he) fun D σ H h => ?_
  obtain ⟨ρ, S, ε, R, r, h⟩ := h
  exact ⟨ρ, S, ε, R, r, (Sat.stE r h).imp fun a ρ' S' H' x R' q v hv => SatP.rt q R' v hv⟩
def sRetN : CS := fun _ => rt (.rt .non)
theorem js_retN : JS X W (.Return none pos) sRetN := by
  refine PS.imp ps_retN fun D σ H h => ?_
  obtain ⟨ρ, S, ε, R, r, h⟩ := h
  exact SatP.rt h R .non .non
def sIf (t : CB) (a b : CS) : CS := fun ε => stE (t ε) ε fun k => match k with
  | true => a ε
  | false => b ε
theorem js_if {c : Expr} {x y : List Stmt} {t : CB} {a b : CS} (hc : JT X W c t) (ha : JB X W x a) (hb : JB X W y b) : JS X W (.If c x y pos) (sIf t a b) := by
  refine PS.imp (ps_if hc ha hb) fun D σ H h => ?_
  obtain ⟨ρ, S, ε, R, r, h⟩ := h
  refine ⟨ρ, S, ε, R, r, (Sat.stE r h).imp fun k ρ' S' H' x R' q => ?_⟩
  cases k with
  | true => exact iteT (⟨ρ', S', ε, R', r.mono x, q.imp fun _ _ _ _ _ _ z => z⟩)
  | false => exact iteF (⟨ρ', S', ε, R', r.mono x, q.imp fun _ _ _ _ _ _ z => z⟩)
/-- while: at most so many turns -/
def sWhile (t : CB) (b : CS) : Nat → CS
  | 0 => fun _ => stuck
  | m + 1 => fun ε => stE (t ε) ε fun k => match k with
    | false => rt (.nx ε)
    | true => bnd (b ε) fun fl => match fl with
      | .nx ε' => sWhile t b m ε'
      | .ct ε' => sWhile t b m ε'
      | .bk ε' => rt (.nx ε')
      | _ => rt fl
theorem js_while {c : Expr} {body : List Stmt} {t : CB} {b : CS} {m : Nat} (hp : PassesOwn (model X.prog X.w) X.A X.env X.xe) (hc : JT X W c t) (hb : JB X W body b) : JS X W (.While c body [] pos) (sWhile t b m) := by
  refine PS.imp (ps_while hp hc hb) fun D σ H h => ?_
  refine ⟨fun m σ H => tS (gd X) W (sWhile t b m) D σ H, ⟨m, h⟩, fun m σ H h => ?_⟩
  obtain ⟨ρ, S, ε, R, r, h⟩ := h
  cases m with
  | zero => exact h.elim
  | succ m =>
    refine ⟨ρ, S, ε, R, r, (Sat.stE r h).imp fun k ρ1 S1 H1 x1 R1 q => ?_⟩
    have r1 := r.mono x1
    cases k with
    | false => exact iteF (SatP.rt q R1 σ r1)
    | true =>
      refine iteT ?_
      refine ⟨fun σ' H' => tS (gd X) W (sWhile t b m) D σ' H', fun σ' H' z => ⟨m, Nat.lt_succ_self _, z⟩, ρ1, S1, ε, R1, r1, (SatP.bnd q).imp fun fl ρ2 S2 H2 x2 R2 q2 => ?_⟩
      cases fl with
      | nx ε' => exact fun σ' r' => ⟨ρ2, S2, ε', R2, r', q2.imp fun _ _ _ _ _ _ z => z⟩
      | ct ε' => exact fun σ' r' => ⟨ρ2, S2, ε', R2, r', q2.imp fun _ _ _ _ _ _ z => z⟩
      | bk ε' => exact fun σ' r' => SatP.rt q2 R2 σ' r'
      | rt a => exact SatP.rt q2 R2
      | ex x' ε' => exact SatP.rt q2 R2
end
end EV

end

section
set_option Elab.async false
set_option linter.all false
set_option maxRecDepth 100000
/-! EvLoop: targets, assignments, what a loop walks, for, list comprehensions. -/
namespace EV
open PySem PySem.Spec PyProof.Rows L2

/-! ### targets: a list of stores -/
abbrev Asg := List (Nat × A)
abbrev CG := A → Sto → Option Asg
abbrev CGs := List A → Sto → Option Asg
def setE : Env → Asg → Env
  | ε, [] => ε
  | ε, (i, a) :: r => setE (ε.set i (some a)) r
def setV : L2.St → List (Nat × V) → L2.St
  | σ, [] => σ
  | σ, (i, v) :: r => setV (σ.set i (some v)) r
def AR (K : PySem.W.Frag) (ρ : Rn) (H : Hp) : Asg → List (Nat × V) → Prop := Paired fun p q => p.1 = q.1 ∧ RV K ρ H p.2 q.2
def gVar (i : Nat) : CG := fun a _ => some [(i, a)]
def gsNil : CGs := fun as _ => match as with
  | [] => some []
  | _ => none
def gsCons (g : CG) (gs : CGs) : CGs := fun as S => match as with
  | [] => none
  | x :: r => match g x S with
    | none => none
    | some l => match gs r S with
      | none => none
      | some l2 => some (l ++ l2)
def gUnp (n : Nat) (gs : CGs) : CG := fun a S => match a with
  | .tup xs => if xs.length = n then gs xs S else none
  | .ref k => match S.f k with
    | some (.lst xs) => if xs.length = n then gs xs S else none
    | _ => none
  | _ => none
section
variable {K : PySem.W.Frag} {G : Gd} {ρ : Rn} {H : Hp} {S : Sto}
theorem setV_app : ∀ (l l2 : List (Nat × V)) (σ : L2.St), setV σ (l ++ l2) = setV (setV σ l) l2
  | [], _, _ => rfl
  | (i, v) :: r, l2, σ => setV_app r l2 _
theorem setE_app : ∀ (l l2 : Asg) (ε : Env), setE ε (l ++ l2) = setE (setE ε l) l2
  | [], _, _ => rfl
  | (i, v) :: r, l2, σ => setE_app r l2 _
theorem RE.setAll : ∀ {l : Asg} {l' : List (Nat × V)} {ε : Env} {σ : L2.St}, RE K ρ H ε σ → AR K ρ H l l' → RE K ρ H (setE ε l) (setV σ l')
  | [], _, _, _, r, .nil => r
  | (i, a) :: l, (j, v) :: l', ε, σ, r, .cons q t => by
    obtain ⟨e, q⟩ := q
    cases e
    exact RE.setAll (ε := ε.set i (some a)) (σ := σ.set i (some v)) (r.set q i) t
theorem AR.app {l l2 : Asg} {m m2 : List (Nat × V)} (a : AR K ρ H l m) (b : AR K ρ H l2 m2) : AR K ρ H (l ++ l2) (m ++ m2) := by
  induction a with
  | nil => exact b
  | cons q t ih => exact .cons q ih
def tG (G : Gd) (g : CG) : TG := fun v σ H Q => ∃ ρ S a l, Rep G ρ S H ∧ RV G.K ρ H a v ∧ g a S = some l ∧ ∀ l', AR G.K ρ H l l' → Q (setV σ l') H
def tGs (G : Gd) (g : CGs) : TGs := fun vs σ H Q => ∃ ρ S as l, Rep G ρ S H ∧ RVs G.K ρ H as vs ∧ g as S = some l ∧ ∀ l', AR G.K ρ H l l' → Q (setV σ l') H
end
abbrev JG (X : Cx) (e : Expr) (g : CG) : Prop := PG X e (tG (gd X) g)
abbrev JGs (X : Cx) (es : List Expr) (g : CGs) : Prop := PGs X es (tGs (gd X) g)
theorem PG.imp {X : Cx} {e : Expr} {t t' : TG} (h : PG X e t) (k : ∀ v σ H Q, t' v σ H Q → t v σ H Q) : PG X e t' := ⟨fun pins s σ H v u Q I r q => h.run pins s σ H v u Q I r (k v σ H Q q)⟩
theorem PG.or {X : Cx} {e : Expr} {t t' : TG} (h : PG X e t) (h' : PG X e t') : PG X e (fun v σ H Q => t v σ H Q ∨ t' v σ H Q) := ⟨fun pins s σ H v u Q I r q => by
  rcases q with q | q
  · exact h.run pins s σ H v u Q I r q
  · exact h'.run pins s σ H v u Q I r q⟩
theorem PGs.imp {X : Cx} {e : List Expr} {t t' : TGs} (h : PGs X e t) (k : ∀ v σ H Q, t' v σ H Q → t v σ H Q) : PGs X e t' := ⟨fun pins s σ H v u Q I r q => h.run pins s σ H v u Q I r (k v σ H Q q)⟩
section
variable {X : Cx} {W : WX} {pos : Pos}
theorem jg_var {x : Str} (i : Nat) (hN : X.N.Nodup) (hi : X.N[i]? = some x := by rfl) (hx : Loc X.env.scope x := by first | exact Or.inl rfl | exact Or.inr rfl)
    (hf : X.fn x = true ∨ X.env.scope.names.lookup x = some .local := by first | exact .inl rfl | exact .inr rfl) : JG X (.Name x pos) (gVar i) := by
  refine PG.imp (pg_name hN hi hx hf) fun v σ H Q h => ?_
  obtain ⟨ρ, S, a, l, R, r, e, h⟩ := h
  cases e
  exact h [(i, v)] (.cons ⟨rfl, r⟩ .nil)
theorem jgs_nil : JGs X [] gsNil := by
  refine PGs.imp pgs_nil fun v σ H Q h => ?_
  obtain ⟨ρ, S, a, l, R, r, e, h⟩ := h
  cases r with
  | nil =>
    cases e
    exact ⟨rfl, h [] .nil⟩
  | cons _ _ => cases e
theorem jgs_cons {e : Expr} {es : List Expr} {g : CG} {gs : CGs} (h1 : JG X e g) (h2 : JGs X es gs)
    (hs : (assignEach (e :: es) X.env).map (·.2) = assign e X.env :: (assignEach es X.env).map (·.2) := by rfl) : JGs X (e :: es) (gsCons g gs) := by
  refine PGs.imp (pgs_cons h1 h2 hs) fun v σ H Q h => ?_
  obtain ⟨ρ, S, a, l, R, r, e, h⟩ := h
  cases r with
  | nil => cases e
  | @cons a v as vs r rs =>
    unfold gsCons at e
    dsimp only at e
    cases e1 : g a S with
    | none => rw [e1] at e; cases e
    | some l1 =>
      rw [e1] at e
      cases e2 : gs as S with
      | none => rw [e2] at e; cases e
      | some l2 =>
        rw [e2] at e
        cases e
        exact ⟨v, vs, rfl, ρ, S, a, l1, R, r, e1, fun l1' r1 => ⟨ρ, S, as, l2, R, rs, e2, fun l2' r2 => by rw [← setV_app]; exact h _ (r1.app r2)⟩⟩
theorem jg_unp {es : List Expr} {k : Nat} {gs : CGs} {n : Nat} (hc : X.calm = true) (h : JGs X es gs)
    (hn : (assignEach es X.env).length = n := by rfl) (hst : (assignEach es X.env).findIdx? (·.1) = none := by rfl) : JG X (.Tuple es k pos) (gUnp n gs) := by
  refine PG.imp (PG.or (pg_tup hc h hn hst) (pg_lst hc h hn hst)) fun v σ H Q h => ?_
  obtain ⟨ρ, S, a, l, R, r, e, h⟩ := h
  cases r with
  | @tup p vs xs q rs =>
    unfold gUnp at e
    dsimp only at e
    by_cases hl : xs.length = n
    · rw [if_pos hl] at e
      exact .inl ⟨p, vs, rfl, SqT.of q, by rw [← rs.length, hl], ρ, S, xs, l, R, rs, e, h⟩
    · rw [if_neg hl] at e; cases e
  | @ref m p q =>
    unfold gUnp at e
    dsimp only at e
    obtain ⟨o, u, e1, e2, e3⟩ := R.there q
    rw [e1] at e
    cases e3 with
    | @lst xs vs rs =>
      dsimp only at e
      by_cases hl : xs.length = n
      · rw [if_pos hl] at e
        exact .inr ⟨p, vs, rfl, SqL.of e2, by rw [← rs.length, hl], ρ, S, xs, l, R, rs, e, h⟩
      · rw [if_neg hl] at e; cases e
    | _ => cases e
  | _ => cases e
/-! ### assignments -/
def sAsg (c : CE) (g : CG) : CS := fun ε => stE (c ε) ε fun a S => match g a S with
  | some l => .ok (.nx (setE ε l)) S
  | none => .bad
theorem asg_in {D : Ends} {σ : L2.St} {H : Hp} {c : CE} {g : CG} (h : tS (gd X) W (sAsg c g) D σ H) : tE (gd X) W c σ H fun x H1 => tG (gd X) g x σ H1 D.nx := by
  obtain ⟨ρ, S, ε, R, r, h⟩ := h
  refine ⟨ρ, S, ε, R, r, (Sat.stE r h).imp fun a ρ' S' H' x R' q v hv => ?_⟩
  cases e : g a S' with
  | none => rw [e] at q; exact q.elim
  | some l =>
    rw [e] at q
    exact ⟨ρ', S', a, l, R', hv, e, fun l' al => q ρ' H' Ext.refl R' _ ((r.mono x).setAll al)⟩
theorem js_asg {tg e : Expr} {c : CE} {g : CG} (he : JE X W e c) (hg : JG X tg g) (hs : swapsWithSole [tg] e pos.line X.env = pure false := by rfl) (hw : swappedStores [tg] e X.env = pure none := by rfl)
    (h1 : (assignEach [tg] X.env).map (·.2) = [assign tg X.env] := by rfl) : JS X W (.Assign [tg] e pos) (sAsg c g) :=
  PS.imp (ps_asg he hg hs hw h1) fun D σ H h => asg_in h
theorem js_set {x : Str} {e : Expr} {c : CE} {p2 : Pos} (i : Nat) (hN : X.N.Nodup) (he : JE X W e c) (hi : X.N[i]? = some x := by rfl) (hx : Loc X.env.scope x := by first | exact Or.inl rfl | exact Or.inr rfl)
    (hs : swapsWith e (some (.Name x p2)) pos.line X.env = pure false := by rfl) (hf : X.fn x = true ∨ X.env.scope.names.lookup x = some .local := by first | exact .inl rfl | exact .inr rfl) : JS X W (.Assign [.Name x p2] e pos) (sAsg c (gVar i)) := by
  refine PS.imp (ps_set hN hi hx he hs hf) fun D σ H h => ?_
  obtain ⟨ρ, S, ε, R, r, q⟩ := asg_in h
  refine ⟨ρ, S, ε, R, r, q.imp fun a ρ' S' H' x R' p v hv => ?_⟩
  obtain ⟨ρ1, S1, a1, l, R1, rv, e, k⟩ := p v hv
  cases e
  exact k [(i, v)] (.cons ⟨rfl, rv⟩ .nil)
/-- a, b = x, y: two plain names -/
def sPar (i j : Nat) (c : CL) : CS := fun ε => stE (c ε) ε fun as => match as with
  | [a, b] => rt (.nx ((ε.set i (some a)).set j (some b)))
  | _ => stuck
theorem js_par {x y : Str} {a b : Expr} {c : CL} {px py pt : Pos} {kt k2 pt2} (i j : Nat) (hc : X.calm = true) (hN : X.N.Nodup) (ha : JA X W [a, b] c) (hi : X.N[i]? = some x := by rfl) (hj : X.N[j]? = some y := by rfl) (hij : i ≠ j := by decide)
    (hx : X.env.scope.names.lookup x = some .local := by rfl) (hy : X.env.scope.names.lookup y = some .local := by rfl)
    (hw : swappedStores [.Tuple [.Name x px, .Name y py] kt pt] (.Tuple [a, b] k2 pt2) X.env = pure (some [x, y]) := by rfl)
    (hs : swapsWithSole [.Tuple [.Name x px, .Name y py] kt pt] (.Tuple [a, b] k2 pt2) pos.line X.env = pure false := by rfl) :
    JS X W (.Assign [.Tuple [.Name x px, .Name y py] kt pt] (.Tuple [a, b] k2 pt2) pos) (sPar i j c) := by
  refine PS.imp (ps_par hc hN hi hj hij hx hy ha hw hs) fun D σ H h => ?_
  obtain ⟨ρ, S, ε, R, r, h⟩ := h
  refine ⟨ρ, S, ε, R, r, (Sat.stE r h).imp fun as ρ' S' H' x R' q vs hv => ?_⟩
  cases hv with
  | nil => exact q.elim
  | cons r1 t =>
    cases t with
    | nil => exact q.elim
    | cons r2 t =>
      cases t with
      | nil => exact ⟨_, _, rfl, q ρ' H' Ext.refl R' _ (((r.mono x).set r1 i).set r2 j)⟩
      | cons _ _ => exact q.elim

/-! ### what a loop walks -/
structure IT where
  nxt : Nat → Sto → Option (Option A)
  k : Nat
abbrev CI := Env → M IT
def IOk (G : Gd) (ρ : Rn) (H : Hp) (it : IT) (J : It) : Prop := ∀ ρ1 H1 S1, Ext G.K ρ H ρ1 H1 → Rep G ρ1 S1 H1 → ∀ i, match it.nxt i S1 with
  | none => True
  | some none => J.stop i H1
  | some (some a) => J.go i H1 ∧ ∀ x H', J.yld i H1 x H' → Ext G.K ρ1 H1 ρ1 H' ∧ Rep G ρ1 S1 H' ∧ RV G.K ρ1 H' a x
def tI (G : Gd) (W : WX) (c : CI) : TI := fun σ H R => ∃ ρ S ε, Rep G ρ S H ∧ RE G.K ρ H ε σ ∧ Sat G W σ ρ H (c ε S) fun it ρ' S' H' => ∀ J, IOk G ρ' H' it J → R J H'
abbrev JI (X : Cx) (W : WX) (tg iter : Expr) (c : CI) : Prop := PI X tg iter (tI (gd X) W c)
theorem PI.imp {tg iter : Expr} {t t' : TI} (h : PI X tg iter t) (k : ∀ σ H R, t' σ H R → t σ H R) : PI X tg iter t' := ⟨fun pins s σ H R I q => h.run pins s σ H R I (k σ H R q)⟩

/-- the turns of a for -/
def forGo (it : IT) (g : CG) (b : CS) : Nat → Nat → CS
  | 0, i => fun ε S => match it.nxt i S with
    | some none => .ok (.nx ε) S
    | _ => .bad
  | m + 1, i => fun ε S => match it.nxt i S with
    | none => .bad
    | some none => .ok (.nx ε) S
    | some (some a) => match g a S with
      | none => .bad
      | some l => bnd (b (setE ε l)) (fun fl => match fl with
        | .nx ε' => forGo it g b m (i + 1) ε'
        | .ct ε' => forGo it g b m (i + 1) ε'
        | .bk ε' => rt (.nx ε')
        | _ => rt fl) S
def sFor (c : CI) (g : CG) (b : CS) : CS := fun ε => stE (c ε) ε fun it => forGo it g b it.k 0 ε
theorem js_for {tg iter : Expr} {body : List Stmt} {c : CI} {g : CG} {b : CS} (hp : PassesOwn (model X.prog X.w) X.A X.env X.xe) (hc : X.calm = true) (hi : JI X W tg iter c) (hg : JG X tg g) (hb : JB X W body b)
    (hs : ∀ x, foldedSetIterable iter X.env x = pure x := by intro _; rfl) : JS X W (.For tg iter body [] pos) (sFor c g b) := by
  refine PS.imp (ps_for hp hc hi hg hb hs) fun D σ H h => ?_
  obtain ⟨ρ, S, ε, R, r, h⟩ := h
  refine ⟨ρ, S, ε, R, r, (Sat.stE r h).imp fun it ρ0 S0 H0 x0 R0 q J hJ => ?_⟩
  refine ⟨fun i m σ H => ∃ ρ1 S1 ε1, Ext X.K ρ0 H0 ρ1 H ∧ Rep (gd X) ρ1 S1 H ∧ RE X.K ρ1 H ε1 σ ∧ Sat (gd X) noW σ ρ1 H (forGo it g b m i ε1 S1) fun fl ρ' _ H' => FlOk (gd X) W D ρ' H' fl,
    ⟨it.k, ρ0, S0, ε, Ext.refl, R0, r.mono x0, q.imp fun _ _ _ _ _ _ z => z⟩, fun i m σ H w => ?_⟩
  obtain ⟨ρ1, S1, ε1, x1, R1, r1, q⟩ := w
  have hj := hJ ρ1 H S1 x1 R1 i
  cases e : it.nxt i S1 with
  | none =>
    cases m <;> (unfold forGo at q; rw [e] at q; exact q.elim)
  | some o =>
    rw [e] at hj
    cases o with
    | none =>
      refine .inl ⟨hj, ?_⟩
      cases m <;> (unfold forGo at q; rw [e] at q; exact q ρ1 H Ext.refl R1 σ r1)
    | some a =>
      obtain ⟨hgo, hy⟩ := hj
      cases m with
      | zero => unfold forGo at q; rw [e] at q; exact q.elim
      | succ m =>
        refine .inr ⟨hgo, fun σ' H' => ∃ ρ2 S2 ε2, Ext X.K ρ0 H0 ρ2 H' ∧ Rep (gd X) ρ2 S2 H' ∧ RE X.K ρ2 H' ε2 σ' ∧ Sat (gd X) noW σ' ρ2 H' (forGo it g b m (i + 1) ε2 S2) fun fl ρ' _ H' => FlOk (gd X) W D ρ' H' fl,
          fun σ' H' z => ⟨m, Nat.lt_succ_self _, z⟩, fun x H' y => ?_⟩
        obtain ⟨xy, Ry, ry⟩ := hy x H' y
        unfold forGo at q
        try dsimp only at q
        rw [e] at q
        try dsimp only at q
        cases eg : g a S1 with
        | none => rw [eg] at q; exact q.elim
        | some l =>
          rw [eg] at q
          refine ⟨ρ1, S1, a, l, Ry, ry, eg, fun l' al => ⟨ρ1, S1, setE ε1 l, Ry, (r1.mono xy).setAll al, (SatP.bnd (SatP.mono xy q)).imp fun fl ρ2 S2 H2 x2 R2 q2 => ?_⟩⟩
          have x12 : Ext X.K ρ0 H0 ρ2 H2 := (x1.trans xy).trans x2
          cases fl with
          | nx ε' => exact fun σ' r' => ⟨ρ2, S2, ε', x12, R2, r', q2.imp fun _ _ _ _ _ _ z => z⟩
          | ct ε' => exact fun σ' r' => ⟨ρ2, S2, ε', x12, R2, r', q2.imp fun _ _ _ _ _ _ z => z⟩
          | bk ε' => exact fun σ' r' => SatP.rt q2 R2 σ' r'
          | rt a => exact SatP.rt q2 R2
          | ex x' ε' => exact SatP.rt q2 R2
end
end EV

end

section
set_option Elab.async false
set_option linter.all false
set_option maxRecDepth 100000
/-! EvComp: list comprehensions of one clause. -/
namespace EV
open PySem PySem.Spec PyProof.Rows L2

def wipeE (ε : Env) : List Nat → Env
  | [] => ε
  | v :: vs => (wipeE ε vs).set v none
theorem wipe_get (σ : L2.St) (i : Nat) : ∀ vs : List Nat, (wipe σ vs)[i]? = if i ∈ vs ∧ i < σ.length then some none else σ[i]?
  | [] => by simp [wipe]
  | v :: vs => by
    unfold wipe
    rw [List.getElem?_set, wipe_get σ i vs, wipe_length]
    by_cases h : v = i
    · subst h
      rw [if_pos rfl]
      by_cases h2 : v < σ.length
      · rw [if_pos h2, if_pos ⟨List.mem_cons_self, h2⟩]
      · rw [if_neg h2, if_neg (fun z => h2 z.2), List.getElem?_eq_none (by omega)]
    · rw [if_neg h]
      have e : (i ∈ v :: vs ∧ i < σ.length) ↔ (i ∈ vs ∧ i < σ.length) := by
        rw [List.mem_cons]
        constructor
        · rintro ⟨z | z, l⟩
          · exact absurd z.symm h
          · exact ⟨z, l⟩
        · rintro ⟨z, l⟩
          exact ⟨.inr z, l⟩
      by_cases h2 : i ∈ vs ∧ i < σ.length
      · rw [if_pos h2, if_pos (e.mpr h2)]
      · rw [if_neg h2, if_neg (fun z => h2 (e.mp z))]
theorem wipeE_get (σ : Env) (i : Nat) : ∀ vs : List Nat, (wipeE σ vs)[i]? = if i ∈ vs ∧ i < σ.length then some none else σ[i]?
  | [] => by simp [wipeE]
  | v :: vs => by
    have hl : ∀ vs : List Nat, (wipeE σ vs).length = σ.length := by
      intro vs
      induction vs with
      | nil => rfl
      | cons v vs ih => unfold wipeE; rw [List.length_set, ih]
    unfold wipeE
    rw [List.getElem?_set, wipeE_get σ i vs, hl]
    by_cases h : v = i
    · subst h
      rw [if_pos rfl]
      by_cases h2 : v < σ.length
      · rw [if_pos h2, if_pos ⟨List.mem_cons_self, h2⟩]
      · rw [if_neg h2, if_neg (fun z => h2 z.2), List.getElem?_eq_none (by omega)]
    · rw [if_neg h]
      have e : (i ∈ v :: vs ∧ i < σ.length) ↔ (i ∈ vs ∧ i < σ.length) := by
        rw [List.mem_cons]
        constructor
        · rintro ⟨z | z, l⟩
          · exact absurd z.symm h
          · exact ⟨z, l⟩
        · rintro ⟨z, l⟩
          exact ⟨.inr z, l⟩
      by_cases h2 : i ∈ vs ∧ i < σ.length
      · rw [if_pos h2, if_pos (e.mpr h2)]
      · rw [if_neg h2, if_neg (fun z => h2 (e.mp z))]
theorem wipeE_length (σ : Env) : ∀ vs : List Nat, (wipeE σ vs).length = σ.length
  | [] => rfl
  | v :: vs => by unfold wipeE; rw [List.length_set, wipeE_length σ vs]
section
variable {K : PySem.W.Frag} {ρ : Rn} {H : Hp}
theorem RE.wipe {ε : Env} {σ : L2.St} (r : RE K ρ H ε σ) (vs : List Nat) : RE K ρ H (wipeE ε vs) (wipe σ vs) := by
  refine ⟨by rw [wipeE_length, wipe_length]; exact r.1, fun i a e => ?_⟩
  rw [wipeE_get] at e
  rw [wipe_get]
  by_cases h : i ∈ vs ∧ i < ε.length
  · rw [if_pos h] at e; cases e
  · rw [if_neg h] at e
    rw [if_neg (by rw [← r.1]; exact h)]
    exact r.2 i a e
theorem wipe_setV {vs : List Nat} : ∀ {l : List (Nat × V)} {σ : L2.St}, (∀ p ∈ l, p.1 ∈ vs) → wipe (setV σ l) vs = wipe σ vs
  | [], _, _ => rfl
  | (i, v) :: l, σ, h => by
    show wipe (setV (σ.set i (some v)) l) vs = _
    rw [wipe_setV fun p hp => h p (List.mem_cons_of_mem _ hp)]
    have hi := h (i, v) List.mem_cons_self
    apply List.ext_getElem?
    intro j
    rw [wipe_get, wipe_get, List.length_set]
    by_cases hj : j ∈ vs ∧ j < σ.length
    · rw [if_pos hj, if_pos hj]
    · rw [if_neg hj, if_neg hj, List.getElem?_set]
      by_cases e : i = j
      · subst e
        have hlt : ¬ i < σ.length := fun z => hj ⟨hi, z⟩
        rw [if_pos rfl, if_neg hlt, List.getElem?_eq_none (by omega)]
      · rw [if_neg e]
theorem wipe_twice {vs : List Nat} (σ : L2.St) : wipe (wipe σ vs) vs = wipe σ vs := by
  apply List.ext_getElem?
  intro j
  rw [wipe_get, wipe_get, wipe_length]
  by_cases hj : j ∈ vs ∧ j < σ.length
  · rw [if_pos hj, if_pos hj]
  · rw [if_neg hj]
theorem AR.ix {l : Asg} {l' : List (Nat × V)} (r : AR K ρ H l l') : ∀ p ∈ l', ∃ q ∈ l, q.1 = p.1 := by
  induction r with
  | nil => intro p h; cases h
  | @cons a b as bs q t ih =>
    intro p h
    rcases List.mem_cons.mp h with e | h
    · exact ⟨a, List.mem_cons_self, by rw [e]; exact q.1⟩
    · obtain ⟨x, h1, h2⟩ := ih p h
      exact ⟨x, List.mem_cons_of_mem _ h1, h2⟩
end
/-- the slots of a target -/
def Inn (g : CG) (vs : List Nat) : Prop := ∀ a S l, g a S = some l → ∀ p ∈ l, p.1 ∈ vs
def Inns (g : CGs) (vs : List Nat) : Prop := ∀ a S l, g a S = some l → ∀ p ∈ l, p.1 ∈ vs
theorem inn_var {i : Nat} {vs : List Nat} (h : i ∈ vs := by decide) : Inn (gVar i) vs := by
  intro a S l e p hp
  cases e
  rw [List.mem_singleton.mp hp]
  exact h
theorem inns_nil {vs : List Nat} : Inns gsNil vs := by
  intro a S l e p hp
  cases a <;> cases e
  cases hp
theorem inns_cons {g : CG} {gs : CGs} {vs : List Nat} (h : Inn g vs) (hs : Inns gs vs) : Inns (gsCons g gs) vs := by
  intro a S l e p hp
  cases a with
  | nil => cases e
  | cons x r =>
    unfold gsCons at e
    dsimp only at e
    cases e1 : g x S with
    | none => rw [e1] at e; cases e
    | some l1 =>
      rw [e1] at e
      cases e2 : gs r S with
      | none => rw [e2] at e; cases e
      | some l2 =>
        rw [e2] at e
        cases e
        rcases List.mem_append.mp hp with z | z
        · exact h _ _ _ e1 p z
        · exact hs _ _ _ e2 p z
theorem inn_unp {gs : CGs} {n : Nat} {vs : List Nat} (h : Inns gs vs) : Inn (gUnp n gs) vs := by
  intro a S l e p hp
  unfold gUnp at e
  split at e
  · split at e
    · exact h _ _ _ e p hp
    · cases e
  · split at e
    · split at e
      · exact h _ _ _ e p hp
      · cases e
    · cases e
  · cases e

/-- the turns of a comprehension -/
def lcGo (it : IT) (g : CG) (t : CB) (e : CE) : Nat → Nat → Env → M (List A)
  | 0, i, ε => fun S => match it.nxt i S with
    | some none => .ok [] S
    | _ => .bad
  | m + 1, i, ε => fun S => match it.nxt i S with
    | none => .bad
    | some none => .ok [] S
    | some (some a) => match g a S with
      | none => .bad
      | some l => bnd (t (setE ε l)) (fun b => match b with
        | true => bnd (e (setE ε l)) fun y => bnd (lcGo it g t e m (i + 1) ε) fun ys => rt (y :: ys)
        | false => lcGo it g t e m (i + 1) ε) S
def newL (ys : List A) : M A := fun S => .ok (.ref S.n) (S.new (.lst ys))
/-- nothing raised leaves a comprehension here -/
def noX {α : Type} (m : M α) : M α := fun S => match m S with
  | .ok a S' => .ok a S'
  | _ => .bad
def lcAll (it : IT) (g : CG) (t : CB) (e : CE) (ε : Env) : M (List A) := if it.k ≤ 16777216 then lcGo it g t e it.k 0 ε else stuck
def cLc (c : CI) (g : CG) (t : CB) (e : CE) (vs : List Nat) : CE := fun ε => bnd (c ε) fun it => bnd (noX (lcAll it g t e (wipeE ε vs))) newL
abbrev JTs (X : Cx) (W : WX) (ifs : List Expr) (t : CB) : Prop := PTs X ifs (tT (gd X) W t)
def bYes : CB := fun _ => rt true
section
variable {X : Cx} {W : WX} {pos : Pos}
theorem PTs.imp {ifs : List Expr} {t t' : TT} (h : PTs X ifs t) (k : ∀ σ H Q, t' σ H Q → t σ H Q) : PTs X ifs t' := ⟨fun pins s σ H Q I q => h.run pins s σ H Q I (k σ H Q q)⟩
theorem jts_nil : JTs X W [] bYes := by
  refine PTs.imp pts_nil fun σ H Q h => ?_
  obtain ⟨ρ, S, ε, R, r, h⟩ := h
  exact SatP.rt h R
theorem jts_one {c : Expr} {t : CB} (h : JT X W c t) : JTs X W [c] t := pts_one h
/-- where a new list has been laid at D, the wish holds with D set aside -/
theorem SatP.aside {α : Type} {σ : L2.St} {ρ : Rn} {H : Hp} {r : Res α} {post : Post α} {D : Addr} {u : HO} (h : Sat (gd X) W σ ρ H r post) (hD : H D = none) : SatP (fun p => p ≠ D) (gd X) W σ ρ (upd H D u) r post := by
  have key : ∀ {ρ' : Rn} {H' : Hp}, ExtP (fun p => p ≠ D) (gd X).K ρ (upd H D u) ρ' H' → Ext (gd X).K ρ H ρ' H' := fun {ρ' H'} x =>
    ⟨x.m, fun p vs t => x.t p vs (sqT_upd (.inl hD) t), fun p o _ e n => by
      have ne : p ≠ D := fun z => by rw [z, hD] at e; cases e
      exact x.k p o ne (by rw [upd_ne ne]; exact e) n, fun p o u e => x.z p o u (by rw [upd_ne fun z => by rw [z, hD] at e; cases e]; exact e)⟩
  cases r with
  | ok a S => exact fun ρ' H' x R => h ρ' H' (key x) R
  | exc e S => exact fun ρ' H' v d x R z => h ρ' H' v d (key x) R z
  | bad => exact h
theorem SatP.noX {Pv : Addr → Prop} {α : Type} {G : Gd} {σ : L2.St} {ρ : Rn} {H : Hp} {m : M α} {S : Sto} {post : Post α} (h : SatP Pv G W σ ρ H (EV.noX m S) post) : SatP Pv G noW σ ρ H (m S) post := by
  unfold EV.noX at h
  cases e : m S with
  | ok a S1 => rw [e] at h; exact h
  | exc x S1 => rw [e] at h; exact h.elim
  | bad => rw [e] at h; exact h
theorem SatP.sig {Pv : Addr → Prop} {α : Type} {G : Gd} {σ τ : L2.St} {ρ : Rn} {H : Hp} {r : Res α} {post : Post α} (h : SatP Pv G noW σ ρ H r post) : SatP Pv G noW τ ρ H r post := by
  cases r with
  | ok a S1 => exact h
  | exc x S1 => exact h
  | bad => exact h
/-- a place that stands already gets a handle -/
theorem Rep.adopt {G : Gd} {ρ : Rn} {S : Sto} {H : Hp} (R : Rep G ρ S H) {p : Addr} {o : Ob} {h : HO} (hp : H p = some h) (nq : ∀ n, ρ n ≠ some p) (r : ObR G (ren ρ S.n p) H o h) : Rep G (ren ρ S.n p) (S.new o) H ∧ ExtP (fun q => q ≠ p) G.K ρ H (ren ρ S.n p) H := by
  have x : ExtP (fun q => q ≠ p) G.K ρ H (ren ρ S.n p) H := by
    refine ⟨fun n q e => ?_, fun _ _ t => t, fun q o c e n => ⟨e, fun m z => ?_⟩, fun _ _ _ e => e⟩
    · unfold ren
      rw [if_neg fun z => by rw [z, R.fresh] at e; cases e]
      exact e
    · unfold ren at z
      by_cases hm : m = S.n
      · rw [if_pos hm] at z
        exact c (Option.some.inj z).symm
      · rw [if_neg hm] at z
        exact n m z
  refine ⟨⟨fun n u e => ?_, fun n m q e1 e2 => ?_, fun n q e => ?_⟩, x⟩
  · unfold Sto.new at e
    dsimp only at e
    by_cases hn : n = S.n
    · rw [if_pos hn] at e
      cases e
      subst hn
      exact ⟨p, h, ren_self, hp, r⟩
    · rw [if_neg hn] at e
      obtain ⟨q, u', e1, e2, e3⟩ := R.ob n u e
      exact ⟨q, u', x.m _ _ e1, e2, e3.mono x⟩
  · unfold ren at e1 e2
    by_cases h1 : n = S.n
    · by_cases h2 : m = S.n
      · rw [h1, h2]
      · rw [if_pos h1] at e1
        rw [if_neg h2] at e2
        cases e1
        exact absurd e2 (nq m)
    · by_cases h2 : m = S.n
      · rw [if_neg h1] at e1
        rw [if_pos h2] at e2
        cases e2
        exact absurd e1 (nq n)
      · rw [if_neg h1] at e1
        rw [if_neg h2] at e2
        exact R.inj _ _ _ e1 e2
  · unfold ren at e
    unfold Sto.new
    dsimp only
    by_cases h1 : n = S.n
    · subst h1
      exact ⟨Nat.lt_succ_self _, o, if_pos rfl⟩
    · rw [if_neg h1] at e
      obtain ⟨a, u, b⟩ := R.lt _ _ e
      exact ⟨Nat.lt_succ_of_lt a, u, by rw [if_neg h1]; exact b⟩
theorem lc_in {it : IT} {g : CG} {t : CB} {e : CE} {vs : List Nat} {σ : L2.St} {Q : VK} {ρ0 : Rn} {H0 : Hp} {S0 : Sto} {ε : Env} {J : It} (inn : Inn g vs) (hJ : IOk (gd X) ρ0 H0 it J) (R0 : Rep (gd X) ρ0 S0 H0) (re : RE X.K ρ0 H0 ε σ)
    (h : Sat (gd X) W σ ρ0 H0 (bnd (EV.noX (lcAll it g t e (wipeE ε vs))) newL S0) fun a ρ' _ H' => ∀ x, RV X.K ρ' H' a x → Q x H') :
    ∀ D, H0 D = none → ∃ Wv : Nat → Nat → Hp → Prop, (∃ m, Wv 0 m (upd H0 D (.lst []))) ∧ ∀ i m H, Wv i m H →
      (J.stop i H ∧ Q (.ref D) H) ∨ (J.go i H ∧ ∃ Nx : Hp → Prop, (∀ H', Nx H' → ∃ m', m' < m ∧ Wv (i + 1) m' H') ∧ ∀ x H', J.yld i H x H' → tG (gd X) g x (wipe σ vs) H' fun σ2 H2 => wipe σ2 vs = wipe σ vs ∧ tT (gd X) noW t σ2 H2 fun b H3 =>
        if b = true then tE (gd X) noW e σ2 H3 fun y H4 => ∃ acc, H4 D = some (.lst acc) ∧ acc.length < sizeLine ∧ Nx (upd H4 D (.lst (acc ++ [y]))) else Nx H3) := by
  intro D hD
  have hk : it.k ≤ 16777216 := by
    by_cases z : it.k ≤ 16777216
    · exact z
    · have q := SatP.noX (SatP.bnd h)
      unfold lcAll at q
      rw [if_neg z] at q
      exact q.elim
  obtain ⟨RD, XD⟩ := R0.tup (h := .lst []) hD
  have nD : ∀ n, ρ0 n ≠ some D := fun n z => by
    obtain ⟨_, u, _, hu, _⟩ := R0.there z
    rw [hD] at hu; cases hu
  have hA := SatP.noX (SatP.bnd (SatP.aside (u := .lst []) h hD))
  unfold lcAll at hA
  rw [if_pos hk] at hA
  refine ⟨fun i m H => ∃ ρ1 S1 acc vacc, Ext X.K ρ0 H0 ρ1 H ∧ Rep (gd X) ρ1 S1 H ∧ (∀ n, ρ1 n ≠ some D) ∧ H D = some (.lst vacc) ∧ RVs X.K ρ1 H acc vacc ∧ acc.length ≤ i ∧ i + m ≤ 16777216 ∧ RE X.K ρ1 H (wipeE ε vs) (wipe σ vs) ∧
      SatP (fun p => p ≠ D) (gd X) noW σ ρ1 H (lcGo it g t e m i (wipeE ε vs) S1) fun ys ρ' S' H' => SatP (fun p => p ≠ D) (gd X) W σ ρ' H' (newL (acc ++ ys) S') fun a ρ' _ H' => ∀ x, RV X.K ρ' H' a x → Q x H',
    ⟨it.k, ρ0, S0, [], [], XD, RD, nD, upd_same, .nil, Nat.zero_le _, by omega, (re.mono XD).wipe vs, hA⟩, fun i m H w => ?_⟩
  obtain ⟨ρ1, S1, acc, vacc, x1, R1, n1, d1, rv, li, lm, re1, q⟩ := w
  have hj := hJ ρ1 H S1 x1 R1 i
  cases eN : it.nxt i S1 with
  | none => cases m <;> (unfold lcGo at q; rw [eN] at q; exact q.elim)
  | some o =>
    rw [eN] at hj
    cases o with
    | none =>
      refine .inl ⟨hj, ?_⟩
      have q' : SatP (fun p => p ≠ D) (gd X) W σ ρ1 H (newL acc S1) fun a ρ' _ H' => ∀ x, RV X.K ρ' H' a x → Q x H' := by
        cases m <;> (unfold lcGo at q; rw [eN] at q; have := SatP.rt (a := []) q R1; rw [List.append_nil] at this; exact this)
      obtain ⟨Ra, xa⟩ := R1.adopt (o := .lst acc) d1 n1 (.lst (rv.mono (R1.adopt (o := .lst acc) (h := .lst vacc) d1 n1 (.lst (by
        exact RVs.mono (Pv := fun q => q ≠ D) (ρ := ρ1) (H := H) ⟨fun n p e => by unfold ren; rw [if_neg fun z => by rw [z, R1.fresh] at e; cases e]; exact e, fun _ _ t => t, fun p o c e nn => ⟨e, fun m z => by
          unfold ren at z
          by_cases hm : m = S1.n
          · rw [if_pos hm] at z; exact c (Option.some.inj z).symm
          · rw [if_neg hm] at z; exact nn m z⟩, fun _ _ _ e => e⟩ rv))).2))
      exact q' _ H xa Ra _ (.ref ren_self)
    | some a =>
      obtain ⟨hgo, hy⟩ := hj
      cases m with
      | zero => unfold lcGo at q; rw [eN] at q; exact q.elim
      | succ m =>
        refine .inr ⟨hgo, _, fun H' z => ⟨m, Nat.lt_succ_self _, z⟩, fun x H' y => ?_⟩
        obtain ⟨xy, Ry, ry⟩ := hy x H' y
        unfold lcGo at q
        rw [eN] at q
        dsimp only at q
        cases eg : g a S1 with
        | none => rw [eg] at q; exact q.elim
        | some l =>
          rw [eg] at q
          dsimp only at q
          refine ⟨ρ1, S1, a, l, Ry, ry, eg, fun l' al => ⟨?_, ?_⟩⟩
          · rw [wipe_setV, wipe_twice]
            intro p hp
            obtain ⟨q, h1, h2⟩ := al.ix p hp
            rw [← h2]
            exact inn _ _ _ eg q h1
          · have qy := SatP.bnd (SatP.mono (ExtP.of xy) q)
            refine ⟨ρ1, S1, setE (wipeE ε vs) l, Ry, (re1.mono xy).setAll al, SatP.sig (qy.toSat fun b ρ2 S2 H3 x2 R2 q2 => ?_)⟩
            have dy := (xy.k D _ trivial d1 n1)
            have d3 := x2.k D _ trivial dy.1 dy.2
            have x13 : Ext X.K ρ1 H ρ2 H3 := xy.trans x2
            cases b with
            | false =>
              refine iteF ?_
              exact ⟨ρ2, S2, acc, vacc, x1.trans x13, R2, d3.2, d3.1, rv.mono x13, by omega, by omega, re1.mono x13, q2⟩
            | true =>
              refine iteT ?_
              refine ⟨ρ2, S2, setE (wipeE ε vs) l, R2, (re1.mono x13).setAll (Paired.mapP al fun _ _ z => ⟨z.1, z.2.mono x2⟩), SatP.sig ((SatP.bnd q2).toSat fun ya ρ3 S3 H4 x3 R3 q3 yv hyv => ?_)⟩
              have d4 := x3.k D _ trivial d3.1 d3.2
              have x14 : Ext X.K ρ1 H ρ3 H4 := x13.trans x3
              have vl : vacc.length = acc.length := rv.length.symm
              obtain ⟨Ro, to⟩ := R3.out (h := .lst (vacc ++ [yv])) d4.2 (fun u hu => by rw [d4.1] at hu; cases hu; exact fun vs => ⟨fun z => (nomatch z), fun o z => (nomatch z)⟩)
              have xo : ExtP (fun p => p ≠ D) X.K ρ3 H4 ρ3 (upd H4 D (.lst (vacc ++ [yv]))) := ⟨fun _ _ z => z, to, fun p o c e n => ⟨by rw [upd_ne c]; exact e, n⟩, fun p o u e => by rw [upd_ne fun z => by rw [z, d4.1] at e; cases e]; exact e⟩
              refine ⟨vacc, d4.1, by rw [vl, sizeLine_eq]; omega, ρ3, S3, acc ++ [ya], vacc ++ [yv], ?_, Ro, d4.2, upd_same, rvsT to ((rv.mono x14).app (.cons hyv .nil)), by rw [List.length_append, List.length_singleton]; omega, by omega, (re1.mono x14).mono xo, ?_⟩
              · have x4 := x1.trans x14
                refine ⟨x4.m, fun p vs t => to p vs (x4.t p vs t), fun p o c e n => ?_, fun p o u e => by rw [upd_ne fun z => by rw [z, hD] at e; cases e]; exact x4.z p o u e⟩
                obtain ⟨k1, k2⟩ := x4.k p o c e n
                exact ⟨by rw [upd_ne fun z => by rw [z, hD] at e; cases e]; exact k1, k2⟩
              · refine (SatP.bnd (SatP.mono xo q3)).imp fun ys ρ5 S5 H5 x5 R5 q5 => ?_
                have := SatP.rt q5 R5
                rw [List.append_assoc]
                exact this
theorem je_lc {elt tg iter : Expr} {ifs : List Expr} {scope : Scope} {own : List (Str × Nat)} {c : CI} {g : CG} {t : CB} {e : CE} (hc : X.calm = true) (hN : X.N.Nodup) (hi : JI X W tg iter c) (ok : BlkOk X.N X.env.scope scope own) (inn : Inn g (own.map (·.2)))
    (hg : ∀ (s : Shared) (H : Hp) (C : Addr) (cl : List (Str × Addr)) (fp : List Addr), JG (X.blk s H scope (compEnvC scope cl C X.env) fp) tg g) (ht : ∀ (s : Shared) (H : Hp) (C : Addr) (cl : List (Str × Addr)) (fp : List Addr), JTs (X.blk s H scope (compEnvC scope cl C X.env) fp) noW ifs t)
    (he : ∀ (s : Shared) (H : Hp) (C : Addr) (cl : List (Str × Addr)) (fp : List Addr), JE (X.blk s H scope (compEnvC scope cl C X.env) fp) noW elt e) (hs : ∀ x, foldedSetIterable iter X.env x = pure x := by intro _; rfl) :
    JE X W (.ListComp elt [⟨tg, iter, ifs, 0⟩] scope pos) (cLc c g t e (own.map (·.2))) := by
  refine PE.imp (pe_lc (tt := tT (gd X) noW t) (te := tE (gd X) noW e) (g := tG (gd X) g) hc hN hi ok hg ht he hs) fun σ H Q h => ?_
  obtain ⟨ρ, S, ε, R, r, h⟩ := h
  exact ⟨ρ, S, ε, R, r, (SatP.bnd h).imp fun it ρ0 S0 H0 x0 R0 q J hJ => lc_in inn hJ R0 (r.mono x0) q⟩
/-- name = [..], where the store comes ahead of the comprehension's own names -/
theorem js_setLc {y : Str} {py : Pos} {elt tg iter : Expr} {ifs : List Expr} {scope : Scope} {own : List (Str × Nat)} {spos : Pos} {c : CI} {g : CG} {t : CB} {e : CE} (i : Nat) (hc : X.calm = true) (hN : X.N.Nodup)
    (hi : JI X W tg iter c) (ok : BlkOk X.N X.env.scope scope own) (inn : Inn g (own.map (·.2)))
    (hg : ∀ (s : Shared) (H : Hp) (C : Addr) (cl : List (Str × Addr)) (fp : List Addr), JG (X.blk s H scope (compEnvC scope cl C X.env) fp) tg g) (ht : ∀ (s : Shared) (H : Hp) (C : Addr) (cl : List (Str × Addr)) (fp : List Addr), JTs (X.blk s H scope (compEnvC scope cl C X.env) fp) noW ifs t)
    (he : ∀ (s : Shared) (H : Hp) (C : Addr) (cl : List (Str × Addr)) (fp : List Addr), JE (X.blk s H scope (compEnvC scope cl C X.env) fp) noW elt e)
    (hsw : swapsWith (.ListComp elt [⟨tg, iter, ifs, 0⟩] scope pos) (some (.Name y py)) spos.line X.env = pure true)
    (hy : X.N[i]? = some y := by rfl) (hyl : X.env.scope.names.lookup y = some .local := by rfl) (hs : ∀ x, foldedSetIterable iter X.env x = pure x := by intro _; rfl) :
    JS X W (.Assign [.Name y py] (.ListComp elt [⟨tg, iter, ifs, 0⟩] scope pos) spos) (sAsg (cLc c g t e (own.map (·.2))) (gVar i)) := by
  refine PS.imp (ps_setLc (tt := tT (gd X) noW t) (te := tE (gd X) noW e) (g := tG (gd X) g) hc hN hy hyl hsw hi ok hg ht he hs) fun D σ H h => ?_
  obtain ⟨ρ, S, ε, R, r, q⟩ := asg_in h
  refine ⟨ρ, S, ε, R, r, (SatP.bnd q).imp fun it ρ0 S0 H0 x0 R0 q J hJ => lc_in (Q := fun x H1 => gName i x σ H1 D.nx) inn hJ R0 (r.mono x0) (q.imp fun a ρ' S' H' x R' p v hv => ?_)⟩
  obtain ⟨ρ1, S1, a1, l, R1, rv, e, k⟩ := p v hv
  cases e
  exact k [(i, v)] (.cons ⟨rfl, rv⟩ .nil)
end
end EV

end

section
set_option Elab.async false
set_option linter.all false
set_option maxRecDepth 100000
/-! EvIter: lists, tuples, ranges, zips, the script, dicts by their keys, walked. -/
namespace EV
open PySem PySem.Spec PyProof.Rows L2

def lstAt (n i : Nat) (S : Sto) : Option (Option A) := match S.f n with
  | some (.lst xs) => some xs[i]?
  | some (.rol xs) => some xs[i]?
  | _ => none
/-- a list or a tuple, to be walked -/
def seqIT (a : A) : M IT := fun S => match a with
  | .tup xs => .ok ⟨fun i _ => some xs[i]?, xs.length⟩ S
  | .ref n => match S.f n with
    | some (.lst xs) => .ok ⟨fun i S => lstAt n i S, xs.length⟩ S
    | some (.rol xs) => .ok ⟨fun i S => lstAt n i S, xs.length⟩ S
    | _ => .bad
  | _ => .bad
def cSeq (c : CE) : CI := fun ε => bnd (c ε) seqIT
theorem PI.or {X : Cx} {tg iter : Expr} {t t' : TI} (h : PI X tg iter t) (h' : PI X tg iter t') : PI X tg iter (fun σ H R => t σ H R ∨ t' σ H R) := ⟨fun pins s σ H R I q => by
  rcases q with q | q
  · exact h.run pins s σ H R I q
  · exact h'.run pins s σ H R I q⟩
section
variable {G : Gd} {ρ : Rn} {H : Hp} {S : Sto}
/-- the list at a handle, read -/
theorem Rep.listAt (R : Rep G ρ S H) {n : Nat} {p : Addr} (e : ρ n = some p) {xs : List A} (h : S.f n = some (.lst xs) ∨ S.f n = some (.rol xs)) : ∃ vs, SqL G.K H p vs ∧ RVs G.K ρ H xs vs := by
  rcases h with h | h
  · obtain ⟨q, u, e1, e2, r⟩ := R.ob n _ h
    rw [e] at e1; cases e1
    cases r with
    | lst r => exact ⟨_, SqL.of e2, r⟩
  · obtain ⟨q, u, e1, e2, r⟩ := R.ob n _ h
    rw [e] at e1; cases e1
    cases r with
    | rol r => exact ⟨_, .inl (.inr ⟨_, e2⟩), r⟩
theorem RVs.none {K : PySem.W.Frag} {xs : List A} {vs : List V} (r : RVs K ρ H xs vs) {i : Nat} (e : xs[i]? = none) : vs.length ≤ i := by
  rw [← r.length]
  exact List.getElem?_eq_none_iff.mp e
theorem iok_list {n : Nat} {k : Nat} {p : Addr} (e : ρ n = some p) : IOk G ρ H ⟨fun i S => lstAt n i S, k⟩ (Itl G.K p) := by
  intro ρ1 H1 S1 x R i
  have e1 := x.m _ _ e
  have key : ∀ xs, (S1.f n = some (.lst xs) ∨ S1.f n = some (.rol xs)) → match some xs[i]? with
      | none => True
      | some none => (Itl G.K p).stop i H1
      | some (some a) => (Itl G.K p).go i H1 ∧ ∀ x H', (Itl G.K p).yld i H1 x H' → Ext G.K ρ1 H1 ρ1 H' ∧ Rep G ρ1 S1 H' ∧ RV G.K ρ1 H' a x := by
    intro xs h
    obtain ⟨vs, q, r⟩ := R.listAt e1 h
    cases ea : xs[i]? with
    | none => exact ⟨vs, q, r.none ea⟩
    | some a =>
      obtain ⟨v, hv, rv⟩ := r.get ea
      refine ⟨⟨vs, v, q, hv⟩, fun y H' hy => ?_⟩
      obtain ⟨rfl, hy⟩ := hy
      have := hy vs q
      rw [hv] at this; cases this
      exact ⟨Ext.refl, R, rv⟩
  dsimp only
  cases ef : S1.f n with
  | none => unfold lstAt; rw [ef]; trivial
  | some o =>
    cases o with
    | lst xs => have q := key xs (.inl ef); unfold lstAt; rw [ef]; exact q
    | rol xs => have q := key xs (.inr ef); unfold lstAt; rw [ef]; exact q
    | _ => unfold lstAt; rw [ef]; trivial
theorem iok_tup {xs : List A} {vs : List V} {k : Nat} {p : Addr} (q : H p = some (.tup vs)) (r : RVs G.K ρ H xs vs) : IOk G ρ H ⟨fun i _ => some xs[i]?, k⟩ (Itt G.K p) := by
  intro ρ1 H1 S1 x R i
  have q1 := SqT.of (K := G.K) (x.t _ _ q)
  have r1 := r.mono x
  dsimp only
  cases ea : xs[i]? with
  | none => exact ⟨vs, q1, r1.none ea⟩
  | some a =>
    obtain ⟨v, hv, rv⟩ := r1.get ea
    refine ⟨⟨vs, v, q1, hv⟩, fun y H' hy => ?_⟩
    obtain ⟨rfl, hy⟩ := hy
    have := hy vs q1
    rw [hv] at this; cases this
    exact ⟨Ext.refl, R, rv⟩
end
section
variable {X : Cx} {W : WX} {tg : Expr} {pos : Pos}
theorem ji_seq {l : Expr} {c : CE} (hl : JE X W l c) : JI X W tg l (cSeq c) := by
  refine PI.imp (PI.or (pi_list hl) (pi_tup hl)) fun σ H R h => ?_
  obtain ⟨ρ, S, ε, R0, r, h⟩ := h
  have q := SatP.bnd h
  have base : ∀ {P : V → Hp → Prop}, (∀ a ρ' S' H', Ext X.K ρ H ρ' H' → Rep (gd X) ρ' S' H' → Sat (gd X) W σ ρ' H' (seqIT a S') (fun it ρ' S' H' => ∀ J, IOk (gd X) ρ' H' it J → R J H') → c ε S = .ok a S' → ∀ x, RV X.K ρ' H' a x → P x H') → tE (gd X) W c σ H P := by
    intro P k
    refine ⟨ρ, S, ε, R0, r, ?_⟩
    cases e : c ε S with
    | ok a S1 => rw [e] at q; exact fun ρ' H' x R' v hv => k a ρ' S1 H' x R' (q ρ' H' x R') e v hv
    | exc y S1 => rw [e] at q; exact q
    | bad => rw [e] at q; exact q
  by_cases ht : ∃ xs S1, c ε S = .ok (.tup xs) S1
  · obtain ⟨xs, S1, e⟩ := ht
    refine .inr (base fun a ρ' S' H' x R' q e' v hv => ?_)
    rw [e] at e'; cases e'
    cases hv with
    | tup t rs => exact ⟨_, rfl, ⟨_, SqT.of t⟩, q ρ' H' Ext.refl R' _ (iok_tup t rs)⟩
  · refine .inl (base fun a ρ' S' H' x R' q e v hv => ?_)
    cases hv with
    | tup t rs => exact absurd ⟨_, _, e⟩ ht
    | @ref n p en =>
      unfold seqIT at q
      dsimp only at q
      cases ef : S'.f n with
      | none => rw [ef] at q; exact q.elim
      | some o =>
        cases o with
        | lst xs =>
          rw [ef] at q
          obtain ⟨vs, sq, _⟩ := R'.listAt en (.inl ef)
          exact ⟨p, rfl, ⟨vs, sq⟩, q ρ' H' Ext.refl R' _ (iok_list en)⟩
        | rol xs =>
          rw [ef] at q
          obtain ⟨vs, sq, _⟩ := R'.listAt en (.inr ef)
          exact ⟨p, rfl, ⟨vs, sq⟩, q ρ' H' Ext.refl R' _ (iok_list en)⟩
        | _ => rw [ef] at q; exact q.elim
    | _ => exact q.elim
/-- range -/
def rngIT (lo hi : Int) : M IT := if -(2 ^ 62) ≤ lo ∧ lo < 2 ^ 62 ∧ -(2 ^ 62) ≤ hi ∧ hi < 2 ^ 62 then rt ⟨fun i _ => some (if i < (hi - lo).toNat then some (.int (lo + (i : Int))) else none), (hi - lo).toNat⟩ else stuck
def cRng1 (c : CL) : CI := fun ε => bnd (c ε) fun as => match as with
  | [.int j] => rngIT 0 j
  | _ => stuck
def cRng2 (c : CL) : CI := fun ε => bnd (c ε) fun as => match as with
  | [.int i, .int j] => rngIT i j
  | _ => stuck
theorem iok_rng {G : Gd} {ρ : Rn} {H : Hp} {lo : Int} {n k : Nat} : IOk G ρ H ⟨fun i _ => some (if i < n then some (.int (lo + (i : Int))) else none), k⟩ (Itr lo n) := by
  intro ρ1 H1 S1 x R i
  dsimp only
  by_cases h : i < n
  · rw [if_pos h]
    refine ⟨h, fun y H' hy => ?_⟩
    obtain ⟨rfl, rfl⟩ := hy
    exact ⟨Ext.refl, R, .int _⟩
  · rw [if_neg h]
    exact Nat.le_of_not_lt h
theorem ji_range1 {a : Expr} {c : CL} {p : Pos} (hm : X.mg "range" = none) (ha : JA X W [a] c) (hg : Gl X "range" := by rfl) (hs : starEach [a] X.env = [(false, eval a X.env)] := by rfl) : JI X W tg (.Call (.Name "range" p) [a] [] pos) (cRng1 c) := by
  refine PI.imp (pi_range1 hg hm ha hs) fun σ H R h => ?_
  obtain ⟨ρ, S, ε, R0, r, h⟩ := h
  refine ⟨ρ, S, ε, R0, r, (SatP.bnd h).imp fun as ρ' S' H' x R' q vs hv => ?_⟩
  cases hv with
  | nil => exact q.elim
  | cons r1 t =>
    cases t with
    | cons r2 t => cases r1 <;> exact q.elim
    | nil =>
      cases r1 with
      | int j =>
        dsimp only at q
        unfold rngIT at q
        by_cases hb : -(2 ^ 62) ≤ (0 : Int) ∧ (0 : Int) < 2 ^ 62 ∧ -(2 ^ 62) ≤ j ∧ j < 2 ^ 62
        · rw [if_pos hb] at q
          refine ⟨j, rfl, hb.2.2.1, hb.2.2.2, SatP.rt q R' _ ?_⟩
          rw [Int.sub_zero]
          exact iok_rng
        · rw [if_neg hb] at q; exact q.elim
      | _ => exact q.elim
theorem ji_range2 {a b : Expr} {c : CL} {p : Pos} (hm : X.mg "range" = none) (ha : JA X W [a, b] c) (hg : Gl X "range" := by rfl) (hs : starEach [a, b] X.env = [(false, eval a X.env), (false, eval b X.env)] := by rfl) (hs2 : starEach [b] X.env = [(false, eval b X.env)] := by rfl) :
    JI X W tg (.Call (.Name "range" p) [a, b] [] pos) (cRng2 c) := by
  refine PI.imp (pi_range2 hg hm ha hs hs2) fun σ H R h => ?_
  obtain ⟨ρ, S, ε, R0, r, h⟩ := h
  refine ⟨ρ, S, ε, R0, r, (SatP.bnd h).imp fun as ρ' S' H' x R' q vs hv => ?_⟩
  cases hv with
  | nil => exact q.elim
  | cons r1 t =>
    cases t with
    | nil => cases r1 <;> exact q.elim
    | cons r2 t =>
      cases t with
      | cons r3 t => cases r1 <;> cases r2 <;> exact q.elim
      | nil =>
        cases r1 with
        | int i =>
          cases r2 with
          | int j =>
            dsimp only at q
            unfold rngIT at q
            by_cases hb : -(2 ^ 62) ≤ i ∧ i < 2 ^ 62 ∧ -(2 ^ 62) ≤ j ∧ j < 2 ^ 62
            · rw [if_pos hb] at q
              exact ⟨i, j, rfl, hb, SatP.rt q R' _ iok_rng⟩
            · rw [if_neg hb] at q; exact q.elim
          | _ => exact q.elim
        | _ => cases r2 <;> exact q.elim
/-- zip of two lists, or of two tuples -/
def zipAt (a b : A) (i : Nat) (S : Sto) : Option (Option A) := match a, b with
  | .tup xs, .tup ys => match xs[i]?, ys[i]? with
    | some x, some y => some (some (.tup [x, y]))
    | _, _ => some none
  | .ref n, .ref m => match lstAt n i S, lstAt m i S with
    | some (some x), some (some y) => some (some (.tup [x, y]))
    | some none, some _ => some none
    | some _, some none => some none
    | _, _ => none
  | _, _ => none
def zipIT (a b : A) : M IT := fun S => match a, b with
  | .tup xs, .tup _ => .ok ⟨zipAt a b, xs.length⟩ S
  | .ref n, .ref m => match S.f n, S.f m with
    | some (.lst xs), some (.lst _) => .ok ⟨zipAt a b, xs.length⟩ S
    | _, _ => .bad
  | _, _ => .bad
def cZip (c : CL) : CI := fun ε => bnd (c ε) fun as => match as with
  | [a, b] => zipIT a b
  | _ => stuck
theorem rv_pair {K : PySem.W.Frag} {ρ : Rn} {H : Hp} {T : Addr} {a b : A} {x y : V} (hT : H T = some (.tup [x, y])) (ra : RV K ρ H a x) (rb : RV K ρ H b y) : RV K ρ H (.tup [a, b]) (.ref T) := .tup hT (.cons ra (.cons rb .nil))
theorem iok_zipT {G : Gd} {ρ : Rn} {H : Hp} {xs ys : List A} {vs ws : List V} {k : Nat} {p q : Addr} (hp : H p = some (.tup vs)) (r : RVs G.K ρ H xs vs) (hq : H q = some (.tup ws)) (r2 : RVs G.K ρ H ys ws) : IOk G ρ H ⟨zipAt (.tup xs) (.tup ys), k⟩ (RZ.ItzT G.K p q) := by
  intro ρ1 H1 S1 x R i
  have p1 := SqT.of (K := G.K) (x.t _ _ hp)
  have q1 := SqT.of (K := G.K) (x.t _ _ hq)
  have r1 := r.mono x
  have r21 := r2.mono x
  show match zipAt (.tup xs) (.tup ys) i S1 with | none => _ | some none => _ | some (some a) => _
  unfold zipAt
  dsimp only
  cases ea : xs[i]? with
  | none => exact ⟨vs, ws, p1, q1, .inl (r1.none ea)⟩
  | some a =>
    cases eb : ys[i]? with
    | none => exact ⟨vs, ws, p1, q1, .inr (r21.none eb)⟩
    | some b =>
      obtain ⟨v, hv, rv⟩ := r1.get ea
      obtain ⟨w, hw, rw'⟩ := r21.get eb
      refine ⟨⟨vs, ws, v, w, p1, q1, hv, hw⟩, fun y H' hy => ?_⟩
      obtain ⟨T, x', y', rfl, hT, rfl, k1, k2⟩ := hy
      have e1 := k1 vs p1
      have e2 := k2 ws q1
      rw [hv] at e1; cases e1
      rw [hw] at e2; cases e2
      obtain ⟨R', x'⟩ := R.tup (h := .tup [v, w]) hT
      exact ⟨x', R', rv_pair upd_same (rv.mono x') (rw'.mono x')⟩
theorem iok_zipL {G : Gd} {ρ : Rn} {H : Hp} {n m k : Nat} {p q : Addr} (hp : ρ n = some p) (hq : ρ m = some q) : IOk G ρ H ⟨zipAt (.ref n) (.ref m), k⟩ (Itz G.K p q) := by
  intro ρ1 H1 S1 x R i
  have e1 := x.m _ _ hp
  have e2 := x.m _ _ hq
  have get : ∀ {n : Nat} {p : Addr}, ρ1 n = some p → ∀ o, lstAt n i S1 = some o → ∃ xs vs, SqL G.K H1 p vs ∧ RVs G.K ρ1 H1 xs vs ∧ xs[i]? = o := fun {n p} e o h => by
    unfold lstAt at h
    cases ef : S1.f n with
    | none => rw [ef] at h; cases h
    | some u =>
      rw [ef] at h
      cases u with
      | lst xs => cases h; obtain ⟨vs, a, b⟩ := R.listAt e (.inl ef); exact ⟨xs, vs, a, b, rfl⟩
      | rol xs => cases h; obtain ⟨vs, a, b⟩ := R.listAt e (.inr ef); exact ⟨xs, vs, a, b, rfl⟩
      | _ => cases h
  show match zipAt (.ref n) (.ref m) i S1 with | none => _ | some none => _ | some (some a) => _
  unfold zipAt
  dsimp only
  cases ea : lstAt n i S1 with
  | none => trivial
  | some o =>
    obtain ⟨xs, vs, s1, r1, g1⟩ := get e1 o ea
    cases eb : lstAt m i S1 with
    | none => cases o <;> trivial
    | some o2 =>
      obtain ⟨ys, ws, s2, r2, g2⟩ := get e2 o2 eb
      cases o with
      | none => exact ⟨vs, ws, s1, s2, .inl (r1.none g1)⟩
      | some a =>
        cases o2 with
        | none => exact ⟨vs, ws, s1, s2, .inr (r2.none g2)⟩
        | some b =>
          obtain ⟨v, hv, rv⟩ := r1.get g1
          obtain ⟨w, hw, rw'⟩ := r2.get g2
          refine ⟨⟨vs, ws, v, w, s1, s2, hv, hw⟩, fun y H' hy => ?_⟩
          obtain ⟨T, x', y', rfl, hT, rfl, k1, k2⟩ := hy
          have q1 := k1 vs s1
          have q2 := k2 ws s2
          rw [hv] at q1; cases q1
          rw [hw] at q2; cases q2
          obtain ⟨R', x'⟩ := R.tup (h := .tup [v, w]) hT
          exact ⟨x', R', rv_pair upd_same (rv.mono x') (rw'.mono x')⟩
theorem ji_zip {e e2 : Expr} {c : CL} {p tpos : Pos} {elts : List Expr} {kk : Nat} (hm : X.mg "zip" = none) (ha : JA X W [e, e2] c) (hg : Gl X "zip" := by rfl)
    (hs : starEach [e, e2] X.env = (false, eval e X.env) :: starEach [e2] X.env := by rfl) (hpl : (backTo pos (starEach [e2] X.env)).any (·.1) = false := by rfl) :
    JI X W (.Tuple elts kk tpos) (.Call (.Name "zip" p) [e, e2] [] pos) (cZip c) := by
  refine PI.imp (RZ.pi_zipA hg hm ha hs hpl) fun σ H R h => ?_
  obtain ⟨ρ, S, ε, R0, r, h⟩ := h
  refine ⟨ρ, S, ε, R0, r, (SatP.bnd h).imp fun as ρ' S' H' x R' q vs hv => ?_⟩
  cases hv with
  | nil => exact q.elim
  | cons r1 t =>
    cases t with
    | nil => cases r1 <;> exact q.elim
    | cons r2 t =>
      cases t with
      | cons r3 t => cases r1 <;> cases r2 <;> exact q.elim
      | nil =>
        cases r1 with
        | tup t1 s1 =>
          cases r2 with
          | tup t2 s2 => exact ⟨_, _, _, _, rfl, .inr ⟨SqT.of t1, SqT.of t2, SatP.rt q R' _ (iok_zipT t1 s1 t2 s2)⟩⟩
          | _ => exact q.elim
        | @ref n p en =>
          cases r2 with
          | @ref m p2 em =>
            dsimp only at q
            unfold zipIT at q
            dsimp only at q
            cases ef : S'.f n with
            | none => rw [ef] at q; exact q.elim
            | some o =>
              cases eg : S'.f m with
              | none => rw [ef, eg] at q; cases o <;> exact q.elim
              | some o2 =>
                rw [ef, eg] at q
                cases o <;> cases o2 <;> first | exact q.elim | skip
                obtain ⟨vs1, g1, _⟩ := R'.listAt en (.inl ef)
                obtain ⟨vs2, g2, _⟩ := R'.listAt em (.inl eg)
                exact ⟨p, p2, _, _, rfl, .inl ⟨g1, g2, q ρ' H' Ext.refl R' _ (iok_zipL en em)⟩⟩
          | _ => exact q.elim
        | _ => cases r2 <;> exact q.elim

/-! ### a dict that is walked is locked -/
def keysIT (a : A) : M IT := fun S => match a with
  | .ref n => match S.f n with
    | some (.ldk _ kvs) => .ok ⟨fun i _ => some (kvs[i]?.map fun p => keyTo p.1), kvs.length⟩ S
    | _ => .bad
  | _ => .bad
def cKeys (c : CE) : CI := fun ε => bnd (c ε) keysIT
def lockD {α : Type} (n : Nat) (m : M α) : M α := fun S => match S.f n with
  | some (.dct t kvs) => match m (S.put n (.ldk t kvs)) with
    | .ok a S2 => match S2.f n with
      | some (.ldk t2 kv2) => .ok a (S2.put n (.dct t2 kv2))
      | _ => .bad
    | _ => .bad
  | _ => .bad
/-- the dict that c names is locked while b is run -/
def cLock (c : CE) (b : CE) : CE := fun ε S => match c ε S with
  | .ok (.ref n) _ => lockD n (b ε) S
  | _ => .bad
theorem keyA_rv {K : PySem.W.Frag} {ρ : Rn} {H : Hp} : ∀ k : Key, RV K ρ H (keyA k) (kV k)
  | .inl i => .int i
  | .inr x => .str x
theorem keyAs_rv {K : PySem.W.Frag} {ρ : Rn} {H : Hp} : ∀ ks : List Key, RVs K ρ H (ks.map keyA) (ks.map kV)
  | [] => .nil
  | k :: ks => .cons (keyA_rv k) (keyAs_rv ks)
theorem paired_at {α β : Type} {R : α → β → Prop} {xs : List α} {ys : List β} (h : Paired R xs ys) : ∀ i : Nat, (xs[i]? = none ∧ ys[i]? = none) ∨ ∃ a b, xs[i]? = some a ∧ ys[i]? = some b ∧ R a b := by
  induction h with
  | nil => intro i; exact .inl ⟨by simp, by simp⟩
  | cons q t ih =>
    intro i
    cases i with
    | zero => exact .inr ⟨_, _, by simp, by simp, q⟩
    | succ i => simpa using ih i
theorem ji_keys {e : Expr} {c : CE} (he : JE X W e c) : JI X W tg e (cKeys c) := by
  refine PI.imp (pi_keys he) fun σ H R h => ?_
  obtain ⟨ρ, S, ε, R0, r, h⟩ := h
  refine ⟨ρ, S, ε, R0, r, (SatP.bnd h).imp fun a ρ' S' H' x R' q v hv => ?_⟩
  cases hv with
  | @ref n p en =>
    unfold keysIT at q
    dsimp only at q
    cases ef : S'.f n with
    | none => rw [ef] at q; exact q.elim
    | some o =>
      rw [ef] at q
      cases o with
      | ldk tt kvs =>
        obtain ⟨p', u, e1, e2, rr⟩ := R'.ob n _ ef
        rw [en] at e1; cases e1
        cases rr with
        | @lk _ ks od rk =>
          refine ⟨p, od, rfl, .inl ⟨ks, e2, q ρ' H' Ext.refl R' _ ?_⟩⟩
          intro ρ1 H1 S1 x1 R1 i
          have h1 := x1.z _ _ _ e2
          dsimp only
          rcases paired_at rk i with ⟨z1, z2⟩ | ⟨a, b, z1, z2, z3⟩
          · rw [z1]
            exact ⟨h1, List.getElem?_eq_none_iff.mp z2⟩
          · rw [z1]
            refine ⟨⟨h1, (List.getElem?_eq_some_iff.mp z2).1⟩, fun y H' hy => ?_⟩
            obtain ⟨rfl, k, w, g1, rfl⟩ := hy
            rw [z2] at g1; cases g1
            refine ⟨Ext.refl, R1, ?_⟩
            show RV X.K ρ1 _ (keyTo a.fst) (kV k)
            rw [z3.1]
            exact keyA_rv k
        | @lt _ ks od rk =>
          refine ⟨p, od, rfl, .inr ⟨ks, e2, q ρ' H' Ext.refl R' _ ?_⟩⟩
          intro ρ1 H1 S1 x1 R1 i
          have h1 := x1.z _ _ _ e2
          dsimp only
          rcases paired_at rk i with ⟨z1, z2⟩ | ⟨a, b, z1, z2, z3⟩
          · rw [z1]
            exact ⟨h1, List.getElem?_eq_none_iff.mp z2⟩
          · rw [z1]
            refine ⟨⟨h1, (List.getElem?_eq_some_iff.mp z2).1⟩, fun y H' hy => ?_⟩
            obtain ⟨rfl, k, w, qa, g1, rfl, g3⟩ := hy
            rw [z2] at g1; cases g1
            refine ⟨Ext.refl, R1, ?_⟩
            show RV X.K ρ1 _ (keyTo a.fst) (.ref qa)
            rw [z3.1]
            exact .tup g3 (keyAs_rv k)
      | _ => exact q.elim
  | _ => exact q.elim
/-- unlocked again, the store and the heap stand as before the lock -/
theorem unlock_at {G : Gd} {ρ ρ2 : Rn} {H H2 : Hp} {S S2 : Sto} {n : Nat} {p : Addr} {u : HO} {od : Obj} {t t2 : Bool} {kvs kv2 : List (Kk × A)} (R : Rep G ρ S H) (ef : S.f n = some (.dct t kvs)) (en : ρ n = some p) (hu : H p = some u) (ru : ObR G ρ H (.dct t kvs) u)
    (x : Ext G.K ρ (upd H p (.frz od u)) ρ2 H2) (R2 : Rep G ρ2 S2 H2) (e2 : S2.f n = some (.ldk t2 kv2)) :
    H2 p = some (.frz od u) ∧ Ext G.K ρ H ρ2 (upd H2 p u) ∧ Rep G ρ2 (S2.put n (.dct t2 kv2)) (upd H2 p u) ∧ ∀ q vs, H2 q = some (.tup vs) → (upd H2 p u) q = some (.tup vs) := by
  have nu : ∀ o w, u ≠ .frz o w := by
    intro o w z
    cases ru <;> cases z
  have h2 : H2 p = some (.frz od u) := x.z p od u upd_same
  have nt : NoT (.frz od u) := fun vs => ⟨fun z => (nomatch z), fun o z => by cases z; exact (ru.noT vs).1 rfl⟩
  have t2 : ∀ q vs, H2 q = some (.tup vs) → (upd H2 p u) q = some (.tup vs) := fun q vs t => sqT_upd (.inr ⟨_, h2, nt⟩) t
  have e2' := x.m _ _ en
  obtain ⟨p', h', f1, f2, f3⟩ := R2.ob n _ e2
  rw [e2'] at f1; cases f1
  rw [h2] at f2; cases f2
  refine ⟨h2, ⟨x.m, fun q vs t => t2 q vs (x.t q vs (sqT_upd (.inr ⟨u, hu, ru.noT⟩) t)), fun q o _ e nq => ?_, fun q o w e => ?_⟩, R2.put e2' ?_, t2⟩
  · have ne : q ≠ p := fun z => nq n (by rw [en, z])
    obtain ⟨k1, k2⟩ := x.k q o trivial (by rw [upd_ne ne]; exact e) nq
    exact ⟨by rw [upd_ne ne]; exact k1, k2⟩
  · have ne : q ≠ p := fun z => by rw [z, hu] at e; exact nu _ _ (Option.some.inj e)
    rw [upd_ne ne]
    exact x.z q o w (by rw [upd_ne ne]; exact e)
  · cases f3 with
    | lk r => exact ObR.monoT t2 (.dk r)
    | lt r => exact ObR.monoT t2 (.dt r)
theorem je_lock {e : Expr} {c b : CE} (h : JE X noW e b) : JE X W e (cLock c b) := by
  refine PE.imp (pe_lock h) fun σ H Q h => ?_
  obtain ⟨ρ, S, ε, R, r, h⟩ := h
  unfold cLock at h
  cases ec : c ε S with
  | ok a S' =>
    rw [ec] at h
    cases a with
    | ref n =>
      dsimp only at h
      unfold lockD at h
      cases ef : S.f n with
      | none => rw [ef] at h; exact h.elim
      | some o =>
        rw [ef] at h
        cases o with
        | dct tt kvs =>
          dsimp only at h
          obtain ⟨p, u, en, hu, ru⟩ := R.ob n _ ef
          have mu : Mut (some u) := by cases ru <;> trivial
          refine ⟨p, u, hu, mu, fun od => ?_⟩
          have t1 : ∀ q vs, H q = some (.tup vs) → (upd H p (.frz od u)) q = some (.tup vs) := fun q vs t => sqT_upd (.inr ⟨u, hu, ru.noT⟩) t
          have R1 : Rep (gd X) ρ (S.put n (.ldk tt kvs)) (upd H p (.frz od u)) := R.put en (by
            cases ru with
            | dk r => exact ObR.monoT t1 (.lk r)
            | dt r => exact ObR.monoT t1 (.lt r))
          have r1 : RE X.K ρ (upd H p (.frz od u)) ε σ := ⟨r.1, fun i a e => let ⟨v, a1, a2⟩ := r.2 i a e; ⟨v, a1, rvT t1 a2⟩⟩
          refine ⟨ρ, S.put n (.ldk tt kvs), ε, R1, r1, ?_⟩
          cases eb : b ε (S.put n (.ldk tt kvs)) with
          | exc y S2 => rw [eb] at h; exact h.elim
          | bad => rw [eb] at h; exact h
          | ok a2 S2 =>
            rw [eb] at h
            dsimp only at h
            intro ρ2 H2 x2 R2 v hv
            cases e2 : S2.f n with
            | none => rw [e2] at h; exact h.elim
            | some o2 =>
              rw [e2] at h
              cases o2 with
              | ldk t2 kv2 =>
                obtain ⟨k1, k2, k3, k4⟩ := unlock_at R ef en hu ru x2 R2 e2
                exact ⟨k1, h ρ2 _ k2 k3 v (rvT k4 hv)⟩
              | _ => exact h.elim
        | _ => exact h.elim
    | _ => exact h.elim
  | exc y S' => rw [ec] at h; exact h.elim
  | bad => rw [ec] at h; exact h.elim
end
end EV

end

section
set_option Elab.async false
set_option linter.all false
set_option maxRecDepth 100000
/-! EvOps: operators, comparisons, subscripts, slices, displays. -/
namespace EV
open PySem PySem.Spec PyProof.Rows L2

abbrev P2 := A → A → Sto → Option (A × Sto)
def lft {α : Type} (o : Sto → Option (α × Sto)) : M α := fun S => match o S with
  | some (a, S') => .ok a S'
  | none => .bad
/-- what a two-place operation by values asks -/
def r2 (G : Gd) (f : P2) : R2 := fun x y H Q => ∃ ρ S a b c S', Rep G ρ S H ∧ RV G.K ρ H a x ∧ RV G.K ρ H b y ∧ f a b S = some (c, S') ∧ ∀ ρ' H', Ext G.K ρ H ρ' H' → Rep G ρ' S' H' → ∀ z, RV G.K ρ' H' c z → Q z H'
def c2 (f : P2) (a b : CE) : CE := fun ε => bnd (a ε) fun x => bnd (b ε) fun y => lft (f x y)
section
variable {X : Cx} {W : WX} {a b c : Expr} {pos : Pos} {ca cb cc : CE}
theorem SatP.lft {Pv : Addr → Prop} {α : Type} {G : Gd} {σ : L2.St} {ρ : Rn} {H : Hp} {o : Sto → Option (α × Sto)} {S : Sto} {post : Post α} (h : SatP Pv G W σ ρ H (EV.lft o S) post) :
    ∃ c S', o S = some (c, S') ∧ ∀ ρ' H', ExtP Pv G.K ρ H ρ' H' → Rep G ρ' S' H' → post c ρ' S' H' := by
  unfold EV.lft at h
  cases e : o S with
  | none => rw [e] at h; exact h.elim
  | some p =>
    obtain ⟨c, S'⟩ := p
    rw [e] at h
    exact ⟨c, S', rfl, h⟩
theorem op_in {f : P2} {σ : L2.St} {H : Hp} {Q : VK} (h : tE (gd X) W (c2 f ca cb) σ H Q) : tOp (r2 (gd X) f) (tE (gd X) W ca) (tE (gd X) W cb) σ H Q := by
  obtain ⟨ρ, S, ε, R, r, h⟩ := h
  refine ⟨ρ, S, ε, R, r, (SatP.bnd h).imp fun x ρ1 S1 H1 x1 R1 q v hv => ⟨ρ1, S1, ε, R1, r.mono x1, (SatP.bnd q).imp fun y ρ2 S2 H2 x2 R2 q2 w hw => ?_⟩⟩
  obtain ⟨c, S', e, k⟩ := SatP.lft q2
  exact ⟨ρ2, S2, x, y, c, S', R2, hv.mono x2, hw, e, k⟩
theorem je_bin {op : Operator} {f : P2} (ho : OpR X (binaryOp op) (r2 (gd X) f)) (ha : JE X W a ca) (hb : JE X W b cb) : JE X W (.BinOp a op b pos) (c2 f ca cb) := PE.imp (pe_op ho ha hb) fun σ H Q h => op_in h
theorem je_cmp {op : CmpOp} {f : P2} (ho : OpR X (compareOp op) (r2 (gd X) f)) (ha : JE X W a ca) (hb : JE X W b cb) (hm : behindInMarks op b = false := by first | exact nomark _ | rfl) : JE X W (.Compare a [op] [b] pos) (c2 f ca cb) :=
  PE.imp (pe_cmpR ho ha hb hm) fun σ H Q h => op_in h
theorem tT_of {c : CE} {σ : L2.St} {H : Hp} {Q : Bool → Hp → Prop} (h : tT (gd X) W (bOf c) σ H Q) : tE (gd X) W c σ H fun x H' => ∃ k, x = .bl k ∧ Q k H' := by
  obtain ⟨ρ0, S0, ε0, R0, r0, h⟩ := h
  refine ⟨ρ0, S0, ε0, R0, r0, (SatP.bnd h).imp fun a ρ' S' H' x R' p v hv => ?_⟩
  exact isB_inv0 hv R' p
theorem jt_cmp {op : CmpOp} {f : P2} (ho : OpR X (compareOp op) (r2 (gd X) f)) (ha : JE X W a ca) (hb : JE X W b cb) (hm : behindInMarks op b = false := by first | exact nomark _ | rfl) : JT X W (.Compare a [op] [b] pos) (bOf (c2 f ca cb)) :=
  PT.imp (pt_cmpR ho ha hb hm) fun σ H Q h => op_in (tT_of h)
/-- a op1 b op2 c -/
def cChain (f g : P2) (a b c : CE) : CE := fun ε => bnd (a ε) fun x => bnd (b ε) fun y => bnd (lft (f x y)) fun z => bnd (isB z) fun k => match k with
  | true => bnd (c ε) fun w => lft (g y w)
  | false => rt (.bl false)
theorem chain_in {f g : P2} {σ : L2.St} {H : Hp} {Q : VK} (h : tE (gd X) W (cChain f g ca cb cc) σ H Q) : tChain (r2 (gd X) f) (r2 (gd X) g) (tE (gd X) W ca) (tE (gd X) W cb) (tE (gd X) W cc) σ H Q := by
  obtain ⟨ρ, S, ε, R, r, h⟩ := h
  refine ⟨ρ, S, ε, R, r, (SatP.bnd h).imp fun x ρ1 S1 H1 x1 R1 q v hv => ⟨ρ1, S1, ε, R1, r.mono x1, (SatP.bnd q).imp fun y ρ2 S2 H2 x2 R2 q2 w hw => ?_⟩⟩
  obtain ⟨z, S', e, k⟩ := SatP.lft (SatP.bnd q2)
  refine ⟨ρ2, S2, x, y, z, S', R2, hv.mono x2, hw, e, fun ρ3 H3 x3 R3 zv hz => ?_⟩
  obtain ⟨k1, e1, e2, p⟩ := isB_inv hz (k ρ3 H3 x3 R3)
  refine ⟨k1, e1, ?_⟩
  cases k1 with
  | false => exact iteF (SatP.rt p R3 _ (.bl false))
  | true =>
    refine iteT ?_
    refine ⟨ρ3, S', ε, R3, (r.mono x1).mono (x2.trans x3), (SatP.bnd p).imp fun u ρ4 S4 H4 x4 R4 q4 uv hu => ?_⟩
    obtain ⟨c, S5, e5, k5⟩ := SatP.lft q4
    exact ⟨ρ4, S4, y, u, c, S5, R4, hw.mono (x3.trans x4), hu, e5, k5⟩
theorem je_chain {op op' : CmpOp} {f g : P2} (ho : OpR X (compareOp op) (r2 (gd X) f)) (ho' : OpR X (compareOp op') (r2 (gd X) g)) (ha : JE X W a ca) (hb : JE X W b cb) (hc : JE X W c cc)
    (hm : lastMarks [op, op'] [b, c] = false := by with_unfolding_all rfl) : JE X W (.Compare a [op, op'] [b, c] pos) (cChain f g ca cb cc) := PE.imp (pe_chain ho ho' ha hb hc hm) fun σ H Q h => chain_in h
theorem jt_chain {op op' : CmpOp} {f g : P2} (ho : OpR X (compareOp op) (r2 (gd X) f)) (ho' : OpR X (compareOp op') (r2 (gd X) g)) (ha : JE X W a ca) (hb : JE X W b cb) (hc : JE X W c cc)
    (hm : lastMarks [op, op'] [b, c] = false := by with_unfolding_all rfl) : JT X W (.Compare a [op, op'] [b, c] pos) (bOf (cChain f g ca cb cc)) := PT.imp (pt_chain ho ho' ha hb hc hm) fun σ H Q h => chain_in (tT_of h)

/-! ### arithmetic -/
def line : Nat := 16777216
def oAdd : P2 := fun a b S => match a, b with
  | .int i, .int j => some (.int (i + j), S)
  | .str x, .str y => if x.length + y.length ≤ line then some (.str (x ++ y), S) else none
  | .tup xs, .tup ys => if xs.length + ys.length ≤ line then some (.tup (xs ++ ys), S) else none
  | .ref n, .ref m => match S.f n, S.f m with
    | some (.lst xs), some (.lst ys) => if xs.length + ys.length ≤ line then some (.ref S.n, S.new (.lst (xs ++ ys))) else none
    | _, _ => none
  | _, _ => none
theorem line_eq : line = sizeLine := by rw [sizeLine_eq]; rfl
theorem fin_tup {G : Gd} {ρ : Rn} {S : Sto} {H : Hp} {cs : List A} {vs : List V} {Q : VK} (R : Rep G ρ S H) (r : RVs G.K ρ H cs vs) (k : ∀ ρ' H', Ext G.K ρ H ρ' H' → Rep G ρ' S H' → ∀ z, RV G.K ρ' H' (.tup cs) z → Q z H') :
    ∀ p, H p = none → Q (.ref p) (upd H p (.tup vs)) := fun p hp => by
  obtain ⟨R', x⟩ := R.tup (h := .tup vs) hp
  exact k ρ _ x R' _ (.tup upd_same (r.mono x))
theorem fin_lst {G : Gd} {ρ : Rn} {S : Sto} {H : Hp} {cs : List A} {vs : List V} {Q : VK} (R : Rep G ρ S H) (r : RVs G.K ρ H cs vs) (k : ∀ ρ' H', Ext G.K ρ H ρ' H' → Rep G ρ' (S.new (.lst cs)) H' → ∀ z, RV G.K ρ' H' (.ref S.n) z → Q z H') :
    ∀ p, H p = none → Q (.ref p) (upd H p (.lst vs)) := fun p hp => by
  have x := R.ext_new (h := .lst vs) hp
  exact k _ _ x (R.new hp (.lst (r.mono x))) _ (.ref ren_self)
theorem o_add : OpR X (binaryOp .Add) (r2 (gd X) oAdd) := by
  intro pins s σ H x y v u Q I rx ry h
  obtain ⟨ρ, S, a, b, c, S', R, ra, rb, e, k⟩ := h
  unfold oAdd at e
  cases ra with
  | int i =>
    cases rb with
    | int j => cases e; exact op_add pins s σ H _ _ v u Q I rx ry ⟨i, j, rfl, rfl, k ρ H Ext.refl R _ (.int _)⟩
    | _ => cases e
  | str i =>
    cases rb with
    | str j =>
      dsimp only at e
      by_cases hz : i.length + j.length ≤ line
      · rw [if_pos hz] at e; cases e
        exact op_add_str pins s σ H _ _ v u Q I rx ry ⟨i, j, rfl, rfl, by rw [← line_eq]; exact hz, k ρ H Ext.refl R _ (.str _)⟩
      · rw [if_neg hz] at e; cases e
    | _ => cases e
  | @tup p vs xs t1 r1 =>
    cases rb with
    | @tup q ws ys t2 r2 =>
      dsimp only at e
      by_cases hz : xs.length + ys.length ≤ line
      · rw [if_pos hz] at e; cases e
        refine op_catA pins s σ H _ _ v u Q I rx ry ⟨p, q, vs, ws, rfl, rfl, SqT.of t1, SqT.of t2, by rw [← r1.length, ← r2.length, ← line_eq]; exact hz, fun e => ?_, fun _ e => ?_, fun _ _ => fin_tup R (r1.app r2) k⟩
        · subst e; cases r1; exact k ρ H Ext.refl R _ (.tup t2 r2)
        · subst e; cases r2; exact k ρ H Ext.refl R _ (.tup t1 (by rw [List.append_nil]; exact r1))
      · rw [if_neg hz] at e; cases e
    | _ => cases e
  | @ref n p en =>
    cases rb with
    | @ref m q em =>
      dsimp only at e
      cases ef : S.f n with
      | none => rw [ef] at e; cases e
      | some o =>
        cases eg : S.f m with
        | none => rw [ef, eg] at e; cases o <;> cases e
        | some o2 =>
          rw [ef, eg] at e
          cases o <;> cases o2 <;> first | cases e | skip
          rename_i xs ys
          dsimp only at e
          by_cases hz : xs.length + ys.length ≤ line
          · rw [if_pos hz] at e; cases e
            obtain ⟨p', h1, a1, a2, a3⟩ := R.ob n _ ef
            obtain ⟨q', h2, b1, b2, b3⟩ := R.ob m _ eg
            rw [en] at a1; cases a1
            rw [em] at b1; cases b1
            cases a3 with
            | lst r1 =>
              cases b3 with
              | lst r2 => exact op_cat pins s σ H _ _ v u Q I rx ry ⟨p, q, _, _, rfl, rfl, a2, b2, by rw [← r1.length, ← r2.length, ← line_eq]; exact hz, fin_lst R (r1.app r2) k⟩
          · rw [if_neg hz] at e; cases e
    | _ => cases e
  | _ => cases e
def oSub : P2 := fun a b S => match a, b with
  | .int i, .int j => some (.int (i - j), S)
  | _, _ => none
theorem o_sub : OpR X (binaryOp .Sub) (r2 (gd X) oSub) := by
  intro pins s σ H x y v u Q I rx ry h
  obtain ⟨ρ, S, a, b, c, S', R, ra, rb, e, k⟩ := h
  unfold oSub at e
  cases ra with
  | int i =>
    cases rb with
    | int j => cases e; exact op_sub pins s σ H _ _ v u Q I rx ry ⟨i, j, rfl, rfl, k ρ H Ext.refl R _ (.int _)⟩
    | _ => cases e
  | _ => cases e
/-- a factor below 2 ^ 64 in size -/
def fit64 (i : Int) : Bool := decide (-(2 ^ 64) < i) && decide (i < 2 ^ 64)
def oMul : P2 := fun a b S => match a, b with
  | .int i, .int j => if (fit64 i || fit64 j) = true then some (.int (i * j), S) else none
  | .tup xs, .int k => if 2 ≤ k ∧ k ≤ 1000 ∧ xs.length ≤ 1000 ∧ xs.length ≠ 0 then some (.tup (List.replicate k.toNat xs).flatten, S) else none
  | .ref n, .int k => match S.f n with
    | some (.lst xs) => if -(2 ^ 63) ≤ k ∧ k < 2 ^ 63 ∧ xs.length * k.toNat ≤ line then some (.ref S.n, S.new (.lst (List.replicate k.toNat xs).flatten)) else none
    | _ => none
  | _, _ => none
theorem RVs.rep {K : PySem.W.Frag} {ρ : Rn} {H : Hp} {xs : List A} {vs : List V} (r : RVs K ρ H xs vs) : ∀ k : Nat, RVs K ρ H (List.replicate k xs).flatten (List.replicate k vs).flatten
  | 0 => .nil
  | k + 1 => by
    rw [List.replicate_succ, List.replicate_succ, List.flatten_cons, List.flatten_cons]
    exact r.app (RVs.rep r k)
theorem o_mul : OpR X (binaryOp .Mult) (r2 (gd X) oMul) := by
  intro pins s σ H x y v u Q I rx ry h
  obtain ⟨ρ, S, a, b, c, S', R, ra, rb, e, k⟩ := h
  unfold oMul at e
  cases ra with
  | int i =>
    cases rb with
    | int j =>
      dsimp only at e
      by_cases hz : (fit64 i || fit64 j) = true
      · rw [if_pos hz] at e; cases e
        have hm : CMul i j := by
          unfold fit64 at hz
          rcases Bool.or_eq_true_iff.mp hz with z | z <;> rw [Bool.and_eq_true] at z
          · exact .inl ⟨of_decide_eq_true z.1, of_decide_eq_true z.2⟩
          · exact .inr ⟨of_decide_eq_true z.1, of_decide_eq_true z.2⟩
        exact op_mul pins s σ H _ _ v u Q I rx ry ⟨i, j, rfl, rfl, hm, k ρ H Ext.refl R _ (.int _)⟩
      · rw [if_neg hz] at e; cases e
    | _ => cases e
  | @tup p vs xs t1 r1 =>
    cases rb with
    | int j =>
      dsimp only at e
      by_cases hz : 2 ≤ j ∧ j ≤ 1000 ∧ xs.length ≤ 1000 ∧ xs.length ≠ 0
      · rw [if_pos hz] at e; cases e
        exact op_repT pins s σ H _ _ v u Q I rx ry ⟨p, j, vs, rfl, rfl, SqT.of t1, fun z => hz.2.2.2 (by rw [r1.length, z]; rfl), hz.1, hz.2.1, by rw [← r1.length]; exact hz.2.2.1, fin_tup R (r1.rep _) k⟩
      · rw [if_neg hz] at e; cases e
    | _ => cases e
  | @ref n p en =>
    cases rb with
    | int j =>
      dsimp only at e
      cases ef : S.f n with
      | none => rw [ef] at e; cases e
      | some o =>
        rw [ef] at e
        cases o with
        | lst xs =>
          dsimp only at e
          by_cases hz : -(2 ^ 63) ≤ j ∧ j < 2 ^ 63 ∧ xs.length * j.toNat ≤ line
          · rw [if_pos hz] at e; cases e
            obtain ⟨p', h1, a1, a2, a3⟩ := R.ob n _ ef
            rw [en] at a1; cases a1
            cases a3 with
            | lst r1 => exact op_rep pins s σ H _ _ v u Q I rx ry ⟨p, j, _, rfl, rfl, a2, hz.1, hz.2.1, by rw [← r1.length, ← line_eq]; exact hz.2.2, fin_lst R (r1.rep _) k⟩
          · rw [if_neg hz] at e; cases e
        | _ => cases e
    | _ => cases e
  | _ => cases rb <;> cases e
/-- // and % by a positive number -/
def oDiv : P2 := fun a b S => match a, b with
  | .int i, .int j => if 0 < j ∧ j < 1073741824 then some (.int (i / j), S) else none
  | _, _ => none
theorem o_div : OpR X (binaryOp .FloorDiv) (r2 (gd X) oDiv) := by
  intro pins s σ H x y v u Q I rx ry h
  obtain ⟨ρ, S, a, b, c, S', R, ra, rb, e, k⟩ := h
  unfold oDiv at e
  cases ra with
  | int i =>
    cases rb with
    | int j =>
      dsimp only at e
      by_cases hz : 0 < j ∧ j < 1073741824
      · rw [if_pos hz] at e; cases e
        exact op_fdiv pins s σ H _ _ v u Q I rx ry ⟨i, j, rfl, rfl, hz, k ρ H Ext.refl R _ (.int _)⟩
      · rw [if_neg hz] at e; cases e
    | _ => cases e
  | _ => cases e
def oMod : P2 := fun a b S => match a, b with
  | .int i, .int j => if 0 < j then some (.int (i % j), S) else none
  | _, _ => none
theorem o_mod : OpR X (binaryOp .Mod) (r2 (gd X) oMod) := by
  intro pins s σ H x y v u Q I rx ry h
  obtain ⟨ρ, S, a, b, c, S', R, ra, rb, e, k⟩ := h
  unfold oMod at e
  cases ra with
  | int i =>
    cases rb with
    | int j =>
      dsimp only at e
      by_cases hz : 0 < j
      · rw [if_pos hz] at e; cases e
        exact op_mod pins s σ H _ _ v u Q I rx ry ⟨i, j, rfl, rfl, hz, k ρ H Ext.refl R _ (.int _)⟩
      · rw [if_neg hz] at e; cases e
    | _ => cases e
  | _ => cases e
def oPow : P2 := fun a b S => match a, b with
  | .int i, .int j => if 0 ≤ j ∧ j ≤ 1000 ∧ i.natAbs < 1000 then some (.int (i ^ j.toNat), S) else none
  | _, _ => none
theorem o_pow : OpR X (binaryOp .Pow) (r2 (gd X) oPow) := by
  intro pins s σ H x y v u Q I rx ry h
  obtain ⟨ρ, S, a, b, c, S', R, ra, rb, e, k⟩ := h
  unfold oPow at e
  cases ra with
  | int i =>
    cases rb with
    | int j =>
      dsimp only at e
      by_cases hz : 0 ≤ j ∧ j ≤ 1000 ∧ i.natAbs < 1000
      · rw [if_pos hz] at e; cases e
        refine op_pow pins s σ H _ _ v u Q I rx ry ⟨i, j, rfl, rfl, ⟨hz.1, by omega, ?_⟩, k ρ H Ext.refl R _ (.int _)⟩
        exact Nat.lt_trans hz.2.2 (by decide)
      · rw [if_neg hz] at e; cases e
    | _ => cases e
  | _ => cases e
/-- -a -/
def r1' (G : Gd) (f : A → Sto → Option (A × Sto)) : V → Hp → VK → Prop := fun x H Q => ∃ ρ S a c S', Rep G ρ S H ∧ RV G.K ρ H a x ∧ f a S = some (c, S') ∧ ∀ ρ' H', Ext G.K ρ H ρ' H' → Rep G ρ' S' H' → ∀ z, RV G.K ρ' H' c z → Q z H'
def c1 (f : A → Sto → Option (A × Sto)) (a : CE) : CE := fun ε => bnd (a ε) fun x => lft (f x)
theorem un_in {f : A → Sto → Option (A × Sto)} {σ : L2.St} {H : Hp} {Q : VK} (h : tE (gd X) W (c1 f ca) σ H Q) : tUn (r1' (gd X) f) (tE (gd X) W ca) σ H Q := by
  obtain ⟨ρ, S, ε, R, r, h⟩ := h
  refine ⟨ρ, S, ε, R, r, (SatP.bnd h).imp fun x ρ1 S1 H1 x1 R1 q v hv => ?_⟩
  obtain ⟨c, S', e, k⟩ := SatP.lft q
  exact ⟨ρ1, S1, x, c, S', R1, hv, e, k⟩
def oNeg : A → Sto → Option (A × Sto) := fun a S => match a with
  | .int i => some (.int (-i), S)
  | _ => none
theorem je_neg (ha : JE X W a ca) : JE X W (.UnaryOp .USub a pos) (c1 oNeg ca) := by
  refine PE.imp (pe_un (r := r1' (gd X) oNeg) ?_ ha) fun σ H Q h => un_in h
  intro pins s σ H x v Q I rx h
  obtain ⟨ρ, S, a, c, S', R, ra, e, k⟩ := h
  cases ra with
  | int i => cases e; exact un_neg pins s σ H _ v Q I rx ⟨i, rfl, k ρ H Ext.refl R _ (.int _)⟩
  | _ => cases e

/-! ### comparisons of numbers -/
def oCmp (p : Int → Int → Bool) : P2 := fun a b S => match a, b with
  | .int i, .int j => some (.bl (p i j), S)
  | _, _ => none
theorem o_cmp {op : CmpOp} {p : Int → Int → Bool} (hr : OpR X (compareOp op) (rI0 fun i j => .bl (p i j))) : OpR X (compareOp op) (r2 (gd X) (oCmp p)) := by
  intro pins s σ H x y v u Q I rx ry h
  obtain ⟨ρ, S, a, b, c, S', R, ra, rb, e, k⟩ := h
  unfold oCmp at e
  cases ra with
  | int i =>
    cases rb with
    | int j => cases e; exact hr pins s σ H _ _ v u Q I rx ry ⟨i, j, rfl, rfl, k ρ H Ext.refl R _ (.bl _)⟩
    | _ => cases e
  | _ => cases e
def oLt : P2 := oCmp fun i j => decide (i < j)
def oLe : P2 := oCmp fun i j => decide (i ≤ j)
def oGt : P2 := oCmp fun i j => decide (j < i)
def oGe : P2 := oCmp fun i j => decide (j ≤ i)
theorem o_lt : OpR X (compareOp .Lt) (r2 (gd X) oLt) := o_cmp op_lt
theorem o_le : OpR X (compareOp .LtE) (r2 (gd X) oLe) := o_cmp op_le
theorem o_gt : OpR X (compareOp .Gt) (r2 (gd X) oGt) := o_cmp op_gt
theorem o_ge : OpR X (compareOp .GtE) (r2 (gd X) oGe) := o_cmp op_ge
/-- is None, is True: the right side None or a bool -/
def oIs (neg : Bool) : P2 := fun a b S => match a, b with
  | .bl i, .bl j => some (.bl (neg != decide (i = j)), S)
  | .non, .non => some (.bl (neg != true), S)
  | _, .non => some (.bl (neg != false), S)
  | _, _ => none
theorem o_is : OpR X (compareOp .Is) (r2 (gd X) (oIs false)) := by
  intro pins s σ H x y v u Q I rx ry h
  obtain ⟨ρ, S, a, b, c, S', R, ra, rb, e, k⟩ := h
  unfold oIs at e
  cases rb with
  | non =>
    refine op_isN pins s σ H _ _ v u Q I rx ry ⟨rfl, ?_⟩
    cases ra <;> cases e <;> exact k ρ H Ext.refl R _ (.bl _)
  | bl j =>
    cases ra with
    | bl i => cases e; exact op_isBl pins s σ H _ _ v u Q I rx ry ⟨i, j, rfl, rfl, by simpa using k ρ H Ext.refl R _ (.bl _)⟩
    | _ => cases e
  | _ => cases ra <;> cases e
theorem o_isnot : OpR X (compareOp .IsNot) (r2 (gd X) (oIs true)) := by
  intro pins s σ H x y v u Q I rx ry h
  obtain ⟨ρ, S, a, b, c, S', R, ra, rb, e, k⟩ := h
  unfold oIs at e
  cases rb with
  | non =>
    refine op_notN pins s σ H _ _ v u Q I rx ry ⟨rfl, ?_⟩
    cases ra <;> cases e <;> exact k ρ H Ext.refl R _ (.bl _)
  | bl j =>
    cases ra with
    | bl i => cases e; exact op_notBl pins s σ H _ _ v u Q I rx ry ⟨i, j, rfl, rfl, by simpa using k ρ H Ext.refl R _ (.bl _)⟩
    | _ => cases e
  | _ => cases ra <;> cases e
end
end EV

end

section
set_option Elab.async false
set_option linter.all false
set_option maxRecDepth 100000
/-! EvData: values read as data; ==, in, subscripts, slices, displays. -/
namespace EV
open PySem PySem.Spec PyProof.Rows L2

def mapO {β : Type} (f : A → Option β) : List A → Option (List β)
  | [] => some []
  | a :: r => match f a, mapO f r with
    | some d, some ds => some (d :: ds)
    | _, _ => none
/-- a value read as data, lists of the store too -/
def rdD : Nat → Sto → A → Option PyData
  | 0, _, _ => none
  | k + 1, S, a => match a with
    | .non => some .none
    | .bl b => some (.bool b)
    | .int i => some (.int i)
    | .str x => some (.str x)
    | .tup xs => (mapO (rdD k S) xs).map .tuple
    | .ref n => match S.f n with
      | some (.lst xs) => (mapO (rdD k S) xs).map .list
      | _ => none
    | .scr _ => none
section
variable {G : Gd} {ρ : Rn} {H : Hp} {S : Sto}
theorem mapO_dp {f : A → Option PyData} (hf : ∀ a x d, RV G.K ρ H a x → f a = some d → Dp G.K H x d) : ∀ {as : List A} {xs : List V} {ds : List PyData}, RVs G.K ρ H as xs → mapO f as = some ds → DpAll G.K H xs ds
  | _, _, _, .nil, e => by cases e; exact .nil
  | _, _, _, .cons (a := a) (xs := as) r t, e => by
    unfold mapO at e
    cases e1 : f a with
    | none => rw [e1] at e; cases e
    | some d =>
      cases e2 : mapO f as with
      | none => rw [e1, e2] at e; cases e
      | some ds => rw [e1, e2] at e; cases e; exact .cons (hf _ _ _ r e1) (mapO_dp hf t e2)
theorem rd_dp (R : Rep G ρ S H) : ∀ (k : Nat) (a : A) (x : V) (d : PyData), RV G.K ρ H a x → rdD k S a = some d → Dp G.K H x d
  | 0, _, _, _, _, e => by cases e
  | k + 1, _, _, d, r, e => by
    have ih := rd_dp R k
    unfold rdD at e
    cases r with
    | non => cases e; exact .non
    | bl b => cases e; exact .bl b
    | int i => cases e; exact .int i
    | str x => cases e; exact .str x
    | @tup p vs xs t rs =>
      dsimp only at e
      obtain ⟨ds, e1, e2⟩ := Option.map_eq_some_iff.mp e
      subst e2
      exact .tup (SqT.of t) (mapO_dp ih rs e1)
    | @ref n p en =>
      dsimp only at e
      cases ef : S.f n with
      | none => rw [ef] at e; cases e
      | some o =>
        rw [ef] at e
        cases o with
        | lst xs =>
          obtain ⟨ds, e1, e2⟩ := Option.map_eq_some_iff.mp e
          subst e2
          obtain ⟨vs, sq, rs⟩ := R.listAt en (.inl ef)
          exact .lst sq (mapO_dp ih rs e1)
        | _ => cases e
    | scr _ => cases e
end
/-- data that == takes -/
def rdE (S : Sto) (a : A) : Option PyData := match rdD 64 S a with
  | some d => if SeqAt.shaped d = true then some d else none
  | none => none
theorem rdE_some {S : Sto} {a : A} {d : PyData} (h : rdE S a = some d) : rdD 64 S a = some d ∧ SeqAt.shaped d = true := by
  unfold rdE at h
  cases e : rdD 64 S a with
  | none => rw [e] at h; cases h
  | some d' =>
    rw [e] at h
    dsimp only at h
    by_cases z : SeqAt.shaped d' = true
    · rw [if_pos z] at h; cases h; exact ⟨rfl, z⟩
    · rw [if_neg z] at h; cases h
def oEq (neg : Bool) : P2 := fun a b S => match rdE S a, rdE S b with
  | some d, some e => some (.bl (neg != PyData.eqv d e), S)
  | _, _ => none
section
variable {X : Cx} {W : WX} {pos : Pos}
theorem o_eq (hu : X.A.units + 65 < cLine) : OpR X (compareOp .Eq) (r2 (gd X) (oEq false)) := by
  intro pins s σ H x y v u Q I rx ry h
  obtain ⟨ρ, S, a, b, c, S', R, ra, rb, e, k⟩ := h
  unfold oEq at e
  cases e1 : rdE S a with
  | none => rw [e1] at e; cases e
  | some d =>
    cases e2 : rdE S b with
    | none => rw [e1, e2] at e; cases e
    | some d2 =>
      rw [e1, e2] at e; cases e
      obtain ⟨f1, g1⟩ := rdE_some e1
      obtain ⟨f2, g2⟩ := rdE_some e2
      exact op_eqD (by omega) pins s σ H _ _ v u Q I rx ry ⟨d, d2, rd_dp R _ _ _ _ ra f1, rd_dp R _ _ _ _ rb f2, g1, g2, by simpa using k ρ H Ext.refl R _ (.bl _)⟩
theorem o_ne (hu : X.A.units + 65 < cLine) : OpR X (compareOp .NotEq) (r2 (gd X) (oEq true)) := by
  intro pins s σ H x y v u Q I rx ry h
  obtain ⟨ρ, S, a, b, c, S', R, ra, rb, e, k⟩ := h
  unfold oEq at e
  cases e1 : rdE S a with
  | none => rw [e1] at e; cases e
  | some d =>
    cases e2 : rdE S b with
    | none => rw [e1, e2] at e; cases e
    | some d2 =>
      rw [e1, e2] at e; cases e
      obtain ⟨f1, g1⟩ := rdE_some e1
      obtain ⟨f2, g2⟩ := rdE_some e2
      exact op_neD (by omega) pins s σ H _ _ v u Q I rx ry ⟨d, d2, rd_dp R _ _ _ _ ra f1, rd_dp R _ _ _ _ rb f2, g1, g2, by simpa using k ρ H Ext.refl R _ (.bl _)⟩

/-! ### in, not in -/
def lk (kvs : List (Kk × A)) (k : Kk) : Option A := (kvs.find? fun p => decide (p.1 = k)).map (·.2)
/-- the dict at a handle, asked for a key: of its own sort of keys -/
def kOk (t : Bool) : Kk → Bool
  | .inl _ => !t
  | .inr _ => t
def dctAt (S : Sto) (n : Nat) : Option (Bool × List (Kk × A)) := match S.f n with
  | some (.dct t kvs) => some (t, kvs)
  | some (.ldk t kvs) => some (t, kvs)
  | _ => none
def oIn (neg : Bool) : P2 := fun a b S => match b with
  | .str y => match a with
    | .str x => some (.bl (neg != !(Builtin.Str.occurrences y x 0 y.length 1).isEmpty), S)
    | _ => none
  | .ref n => match dctAt S n with
    | some (t, kvs) => match keyOf a with
      | some k => if kOk t k = true then some (.bl (neg != (lk kvs k).isSome), S) else none
      | none => none
    | none => match rdE S a, rdE S b with
      | some d, some (.list ds) => some (.bl (neg != ds.any fun z => PyData.eqv z d), S)
      | _, _ => none
  | _ => match rdE S a, rdE S b with
    | some d, some (.tuple ds) => some (.bl (neg != ds.any fun z => PyData.eqv z d), S)
    | _, _ => none
theorem lk_val {K : PySem.W.Frag} {ρ : Rn} {H : Hp} {κ : Type} [DecidableEq κ] (inj : κ → Kk) (hi : ∀ a b, inj a = inj b ↔ a = b) (k : κ) : ∀ {kvs : List (Kk × A)} {ks : List (κ × V)}, Paired (fun p q => p.1 = inj q.1 ∧ RV K ρ H p.2 q.2) kvs ks →
    (lk kvs (inj k) = none ∧ valV ks k = none) ∨ ∃ a v, lk kvs (inj k) = some a ∧ valV ks k = some v ∧ RV K ρ H a v
  | _, _, .nil => .inl ⟨rfl, rfl⟩
  | p :: kvs, q :: ks, .cons r t => by
    have e1 : lk (p :: kvs) (inj k) = if p.1 = inj k then some p.2 else lk kvs (inj k) := by
      unfold lk
      rw [List.find?_cons]
      by_cases h : p.1 = inj k
      · simp [h]
      · simp [h]
    by_cases h : q.1 = k
    · have h2 : p.1 = inj k := by rw [r.1, h]
      rw [e1, if_pos h2, valV_pos h]
      exact .inr ⟨_, _, rfl, rfl, r.2⟩
    · have h2 : ¬ p.1 = inj k := fun z => h ((hi _ _).mp (r.1.symm.trans z))
      rw [e1, if_neg h2, valV_neg h]
      exact lk_val inj hi k t
theorem lk_other {K : PySem.W.Frag} {ρ : Rn} {H : Hp} {κ : Type} (inj : κ → Kk) (k : Kk) (hk : ∀ a, inj a ≠ k) : ∀ {kvs : List (Kk × A)} {ks : List (κ × V)}, Paired (fun p q => p.1 = inj q.1 ∧ RV K ρ H p.2 q.2) kvs ks → lk kvs k = none
  | _, _, .nil => rfl
  | p :: kvs, q :: ks, .cons r t => by
    have ih := lk_other inj k hk t
    unfold lk at ih ⊢
    rw [List.find?_cons]
    have : decide (p.1 = k) = false := decide_eq_false (fun z => hk _ (r.1.symm.trans z))
    rw [this]
    exact ih
/-- the key that a value is -/
theorem keyK_rv {K : PySem.W.Frag} {ρ : Rn} {H : Hp} {a : A} {x : V} {k : Key} (r : RV K ρ H a x) (e : keyK a = some k) : x = kV k ∧ a = keyA k := by
  cases r with
  | int i => cases e; exact ⟨rfl, rfl⟩
  | str z => cases e; exact ⟨rfl, rfl⟩
  | _ => cases e
theorem keyKs_rv {K : PySem.W.Frag} {ρ : Rn} {H : Hp} : ∀ {as : List A} {xs : List V} {ks : List Key}, RVs K ρ H as xs → keyKs as = some ks → xs = ks.map kV ∧ as = ks.map keyA
  | _, _, _, .nil, e => by cases e; exact ⟨rfl, rfl⟩
  | _, _, _, .cons (a := a) (xs := as) r t, e => by
    unfold keyKs at e
    cases e1 : keyK a with
    | none => rw [e1] at e; cases e
    | some k =>
      cases e2 : keyKs as with
      | none => rw [e1, e2] at e; cases e
      | some ks =>
        rw [e1, e2] at e; cases e
        obtain ⟨h1, h2⟩ := keyK_rv r e1
        obtain ⟨h3, h4⟩ := keyKs_rv t e2
        exact ⟨by rw [h1, h3]; rfl, by rw [h2, h4]; rfl⟩
theorem keyOf_rv {K : PySem.W.Frag} {ρ : Rn} {H : Hp} {a : A} {x : V} {k : Kk} (r : RV K ρ H a x) (e : keyOf a = some k) :
    (∃ k', k = .inl k' ∧ x = kV k') ∨ ∃ ks p, k = .inr ks ∧ x = .ref p ∧ H p = some (.tup (ks.map kV)) := by
  unfold keyOf at e
  cases r with
  | @tup p vs xs t rs =>
    obtain ⟨ks, e1, e2⟩ := Option.map_eq_some_iff.mp e
    subst e2
    obtain ⟨h1, h2⟩ := keyKs_rv rs e1
    subst h1
    exact .inr ⟨ks, p, rfl, rfl, t⟩
  | int i => cases e; exact .inl ⟨.inl i, rfl, rfl⟩
  | str z => cases e; exact .inl ⟨.inr z, rfl, rfl⟩
  | _ => cases e
theorem inl_iff (a b : Key) : (Sum.inl a : Kk) = Sum.inl b ↔ a = b := ⟨fun h => Sum.inl.inj h, fun h => by rw [h]⟩
theorem inr_iff (a b : List Key) : (Sum.inr a : Kk) = Sum.inr b ↔ a = b := ⟨fun h => Sum.inr.inj h, fun h => by rw [h]⟩
/-- a dict of the store at its place: one of keys, or one of tuples of keys -/
theorem dct_at {G : Gd} {ρ : Rn} {H : Hp} {S : Sto} (R : Rep G ρ S H) {n : Nat} {p : Addr} {t : Bool} {kvs : List (Kk × A)} (en : ρ n = some p) (e : dctAt S n = some (t, kvs)) :
    (t = false ∧ ∃ ks, Rd H p (.dK ks) ∧ KR G.K ρ H kvs ks) ∨ (t = true ∧ ∃ ks, Rd H p (.dT ks) ∧ TR G.K ρ H kvs ks) := by
  unfold dctAt at e
  cases ef : S.f n with
  | none => rw [ef] at e; cases e
  | some o =>
    rw [ef] at e
    obtain ⟨p', u, e1, e2, r⟩ := R.ob n _ ef
    rw [en] at e1; cases e1
    cases r with
    | dk r => cases e; exact .inl ⟨rfl, _, .inl e2, r⟩
    | dt r => cases e; exact .inr ⟨rfl, _, .inl e2, r⟩
    | lk r => cases e; exact .inl ⟨rfl, _, .inr ⟨_, e2⟩, r⟩
    | lt r => cases e; exact .inr ⟨rfl, _, .inr ⟨_, e2⟩, r⟩
    | _ => cases e
theorem dget_at {G : Gd} {ρ : Rn} {H : Hp} {S : Sto} (R : Rep G ρ S H) {n : Nat} {p : Addr} {t : Bool} {kvs : List (Kk × A)} {a : A} {x : V} {k : Kk} (en : ρ n = some p) (e : dctAt S n = some (t, kvs)) (ra : RV G.K ρ H a x) (ek : keyOf a = some k) (hk : kOk t k = true) :
    ∃ o, DGet H p x o ∧ ((lk kvs k = none ∧ o = none) ∨ ∃ c v, lk kvs k = some c ∧ o = some v ∧ RV G.K ρ H c v) := by
  rcases dct_at R en e with ⟨rfl, ks, hd, r⟩ | ⟨rfl, ks, hd, r⟩
  · rcases keyOf_rv ra ek with ⟨k', rfl, rfl⟩ | ⟨ts, q, rfl, rfl, ht⟩
    · exact ⟨valV ks k', .inl ⟨ks, k', hd, rfl, rfl⟩, lk_val Sum.inl inl_iff k' r⟩
    · cases hk
  · rcases keyOf_rv ra ek with ⟨k', rfl, rfl⟩ | ⟨ts, q, rfl, rfl, ht⟩
    · cases hk
    · exact ⟨valV ks ts, .inr ⟨ks, ts, q, hd, rfl, ht, rfl⟩, lk_val Sum.inr inr_iff ts r⟩
theorem rdE_scr {S : Sto} {ns : List Int} : rdE S (.scr ns) = none := rfl
theorem rdE_list {S : Sto} {n : Nat} {d : PyData} (h : rdE S (.ref n) = some d) : ∃ ds, d = .list ds := by
  have h := (rdE_some h).1
  unfold rdD at h
  dsimp only at h
  cases ef : S.f n with
  | none => rw [ef] at h; cases h
  | some o =>
    rw [ef] at h
    cases o with
    | lst xs => obtain ⟨ds, _, e⟩ := Option.map_eq_some_iff.mp h; exact ⟨ds, e.symm⟩
    | _ => cases h
theorem o_in (hu : X.A.units + 65 < cLine) : OpR X (compareOp .In) (r2 (gd X) (oIn false)) := by
  intro pins s σ H x y v u Q I rx ry h
  obtain ⟨ρ, S, a, b, c, S', R, ra, rb, e, k⟩ := h
  have data : ∀ ds, (∃ d, rdE S a = some d ∧ (rdE S b = some (.list ds) ∨ rdE S b = some (.tuple ds)) ∧ (c, S') = (A.bl (ds.any fun z => PyData.eqv z d), S)) → wpAny (model X.prog X.w) X.A (compareOp .In v u) (EP X pins σ Q) X.xe s := by
    rintro ds ⟨d, h1, h2, h3⟩
    cases h3
    obtain ⟨f1, g1⟩ := rdE_some h1
    obtain ⟨as, r1⟩ := Dp.reads I d x v (rd_dp R _ _ _ _ ra f1) rx
    rcases h2 with h2 | h2
    · obtain ⟨f2, g2⟩ := rdE_some h2
      obtain ⟨bs, r2⟩ := Dp.reads I (.list ds) y u (rd_dp R _ _ _ _ rb f2) ry
      exact SeqAt.in_list_reads r2 r1 (SeqAt.canLay_of_shaped g2) (SeqAt.canLay_of_shaped g1) (room_in_shaped g1 hu) ⟨.bl _, H, I, rfl, k ρ H Ext.refl R _ (.bl _)⟩
    · obtain ⟨f2, g2⟩ := rdE_some h2
      obtain ⟨bs, r2⟩ := Dp.reads I (.tuple ds) y u (rd_dp R _ _ _ _ rb f2) ry
      exact SeqAt.in_tuple_reads r2 r1 (SeqAt.canLay_of_shaped g2) (SeqAt.canLay_of_shaped g1) (room_in_shaped g1 hu) ⟨.bl _, H, I, rfl, k ρ H Ext.refl R _ (.bl _)⟩
  unfold oIn at e
  cases rb with
  | str z =>
    cases ra with
    | str z2 => cases e; exact op_in_str pins s σ H _ _ v u Q I rx ry ⟨z2, z, rfl, rfl, by simpa using k ρ H Ext.refl R _ (.bl _)⟩
    | _ => cases e
  | @ref n p en =>
    dsimp only at e
    cases ed : dctAt S n with
    | none =>
      rw [ed] at e
      dsimp only at e
      cases h1 : rdE S a with
      | none => rw [h1] at e; cases e
      | some d =>
        cases h2 : rdE S (.ref n) with
        | none => rw [h1, h2] at e; cases e
        | some d2 =>
          obtain ⟨ds, rfl⟩ := rdE_list h2
          rw [h1, h2] at e
          exact data ds ⟨d, h1, .inl h2, by simpa using (Option.some.inj e).symm⟩
    | some tk =>
      obtain ⟨t, kvs⟩ := tk
      rw [ed] at e
      dsimp only at e
      cases ek : keyOf a with
      | none => rw [ek] at e; cases e
      | some kk =>
        rw [ek] at e
        dsimp only at e
        by_cases hk : kOk t kk = true
        · rw [if_pos hk] at e; cases e
          obtain ⟨o, g, q⟩ := dget_at R en ed ra ek hk
          cases ry
          refine d_in (by omega) I g rx fun s' I' => ⟨.bl o.isSome, H, I', rfl, ?_⟩
          have : (lk kvs kk).isSome = o.isSome := by
            rcases q with ⟨q1, q2⟩ | ⟨c, v, q1, q2, _⟩ <;> rw [q1, q2] <;> rfl
          have k2 := k ρ H Ext.refl R _ (.bl _)
          rw [this] at k2
          simpa using k2
        · rw [if_neg hk] at e; cases e
  | @tup p vs xs t rs =>
    dsimp only at e
    cases h1 : rdE S a with
    | none => rw [h1] at e; cases e
    | some d =>
      cases h2 : rdE S (.tup xs) with
      | none => rw [h1, h2] at e; cases e
      | some d2 =>
        rw [h1, h2] at e
        cases d2 <;> first | cases e | skip
        exact data _ ⟨d, h1, .inr h2, by simp⟩
  | scr _ =>
    dsimp only at e
    rw [rdE_scr] at e
    cases h1 : rdE S a with
    | none => rw [h1] at e; cases e
    | some d => rw [h1] at e; cases e
  | _ => 
    dsimp only at e
    cases h1 : rdE S a with
    | none => rw [h1] at e; cases e
    | some d => rw [h1] at e; cases e
theorem o_notin (hu : X.A.units + 65 < cLine) : OpR X (compareOp .NotIn) (r2 (gd X) (oIn true)) := by
  intro pins s σ H x y v u Q I rx ry h
  obtain ⟨ρ, S, a, b, c, S', R, ra, rb, e, k⟩ := h
  have data : ∀ ds, (∃ d, rdE S a = some d ∧ (rdE S b = some (.list ds) ∨ rdE S b = some (.tuple ds)) ∧ (c, S') = (A.bl (!ds.any fun z => PyData.eqv z d), S)) → wpAny (model X.prog X.w) X.A (compareOp .NotIn v u) (EP X pins σ Q) X.xe s := by
    rintro ds ⟨d, h1, h2, h3⟩
    cases h3
    obtain ⟨f1, g1⟩ := rdE_some h1
    obtain ⟨as, r1⟩ := Dp.reads I d x v (rd_dp R _ _ _ _ ra f1) rx
    rcases h2 with h2 | h2
    · obtain ⟨f2, g2⟩ := rdE_some h2
      obtain ⟨bs, r2⟩ := Dp.reads I (.list ds) y u (rd_dp R _ _ _ _ rb f2) ry
      exact SeqAt.notIn_list_reads r2 r1 (SeqAt.canLay_of_shaped g2) (SeqAt.canLay_of_shaped g1) (room_in_shaped g1 hu) ⟨.bl _, H, I, rfl, k ρ H Ext.refl R _ (.bl _)⟩
    · obtain ⟨f2, g2⟩ := rdE_some h2
      obtain ⟨bs, r2⟩ := Dp.reads I (.tuple ds) y u (rd_dp R _ _ _ _ rb f2) ry
      exact SeqAt.notIn_tuple_reads r2 r1 (SeqAt.canLay_of_shaped g2) (SeqAt.canLay_of_shaped g1) (room_in_shaped g1 hu) ⟨.bl _, H, I, rfl, k ρ H Ext.refl R _ (.bl _)⟩
  unfold oIn at e
  cases rb with
  | str z =>
    cases ra with
    | str z2 => cases e; exact op_notIn_str pins s σ H _ _ v u Q I rx ry ⟨z2, z, rfl, rfl, by simpa using k ρ H Ext.refl R _ (.bl _)⟩
    | _ => cases e
  | @ref n p en =>
    dsimp only at e
    cases ed : dctAt S n with
    | none =>
      rw [ed] at e
      dsimp only at e
      cases h1 : rdE S a with
      | none => rw [h1] at e; cases e
      | some d =>
        cases h2 : rdE S (.ref n) with
        | none => rw [h1, h2] at e; cases e
        | some d2 =>
          obtain ⟨ds, rfl⟩ := rdE_list h2
          rw [h1, h2] at e
          exact data ds ⟨d, h1, .inl h2, by simpa using (Option.some.inj e).symm⟩
    | some tk =>
      obtain ⟨t, kvs⟩ := tk
      rw [ed] at e
      dsimp only at e
      cases ek : keyOf a with
      | none => rw [ek] at e; cases e
      | some kk =>
        rw [ek] at e
        dsimp only at e
        by_cases hk : kOk t kk = true
        · rw [if_pos hk] at e; cases e
          obtain ⟨o, g, q⟩ := dget_at R en ed ra ek hk
          cases ry
          refine d_notIn (by omega) I g rx fun s' I' => ⟨.bl (!o.isSome), H, I', rfl, ?_⟩
          have : (lk kvs kk).isSome = o.isSome := by
            rcases q with ⟨q1, q2⟩ | ⟨c, v, q1, q2, _⟩ <;> rw [q1, q2] <;> rfl
          have k2 := k ρ H Ext.refl R _ (.bl _)
          rw [this] at k2
          simpa using k2
        · rw [if_neg hk] at e; cases e
  | @tup p vs xs t rs =>
    dsimp only at e
    cases h1 : rdE S a with
    | none => rw [h1] at e; cases e
    | some d =>
      cases h2 : rdE S (.tup xs) with
      | none => rw [h1, h2] at e; cases e
      | some d2 =>
        rw [h1, h2] at e
        cases d2 <;> first | cases e | skip
        exact data _ ⟨d, h1, .inr h2, by simp⟩
  | scr _ =>
    dsimp only at e
    rw [rdE_scr] at e
    cases h1 : rdE S a with
    | none => rw [h1] at e; cases e
    | some d => rw [h1] at e; cases e
  | _ => 
    dsimp only at e
    cases h1 : rdE S a with
    | none => rw [h1] at e; cases e
    | some d => rw [h1] at e; cases e
end
end EV

end

section
set_option Elab.async false
set_option linter.all false
set_option maxRecDepth 100000
/-! EvSub: subscripts, slices, displays, built-ins and methods by values. -/
namespace EV
open PySem PySem.Spec PyProof.Rows L2

/-! ### a[i] -/
def oIx : P2 := fun a b S => match a with
  | .tup xs => match b with
    | .int i => (atI xs i).map fun c => (c, S)
    | _ => none
  | .str z => match b with
    | .int i => if z.length ≤ line then (atI z.cps.toList i).map fun c => (.str ⟨#[c]⟩, S) else none
    | _ => none
  | .ref n => match S.f n with
    | some (.lst xs) => match b with
      | .int i => (atI xs i).map fun c => (c, S)
      | _ => none
    | some (.dct t kvs) => match keyOf b with
      | some k => if kOk t k = true then (lk kvs k).map fun c => (c, S) else none
      | none => none
    | some (.ldk t kvs) => match keyOf b with
      | some k => if kOk t k = true then (lk kvs k).map fun c => (c, S) else none
      | none => none
    | _ => none
  | _ => none
theorem atI_rv {K : PySem.W.Frag} {ρ : Rn} {H : Hp} {xs : List A} {vs : List V} (r : RVs K ρ H xs vs) {i : Int} {a : A} (h : atI xs i = some a) : ∃ v, atI vs i = some v ∧ RV K ρ H a v := by
  unfold atI at h ⊢
  rw [← r.length]
  cases e : ixN xs.length i with
  | none => rw [e] at h; cases h
  | some j =>
    rw [e] at h
    exact r.get h
theorem ix_dict {X : Cx} (hu : X.A.units + 65 < cLine) : IxR X (fun x y H Q => ∃ a v, x = .ref a ∧ DGet H a y (some v) ∧ Q v H) := by
  intro value slice pins s σ H x y v u Q I rx ry h hs
  obtain ⟨a, w, rfl, g, q⟩ := h
  cases rx
  exact tail_any (dict_typeIs I g) PySem.F.slot_dict_getitem.lookup (d_getItem (by omega) I g ry fun w' s' I' r => ⟨w, H, I', r, q⟩) hs
section
variable {X : Cx} {W : WX} {a b : Expr} {ca cb : CE} {pos : Pos}
theorem ix_all (hu : X.A.units + 65 < cLine) : IxR X (r2 (gd X) oIx) := by
  intro value slice pins s σ H x y v u Q I rx ry h hs
  obtain ⟨ρ, S, a, b, c, S', R, ra, rb, e, k⟩ := h
  have dct : ∀ {n : Nat} {p : Addr} {t : Bool} {kvs : List (Kk × A)}, ρ n = some p → dctAt S n = some (t, kvs) → (match keyOf b with | some kk => if kOk t kk = true then (lk kvs kk).map fun c => (c, S) else none | none => none) = some (c, S') → x = .ref p →
      wpAny (model X.prog X.w) X.A (subscriptTail value slice v u) (EP X pins σ Q) X.xe s := by
    intro n p t kvs en ed e hx
    subst hx
    cases ek : keyOf b with
    | none => rw [ek] at e; cases e
    | some kk =>
      rw [ek] at e
      dsimp only at e
      by_cases hk : kOk t kk = true
      · rw [if_pos hk] at e
        obtain ⟨o, g, q⟩ := dget_at R en ed rb ek hk
        rcases q with ⟨q1, q2⟩ | ⟨c', w, q1, q2, q3⟩
        · rw [q1] at e; cases e
        · rw [q1] at e; cases e
          subst q2
          exact ix_dict hu value slice pins s σ H _ _ v u Q I rx ry ⟨p, w, rfl, g, k ρ H Ext.refl R _ q3⟩ hs
      · rw [if_neg hk] at e; cases e
  unfold oIx at e
  cases ra with
  | @tup p vs xs t r =>
    cases rb with
    | int i =>
      obtain ⟨c', e1, e2⟩ := Option.map_eq_some_iff.mp e
      cases e2
      obtain ⟨w, hw, rw'⟩ := atI_rv r e1
      exact ix_tup value slice pins s σ H _ _ v u Q I rx ry ⟨p, vs, i, w, rfl, rfl, SqT.of t, hw, k ρ H Ext.refl R _ rw'⟩ hs
    | _ => cases e
  | str z =>
    cases rb with
    | int i =>
      dsimp only at e
      by_cases hz : z.length ≤ line
      · rw [if_pos hz] at e
        obtain ⟨c', e1, e2⟩ := Option.map_eq_some_iff.mp e
        cases e2
        exact ix_str value slice pins s σ H _ _ v u Q I rx ry ⟨z, i, c', rfl, rfl, by rw [← line_eq]; exact hz, e1, k ρ H Ext.refl R _ (.str _)⟩ hs
      · rw [if_neg hz] at e; cases e
    | _ => cases e
  | @ref n p en =>
    dsimp only at e
    cases ef : S.f n with
    | none => rw [ef] at e; cases e
    | some o =>
      rw [ef] at e
      cases o with
      | lst xs =>
        cases rb with
        | int i =>
          obtain ⟨c', e1, e2⟩ := Option.map_eq_some_iff.mp e
          cases e2
          obtain ⟨vs, sq, r⟩ := R.listAt en (.inl ef)
          obtain ⟨w, hw, rw'⟩ := atI_rv r e1
          exact ix_list value slice pins s σ H _ _ v u Q I rx ry ⟨p, vs, i, w, rfl, rfl, sq, hw, k ρ H Ext.refl R _ rw'⟩ hs
        | _ => cases e
      | dct t kvs => exact dct en (by unfold dctAt; rw [ef]) e rfl
      | ldk t kvs => exact dct en (by unfold dctAt; rw [ef]) e rfl
      | _ => cases e
  | _ => cases e
theorem je_ix (hu : X.A.units + 65 < cLine) (ha : JE X W a ca) (hb : JE X W b cb) (hs : PlainIx b := by exact fun _ _ => rfl) : JE X W (.Subscript a b pos) (c2 oIx ca cb) := PE.imp (pe_ix (ix_all hu) ha hb hs) fun σ H Q h => op_in h

/-! ### a[lo:hi] -/
abbrev CO := Env → M (Option Int)
def oNo : CO := fun _ => rt none
def oAt (c : CE) : CO := fun ε => bnd (c ε) fun a => match a with
  | .int i => rt (some i)
  | _ => stuck
def tO (G : Gd) (W : WX) (c : CO) : TO := fun σ H Q => ∃ ρ S ε, Rep G ρ S H ∧ RE G.K ρ H ε σ ∧ Sat G W σ ρ H (c ε S) fun o _ _ H' => Q o H'
abbrev JO (X : Cx) (W : WX) (e : Option Expr) (c : CO) : Prop := PO X e (tO (gd X) W c)
theorem PO.imp {e : Option Expr} {t t' : TO} (h : PO X e t) (k : ∀ σ H Q, t' σ H Q → t σ H Q) : PO X e t' := ⟨fun pins s σ H Q I q => h.run pins s σ H Q I (k σ H Q q)⟩
theorem jo_no : JO X W none oNo := by
  refine PO.imp po_none fun σ H Q h => ?_
  obtain ⟨ρ, S, ε, R, r, h⟩ := h
  exact SatP.rt h R
theorem jo_at {e : Expr} {c : CE} (h : JE X W e c) : JO X W (some e) (oAt c) := by
  refine PO.imp (po_some h) fun σ H Q h => ?_
  obtain ⟨ρ, S, ε, R, r, h⟩ := h
  refine ⟨ρ, S, ε, R, r, (SatP.bnd h).imp fun a ρ' S' H' x R' q v hv => ?_⟩
  cases hv with
  | int i => exact ⟨i, rfl, SatP.rt q R'⟩
  | _ => exact q.elim
/-- the items of xs[lo:hi] -/
def cutA (xs : List A) (lo hi : Option Int) : List A := (xs.drop (HT.sIx xs.length 0 lo)).take (HT.sIx xs.length xs.length hi - HT.sIx xs.length 0 lo)
theorem cut_rv {K : PySem.W.Frag} {ρ : Rn} {H : Hp} {xs : List A} {vs : List V} (r : RVs K ρ H xs vs) (lo hi : Option Int) : RVs K ρ H (cutA xs lo hi) (cutV vs lo hi) := by
  unfold cutA cutV
  rw [r.length]
  exact (r.drop _).take _
def oSl (a : A) (lo hi : Option Int) (S : Sto) : Option (A × Sto) := match a with
  | .tup xs => some (.tup (cutA xs lo hi), S)
  | .ref n => match S.f n with
    | some (.lst xs) => some (.ref S.n, S.new (.lst (cutA xs lo hi)))
    | _ => none
  | _ => none
def cSl (c : CE) (l h : CO) : CE := fun ε => bnd (c ε) fun a => bnd (l ε) fun lo => bnd (h ε) fun hi => lft (oSl a lo hi)
theorem je_slice {e : Expr} {lo hi : Option Expr} {c : CE} {cl ch : CO} {p2 : Pos} (he : JE X W e c) (hl : JO X W lo cl) (hh : JO X W hi ch) : JE X W (.Subscript e (.Slice lo hi none p2) pos) (cSl c cl ch) := by
  refine PE.imp (pe_slice (SlR.or sl_list sl_tupA) he hl hh) fun σ H Q h => ?_
  obtain ⟨ρ, S, ε, R, r, h⟩ := h
  refine ⟨ρ, S, ε, R, r, (SatP.bnd h).imp fun a ρ1 S1 H1 x1 R1 q v hv => ⟨ρ1, S1, ε, R1, r.mono x1, (SatP.bnd q).imp fun l ρ2 S2 H2 x2 R2 q2 => ⟨ρ2, S2, ε, R2, (r.mono x1).mono x2, (SatP.bnd q2).imp fun u ρ3 S3 H3 x3 R3 q3 => ?_⟩⟩⟩
  obtain ⟨c', S', e', k⟩ := SatP.lft q3
  have hv3 := hv.mono (x2.trans x3)
  unfold oSl at e'
  cases hv3 with
  | @tup p vs xs t rs =>
    cases e'
    refine .inr ⟨p, vs, rfl, SqT.of t, fun hw => ?_, fun hw => fin_tup R3 (cut_rv rs l u) k⟩
    have ew : cutA xs l u = xs := by
      unfold cutA
      rw [rs.length, hw.1, hw.2, List.drop_zero, Nat.sub_zero, ← rs.length, List.take_length]
    rw [ew] at k
    exact k ρ3 H3 Ext.refl R3 _ (.tup t rs)
  | @ref n p en =>
    dsimp only at e'
    cases ef : S3.f n with
    | none => rw [ef] at e'; cases e'
    | some o =>
      rw [ef] at e'
      cases o with
      | lst xs =>
        cases e'
        obtain ⟨vs, sq, rs⟩ := R3.listAt en (.inl ef)
        exact .inl ⟨p, vs, rfl, sq, fin_lst R3 (cut_rv rs l u) k⟩
      | _ => cases e'
  | _ => cases e'

/-! ### displays -/
def cTup (c : CL) : CE := fun ε => bnd (c ε) fun xs => lft fun S => if xs.length ≤ line then some (.tup xs, S) else none
def cLst (c : CL) : CE := fun ε => bnd (c ε) fun xs => lft fun S => if xs.length ≤ line then some (.ref S.n, S.new (.lst xs)) else none
theorem je_tup {es : List Expr} {c : CL} {x1} (h : JA X W es c) : JE X W (.Tuple es x1 pos) (cTup c) := by
  refine PE.imp (pe_tup h) fun σ H Q h => ?_
  obtain ⟨ρ, S, ε, R, r, h⟩ := h
  refine ⟨ρ, S, ε, R, r, (SatP.bnd h).imp fun xs ρ1 S1 H1 x1 R1 q vs hv => ?_⟩
  obtain ⟨c', S', e', k⟩ := SatP.lft q
  by_cases hz : xs.length ≤ line
  · rw [if_pos hz] at e'; cases e'
    exact ⟨by rw [← hv.length, ← line_eq]; exact hz, fin_tup R1 hv k⟩
  · rw [if_neg hz] at e'; cases e'
theorem je_lst {es : List Expr} {c : CL} (h : JA X W es c) : JE X W (.List es pos) (cLst c) := by
  refine PE.imp (pe_lst h) fun σ H Q h => ?_
  obtain ⟨ρ, S, ε, R, r, h⟩ := h
  refine ⟨ρ, S, ε, R, r, (SatP.bnd h).imp fun xs ρ1 S1 H1 x1 R1 q vs hv => ?_⟩
  obtain ⟨c', S', e', k⟩ := SatP.lft q
  by_cases hz : xs.length ≤ line
  · rw [if_pos hz] at e'; cases e'
    exact ⟨by rw [← hv.length, ← line_eq]; exact hz, fin_lst R1 hv k⟩
  · rw [if_neg hz] at e'; cases e'
/-- {}: whose keys are tuples (t), or not -/
def cDnew (t : Bool) : CE := fun _ S => .ok (.ref S.n) (S.new (.dct t []))
theorem je_dnewK : JE X W (.Dict [] [] pos) (cDnew false) := by
  refine PE.imp pe_dnewK fun σ H Q h p hp => ?_
  obtain ⟨ρ, S, ε, R, r, h⟩ := h
  exact h _ _ (R.ext_new (h := .dK []) hp) (R.new hp (.dk .nil)) _ (.ref ren_self)
theorem je_dnewT : JE X W (.Dict [] [] pos) (cDnew true) := by
  refine PE.imp pe_dnewT fun σ H Q h p hp => ?_
  obtain ⟨ρ, S, ε, R, r, h⟩ := h
  exact h _ _ (R.ext_new (h := .dT []) hp) (R.new hp (.dt .nil)) _ (.ref ren_self)

/-! ### built-ins by values -/
abbrev PL := List A → Sto → Option (A × Sto)
def rL (G : Gd) (f : PL) : List V → Hp → VK → Prop := fun vs H Q => ∃ ρ S as c S', Rep G ρ S H ∧ RVs G.K ρ H as vs ∧ f as S = some (c, S') ∧ ∀ ρ' H', Ext G.K ρ H ρ' H' → Rep G ρ' S' H' → ∀ z, RV G.K ρ' H' c z → Q z H'
def cB (f : PL) (c : CL) : CE := fun ε => bnd (c ε) fun xs => lft (f xs)
theorem cb_in {f : PL} {c : CL} {σ : L2.St} {H : Hp} {Q : VK} (h : tE (gd X) W (cB f c) σ H Q) : tCB (rL (gd X) f) (tL (gd X) W c) σ H Q := by
  obtain ⟨ρ, S, ε, R, r, h⟩ := h
  refine ⟨ρ, S, ε, R, r, (SatP.bnd h).imp fun xs ρ1 S1 H1 x1 R1 q vs hv => ?_⟩
  obtain ⟨c', S', e', k⟩ := SatP.lft q
  exact ⟨ρ1, S1, xs, c', S', R1, hv, e', k⟩
theorem je_callB {x : Str} {p : Pos} {e : Expr} {es : List Expr} {id : String} {f : PL} {c : CL} (hc : CallR X (.builtin id) (rL (gd X) f)) (hm : X.mg x = none) (hv : bootBuiltins x = some (.builtin id)) (ha : JA X W (e :: es) c) (hg : Gl X x := by rfl) (hn : x ≠ "__name__" := by decide)
    (hdb : (x == ("__debug__" : Str)) = false := by decide) (he : starEach (e :: es) X.env = (false, eval e X.env) :: starEach es X.env := by rfl) (hpl : (backTo pos (starEach es X.env)).any (·.1) = false := by rfl) :
    JE X W (.Call (.Name x p) (e :: es) [] pos) (cB f c) := PE.imp (pe_callB hc hg hm hv ha hn hdb he hpl) fun σ H Q h => cb_in h
theorem je_callTy {x : Str} {p : Pos} {e : Expr} {es : List Expr} {T : String} {f : PL} {c : CL} (hc : CallR X (.type T) (rL (gd X) f)) (hm : X.mg x = none) (hv : bootBuiltins x = some (.type T)) (ha : JA X W (e :: es) c) (hg : Gl X x := by rfl) (hn : x ≠ "__name__" := by decide)
    (hdb : (x == ("__debug__" : Str)) = false := by decide) (he : starEach (e :: es) X.env = (false, eval e X.env) :: starEach es X.env := by rfl) (hpl : (backTo pos (starEach es X.env)).any (·.1) = false := by rfl) :
    JE X W (.Call (.Name x p) (e :: es) [] pos) (cB f c) := PE.imp (pe_callTy hc hg hm hv ha hn hdb he hpl) fun σ H Q h => cb_in h
theorem rvs1 {K : PySem.W.Frag} {ρ : Rn} {H : Hp} {a : A} {vs : List V} (r : RVs K ρ H [a] vs) : ∃ v, vs = [v] ∧ RV K ρ H a v := by
  cases r with
  | cons r t => cases t; exact ⟨_, rfl, r⟩
def bLen : PL := fun as S => match as with
  | [.tup xs] => some (.int xs.length, S)
  | [.str z] => if z.length ≤ line then some (.int z.length, S) else none
  | [.ref n] => match S.f n with
    | some (.lst xs) => some (.int xs.length, S)
    | _ => none
  | _ => none
theorem b_len : CallR X (.builtin "len") (rL (gd X) bLen) := by
  intro pins s σ H xs us Q I r h
  obtain ⟨ρ, S, as, c, S', R, ra, e, k⟩ := h
  unfold bLen at e
  split at e
  · obtain ⟨v, rfl, rv⟩ := rvs1 ra
    cases e
    cases rv with
    | tup t rs => exact call_len pins s σ H _ us Q I r ⟨_, _, rfl, .inr ⟨_, SqT.of t, rs.length⟩, k ρ H Ext.refl R _ (.int _)⟩
  · obtain ⟨v, rfl, rv⟩ := rvs1 ra
    cases rv with
    | str z =>
      split at e
      · cases e
        rename_i hz
        exact call_len pins s σ H _ us Q I r ⟨_, _, rfl, ⟨by rw [← line_eq]; exact hz, rfl⟩, k ρ H Ext.refl R _ (.int _)⟩
      · cases e
  · obtain ⟨v, rfl, rv⟩ := rvs1 ra
    cases rv with
    | @ref n p en =>
      split at e
      · rename_i ef
        cases e
        obtain ⟨vs, sq, rs⟩ := R.listAt en (.inl ef)
        exact call_len pins s σ H _ us Q I r ⟨_, _, rfl, .inl ⟨_, sq, rs.length⟩, k ρ H Ext.refl R _ (.int _)⟩
      · cases e
  · cases e
/-- list(x), tuple(x) -/
def bList : PL := fun as S => match as with
  | [.tup xs] => some (.ref S.n, S.new (.lst xs))
  | [.ref n] => match S.f n with
    | some (.lst xs) => some (.ref S.n, S.new (.lst xs))
    | some (.rol xs) => some (.ref S.n, S.new (.lst xs))
    | _ => none
  | [.scr ns] => some (.ref S.n, S.new (.lst (ns.map .int)))
  | _ => none
theorem ints_rv {K : PySem.W.Frag} {ρ : Rn} {H : Hp} : ∀ ns : List Int, RVs K ρ H (ns.map .int) (ns.map V.int)
  | [] => .nil
  | n :: ns => .cons (.int n) (ints_rv ns)
theorem b_list : CallR X (.type "list") (rL (gd X) bList) := by
  intro pins s σ H xs us Q I r h
  obtain ⟨ρ, S, as, c, S', R, ra, e, k⟩ := h
  unfold bList at e
  split at e
  · obtain ⟨v, rfl, rv⟩ := rvs1 ra
    cases e
    cases rv with
    | tup t rs => exact call_list_of pins s σ H _ us Q I r ⟨_, _, rfl, .inr (SqT.of t), fin_lst R rs k⟩
  · obtain ⟨v, rfl, rv⟩ := rvs1 ra
    cases rv with
    | @ref n p en =>
      split at e
      · rename_i ef
        cases e
        obtain ⟨vs, sq, rs⟩ := R.listAt en (.inl ef)
        exact call_list_of pins s σ H _ us Q I r ⟨_, _, rfl, .inl sq, fin_lst R rs k⟩
      · rename_i ef
        cases e
        obtain ⟨vs, sq, rs⟩ := R.listAt en (.inr ef)
        exact call_list_of pins s σ H _ us Q I r ⟨_, _, rfl, .inl sq, fin_lst R rs k⟩
      · cases e
  · obtain ⟨v, rfl, rv⟩ := rvs1 ra
    cases e
    cases rv with
    | scr kl => exact call_list_of pins s σ H _ us Q I r ⟨_, _, rfl, .inl (.inr kl), fin_lst R (ints_rv _) k⟩
  · cases e
def bTuple : PL := fun as S => match as with
  | [.tup xs] => some (.tup xs, S)
  | [.ref n] => match S.f n with
    | some (.lst xs) => some (.tup xs, S)
    | _ => none
  | _ => none
theorem b_tuple : CallR X (.type "tuple") (rL (gd X) bTuple) := by
  intro pins s σ H xs us Q I r h
  obtain ⟨ρ, S, as, c, S', R, ra, e, k⟩ := h
  unfold bTuple at e
  split at e
  · obtain ⟨v, rfl, rv⟩ := rvs1 ra
    cases e
    cases rv with
    | tup t rs => exact call_tuple_of pins s σ H _ us Q I r ⟨_, _, rfl, .inr ⟨SqT.of t, k ρ H Ext.refl R _ (.tup t rs)⟩⟩
  · obtain ⟨v, rfl, rv⟩ := rvs1 ra
    cases rv with
    | @ref n p en =>
      split at e
      · rename_i ef
        cases e
        obtain ⟨vs, sq, rs⟩ := R.listAt en (.inl ef)
        exact call_tuple_of pins s σ H _ us Q I r ⟨_, _, rfl, .inl ⟨sq, fin_tup R rs k⟩⟩
      · cases e
  · cases e
def bInt : PL := fun as S => match as with
  | [.int i] => some (.int i, S)
  | _ => none
theorem b_int : CallR X (.type "int") (rL (gd X) bInt) := by
  intro pins s σ H xs us Q I r h
  obtain ⟨ρ, S, as, c, S', R, ra, e, k⟩ := h
  unfold bInt at e
  split at e
  · obtain ⟨v, rfl, rv⟩ := rvs1 ra
    cases e
    cases rv
    exact call_int1 pins s σ H _ us Q I r (.inl ⟨_, rfl, k ρ H Ext.refl R _ (.int _)⟩)
  · cases e
def bAbs : PL := fun as S => match as with
  | [.int i] => some (.int (if i < 0 then -i else i), S)
  | _ => none
theorem b_abs : CallR X (.builtin "abs") (rL (gd X) bAbs) := by
  intro pins s σ H xs us Q I r h
  obtain ⟨ρ, S, as, c, S', R, ra, e, k⟩ := h
  unfold bAbs at e
  split at e
  · obtain ⟨v, rfl, rv⟩ := rvs1 ra
    cases e
    cases rv
    exact call_abs pins s σ H _ us Q I r ⟨_, rfl, k ρ H Ext.refl R _ (.int _)⟩
  · cases e
/-- the truth values that a list holds -/
def bools : List A → Option (List Bool)
  | [] => some []
  | .bl b :: r => (bools r).map (b :: ·)
  | _ :: _ => none
theorem bools_rv {K : PySem.W.Frag} {ρ : Rn} {H : Hp} : ∀ {as : List A} {vs : List V} {bs : List Bool}, RVs K ρ H as vs → bools as = some bs → vs = bs.map V.bl
  | _, _, _, .nil, e => by cases e; rfl
  | _, _, _, .cons r t, e => by
    cases r with
    | bl b =>
      obtain ⟨bs, e1, e2⟩ := Option.map_eq_some_iff.mp e
      subst e2
      rw [bools_rv t e1]
      rfl
    | _ => cases e
def bAll : PL := fun as S => match as with
  | [.ref n] => match S.f n with
    | some (.lst xs) => (bools xs).map fun bs => (.bl (bs.all id), S)
    | _ => none
  | _ => none
def bAny : PL := fun as S => match as with
  | [.ref n] => match S.f n with
    | some (.lst xs) => (bools xs).map fun bs => (.bl (bs.any id), S)
    | _ => none
  | _ => none
theorem b_all (hc : X.calm = true) : CallR X (.builtin "all") (rL (gd X) bAll) := by
  intro pins s σ H xs us Q I r h
  obtain ⟨ρ, S, as, c, S', R, ra, e, k⟩ := h
  unfold bAll at e
  split at e
  · obtain ⟨v, rfl, rv⟩ := rvs1 ra
    cases rv with
    | @ref n p en =>
      split at e
      · rename_i ef
        obtain ⟨bs, e1, e2⟩ := Option.map_eq_some_iff.mp e
        cases e2
        obtain ⟨vs, sq, rs⟩ := R.listAt en (.inl ef)
        rw [bools_rv rs e1] at sq
        exact cr_all hc pins s σ H _ us Q I r ⟨p, bs, rfl, sq, k ρ H Ext.refl R _ (.bl _)⟩
      · cases e
  · cases e
theorem b_any (hc : X.calm = true) : CallR X (.builtin "any") (rL (gd X) bAny) := by
  intro pins s σ H xs us Q I r h
  obtain ⟨ρ, S, as, c, S', R, ra, e, k⟩ := h
  unfold bAny at e
  split at e
  · obtain ⟨v, rfl, rv⟩ := rvs1 ra
    cases rv with
    | @ref n p en =>
      split at e
      · rename_i ef
        obtain ⟨bs, e1, e2⟩ := Option.map_eq_some_iff.mp e
        cases e2
        obtain ⟨vs, sq, rs⟩ := R.listAt en (.inl ef)
        rw [bools_rv rs e1] at sq
        exact cr_any hc pins s σ H _ us Q I r ⟨p, bs, rfl, sq, k ρ H Ext.refl R _ (.bl _)⟩
      · cases e
  · cases e
end
end EV

end

section
set_option Elab.async false
set_option linter.all false
set_option maxRecDepth 100000
/-! EvMeth: isinstance of built-in types; methods of lists and dicts; o[i] = v; a += b. -/
namespace EV
open PySem PySem.Spec PyProof.Rows L2

/-! ### isinstance -/
inductive Ty where
  | none | bool | int | str | tuple | list | dict
def Ty.nm : Ty → String
  | .none => "NoneType"
  | .bool => "bool"
  | .int => "int"
  | .str => "str"
  | .tuple => "tuple"
  | .list => "list"
  | .dict => "dict"
def tyA (S : Sto) : A → Option Ty
  | .non => some .none
  | .bl _ => some .bool
  | .int _ => some .int
  | .str _ => some .str
  | .tup _ => some .tuple
  | .ref n => match S.f n with
    | some (.lst _) => some .list
    | some (.rol _) => some .list
    | some (.dct _ _) => some .dict
    | _ => Option.none
  | .scr _ => Option.none
/-- a value of type t is a T -/
def isTy : Ty → Ty → Bool
  | .none, .none => true
  | .bool, .bool => true
  | .bool, .int => true
  | .int, .int => true
  | .str, .str => true
  | .tuple, .tuple => true
  | .list, .list => true
  | .dict, .dict => true
  | _, _ => false
theorem kit_tys (t T : Ty) : kitB t.nm T.nm = some (isTy t T) := by
  cases t <;> cases T <;> decide +kernel
theorem tyA_of {G : Gd} {ρ : Rn} {S : Sto} {H : Hp} (R : Rep G ρ S H) {a : A} {x : V} {t : Ty} (r : RV G.K ρ H a x) (e : tyA S a = some t) : TyX G.K H x (.type t.nm) := by
  cases r with
  | non => cases e; exact .base .non
  | bl b => cases e; exact .base (.bl b)
  | int i => cases e; exact .base (.int i)
  | str z => cases e; exact .base (.str z)
  | tup q _ => cases e; exact .base (.tup q)
  | @ref n p en =>
    unfold tyA at e
    dsimp only at e
    cases ef : S.f n with
    | none => rw [ef] at e; cases e
    | some o =>
      rw [ef] at e
      obtain ⟨q, u, e1, e2, rr⟩ := R.ob n _ ef
      rw [en] at e1; cases e1
      cases rr with
      | lst _ => cases e; exact .base (.lst e2)
      | rol _ => cases e; exact .base (.frz e2)
      | dk _ => cases e; exact .base (.dK e2)
      | dt _ => cases e; exact .base (.dT e2)
      | _ => cases e
  | scr _ => cases e
def isiA (T : Ty) (S : Sto) (a : A) : Option (A × Sto) := (tyA S a).map fun t => (.bl (isTy t T), S)
def cIsi (T : Ty) (c : CE) : CE := fun ε => bnd (c ε) fun a => lft fun S => isiA T S a
section
variable {X : Cx} {W : WX} {pos : Pos}
theorem je_isi {e : Expr} {c : CE} {x : Str} {p p2 : Pos} (T : Ty) (hm : X.mg "isinstance" = none) (hT : X.mg x = none) (he : JE X W e c) (hg : Gl X "isinstance" := by rfl) (hgT : Gl X x := by rfl) (hv : bootBuiltins x = some (.type T.nm) := by rfl) (hn : x ≠ "__name__" := by decide) (hd : (x == ("__debug__" : Str)) = false := by decide)
    (h1 : starEach [e, .Name x p2] X.env = (false, eval e X.env) :: starEach [.Name x p2] X.env := by rfl) (h2 : starEach [.Name x p2] X.env = (false, eval (.Name x p2) X.env) :: starEach [] X.env := by rfl) (hpl : (backTo pos (starEach [.Name x p2] X.env)).any (·.1) = false := by rfl) :
    JE X W (.Call (.Name "isinstance" p) [e, .Name x p2] [] pos) (cIsi T c) := by
  refine PE.imp (pe_callB call_isi hg hm (by rfl) (pa_cons he (pa_cons (pe_bltn (v := .ty T.nm) hgT hT hv rfl hn hd) pa_nil h2) h1) (by decide) (by decide) h1 hpl) fun σ H Q h => ?_
  obtain ⟨ρ, S, ε, R, r, h⟩ := h
  refine ⟨ρ, S, ε, R, r, (SatP.bnd h).imp fun a ρ1 S1 H1 x1 R1 q v hv => ?_⟩
  obtain ⟨c', S', e', k⟩ := SatP.lft q
  obtain ⟨t, e1, e2⟩ := Option.map_eq_some_iff.mp e'
  cases e2
  exact ⟨v, .ty T.nm, .type t.nm, .type T.nm, isTy t T, rfl, .ty _, tyA_of R1 hv e1, kit_ty (kit_tys t T), k ρ1 H1 Ext.refl R1 _ (.bl _)⟩

/-! ### methods of lists -/
def rM (G : Gd) (f : A → PL) : V → List V → Hp → VK → Prop := fun x vs H Q => ∃ ρ S a as c S', Rep G ρ S H ∧ RV G.K ρ H a x ∧ RVs G.K ρ H as vs ∧ f a as S = some (c, S') ∧ ∀ ρ' H', Ext G.K ρ H ρ' H' → Rep G ρ' S' H' → ∀ z, RV G.K ρ' H' c z → Q z H'
/-- the value is a list -/
def aLst (a : A) : M Unit := fun S => match a with
  | .ref n => match S.f n with
    | some (.lst _) => .ok () S
    | _ => .bad
  | _ => .bad
def cM (f : A → PL) (c : CE) (l : CL) : CE := fun ε => bnd (c ε) fun a => bnd (aLst a) fun _ => bnd (l ε) fun as => lft (f a as)
theorem aLst_inv {β : Type} {σ : L2.St} {a : A} {x : V} {ρ : Rn} {S : Sto} {H : Hp} {f : Unit → M β} {post : Post β} (R : Rep (gd X) ρ S H) (r : RV X.K ρ H a x) (h : Sat (gd X) W σ ρ H (bnd (aLst a) f S) post) : tyV X.K "list" x H ∧ Sat (gd X) W σ ρ H (f () S) post := by
  cases r with
  | @ref n p en =>
    unfold bnd aLst at h
    dsimp only at h
    cases ef : S.f n with
    | none => rw [ef] at h; exact h.elim
    | some o =>
      rw [ef] at h
      cases o with
      | lst xs =>
        obtain ⟨vs, sq, _⟩ := R.listAt en (.inl ef)
        exact ⟨.inl ⟨rfl, vs, sq⟩, h⟩
      | _ => exact h.elim
  | _ => exact h.elim
theorem je_m {o e : Expr} {es : List Expr} {c : CE} {l : CL} {name : Str} {apos cpos : Pos} {id : String} {f : A → PL} (slot : Slot "list" name id) (hty : typeOf (.builtin id) = pure (.type "method_descriptor")) (hm : MtR X id (rM (gd X) f)) (ho : JE X W o c) (ha : JA X W (e :: es) l)
    (hbase : attributeBase o name X.env (eval o X.env) = eval o X.env := by rfl)
    (hfew : ((backTo cpos (starEach (e :: es) X.env)).all (fun x => !x.1) && (backToKw cpos (keywordEach [] X.env)).all (fun x => x.1.isSome)
      && decide ((e :: es).length + ([] : List Keyword).length + (if ([] : List Keyword).isEmpty then 0 else 1) < 30)) = true := by rfl)
    (hline : (apos.endLine == cpos.line) = true := by rfl) (hs : starEach (e :: es) X.env = (false, eval e X.env) :: starEach es X.env := by rfl) (hplain : (backTo cpos (starEach es X.env)).any (·.1) = false := by rfl) :
    JE X W (.Call (.Attribute o name apos) (e :: es) [] cpos) (cM f c l) := by
  refine PE.imp (pe_bm PySem.F.plainAttrs_list slot hty hm ho ha hbase hfew hline hs hplain) fun σ H Q h => ?_
  obtain ⟨ρ, S, ε, R, r, h⟩ := h
  refine ⟨ρ, S, ε, R, r, (SatP.bnd h).imp fun a ρ1 S1 H1 x1 R1 q v hv => ?_⟩
  obtain ⟨t, q⟩ := aLst_inv R1 hv q
  refine ⟨t, ρ1, S1, ε, R1, r.mono x1, (SatP.bnd q).imp fun as ρ2 S2 H2 x2 R2 q2 vs hvs => ?_⟩
  obtain ⟨c', S', e', k⟩ := SatP.lft q2
  exact ⟨ρ2, S2, a, as, c', S', R2, hv.mono x2, hvs, e', k⟩
def cM0 (f : A → PL) (c : CE) : CE := fun ε => bnd (c ε) fun a => bnd (aLst a) fun _ => lft (f a [])
theorem je_m0 {o : Expr} {c : CE} {name : Str} {apos cpos : Pos} {id : String} {f : A → PL} (slot : Slot "list" name id) (hty : typeOf (.builtin id) = pure (.type "method_descriptor")) (hm : MtR X id (rM (gd X) f)) (ho : JE X W o c)
    (hbase : attributeBase o name X.env (eval o X.env) = eval o X.env := by rfl) (hline : (apos.endLine == cpos.line) = true := by rfl) : JE X W (.Call (.Attribute o name apos) [] [] cpos) (cM0 f c) := by
  refine PE.imp (pe_bm0 PySem.F.plainAttrs_list slot hty hm ho hbase hline) fun σ H Q h => ?_
  obtain ⟨ρ, S, ε, R, r, h⟩ := h
  refine ⟨ρ, S, ε, R, r, (SatP.bnd h).imp fun a ρ1 S1 H1 x1 R1 q v hv => ?_⟩
  obtain ⟨t, q⟩ := aLst_inv R1 hv q
  obtain ⟨c', S', e', k⟩ := SatP.lft q
  exact ⟨t, ρ1, S1, a, [], c', S', R1, hv, .nil, e', k⟩
/-- the list of the store is another one -/
theorem fin_put {G : Gd} {ρ : Rn} {S : Sto} {H : Hp} {n : Nat} {p : Addr} {ob : Ob} {h : HO} {c : A} {Q : VK} (R : Rep G ρ S H) (en : ρ n = some p) (hz : ∀ o u, H p ≠ some (.frz o u)) (r : ObR G ρ (upd H p h) ob h) (k : ∀ ρ' H', Ext G.K ρ H ρ' H' → Rep G ρ' (S.put n ob) H' → ∀ z, RV G.K ρ' H' c z → Q z H') : ∀ z, RV G.K ρ (upd H p h) c z → Q z (upd H p h) :=
  fun z rz => k ρ _ (R.ext_put en hz) (R.put en r) z rz
theorem lst_at {G : Gd} {ρ : Rn} {S : Sto} {H : Hp} (R : Rep G ρ S H) {n : Nat} {p : Addr} {xs : List A} (en : ρ n = some p) (ef : S.f n = some (.lst xs)) : ∃ vs, H p = some (.lst vs) ∧ RVs G.K ρ H xs vs ∧ ∀ o u, H p ≠ some (.frz o u) := by
  obtain ⟨q, u, e1, e2, rr⟩ := R.ob n _ ef
  rw [en] at e1; cases e1
  cases rr with
  | lst r => exact ⟨_, e2, r, fun o u z => by rw [e2] at z; cases z⟩
theorem put_t {G : Gd} {ρ : Rn} {S : Sto} {H : Hp} (R : Rep G ρ S H) {n : Nat} {p : Addr} {h : HO} (en : ρ n = some p) : ∀ q vs, H q = some (.tup vs) → (upd H p h) q = some (.tup vs) := fun q vs t => by
  obtain ⟨o, u, _, hu, r⟩ := R.there en
  exact sqT_upd (.inr ⟨u, hu, r.noT⟩) t
def mAppend (a : A) : PL := fun as S => match a, as with
  | .ref n, [y] => match S.f n with
    | some (.lst xs) => if xs.length < line then some (.non, S.put n (.lst (xs ++ [y]))) else none
    | _ => none
  | _, _ => none
theorem m_append : MtR X "list.append" (rM (gd X) mAppend) := by
  intro pins s σ H x vs v us Q I rx rv h
  obtain ⟨ρ, S, a, as, c, S', R, ra, ras, e, k⟩ := h
  unfold mAppend at e
  split at e
  · obtain ⟨y, rfl, ry⟩ := rvs1 ras
    cases ra with
    | @ref n p en =>
      split at e
      · rename_i ef
        split at e
        · rename_i hz
          cases e
          obtain ⟨vs, hl, rs, nz⟩ := lst_at R en ef
          exact mt_append pins s σ H _ _ v us Q I rx rv ⟨p, vs, y, rfl, rfl, hl, by rw [← rs.length, ← line_eq]; exact hz, fin_put R en nz (.lst (rvsT (put_t R en) (rs.app (.cons ry .nil)))) k _ .non⟩
        · cases e
      · cases e
  · cases e
def mExtend (a : A) : PL := fun as S => match a, as with
  | .ref n, [.ref m] => match S.f n, S.f m with
    | some (.lst xs), some (.lst ys) => if xs.length + ys.length ≤ line then some (.non, S.put n (.lst (xs ++ ys))) else none
    | _, _ => none
  | _, _ => none
theorem m_extend : MtR X "list.extend" (rM (gd X) mExtend) := by
  intro pins s σ H x vs v us Q I rx rv h
  obtain ⟨ρ, S, a, as, c, S', R, ra, ras, e, k⟩ := h
  unfold mExtend at e
  split at e
  · obtain ⟨y, rfl, ry⟩ := rvs1 ras
    cases ra with
    | @ref n p en =>
      cases ry with
      | @ref m q em =>
        split at e
        · rename_i ef eg
          split at e
          · rename_i hz
            cases e
            obtain ⟨vs, hl, rs, nz⟩ := lst_at R en ef
            obtain ⟨ws, hl2, rs2, nz2⟩ := lst_at R em eg
            exact mt_extend pins s σ H _ _ v us Q I rx rv ⟨p, q, vs, ws, rfl, rfl, hl, hl2, by rw [← rs.length, ← rs2.length, ← line_eq]; exact hz, fin_put R en nz (.lst (rvsT (put_t R en) (rs.app rs2))) k _ .non⟩
          · cases e
        · cases e
  · cases e
def mPop0 (a : A) : PL := fun as S => match a, as with
  | .ref n, [] => match S.f n with
    | some (.lst xs) => (xs[xs.length - 1]?).map fun y => (y, S.put n (.lst xs.dropLast))
    | _ => none
  | _, _ => none
theorem m_pop0 : MtR X "list.pop" (rM (gd X) mPop0) := by
  intro pins s σ H x vs v us Q I rx rv h
  obtain ⟨ρ, S, a, as, c, S', R, ra, ras, e, k⟩ := h
  unfold mPop0 at e
  split at e
  · cases ras
    cases ra with
    | @ref n p en =>
      split at e
      · rename_i ef
        obtain ⟨y, e1, e2⟩ := Option.map_eq_some_iff.mp e
        cases e2
        obtain ⟨vs, hl, rs, nz⟩ := lst_at R en ef
        obtain ⟨w, hw, rw'⟩ := rs.get e1
        rw [rs.length] at hw
        exact mt_pop pins s σ H _ _ v us Q I rx rv ⟨p, vs, w, rfl, rfl, hl, hw, fin_put R en nz (.lst (rvsT (put_t R en) rs.dropLast)) k _ (rvT (put_t R en) rw')⟩
      · cases e
  · cases e
def mPop1 (a : A) : PL := fun as S => match a, as with
  | .ref n, [.int i] => match S.f n with
    | some (.lst xs) => match ixN xs.length i with
      | some j => (xs[j]?).map fun y => (y, S.put n (.lst (xs.eraseIdx j)))
      | none => none
    | _ => none
  | _, _ => none
/-- the first place of an equal one -/
def idxD (d : PyData) : List PyData → Option Nat
  | [] => none
  | z :: r => if PyData.eqv z d = true then some 0 else (idxD d r).map (· + 1)
theorem idxD_some (d : PyData) : ∀ {ds : List PyData} {j : Nat}, idxD d ds = some j → ∃ z, ds[j]? = some z ∧ PyData.eqv z d = true ∧ ∀ (m : Nat) (z' : PyData), m < j → ds[m]? = some z' → PyData.eqv z' d = false
  | [], _, e => by cases e
  | y :: r, j, e => by
    unfold idxD at e
    by_cases h : PyData.eqv y d = true
    · rw [if_pos h] at e; cases e
      exact ⟨y, rfl, h, fun m z' hm => absurd hm (Nat.not_lt_zero _)⟩
    · rw [if_neg h] at e
      obtain ⟨i, e1, e2⟩ := Option.map_eq_some_iff.mp e
      subst e2
      obtain ⟨z, h1, h2, h3⟩ := idxD_some d e1
      refine ⟨z, by simpa using h1, h2, fun m z' hm hz => ?_⟩
      cases m with
      | zero => simp at hz; subst hz; exact Bool.eq_false_iff.mpr h
      | succ m => exact h3 m z' (by omega) (by simpa using hz)
def mIndex (a : A) : PL := fun as S => match as with
  | [y] => match rdE S a, rdE S y with
    | some (.list ds), some d => (idxD d ds).map fun (j : Nat) => (.int (j : Int), S)
    | _, _ => none
  | _ => none
theorem m_index (hu : X.A.units + 65 < cLine) : MtR X "list.index" (rM (gd X) mIndex) := by
  intro pins s σ H x vs v us Q I rx rv h
  obtain ⟨ρ, S, a, as, c, S', R, ra, ras, e, k⟩ := h
  unfold mIndex at e
  split at e
  · obtain ⟨y, rfl, ry⟩ := rvs1 ras
    split at e
    · rename_i e1 e2
      obtain ⟨j, e3, e4⟩ := Option.map_eq_some_iff.mp e
      cases e4
      obtain ⟨f1, g1⟩ := rdE_some e1
      obtain ⟨f2, g2⟩ := rdE_some e2
      obtain ⟨z, h1, h2, h3⟩ := idxD_some _ e3
      have d1 := rd_dp R _ _ _ _ ra f1
      have d2 := rd_dp R _ _ _ _ ry f2
      cases ra with
      | tup _ _ => exact mt_indexD hu pins s σ H _ _ v us Q I rx rv ⟨_, y, _, _, j, z, rfl, rfl, d1, d2, g1, g2, h1, h2, h3, k ρ H Ext.refl R _ (.int _)⟩
      | scr _ => rw [rdE_scr] at e1; cases e1
      | @ref n p en => exact mt_indexD hu pins s σ H _ _ v us Q I rx rv ⟨p, y, _, _, j, z, rfl, rfl, d1, d2, g1, g2, h1, h2, h3, k ρ H Ext.refl R _ (.int _)⟩
      | _ => cases d1
    · cases e
  · cases e
end
end EV

end

section
set_option Elab.async false
set_option linter.all false
set_option maxRecDepth 100000
/-! EvDict: d.setdefault, d.get, o[i] = v, a += b. -/
namespace EV
open PySem PySem.Spec PyProof.Rows L2

def dput (kvs : List (Kk × A)) (k : Kk) (v : A) : List (Kk × A) :=
  if (lk kvs k).isSome then kvs.map (fun p => if p.1 = k then (p.1, v) else p) else kvs ++ [(k, v)]
section
variable {K : PySem.W.Frag} {ρ : Rn} {H : Hp}
theorem dput_rv {κ : Type} [DecidableEq κ] (inj : κ → Kk) (hi : ∀ a b, inj a = inj b ↔ a = b) (k : κ) {a : A} {v : V} (r : RV K ρ H a v) {kvs : List (Kk × A)} {ks : List (κ × V)} (h : Paired (fun p q => p.1 = inj q.1 ∧ RV K ρ H p.2 q.2) kvs ks) :
    Paired (fun p q => p.1 = inj q.1 ∧ RV K ρ H p.2 q.2) (dput kvs (inj k) a) (putK ks k v) := by
  have e : (lk kvs (inj k)).isSome = ks.any fun kv => decide (kv.1 = k) := by
    rw [valV_any]
    rcases lk_val inj hi k h with ⟨h1, h2⟩ | ⟨c, w, h1, h2, _⟩ <;> rw [h1, h2] <;> rfl
  unfold dput putK
  rw [e]
  by_cases z : (ks.any fun kv => decide (kv.1 = k)) = true
  · rw [if_pos z, if_pos z]
    clear e z
    induction h with
    | nil => exact .nil
    | @cons p q ps qs hq t ih =>
      refine .cons ?_ ih
      dsimp only
      by_cases y : q.1 = k
      · rw [if_pos y, if_pos (by rw [hq.1, y])]
        exact ⟨hq.1, r⟩
      · rw [if_neg y, if_neg (fun u => y ((hi _ _).mp (hq.1.symm.trans u)))]
        exact hq
  · rw [if_neg z, if_neg z]
    exact Paired.snoc h ⟨rfl, r⟩
theorem paired_len {α β : Type} {R : α → β → Prop} {xs : List α} {ys : List β} (h : Paired R xs ys) : xs.length = ys.length := by
  induction h with
  | nil => rfl
  | cons _ _ ih => simp [ih]
end
section
variable {X : Cx} {W : WX} {pos : Pos}
theorem d_setdT {pins : List (Addr × Obj)} {σ : L2.St} {H : Hp} {s : Shared} {a b : Addr} {r : Value} {d : V} {k : List Key} {A : Around} {E : Value → Shared → Prop} {kvs : List (List Key × V)} {Q : Value → Shared → Prop} (hu : A.units + 1 < cLine) (I : Inv X pins σ H s) (e : H a = some (.dT kvs)) (eb : H b = some (.tup (k.map kV))) (rd : RelV d r) (hl : kvs.length < sizeLine)
    (h1 : ∀ v, valV kvs k = some v → ∀ (w' : Value) (s' : Shared), Inv X pins σ H s' → RelV v w' → Q w' s') (h2 : valV kvs k = none → ∀ (w' : Value) (s' : Shared), Inv X pins σ (upd H a (.dT (putK kvs k d))) s' → RelV d w' → Q w' s') :
    wpAny (model X.prog X.w) A (call (.builtin "dict.setdefault") [.ref a, .ref b, r]) Q E s := by
  obtain ⟨z, hd, xs, rel, dd⟩ := dt_of I.hok e
  have hz : xs.length ≤ sizeLine := by rw [← Paired.length rel]; exact z
  have rk := rel.val k
  refine call_setdefault_heap (hsz := hz) (tupleKind_room_in1 hu) (key_of I.hok eb) hd dd (fun p hp => ?_) fun hn h' dd' hs => ?_
  · rw [hp] at rk
    cases q0 : valV kvs k with
    | none => rw [q0] at rk; exact (show False from rk).elim
    | some v0 => rw [q0] at rk; exact h1 v0 q0 _ _ (I.tok _) rk
  · rw [hn] at rk
    cases q0 : valV kvs k with
    | some v0 => rw [q0] at rk; exact (show False from rk).elim
    | none =>
      have hl2 : (putK kvs k d).length ≤ sizeLine := by have := length_putK kvs k d; omega
      obtain ⟨q, es, ep, hq, g2, g3, g4, _, g5⟩ := dd'
      refine h2 q0 _ _ (d_write I (by rw [e]; exact True.intro) hs ⟨q, hq⟩ ⟨hl2, hd, _, (rel.put k eb rd).keeps fun c ys ec => ?_, q, es, ep, hq, g2, g3, g4, g5⟩) rd
      rw [upd_ne (ne_of ec e (fun z => nomatch z))]
      exact ec
/-- the value is a dict -/
def aDct (a : A) : M Unit := fun S => match a with
  | .ref n => match dctAt S n with
    | some _ => .ok () S
    | _ => .bad
  | _ => .bad
theorem isD_of {G : Gd} {ρ : Rn} {S : Sto} {H : Hp} (R : Rep G ρ S H) {n : Nat} {p : Addr} {t : Bool} {kvs : List (Kk × A)} (en : ρ n = some p) (e : dctAt S n = some (t, kvs)) : IsD H p := by
  rcases dct_at R en e with ⟨_, ks, hd, _⟩ | ⟨_, ks, hd, _⟩
  · exact .inl ⟨ks, hd⟩
  · exact .inr ⟨ks, hd⟩
theorem aDct_inv {β : Type} {σ : L2.St} {a : A} {x : V} {ρ : Rn} {S : Sto} {H : Hp} {f : Unit → M β} {post : Post β} (R : Rep (gd X) ρ S H) (r : RV X.K ρ H a x) (h : Sat (gd X) W σ ρ H (bnd (aDct a) f S) post) : (∃ n p, a = .ref n ∧ x = .ref p ∧ ρ n = some p ∧ IsD H p) ∧ Sat (gd X) W σ ρ H (f () S) post := by
  cases r with
  | @ref n p en =>
    unfold bnd aDct at h
    dsimp only at h
    cases ef : dctAt S n with
    | none => rw [ef] at h; exact h.elim
    | some o =>
      rw [ef] at h
      exact ⟨⟨n, p, rfl, rfl, en, isD_of R en ef⟩, h⟩
  | _ => exact h.elim
def oSetd (a y z : A) (S : Sto) : Option (A × Sto) := match a with
  | .ref n => match S.f n with
    | some (.dct t kvs) => match keyOf y with
      | some k => if kOk t k = true ∧ kvs.length < line then match lk kvs k with
          | some v => some (v, S)
          | none => some (z, S.put n (.dct t (dput kvs k z)))
        else none
      | none => none
    | _ => none
  | _ => none
def cSetd (c y z : CE) : CE := fun ε => bnd (c ε) fun a => bnd (aDct a) fun _ => bnd (y ε) fun k => bnd (z ε) fun v => lft (oSetd a k v)
theorem je_setd {o e f : Expr} {c cy cz : CE} {apos cpos : Pos} (hu : X.A.units + 65 < cLine) (ho : JE X W o c) (he : JE X W e cy) (hf : JE X W f cz) (m : M2 X o "setdefault" apos e f cpos) : JE X W (.Call (.Attribute o "setdefault" apos) [e, f] [] cpos) (cSetd c cy cz) := by
  refine ⟨fun pins s σ H Q I h => ?_⟩
  obtain ⟨ρ, S, ε, R, r, h⟩ := h
  have h0 : tE (gd X) W c σ H fun x H1 => ∃ n p, x = V.ref p ∧ IsD H1 p ∧ tE (gd X) W cy σ H1 fun y H2 => tE (gd X) W cz σ H2 fun z H3 => ∃ ρ3 S3 a k d c' S', Rep (gd X) ρ3 S3 H3 ∧ a = .ref n ∧ ρ3 n = some p ∧ RV X.K ρ3 H3 k y ∧ RV X.K ρ3 H3 d z ∧ oSetd a k d S3 = some (c', S') ∧ ∀ ρ' H', Ext X.K ρ3 H3 ρ' H' → Rep (gd X) ρ' S' H' → ∀ z, RV X.K ρ' H' c' z → Q z H' := by
    refine ⟨ρ, S, ε, R, r, (SatP.bnd h).imp fun a ρ1 S1 H1 x1 R1 q v hv => ?_⟩
    obtain ⟨⟨n, p, rfl, rfl, en, d⟩, q⟩ := aDct_inv R1 hv q
    refine ⟨n, p, rfl, d, ρ1, S1, ε, R1, r.mono x1, (SatP.bnd q).imp fun k ρ2 S2 H2 x2 R2 q2 y hy => ⟨ρ2, S2, ε, R2, (r.mono x1).mono x2, (SatP.bnd q2).imp fun d ρ3 S3 H3 x3 R3 q3 z hz => ?_⟩⟩
    obtain ⟨c', S', e', kk⟩ := SatP.lft q3
    exact ⟨ρ3, S3, _, k, d, c', S', R3, rfl, x3.m _ _ (x2.m _ _ en), hy.mono x3, hz, e', kk⟩
  refine wpAny_Call_method m.base m.few m.line PySem.F.plainAttrs_dict PySem.F.slot_dict_setdefault PySem.F.type_dict_setdefault (thn (ho.run pins s σ H _ I h0) fun u s1 ⟨x, H1, I1, rx, n, p, ex, d, q1⟩ => ?_)
  subst ex
  obtain rfl : u = Value.ref p := rx
  obtain ⟨t1, t2, _⟩ := isD_at I1 d
  refine ⟨t1, t2, ?_⟩
  rw [m.trees]
  refine Calls.callWith_builtin rfl (Calls.evalArgs_plain (Calls.spliced_cons (thn (he.run pins s1 σ H1 _ I1 q1) fun iv s2 ⟨y, H2, I2, ry, q2⟩ =>
    Calls.spliced_cons (thn (hf.run pins s2 σ H2 _ I2 q2) fun fv s3 ⟨z, H3, I3, rz, ρ3, S3, a, k, dv, c', S', R3, ea, en, hk, hd, e', kk⟩ => Calls.spliced_nil ?_))))
  subst ea
  unfold oSetd at e'
  dsimp only at e'
  cases ef : S3.f n with
  | none => rw [ef] at e'; cases e'
  | some ob =>
    rw [ef] at e'
    cases ob with
    | dct t kvs =>
      dsimp only at e'
      cases ek : keyOf k with
      | none => rw [ek] at e'; cases e'
      | some key =>
        rw [ek] at e'
        dsimp only at e'
        by_cases hz : kOk t key = true ∧ kvs.length < line
        · rw [if_pos hz] at e'
          obtain ⟨q, u, e1, e2, rr⟩ := R3.ob n _ ef
          rw [en] at e1; cases e1
          have tt := fun (h : HO) => put_t (h := h) R3 en
          cases rr with
          | @dk _ ks rk =>
            rcases keyOf_rv hk ek with ⟨k', rfl, rfl⟩ | ⟨ts, q, rfl, rfl, ht⟩
            · have hl : ks.length < sizeLine := by rw [← paired_len rk, ← line_eq]; exact hz.2
              rcases lk_val Sum.inl inl_iff k' rk with ⟨l1, l2⟩ | ⟨c, w, l1, l2, l3⟩
              · rw [l1] at e'
                cases e'
                refine d_setd I3 e2 ry rz hl (fun v hv => by rw [l2] at hv; cases hv) fun _ w' s4 I4 rw' => ⟨z, _, I4, rw', ?_⟩
                exact fin_put R3 en (fun o u z => by rw [e2] at z; cases z) (ObR.monoT (tt _) (.dk (dput_rv Sum.inl inl_iff k' hd rk))) kk _ (rvT (tt _) hd)
              · rw [l1] at e'
                cases e'
                exact d_setd I3 e2 ry rz hl (fun v hv w' s4 I4 rw' => by rw [l2] at hv; cases hv; exact ⟨w, H3, I4, rw', kk ρ3 H3 Ext.refl R3 _ l3⟩) fun hn => by rw [l2] at hn; cases hn
            · cases hz.1
          | @dt _ ks rk =>
            rcases keyOf_rv hk ek with ⟨k', rfl, rfl⟩ | ⟨ts, q, rfl, rfl, ht⟩
            · cases hz.1
            · cases (show iv = Value.ref q from ry)
              have hl : ks.length < sizeLine := by rw [← paired_len rk, ← line_eq]; exact hz.2
              rcases lk_val Sum.inr inr_iff ts rk with ⟨l1, l2⟩ | ⟨c, w, l1, l2, l3⟩
              · rw [l1] at e'
                cases e'
                refine d_setdT (by omega) I3 e2 ht rz hl (fun v hv => by rw [l2] at hv; cases hv) fun _ w' s4 I4 rw' => ⟨z, _, I4, rw', ?_⟩
                exact fin_put R3 en (fun o u z => by rw [e2] at z; cases z) (ObR.monoT (tt _) (.dt (dput_rv Sum.inr inr_iff ts hd rk))) kk _ (rvT (tt _) hd)
              · rw [l1] at e'
                cases e'
                exact d_setdT (by omega) I3 e2 ht rz hl (fun v hv w' s4 I4 rw' => by rw [l2] at hv; cases hv; exact ⟨w, H3, I4, rw', kk ρ3 H3 Ext.refl R3 _ l3⟩) fun hn => by rw [l2] at hn; cases hn
        · rw [if_neg hz] at e'; cases e'
    | _ => cases e'
/-! ### o[i] = v -/
def oPut (o i v : A) (S : Sto) : Option Sto := match o with
  | .ref n => match S.f n with
    | some (.lst xs) => match i with
      | .int j => match ixN xs.length j with
        | some m => some (S.put n (.lst (xs.set m v)))
        | none => none
      | _ => none
    | some (.dct t kvs) => match keyOf i with
      | some k => if kOk t k = true ∧ kvs.length < line then some (S.put n (.dct t (dput kvs k v))) else none
      | none => none
    | _ => none
  | _ => none
/-- o[i] = v: the value first, then the object, then the index -/
def sPut (c o i : CE) : CS := fun ε => stE (bnd (c ε) fun v => bnd (o ε) fun a => bnd (i ε) fun j => rt (v, a, j)) ε fun z S => match oPut z.2.1 z.2.2 z.1 S with
  | some S' => .ok (.nx ε) S'
  | none => .bad
theorem PSet.or {r r' : TSet} (h : PSet X r) (h' : PSet X r') : PSet X (fun o i v H Q => r o i v H Q ∨ r' o i v H Q) := by
  intro pins s σ H o i v ov iv u Q I ro ri rv q
  rcases q with q | q
  · exact h pins s σ H o i v ov iv u Q I ro ri rv q
  · exact h' pins s σ H o i v ov iv u Q I ro ri rv q
theorem js_put {o i e : Expr} {c co ci : CE} {tpos : Pos} (hu : X.A.units + 65 < cLine) (he : JE X W e c) (ho : JE X W o co) (hi : JE X W i ci)
    (hs : swapsWithSole [.Subscript o i tpos] e pos.line X.env = pure false := by rfl) (hw : swappedStores [.Subscript o i tpos] e X.env = pure none := by rfl)
    (h1 : (assignEach [.Subscript o i tpos] X.env).map (·.2) = [assign (.Subscript o i tpos) X.env] := by rfl)
    (ha : ∀ v, assign (.Subscript o i tpos) X.env v = (do
      let ov ← holding [v] (eval o X.env)
      let iv ← holding [v, ov] (eval i X.env)
      standAt tpos
      holding [v, ov, iv] (setItem ov iv v)
      release [v, ov, iv] []) := by intro _; rfl) : JS X W (.Assign [.Subscript o i tpos] e pos) (sPut c co ci) := by
  refine PS.imp (ps_asg he (pg_sub ho hi (PSet.or set_list (set_dict (by omega))) ha) hs hw h1) fun D σ H h => ?_
  obtain ⟨ρ, S, ε, R, r, h⟩ := h
  have h := Sat.stE r h
  refine ⟨ρ, S, ε, R, r, (SatP.bnd h).imp fun v ρ1 S1 H1 x1 R1 q1 vv hv => ⟨ρ1, S1, ε, R1, r.mono x1, (SatP.bnd q1).imp fun a ρ2 S2 H2 x2 R2 q2 av hav => ⟨ρ2, S2, ε, R2, (r.mono x1).mono x2, (SatP.bnd q2).imp fun j ρ3 S3 H3 x3 R3 q3 jv hj => ?_⟩⟩⟩
  have q4 := SatP.rt q3 R3
  dsimp only at q4
  have hv3 := hv.mono (x2.trans x3)
  have ha3 := hav.mono x3
  have r3 := (r.mono x1).mono (x2.trans x3)
  unfold oPut at q4
  cases ha3 with
  | @ref n p en =>
    dsimp only at q4
    have tt := fun (h : HO) => put_t (h := h) R3 en
    cases ef : S3.f n with
    | none => rw [ef] at q4; exact q4.elim
    | some ob =>
      rw [ef] at q4
      cases ob with
      | lst xs =>
        dsimp only at q4
        cases hj with
        | int jj =>
          dsimp only at q4
          cases ej : ixN xs.length jj with
          | none => rw [ej] at q4; exact q4.elim
          | some m =>
            rw [ej] at q4
            dsimp only at q4
            obtain ⟨vs, hl, rs, nz⟩ := lst_at R3 en ef
            refine .inl ⟨p, vs, jj, m, rfl, rfl, hl, by rw [← rs.length]; exact ej, ?_⟩
            have x4 := R3.ext_put (h := .lst (vs.set m vv)) en nz
            exact q4 ρ3 _ x4 (R3.put en (.lst (rvsT (tt _) (rs.set hv3 m)))) σ (r3.mono x4)
        | _ => exact q4.elim
      | dct t kvs =>
        dsimp only at q4
        cases ek : keyOf j with
        | none => rw [ek] at q4; exact q4.elim
        | some key =>
          rw [ek] at q4
          dsimp only at q4
          by_cases hz : kOk t key = true ∧ kvs.length < line
          · rw [if_pos hz] at q4
            dsimp only at q4
            obtain ⟨q, u, e1, e2, rr⟩ := R3.ob n _ ef
            rw [en] at e1; cases e1
            have nz : ∀ o u, H3 p ≠ some (.frz o u) := fun o u z => by rw [e2] at z; cases rr <;> cases z
            cases rr with
            | @dk _ ks rk =>
              rcases keyOf_rv hj ek with ⟨k', rfl, rfl⟩ | ⟨ts, q, rfl, rfl, ht⟩
              · have hl : ks.length < sizeLine := by rw [← paired_len rk, ← line_eq]; exact hz.2
                have x4 := R3.ext_put (h := .dK (putK ks k' vv)) en nz
                exact .inr ⟨p, _, rfl, DPut.k e2 hl, q4 ρ3 _ x4 (R3.put en (ObR.monoT (tt _) (.dk (dput_rv Sum.inl inl_iff k' hv3 rk)))) σ (r3.mono x4)⟩
              · cases hz.1
            | @dt _ ks rk =>
              rcases keyOf_rv hj ek with ⟨k', rfl, rfl⟩ | ⟨ts, q, rfl, rfl, ht⟩
              · cases hz.1
              · have hl : ks.length < sizeLine := by rw [← paired_len rk, ← line_eq]; exact hz.2
                have x4 := R3.ext_put (h := .dT (putK ks ts vv)) en nz
                exact .inr ⟨p, _, rfl, DPut.t e2 ht hl, q4 ρ3 _ x4 (R3.put en (ObR.monoT (tt _) (.dt (dput_rv Sum.inr inr_iff ts hv3 rk)))) σ (r3.mono x4)⟩
          · rw [if_neg hz] at q4; exact q4.elim
      | _ => exact q4.elim
  | _ => exact q4.elim
end
end EV

end

section
set_option Elab.async false
set_option linter.all false
set_option maxRecDepth 100000
/-! EvCall: defs and their calls; raise, try .. except. -/
namespace EV
open PySem PySem.Spec PyProof.Rows L2

/-- a def: n parameters, m names, its body -/
def fnRun (n m : Nat) (b : CS) : List A → M A := fun as S => if as.length = n then match b (as.map some ++ List.replicate (m - n) none) S with
    | .ok (.nx _) S' => .ok .non S'
    | .ok (.rt a) S' => .ok a S'
    | .ok (.ex e _) S' => .exc e S'
    | _ => .bad
  else .bad
def spF (G : Gd) (n : Nat) (f : List A → M A) : Sp := fun vs H Q E => vs.length = n ∧ ∃ ρ S as, Rep G ρ S H ∧ RVs G.K ρ H as vs ∧ Sat G (fun cls d _ H => E cls d H) [] ρ H (f as S) fun a ρ' _ H' => ∀ x, RV G.K ρ' H' a x → Q x H'
theorem rvs_start {K : PySem.W.Frag} {ρ : Rn} {H : Hp} {as : List A} {vs : List V} (N : List Str) (h : RVs K ρ H as vs) : RE K ρ H (as.map some ++ List.replicate (N.length - as.length) none) (L2.start N vs) := by
  unfold L2.start
  refine ⟨by rw [List.length_append, List.length_append, List.length_map, List.length_map, List.length_replicate, List.length_replicate, h.length], fun i a e => ?_⟩
  by_cases hi : i < as.length
  · rw [List.getElem?_append_left (by simpa using hi), List.getElem?_map] at e
    cases ea : as[i]? with
    | none => rw [ea] at e; cases e
    | some b =>
      rw [ea] at e; cases e
      obtain ⟨v, hv, rv⟩ := h.get ea
      refine ⟨v, ?_, rv⟩
      rw [List.getElem?_append_left (by rw [List.length_map, ← h.length]; exact hi), List.getElem?_map, hv]
      rfl
  · rw [List.getElem?_append_right (by simpa using hi), List.getElem?_replicate] at e
    split at e <;> cases e
section
variable {P : Program} {w : World} {K : PySem.W.Frag} {mg : Str → Option Value} {base : Heap}
/-- what a def promises, by its body -/
theorem okF {x qual : Str} {st : Stmt} {f : Addr} {fd : FuncData} {N ps : List Str} {k : Nat} {b : CS} (F : Fun K x qual st f fd) (S : FnScope N ps (defScope st))
    (hb : ∀ (cdv : Value) (A : Around) (outer : List PySem.Env) (s : Shared) (H : Hp) (E : XK), Room k (A.deeper (envOfC qual (defScope st) s.heap.objs.size f cdv)) →
      JB (cxOf (L2.CX P w) P w K mg base N qual (defScope st) f cdv A outer s H E) (fun cls d _ H => E cls d H) (defBody st) b) : FnOk P w K mg base (L2.CX P w) (k + 1) f fd ps (spF ⟨P, w, K, mg⟩ ps.length (fnRun ps.length N.length b)) := by
  refine F.okX S (fun vs H Q E h => h.1) fun cdv A outer s H vs Q E hr h => ⟨_, hb cdv A outer s H E hr, ?_⟩
  obtain ⟨hl, ρ, S', as, R, r, h⟩ := h
  unfold fnRun at h
  by_cases e : as.length = ps.length
  · rw [if_pos e] at h
    refine ⟨ρ, S', _, R, rvs_start N r, ?_⟩
    rw [e]
    cases eb : b (as.map some ++ List.replicate (N.length - ps.length) none) S' with
    | ok fl S2 =>
      rw [eb] at h
      cases fl with
      | nx ε => exact fun ρ' H' x R' σ re => h ρ' H' x R' _ .non
      | rt a => exact fun ρ' H' x R' v rv => h ρ' H' x R' v rv
      | ex e ε => exact fun ρ' H' x R' σ v d re xr => h ρ' H' v d x R' xr
      | _ => exact h.elim
    | exc e S2 => rw [eb] at h; exact h.elim
    | bad => rw [eb] at h; exact h.elim
  · rw [if_neg e] at h; exact h.elim
end
def cCall (n : Nat) (f : List A → M A) (l : CL) : CE := fun ε => bnd (l ε) fun as => if as.length = n then f as else stuck
section
variable {X : Cx} {W : WX} {pos : Pos}
theorem je_call {k : Nat} {f : Addr} {fd : FuncData} {ps : List Str} {g : List A → M A} {x : Str} {p : Pos} {e : Expr} {es : List Expr} {l : CL} {n : Nat} (F : FnOk X.prog X.w X.K X.mg X.base (L2.CX X.prog X.w) k f fd ps (spF (gd X) n g)) (hr : Room k X.A) (hm : X.mg x = some (.ref f)) (hk : PySem.W.keepIn X.K (.ref f) = true) (hb : Binds X.K fd ps []) (tk : Takes X W)
    (ha : JA X W (e :: es) l) (hg : Gl X x := by rfl) (hdb : (x == ("__debug__" : Str)) = false := by decide) (he : starEach (e :: es) X.env = (false, eval e X.env) :: starEach es X.env := by rfl) (hpl : (backTo pos (starEach es X.env)).any (·.1) = false := by rfl) :
    JE X W (.Call (.Name x p) (e :: es) [] pos) (cCall n g l) := by
  refine PE.imp (pe_callS F hr hg hm hk hb (fun σ => passAt tk σ) ha hdb he hpl) fun σ H Q h => ?_
  obtain ⟨ρ, S, ε, R, r, h⟩ := h
  refine ⟨ρ, S, ε, R, r, (SatP.bnd h).imp fun as ρ1 S1 H1 x1 R1 q vs hv => ?_⟩
  by_cases hn : as.length = n
  · rw [if_pos hn] at q
    refine ⟨by rw [← hv.length]; exact hn, ρ1, S1, as, R1, hv, ?_⟩
    cases er : g as S1 with
    | ok a S2 => rw [er] at q; exact q
    | exc z S2 => rw [er] at q; exact q
    | bad => rw [er] at q; exact q
  · rw [if_neg hn] at q; exact q.elim

/-! ### raise -/
def sRaise (x : Str) : CS := fun ε => rt (.ex ⟨x, []⟩ ε)
theorem js_raise {C : Addr} {bmB : List Value} {B newId initId : String} {x m : Str} {j : Nat} {p p2 pos' : Pos} (hc : X.calm = true) (tk : Takes X W) (F : ExcBaseFacts B newId initId bmB) (q : PySem.W.excIn X.K C bmB newId = true) (gC : X.mg x = some (.ref C)) (kC : PySem.W.keepIn X.K (.ref C) = true) (r : Raises X (.ref C)) (hg : Gl X x := by rfl)
    (hdb : (x == ("__debug__" : Str)) = false := by decide) : JS X W (.Raise (some (.Call (.Name x p) [.Constant (.str m) j p2] [] pos')) none pos) (sRaise x) := by
  refine PS.imp (ps_raise hc tk (pmk_own F q gC kC r hg hdb)) fun D σ H h => ?_
  obtain ⟨ρ, S, ε, R, re, h⟩ := h
  exact SatP.rt h R σ _ _ re ⟨gC, .inl ⟨rfl, rfl⟩⟩

/-! ### try .. except C as n: a suite that does not name n -/
def flOff (i : Nat) : Fl → Fl
  | .nx ε => .nx (ε.set i none)
  | .bk ε => .bk (ε.set i none)
  | .ct ε => .ct (ε.set i none)
  | .rt a => .rt a
  | .ex x ε => .ex x ε
def noEx : Fl → M Fl
  | .ex _ _ => stuck
  | fl => rt fl
def subAt (t : List (Str × Bool)) (x : Str) : Option Bool := (t.find? fun p => decide (p.1 = x)).map (·.2)
def sTryAs (b : CS) (t : List (Str × Bool)) (i : Nat) (su : CS) : CS := fun ε => bnd (b ε) fun fl => match fl with
  | .ex x ε' => match subAt t x.cls with
    | some true => bnd (su (ε'.set i none)) fun fl => bnd (noEx fl) fun fl => rt (flOff i fl)
    | some false => rt (.ex x ε')
    | none => stuck
  | fl => rt fl
theorem RE.hole {K : PySem.W.Frag} {ρ : Rn} {H : Hp} {ε : Env} {σ : L2.St} (r : RE K ρ H ε σ) (i : Nat) (o : Option V) : RE K ρ H (ε.set i none) (σ.set i o) := by
  refine ⟨by rw [List.length_set, List.length_set]; exact r.1, fun j b e => ?_⟩
  rw [List.getElem?_set] at e ⊢
  by_cases h : i = j
  · rw [if_pos h] at e
    split at e <;> cases e
  · rw [if_neg h] at e ⊢
    exact r.2 j b e
/-- the classes that the clause takes, by name -/
def Subs (X : Cx) (t : List (Str × Bool)) (c : Value) : Prop := ∀ (x : Str) (v : Value) (b : Bool), subAt t x = some b → X.mg x = some v → PySem.W.exmOne X.K v c = some b
theorem js_tryAs {x n : Str} {c : Value} {i : Nat} {body suite : List Stmt} {b₀ : Stmt} {np pos' : Pos} {b su : CS} {t : List (Str × Bool)} (tk : Takes X W) (hs : X.stack = X.env :: X.outer) (hf : X.env.frame = some X.env.locals) (hN : X.N.Nodup) (hc : Names X x c) (ht : Subs X t c)
    (hb : ∀ (W : WX) (pn : List (Addr × Obj)) (xe : Value → Shared → Prop), Takes (X.tr pn xe) W → PassesOwn (model X.prog X.w) X.A X.env xe → JB (X.tr pn xe) W body b)
    (hsu : ∀ (a : Addr) (oe : Obj) (pn : List (Addr × Obj)), JB (X.suite a ((a, oe) :: pn)) noW (b₀ :: suite) su) (hi : X.N[i]? = some n := by rfl) (hln : X.env.kindOf n = some .local := by rfl) :
    JS X W (.Try body [.ExceptHandler (some (.Name x np)) (some n) (b₀ :: suite) pos'] [] [] pos) (sTryAs b t i su) := by
  refine PS.imp (ps_try_as (tb := fun W => tS (gd X) W b) (ts := fun _ _ _ => tS (gd X) noW su) hs hf hN hi hln hc tk hb fun a oe cls d pn _ _ => hsu a oe pn) fun D σ H h => ?_
  obtain ⟨ρ, S, ε, R, r, h⟩ := h
  refine ⟨ρ, S, ε, R, r, (SatP.bnd h).imp fun fl ρ1 S1 H1 x1 R1 q => ?_⟩
  cases fl with
  | nx ε' => exact SatP.rt q R1
  | bk ε' => exact SatP.rt q R1
  | ct ε' => exact SatP.rt q R1
  | rt a => exact SatP.rt q R1
  | ex e ε' =>
    intro σ' v d re xr
    dsimp only at q
    cases es : subAt t e.cls with
    | none => rw [es] at q; exact q.elim
    | some bb =>
      rw [es] at q
      refine ⟨bb, ht _ _ _ es xr.1, fun hb => ?_, fun hb => ?_⟩
      · subst hb
        intro a ha
        refine ⟨ρ1, S1, ε'.set i none, R1, re.hole i _, (SatP.bnd q).imp fun fl ρ2 S2 H2 x2 R2 q2 => ?_⟩
        have q3 := SatP.bnd q2
        cases fl with
        | nx ε2 => exact fun σ2 r2 => SatP.rt (SatP.rt q3 R2) R2 _ (r2.hole i _)
        | bk ε2 => exact fun σ2 r2 => SatP.rt (SatP.rt q3 R2) R2 _ (r2.hole i _)
        | ct ε2 => exact fun σ2 r2 => SatP.rt (SatP.rt q3 R2) R2 _ (r2.hole i _)
        | rt a => exact SatP.rt (SatP.rt q3 R2) R2
        | ex _ _ => exact q3.elim
      · subst hb
        exact SatP.rt q R1 σ' v d re xr
/-! ### .. return isinstance(n, D) -/
def sTryIsi (b : CS) (t u : List (Str × Bool)) (i : Nat) : CS := fun ε => bnd (b ε) fun fl => match fl with
  | .ex x ε' => match subAt t x.cls with
    | some true => match x.fl, subAt u x.cls with
      | [], some k => if i < ε'.length then rt (.rt (.bl k)) else stuck
      | _, _ => stuck
    | some false => rt (.ex x ε')
    | none => stuck
  | fl => rt fl
/-- a caught class of the table, asked whether it is a D -/
def Isis (X : Cx) (u : List (Str × Bool)) (D : Value) : Prop := ∀ (x : Str) (v : Value) (b : Bool), subAt u x = some b → X.mg x = some v → ∃ C : Addr, v = .ref C ∧ ExcC X.K C ∧ PySem.W.kitOne X.K (.ref C) D = some b
theorem PSs.pre {X : Cx} {P : Prop} {e : List Stmt} {t : TS} (h : P → PSs X e t) : PSs X e (fun D σ H => P ∧ t D σ H) := ⟨fun pins s σ H D I q => (h q.1).run pins s σ H D I q.2⟩
theorem js_tryIsi {x n y : Str} {c : Value} {Da : Addr} {i : Nat} {body : List Stmt} {np pos' p1 p2 p3 p4 p5 : Pos} {b : CS} {t u : List (Str × Bool)} (tk : Takes X W) (hs : X.stack = X.env :: X.outer) (hf : X.env.frame = some X.env.locals) (hN : X.N.Nodup) (hc : Names X x c) (ht : Subs X t c) (hu : Isis X u (.ref Da))
    (hb : ∀ (W : WX) (pn : List (Addr × Obj)) (xe : Value → Shared → Prop), Takes (X.tr pn xe) W → PassesOwn (model X.prog X.w) X.A X.env xe → JB (X.tr pn xe) W body b)
    (hm : X.mg "isinstance" = none) (hy : X.mg y = some (.ref Da)) (hg : Gl X "isinstance" := by rfl) (hgy : Gl X y := by rfl) (hd : (y == ("__debug__" : Str)) = false := by decide) (hi : X.N[i]? = some n := by rfl) (hln : X.env.kindOf n = some .local := by rfl) (hnd : (n == ("__debug__" : Str)) = false := by decide) (hncd : (n == ("__classdict__" : Str)) = false := by decide)
    (h1 : starEach [.Name n p2, .Name y p3] X.env = (false, eval (.Name n p2) X.env) :: starEach [.Name y p3] X.env := by rfl) (h2 : starEach [.Name y p3] X.env = (false, eval (.Name y p3) X.env) :: starEach [] X.env := by rfl) (hpl : (backTo p4 (starEach [.Name y p3] X.env)).any (·.1) = false := by rfl) :
    JS X W (.Try body [.ExceptHandler (some (.Name x np)) (some n) [.Return (some (.Call (.Name "isinstance" p1) [.Name n p2, .Name y p3] [] p4)) p5] pos'] [] [] pos) (sTryIsi b t u i) := by
  refine PS.imp (ps_try_as (tb := fun W => tS (gd X) W b) (ts := fun a cls d => fun D σ H => (∃ C, cls = .ref C ∧ d = none ∧ ExcC X.K C) ∧ ∃ C k, cls = .ref C ∧ PySem.W.kitOne X.K (.ref C) (.ref Da) = some k ∧ σ[i]? = some (some (.ref a)) ∧ D.rt (.bl k) H) hs hf hN hi hln hc tk hb fun a oe cls d pn hz hfl => PSs.pre fun hp => ?_) fun D σ H h => ?_
  · obtain ⟨C, rfl, rfl, hC⟩ := hp
    have hv : Vis X.env.scope n := .inl hln
    refine PSs.imp (pss_one (ps_ret (pe_callB (X := X.suite a ((a, oe) :: pn)) (call_isE hC hz hfl) hg hm (by rfl) (pa_cons (X := X.suite a ((a, oe) :: pn)) (pe_var (i := i) hi hv hnd hncd) (pa_cons (pe_glob (v := .ref Da) hgy hy rfl hd) pa_nil h2) h1) (by decide) (by decide) h1 hpl))) fun D σ H h => ?_
    obtain ⟨C', k, e1, e2, e3, e4⟩ := h
    cases e1
    exact ⟨_, e3, .ref Da, .ref Da, k, rfl, fun u e => e, e2, e4⟩
  obtain ⟨ρ, S, ε, R, r, h⟩ := h
  refine ⟨ρ, S, ε, R, r, (SatP.bnd h).imp fun fl ρ1 S1 H1 x1 R1 q => ?_⟩
  cases fl with
  | nx ε' => exact SatP.rt q R1
  | bk ε' => exact SatP.rt q R1
  | ct ε' => exact SatP.rt q R1
  | rt a => exact SatP.rt q R1
  | ex e ε' =>
    intro σ' v d re xr
    dsimp only at q
    cases es : subAt t e.cls with
    | none => rw [es] at q; exact q.elim
    | some bb =>
      rw [es] at q
      refine ⟨bb, ht _ _ _ es xr.1, fun hb => ?_, fun hb => ?_⟩
      · subst hb
        intro a ha
        dsimp only at q
        cases ef : e.fl with
        | cons _ _ => rw [ef] at q; exact q.elim
        | nil =>
          cases ek : subAt u e.cls with
          | none => rw [ef, ek] at q; exact q.elim
          | some k =>
            rw [ef, ek] at q
            obtain ⟨C, rfl, hC, hk⟩ := hu _ _ _ ek xr.1
            have hd : d = none := by
              rcases xr.2 with ⟨_, z⟩ | ⟨z, _⟩
              · exact z
              · exact absurd ef z
            dsimp only at q
            by_cases hl : i < ε'.length
            · rw [if_pos hl] at q
              exact ⟨⟨C, rfl, hd, hC⟩, C, k, rfl, hk, List.getElem?_set_self (by rw [← re.1]; exact hl), SatP.rt q R1 _ (.bl _)⟩
            · rw [if_neg hl] at q; exact q.elim
      · subst hb
        exact SatP.rt q R1 σ' v d re xr
end
end EV

end

section
set_option Elab.async false
set_option linter.all false
set_option maxRecDepth 100000
set_option maxHeartbeats 2000000
/-! EvHash: data of ints, texts and tuples as members of sets: its hash, quiet questions. -/
namespace EV
open PySem PySem.Spec PyProof.Rows L2

mutual
/-- ints, texts, tuples of such -/
def kd : PyData → Bool
  | .int _ => true
  | .str _ => true
  | .tuple xs => kds xs
  | _ => false
def kds : List PyData → Bool
  | [] => true
  | x :: r => kd x && kds r
end
mutual
def hsh (w : World) : PyData → Int
  | .int i => keyH w (.inl i)
  | .str x => keyH w (.inr x)
  | .tuple xs => reduceHash (Builtin.Tuple.tupleHashOf (hshs w xs))
  | _ => 0
def hshs (w : World) : List PyData → List Int
  | [] => []
  | x :: r => hsh w x :: hshs w r
end
mutual
theorem eqv_kd : ∀ {d e : PyData}, kd d = true → PyData.eqv d e = true → kd e = true → d = e
  | .int i, e, _, h, he => by
    cases e <;> first | (unfold kd at he; cases he; done) | skip
    · unfold PyData.eqv at h; rw [beq_iff_eq.mp h]
    · unfold PyData.eqv at h; cases h
    · unfold PyData.eqv at h; cases h
  | .str i, e, _, h, he => by
    cases e <;> first | (unfold kd at he; cases he; done) | skip
    · unfold PyData.eqv at h; cases h
    · unfold PyData.eqv at h; rw [beq_iff_eq.mp h]
    · unfold PyData.eqv at h; cases h
  | .tuple xs, e, hd, h, he => by
    cases e <;> first | (unfold kd at he; cases he; done) | skip
    · unfold PyData.eqv at h; cases h
    · unfold PyData.eqv at h; cases h
    · unfold PyData.eqv at h
      unfold kd at hd he
      rw [eqvs_kd hd h he]
  | .none, _, hd, _, _ => by unfold kd at hd; cases hd
  | .bool _, _, hd, _, _ => by unfold kd at hd; cases hd
  | .list _, _, hd, _, _ => by unfold kd at hd; cases hd
  | .dict _, _, hd, _, _ => by unfold kd at hd; cases hd
theorem eqvs_kd : ∀ {d e : List PyData}, kds d = true → PyData.eqvAll d e = true → kds e = true → d = e
  | [], [], _, _, _ => rfl
  | [], _ :: _, _, h, _ => by unfold PyData.eqvAll at h; cases h
  | _ :: _, [], _, h, _ => by unfold PyData.eqvAll at h; cases h
  | x :: xs, y :: ys, hd, h, he => by
    unfold PyData.eqvAll at h
    unfold kds at hd he
    obtain ⟨h1, h2⟩ := Bool.and_eq_true_iff.mp h
    obtain ⟨d1, d2⟩ := Bool.and_eq_true_iff.mp hd
    obtain ⟨e1, e2⟩ := Bool.and_eq_true_iff.mp he
    rw [eqv_kd d1 h1 e1, eqvs_kd d2 h2 e2]
end
mutual
theorem eqv_refl : ∀ {d : PyData}, kd d = true → PyData.eqv d d = true
  | .int i, _ => by unfold PyData.eqv; exact beq_self_eq_true i
  | .str x, _ => by unfold PyData.eqv; exact beq_self_eq_true x
  | .tuple xs, h => by unfold kd at h; unfold PyData.eqv; exact eqvs_refl h
  | .none, hd => by unfold kd at hd; cases hd
  | .bool _, hd => by unfold kd at hd; cases hd
  | .list _, hd => by unfold kd at hd; cases hd
  | .dict _, hd => by unfold kd at hd; cases hd
theorem eqvs_refl : ∀ {d : List PyData}, kds d = true → PyData.eqvAll d d = true
  | [], _ => rfl
  | x :: xs, h => by
    unfold kds at h
    obtain ⟨h1, h2⟩ := Bool.and_eq_true_iff.mp h
    unfold PyData.eqvAll
    rw [eqv_refl h1, eqvs_refl h2]
    rfl
end
theorem kd_mem : ∀ {ds : List PyData} {d : PyData}, kds ds = true → d ∈ ds → kd d = true
  | x :: r, d, h, m => by
    unfold kds at h
    obtain ⟨h1, h2⟩ := Bool.and_eq_true_iff.mp h
    rcases List.mem_cons.mp m with e | m
    · rw [e]; exact h1
    · exact kd_mem h2 m
theorem dep_mem : ∀ {ds : List PyData} {d : PyData}, d ∈ ds → d.depth ≤ PyData.depthAll ds
  | x :: r, d, m => by
    unfold PyData.depthAll
    rcases List.mem_cons.mp m with e | m
    · rw [e]; exact Nat.le_max_left _ _
    · exact Nat.le_trans (dep_mem m) (Nat.le_max_right _ _)

section
variable {P : Program} {w : World} {A : Around} {E : Value → Shared → Prop} {s : Shared}
/-- the hash of such data -/
theorem hash_walk : ∀ (n : Nat) (A : Around) (E : Value → Shared → Prop) (s : Shared) (d : PyData) (v : Value) (as : List Addr) (Q : Int → Shared → Prop), d.depth ≤ n → kd d = true → Reads s.heap v d as → A.units + d.depth < cLine → (∀ tk, s.toks ≤ tk → Q (hsh w d) { s with toks := tk }) → wpAny (model P w) A (pyHash v) Q E s := by
  intro n
  induction n with
  | zero =>
    intro A E s d v as Q hn hk hr hu hQ
    cases hr with
    | int i t => exact (mixKind P w).pyHash (k := .inl i) (kV_is (k := .inl i) ⟨t, rfl⟩) (by unfold hsh at hQ; exact hQ _ (Nat.le_succ _))
    | str x t => exact (mixKind P w).pyHash (k := .inr x) (kV_is (k := .inr x) ⟨t, rfl⟩) (by unfold hsh at hQ; exact hQ _ (Nat.le_succ _))
    | tuple _ _ _ _ => unfold PyData.depth at hn; exact absurd hn (Nat.not_succ_le_zero _)
    | none => unfold kd at hk; cases hk
    | bool _ => unfold kd at hk; cases hk
    | list _ _ _ _ => unfold kd at hk; cases hk
    | dict _ _ _ _ _ => unfold kd at hk; cases hk
  | succ n ih =>
    intro A E s d v as Q hn hk hr hu hQ
    cases hr with
    | int i t => exact (mixKind P w).pyHash (k := .inl i) (kV_is (k := .inl i) ⟨t, rfl⟩) (by unfold hsh at hQ; exact hQ _ (Nat.le_succ _))
    | str x t => exact (mixKind P w).pyHash (k := .inr x) (kV_is (k := .inr x) ⟨t, rfl⟩) (by unfold hsh at hQ; exact hQ _ (Nat.le_succ _))
    | none => unfold kd at hk; cases hk
    | bool _ => unfold kd at hk; cases hk
    | list _ _ _ _ => unfold kd at hk; cases hk
    | dict _ _ _ _ _ => unfold kd at hk; cases hk
    | @tuple a o items m xs _ ho hc hd hi =>
      have hT : s.TypeIs (.ref a) "tuple" := ⟨o, ho, hc⟩
      unfold kd at hk
      unfold PyData.depth at hn hu
      unfold hsh at hQ
      unfold pyHash
      first | unfold pyHashByItsType | skip
      first | refine wpAny_bind (wpAny_cRoomFor_or (.inr (by omega)) ?_) | skip
      refine wpAny_bind (wpAny_specialOf hT F.slot_tuple_hash.lookup ?_)
      show wpAny _ _ (if (some (Value.builtin "tuple.__hash__") == some Value.none) = true then _ else _) Q E s
      rw [if_neg (by rw [beq_builtin_none]; exact Bool.false_ne_true)]
      refine wpAny_bind (wpAny_specialOf hT F.slot_tuple_hash.lookup ?_)
      show wpAny _ _ (callSpecialIfBoundUnlessNone? (.ref a) "__hash__" _ >>= _) Q E s
      refine wpAny_bind (wpAny_callSpecialIfBoundUnlessNone?_slot hT F.slot_tuple_hash (wpAny_call_entry F.slot_tuple_hash hT F.entry_tuple_hash ?_ (F.args_tuple_hash_1 _)))
      show wpAny _ _ (Builtin.Tuple.tupleItemsOf (.ref a) >>= _) _ _ s
      refine wpAny_bind (wpAny_tupleItemsOf ho hd ?_)
      refine wpAny_bind ?_
      rw [← Array.forIn_toList]
      refine wpAny_forIn_list _ (fun rest (b : Array Int) s' => ∃ left bs tk, kds left = true ∧ PyData.depthAll left ≤ n ∧ A.units + (PyData.depthAll left + 1) < cLine ∧ ReadsAll s.heap rest left bs ∧ b.toList ++ hshs w left = hshs w xs ∧ s' = { s with toks := tk } ∧ s.toks ≤ tk) _ ?_ ?_ _ _ ⟨xs, as, s.toks, hk, by omega, by omega, hi, by simp, rfl, Nat.le_refl _⟩
      · rintro x rest b s' ⟨left, bs, tk, k1, k2, k3, k4, k5, rfl, k6⟩
        cases k4 with
        | @cons _ _ d0 ds _ _ r1 r2 =>
          unfold kds at k1
          obtain ⟨l1, l2⟩ := Bool.and_eq_true_iff.mp k1
          have e1 : PyData.depthAll (d0 :: ds) = max d0.depth (PyData.depthAll ds) := by rw [PyData.depthAll]
          rw [e1] at k2 k3
          have m1 := Nat.le_max_left d0.depth (PyData.depthAll ds)
          have m2 := Nat.le_max_right d0.depth (PyData.depthAll ds)
          have hs : hshs w (d0 :: ds) = hsh w d0 :: hshs w ds := by rw [hshs]
          refine wpAny_bind (ih A.in1 _ _ d0 x _ _ (by omega) l1 r1 (by show A.units + 1 + d0.depth < cLine; omega) fun tk' lt => ?_)
          have key : ∃ left bs tk, kds left = true ∧ PyData.depthAll left ≤ n ∧ A.units + (PyData.depthAll left + 1) < cLine ∧ ReadsAll s.heap rest left bs ∧ (b.push (hsh w d0)).toList ++ hshs w left = hshs w xs ∧ ({ s with toks := tk' } : Shared) = { s with toks := tk } ∧ s.toks ≤ tk := by
            refine ⟨ds, _, tk', l2, by omega, by omega, r2, ?_, rfl, Nat.le_trans k6 lt⟩
            rw [Array.toList_push, List.append_assoc, List.singleton_append, ← hs]
            exact k5
          first
            | exact wpAny_pure key
            | exact wpAny_bind (wpAny_pure (wpAny_pure key))
      · rintro b s' ⟨left, bs, tk, k1, k2, k3, k4, k5, rfl, k6⟩
        cases k4
        have e0 : hshs w [] = [] := by rw [hshs]
        rw [e0, List.append_nil] at k5
        show wpAny _ _ (retInt (Builtin.Tuple.tupleHashOf b.toList)) _ _ _
        rw [k5]
        refine wpAny_ret_mkInt ?_
        show wpAny _ _ (if (decide (-(2 : Int) ^ 63 ≤ Builtin.Tuple.tupleHashOf (hshs w xs)) && decide (Builtin.Tuple.tupleHashOf (hshs w xs) < 2 ^ 63)) = true then _ else _) Q E _
        unfold reduceHash at hQ
        by_cases hz : (decide (-(2 : Int) ^ 63 ≤ Builtin.Tuple.tupleHashOf (hshs w xs)) && decide (Builtin.Tuple.tupleHashOf (hshs w xs) < 2 ^ 63)) = true
        · rw [if_pos hz]
          rw [if_pos hz] at hQ
          exact wpAny_pure (hQ _ (Nat.le_trans k6 (Nat.le_succ _)))
        · rw [if_neg hz]
          rw [if_neg hz] at hQ
          exact wpAny_bind (wpAny_rule (wpAny_pure (hQ _ (Nat.le_trans k6 (Nat.le_succ _)))))
/-- of no class statement -/
theorem ofA_walk : ∀ (n : Nat) (d : PyData) (v : Value) (as : List Addr) (Q : Bool → Shared → Prop) (A : Around) (E : Value → Shared → Prop), d.depth ≤ n → kd d = true → Reads s.heap v d as → Q false s → wpAny (model P w) A (ofAClassStatement n v) Q E s := by
  intro n
  induction n with
  | zero =>
    intro d v as Q A E hn hk hr hQ
    cases hr with
    | int i t => rw [ofAClass_int]; exact wpAny_pure hQ
    | str x t => exact wpAny_pure hQ
    | tuple _ _ _ _ => unfold PyData.depth at hn; exact absurd hn (Nat.not_succ_le_zero _)
    | none => unfold kd at hk; cases hk
    | bool _ => unfold kd at hk; cases hk
    | list _ _ _ _ => unfold kd at hk; cases hk
    | dict _ _ _ _ _ => unfold kd at hk; cases hk
  | succ n ih =>
    intro d v as Q A E hn hk hr hQ
    cases hr with
    | int i t => rw [ofAClass_int]; exact wpAny_pure hQ
    | str x t => exact wpAny_pure hQ
    | none => unfold kd at hk; cases hk
    | bool _ => unfold kd at hk; cases hk
    | list _ _ _ _ => unfold kd at hk; cases hk
    | dict _ _ _ _ _ => unfold kd at hk; cases hk
    | @tuple a o items m xs _ ho hc hd hi =>
      have hT : s.TypeIs (.ref a) "tuple" := ⟨o, ho, hc⟩
      unfold kd at hk
      unfold PyData.depth at hn
      unfold ofAClassStatement
      refine wpAny_bind (wpAny_typeOf hT ?_)
      dsimp only
      have e : (("tuple" : String) == "tuple") = true := by decide
      simp only [e, if_true, Bool.not_true, Bool.false_eq_true, if_false]
      try refine wpAny_bind (wpAny_pure ?_)
      try simp only [Bool.not_true, Bool.false_eq_true, if_false]
      show wpAny _ _ (seqItems? (.ref a) >>= _) _ _ s
      refine wpAny_bind (wpAny_seqItems ho hd ?_)
      dsimp only
      refine wpAny_bind ?_
      show wpAny _ _ (forIn items _ _) _ _ s
      rw [← Array.forIn_toList]
      refine wpAny_forIn_list _ (fun rest r s' => r.1 = none ∧ s' = s ∧ ∃ left bs, kds left = true ∧ PyData.depthAll left ≤ n ∧ ReadsAll s.heap rest left bs) _ ?_ ?_ _ _ ⟨rfl, rfl, xs, as, hk, by omega, hi⟩
      · rintro x rest r s' ⟨hr, rfl, left, bs, k1, k2, k3⟩
        cases k3 with
        | @cons _ _ d0 ds _ _ r1 r2 =>
          unfold kds at k1
          obtain ⟨l1, l2⟩ := Bool.and_eq_true_iff.mp k1
          have e1 : PyData.depthAll (d0 :: ds) = max d0.depth (PyData.depthAll ds) := by rw [PyData.depthAll]
          rw [e1] at k2
          have m1 := Nat.le_max_left d0.depth (PyData.depthAll ds)
          have m2 := Nat.le_max_right d0.depth (PyData.depthAll ds)
          refine wpAny_bind (ih d0 x _ _ _ _ (by omega) l1 r1 ?_)
          simp only [Bool.false_eq_true, if_false]
          exact wpAny_pure ⟨rfl, rfl, ds, _, l2, by omega, r2⟩
      · rintro ⟨r1, r2⟩ s' ⟨hr, rfl, _⟩
        simp only at hr
        subst hr
        exact wpAny_pure hQ
/-- a text in it: no hash by value -/
theorem hasStr_walk : ∀ (n : Nat) (d : PyData) (v : Value) (as : List Addr) (Q : Bool → Shared → Prop) (A : Around) (E : Value → Shared → Prop), d.depth ≤ n → kd d = true → Reads s.heap v d as → (∀ b, Q b s) → wpAny (model P w) A (hashByValue n v) Q E s := by
  intro n
  induction n with
  | zero =>
    intro d v as Q A E hn hk hr hQ
    cases hr with
    | int i t => rw [hashBy_int]; exact wpAny_pure (hQ _)
    | str x t => exact wpAny_pure (hQ _)
    | tuple _ _ _ _ => unfold PyData.depth at hn; exact absurd hn (Nat.not_succ_le_zero _)
    | none => unfold kd at hk; cases hk
    | bool _ => unfold kd at hk; cases hk
    | list _ _ _ _ => unfold kd at hk; cases hk
    | dict _ _ _ _ _ => unfold kd at hk; cases hk
  | succ n ih =>
    intro d v as Q A E hn hk hr hQ
    cases hr with
    | int i t => rw [hashBy_int]; exact wpAny_pure (hQ _)
    | str x t => exact wpAny_pure (hQ _)
    | none => unfold kd at hk; cases hk
    | bool _ => unfold kd at hk; cases hk
    | list _ _ _ _ => unfold kd at hk; cases hk
    | dict _ _ _ _ _ => unfold kd at hk; cases hk
    | @tuple a o items m xs _ ho hc hd hi =>
      have hT : s.TypeIs (.ref a) "tuple" := ⟨o, ho, hc⟩
      unfold kd at hk
      unfold PyData.depth at hn
      unfold hashByValue
      refine wpAny_bind (wpAny_specialOf hT F.slot_tuple_hash.lookup ?_)
      show wpAny _ _ (seqItems? (.ref a) >>= _) _ _ s
      refine wpAny_bind (wpAny_seqItems ho hd ?_)
      refine wpAny_bind ?_
      show wpAny _ _ (forIn items _ _) _ _ s
      rw [← Array.forIn_toList]
      refine wpAny_forIn_list _ (fun rest r s' => (r.1 = none ∨ r.1 = some false) ∧ s' = s ∧ ∃ left bs, kds left = true ∧ PyData.depthAll left ≤ n ∧ ReadsAll s.heap rest left bs) _ ?_ ?_ _ _ ⟨.inl rfl, rfl, xs, as, hk, by omega, hi⟩
      · rintro x rest r s' ⟨hr, rfl, left, bs, k1, k2, k3⟩
        cases k3 with
        | @cons _ _ d0 ds _ _ r1 r2 =>
          unfold kds at k1
          obtain ⟨l1, l2⟩ := Bool.and_eq_true_iff.mp k1
          have e1 : PyData.depthAll (d0 :: ds) = max d0.depth (PyData.depthAll ds) := by rw [PyData.depthAll]
          rw [e1] at k2
          have m1 := Nat.le_max_left d0.depth (PyData.depthAll ds)
          have m2 := Nat.le_max_right d0.depth (PyData.depthAll ds)
          refine wpAny_bind (ih d0 x _ _ _ _ (by omega) l1 r1 fun b => ?_)
          cases b with
          | true =>
            simp only [Bool.not_true, Bool.false_eq_true, if_false]
            exact wpAny_pure ⟨.inl rfl, rfl, ds, _, l2, by omega, r2⟩
          | false =>
            simp only [Bool.not_false, if_true]
            refine wpAny_pure ?_
            exact wpAny_pure (hQ false)
      · rintro ⟨r1, r2⟩ s' ⟨hr, rfl, _⟩
        simp only at hr
        rcases hr with rfl | rfl
        · exact wpAny_pure (hQ _)
        · exact wpAny_pure (hQ _)
/-- comparing it shows nothing -/
theorem quiet_walk : ∀ (n : Nat) (d : PyData) (v : Value) (as : List Addr) (Q : Bool → Shared → Prop) (A : Around) (E : Value → Shared → Prop), d.depth ≤ n → kd d = true → Reads s.heap v d as → Q true s → wpAny (model P w) A (eqIsQuiet n v) Q E s := by
  intro n
  induction n with
  | zero =>
    intro d v as Q A E hn hk hr hQ
    cases hr with
    | int i t => rw [eqIsQuiet_byValue _ (by rfl)]; exact wpAny_pure hQ
    | str x t => rw [eqIsQuiet_byValue _ (by rfl)]; exact wpAny_pure hQ
    | tuple _ _ _ _ => unfold PyData.depth at hn; exact absurd hn (Nat.not_succ_le_zero _)
    | none => unfold kd at hk; cases hk
    | bool _ => unfold kd at hk; cases hk
    | list _ _ _ _ => unfold kd at hk; cases hk
    | dict _ _ _ _ _ => unfold kd at hk; cases hk
  | succ n ih =>
    intro d v as Q A E hn hk hr hQ
    cases hr with
    | int i t => rw [eqIsQuiet_byValue _ (by rfl)]; exact wpAny_pure hQ
    | str x t => rw [eqIsQuiet_byValue _ (by rfl)]; exact wpAny_pure hQ
    | none => unfold kd at hk; cases hk
    | bool _ => unfold kd at hk; cases hk
    | list _ _ _ _ => unfold kd at hk; cases hk
    | dict _ _ _ _ _ => unfold kd at hk; cases hk
    | @tuple a o items m xs _ ho hc hd hi =>
      have hT : s.TypeIs (.ref a) "tuple" := ⟨o, ho, hc⟩
      unfold kd at hk
      unfold PyData.depth at hn
      unfold eqIsQuiet
      refine wpAny_bind (wpAny_specialOf hT F.slot_tuple_eq.lookup ?_)
      show wpAny _ _ (isInstance (.ref a) (.type "tuple") >>= _) _ _ s
      refine wpAny_bind (wpAny_isInstance hT isSubtype_tuple_tuple ?_)
      simp only [Bool.not_true, Bool.false_eq_true, if_false]
      refine wpAny_bind (wpAny_seqItems ho hd ?_)
      refine wpAny_bind ?_
      show wpAny _ _ (forIn items _ _) _ _ s
      rw [← Array.forIn_toList]
      refine wpAny_forIn_list _ (fun rest r s' => r.1 = none ∧ s' = s ∧ ∃ left bs, kds left = true ∧ PyData.depthAll left ≤ n ∧ ReadsAll s.heap rest left bs) _ ?_ ?_ _ _ ⟨rfl, rfl, xs, as, hk, by omega, hi⟩
      · rintro x rest r s' ⟨hr, rfl, left, bs, k1, k2, k3⟩
        cases k3 with
        | @cons _ _ d0 ds _ _ r1 r2 =>
          unfold kds at k1
          obtain ⟨l1, l2⟩ := Bool.and_eq_true_iff.mp k1
          have e1 : PyData.depthAll (d0 :: ds) = max d0.depth (PyData.depthAll ds) := by rw [PyData.depthAll]
          rw [e1] at k2
          have m1 := Nat.le_max_left d0.depth (PyData.depthAll ds)
          have m2 := Nat.le_max_right d0.depth (PyData.depthAll ds)
          refine wpAny_bind (ih d0 x _ _ _ _ (by omega) l1 r1 ?_)
          simp only [Bool.not_true, Bool.false_eq_true, if_false]
          exact wpAny_pure ⟨rfl, rfl, ds, _, l2, by omega, r2⟩
      · rintro ⟨r1, r2⟩ s' ⟨hr, rfl, _⟩
        simp only at hr
        subst hr
        exact wpAny_pure hQ
end
end EV

end

section
set_option Elab.async false
set_option linter.all false
set_option maxRecDepth 100000
set_option maxHeartbeats 3200000
/-! EvSet: sets of tuples of ints, texts and such tuples: the search, the adding, set(xs), its length. -/
namespace EV
open PySem PySem.Spec PyProof.Rows L2

/-- at a stands such a tuple, and it reads d -/
structure Mem (h : Heap) (d : PyData) (a : Addr) : Prop where
  rd : ∃ as, Reads h (.ref a) d as
  k : kd d = true
  dp : d.depth ≤ 8
  ok : d.canLay0 = true
mutual
theorem reads_mv {h h' : Heap} (m : ∀ c o, h.get? c = some o → o.cls = .type "tuple" → h'.get? c = some o) : ∀ {d : PyData} {v : Value} {as : List Addr}, kd d = true → Reads h v d as → Reads h' v d as
  | _, _, _, _, .int i t => .int i t
  | _, _, _, _, .str x t => .str x t
  | _, _, _, k, .tuple ho hc hd r => .tuple (m _ _ ho hc) hc hd (readsAll_mv m (by unfold kd at k; exact k) r)
  | _, _, _, k, .none => by unfold kd at k; cases k
  | _, _, _, k, .bool _ => by unfold kd at k; cases k
  | _, _, _, k, .list _ _ _ _ => by unfold kd at k; cases k
  | _, _, _, k, .dict _ _ _ _ _ => by unfold kd at k; cases k
theorem readsAll_mv {h h' : Heap} (m : ∀ c o, h.get? c = some o → o.cls = .type "tuple" → h'.get? c = some o) : ∀ {ds : List PyData} {vs : List Value} {as : List Addr}, kds ds = true → ReadsAll h vs ds as → ReadsAll h' vs ds as
  | _, _, _, _, .nil => .nil
  | _, _, _, k, .cons r s => by
    unfold kds at k
    obtain ⟨k1, k2⟩ := Bool.and_eq_true_iff.mp k
    exact .cons (reads_mv m k1 r) (readsAll_mv m k2 s)
end
theorem Mem.mv {h h' : Heap} {d : PyData} {a : Addr} (M : Mem h d a) (m : ∀ c o, h.get? c = some o → o.cls = .type "tuple" → h'.get? c = some o) : Mem h' d a := by
  obtain ⟨as, r⟩ := M.rd
  exact ⟨⟨as, reads_mv m M.k r⟩, M.k, M.dp, M.ok⟩
/-- the set's object changes -/
theorem Mem.but {h h' : Heap} {d : PyData} {a b : Addr} {ob : Obj} (M : Mem h d b) (go : h.get? a = some ob) (ex : ob.ExactSet) (sb : Heap.SameBut a h h') : Mem h' d b := by
  refine M.mv fun c o e z => ?_
  by_cases hc : c = a
  · subst hc
    rw [go] at e; cases e
    have := ex.1
    rw [z] at this
    exact absurd (Value.type.inj this) (by decide)
  · exact (sb.2 c hc).trans e
theorem mem_eq {A : Around} {E : Value → Shared → Prop} {P : Program} {w : World} {s : Shared} {d e : PyData} {a b : Addr} (Ma : Mem s.heap d a) (Mb : Mem s.heap e b) (hu : A.units + 8 < cLine) {Q : Bool → Shared → Prop} (hQ : ∀ q : Bool, (q = true ↔ d = e) → Q q s) :
    wpAny (model P w) A (eqBool (.ref a) (.ref b)) Q E s := by
  obtain ⟨as, ra⟩ := Ma.rd
  obtain ⟨bs, rb⟩ := Mb.rd
  have hmin := Nat.min_le_left d.depth e.depth
  have hdd := Ma.dp
  refine SeqAt.eqAt_reads d e A s _ _ as bs ra rb Ma.ok Mb.ok (by omega) P w E Q (hQ _ ⟨fun z => eqv_kd Ma.k z Mb.k, fun z => ?_⟩)
  rw [← z]
  exact eqv_refl Ma.k
section
variable {P : Program} {w : World} {A : Around} {E : Value → Shared → Prop} {s : Shared}
theorem seen_mem {d : PyData} {b : Addr} {Q : Bool → Shared → Prop} (M : Mem s.heap d b) {ys : List Value} (hy : ∀ y ∈ ys, ∃ d' c, y = Value.ref c ∧ Mem s.heap d' c) (hQ : Q false s) : wpAny (model P w) A (searchCouldBeSeen (.ref b) ys) Q E s := by
  unfold searchCouldBeSeen
  refine wpAny_bind (wpAny_forIn_list _ (fun rest r s' => r.1 = none ∧ s' = s ∧ ∀ y ∈ rest, ∃ d' c, y = Value.ref c ∧ Mem s.heap d' c) _ ?_ ?_ _ _ ⟨rfl, rfl, hy⟩)
  · rintro v rest r s' ⟨hr, rfl, all⟩
    obtain ⟨d', c, rfl, Mc⟩ := all v List.mem_cons_self
    have left : ∀ y ∈ rest, ∃ d' c, y = Value.ref c ∧ Mem s'.heap d' c := fun u z => all u (List.mem_cons_of_mem _ z)
    obtain ⟨as, rb⟩ := M.rd
    obtain ⟨bs, rc⟩ := Mc.rd
    dsimp only
    by_cases same : (b == c || (carriedByValue (.ref b) && carriedByValue (.ref c))) = true
    · exact wp_if_pos same (wpAny_pure ⟨rfl, rfl, left⟩)
    · refine wp_if_neg same ?_
      refine wpAny_bind (quiet_walk 8 d _ as _ _ _ M.dp M.k rb ?_)
      simp only [Bool.not_true, Bool.false_eq_true, if_false]
      refine wpAny_bind (quiet_walk 8 d' _ bs _ _ _ Mc.dp Mc.k rc ?_)
      simp only [Bool.not_true, Bool.false_eq_true, if_false]
      refine wpAny_bind (ofA_walk 8 d _ as _ _ _ M.dp M.k rb ?_)
      simp only [Bool.false_eq_true, if_false]
      refine wpAny_bind (ofA_walk 8 d' _ bs _ _ _ Mc.dp Mc.k rc ?_)
      simp only [Bool.false_eq_true, if_false]
      exact wpAny_pure ⟨rfl, rfl, left⟩
  · rintro ⟨r1, r2⟩ s' ⟨hr, rfl, _⟩
    simp only at hr
    subst hr
    exact wpAny_pure hQ

/-! ### the set -/
abbrev Row := Addr × PyData
def rws (w : World) (L : List Row) : List (Int × Value) := L.map fun p => (hsh w p.2, Value.ref p.1)
structure SetD (w : World) (h : Heap) (a : Addr) (L : List Row) (es : Array (Int × Value)) (ep : Nat) (t : SetTable) : Prop where
  at_ : ∃ o, h.get? a = some o ∧ o.ExactSet ∧ o.data = .set es ep t
  rows : es.toList = rws w L
  tab : TabOk t (L.map fun p => hsh w p.2)
  nd : (L.map (·.2)).Nodup
  mem : ∀ p ∈ L, Mem h p.2 p.1
  led : w.params.followText "set-order" = true ∨ t.led = true
  room : L.length * 5 < t.mask * 3
  few : L.length < 64
theorem rws_len {es : Array (Int × Value)} {L : List Row} (e : es.toList = rws w L) : es.size = L.length := by
  rw [← Array.length_toList, e]
  exact List.length_map _
theorem rws_at {es : Array (Int × Value)} {L : List Row} (e : es.toList = rws w L) {i : Nat} {p : Row} (h : L[i]? = some p) : es[i]? = some (hsh w p.2, Value.ref p.1) := by
  rw [← Array.getElem?_toList, e, rws, List.getElem?_map, h]
  rfl
variable {a : Addr} {L : List Row} {es : Array (Int × Value)} {ep : Nat} {t : SetTable}
theorem SetD.fits (T : SetD w s.heap a L es ep t) : t.fits es.size = true := by
  have z1 := T.tab.sz
  have z2 := rws_len T.rows
  have z3 := T.room
  rw [List.length_map] at z1
  unfold SetTable.fits SetTable.fill
  rw [T.tab.dm, Bool.and_eq_true, beq_iff_eq, decide_eq_true_eq]
  show t.place.size = es.size ∧ t.place.size + 0 ≤ t.mask
  omega
theorem no_give (T : SetD w s.heap a L es ep t) : ¬ t.gaveWay = true := by
  unfold SetTable.gaveWay
  rw [mask_odd T.tab.mok]
  decide
/-- the probe behind k steps of the way of the hash H -/
abbrev prb (m : Nat) (H : Int) (k : Nat) : SetTable.Probe := nth m (runAt m (SetTable.bits H % (m + 1)) (SetTable.bits H)) k
theorem prb_dummy (m : Nat) (H : Int) (k : Nat) : (prb m H k).dummy = none := by
  have key : ∀ (n : Nat) (p : SetTable.Probe), p.dummy = none → (nth m p n).dummy = none := by
    intro n
    induction n with
    | zero => exact fun p z => z
    | succ n ih =>
      intro p z
      refine ih (adv m p) ?_
      unfold adv
      split <;> exact z
  exact key k _ rfl
theorem prb_add (m : Nat) (H : Int) (c q : Nat) : nth m (prb m H c) q = prb m H (c + q) := (nth_add m c _ q).symm
theorem search_go (T : SetD w s.heap a L es ep t) {x : Addr} {d : PyData} (M : Mem s.heap d x) (hu : A.units + 8 < cLine) {K : Nat} (hKf : K < 10 * SetTable.turns t.mask)
    (hK : way t.mask (hsh w d) K ∉ t.place.toList) (hB : ∀ c, c < K → way t.mask (hsh w d) c ∈ t.place.toList) {Q : SetFound → Shared → Prop}
    (yes : d ∈ L.map (·.2) → Q (.there none) s) (no : d ∉ L.map (·.2) → Q (.free (way t.mask (hsh w d) K) false) s) :
    ∀ (f c : Nat) (stand : Option SetTable.Probe), stand.getD (t.probeStart (hsh w d)) = prb t.mask (hsh w d) c → c ≤ K → K - c < f →
      (∀ (i : Nat) p, L[i]? = some p → p.2 = d → ∃ c', c ≤ c' ∧ c' < K ∧ t.place.toList[i]? = some (way t.mask (hsh w d) c')) →
      wpAny (model P w) A (setSearchFrom a (.ref x) (hsh w d) true f stand) Q E s
  | 0, c, stand, _, _, hf, _ => absurd hf (Nat.not_lt_zero _)
  | f + 1, c, stand, hst, hc, hf, hre => by
    obtain ⟨ob, go, ex, gd⟩ := T.at_
    generalize hH : hsh w d = H at *
    rw [setSearchFrom_succ]
    refine wpAny_bind (wpAny_setState_of go gd T.fits ?_)
    dsimp only
    refine wp_if_neg (no_give T) ?_
    try refine wpAny_bind (wpAny_pure ?_)
    have way_q : ∀ q, (nth t.mask (prb t.mask H c) q).j = way t.mask H (c + q) := fun q => congrArg SetTable.Probe.j (prb_add t.mask H c q)
    have spec := go_spec t T.tab.ris T.tab.dm (fun i => (es[i]?.map (·.1)).getD 0) H (10 * SetTable.turns t.mask) (K - c) _ (prb_dummy t.mask H c) (by omega)
      (fun q hq => by rw [way_q]; exact hB (c + q) (by omega)) (by rw [way_q, show c + (K - c) = K by omega]; exact hK)
    have hashAt : ∀ (i : Nat) p, L[i]? = some p → (fun i => (es[i]?.map (·.1)).getD 0) i = hsh w p.2 := fun i p hp => by
      show (es[i]?.map (·.1)).getD 0 = _
      rw [rws_at T.rows hp]
      rfl
    rcases spec with ⟨q, i, hq, hi, hh, hno, hpr⟩ | ⟨hno, hpr⟩
    · have met : t.probe (fun i => (es[i]?.map (·.1)).getD 0) H (stand.getD (t.probeStart H)) = some (.candidate (way t.mask H (c + q)) i (prb t.mask H (c + (q + 1)))) := by
        rw [hst, ← way_q, ← prb_add]
        exact hpr
      rw [met]
      dsimp only
      rw [way_q] at hi
      have hil : i < L.length := by
        have z1 : i < t.place.toList.length := (List.getElem?_eq_some_iff.mp hi).1
        have z2 := T.tab.sz
        rw [List.length_map] at z2
        rw [Array.length_toList] at z1
        omega
      obtain ⟨p, hp⟩ : ∃ p, L[i]? = some p := ⟨_, List.getElem?_eq_getElem hil⟩
      have hm : p ∈ L := List.mem_of_getElem? hp
      have rest : wpAny (model P w) A (searchRest a (.ref x) H true f es t (way t.mask H (c + q)) i (prb t.mask H (c + (q + 1)))) Q E s := by
        unfold searchRest
        rw [rws_at T.rows hp]
        dsimp only
        refine wpAny_bind (wpAny_holding (mem_eq (T.mem p hm) M hu fun b hb => ?_))
        refine wpAny_bind (wpAny_setState_of go gd T.fits ?_)
        dsimp only
        by_cases hkk : p.2 = d
        · rw [hb.mpr hkk]
          exact wp_if_pos (by rfl) (wpAny_pure (yes (List.mem_map.mpr ⟨p, hm, hkk⟩)))
        · have bf : b = false := Bool.eq_false_iff.mpr fun z => hkk (hb.mp z)
          rw [bf]
          refine wp_if_neg (by decide) ?_
          try refine wpAny_bind (wpAny_pure ?_)
          rw [sameMem]
          dsimp only
          have hsl : t.slot (way t.mask H (c + q)) = .live i := slot_live T.tab.ris hi
          simp only [if_true, hsl, rws_at T.rows hp]
          refine wpAny_bind (wpAny_isSame_ref_self (wpAny_bind (wpAny_pure ?_)))
          simp only [if_true]
          refine wp_if_neg (by decide) ?_
          subst hH
          refine search_go T M hu hKf hK hB yes no f (c + (q + 1)) _ rfl (by omega) (by omega) fun i0 p0 g0 gk => ?_
          obtain ⟨c', a1, a2, a3⟩ := hre i0 p0 g0 gk
          refine ⟨c', ?_, a2, a3⟩
          by_cases z : c' < c + q
          · exfalso
            refine hno (c' - c) i0 (by omega) (by rw [way_q, show c + (c' - c) = c' by omega]; exact a3) ?_
            exact (hashAt i0 p0 g0).trans (by rw [gk])
          · by_cases ec : c' = c + q
            · exfalso
              rw [ec] at a3
              have s0 := slot_live T.tab.ris a3
              rw [hsl] at s0
              injection s0 with s0
              rw [← s0, hp] at g0
              cases g0
              exact hkk gk
            · omega
      by_cases hl : t.led = true
      · refine wp_if_neg (by simp [hl]) ?_
        try refine wpAny_bind (wpAny_pure ?_)
        exact rest
      · refine wp_if_pos (by simp [hl]) ?_
        refine wpAny_bind (seen_mem M (fun y hy => ?_) ?_)
        · obtain ⟨e, he, ee⟩ := List.mem_map.mp hy
          have he2 : e ∈ es.toList := by
            have : e ∈ es ∧ e.1 = H := by simpa using he
            simpa using this.1
          rw [T.rows] at he2
          obtain ⟨p2, hp2, e2⟩ := List.mem_map.mp he2
          exact ⟨p2.2, p2.1, by rw [← ee, ← e2], T.mem p2 hp2⟩
        · refine wp_if_neg (by decide) ?_
          try refine wpAny_bind (wpAny_pure ?_)
          exact rest
    · have met : t.probe (fun i => (es[i]?.map (·.1)).getD 0) H (stand.getD (t.probeStart H)) = some (.empty (way t.mask H K) none) := by
        have e2 : way t.mask H K = (nth t.mask (prb t.mask H c) (K - c)).j := by rw [way_q, show c + (K - c) = K by omega]
        rw [hst, e2]
        exact hpr
      rw [met]
      dsimp only
      refine wpAny_pure (no fun z => ?_)
      obtain ⟨p0, g0, gk⟩ := List.mem_map.mp z
      obtain ⟨i0, hi0, e0⟩ := List.getElem_of_mem g0
      have g00 : L[i0]? = some p0 := by rw [List.getElem?_eq_getElem hi0, e0]
      obtain ⟨c', a1, a2, a3⟩ := hre i0 p0 g00 gk
      refine hno (c' - c) i0 (by omega) (by rw [way_q, show c + (c' - c) = c' by omega]; exact a3) ?_
      exact (hashAt i0 p0 g00).trans (by rw [gk]; exact hH)
theorem search_d (T : SetD w s.heap a L es ep t) {x : Addr} {d : PyData} (M : Mem s.heap d x) (hu : A.units + 8 < cLine) {Q : SetFound → Shared → Prop} (yes : d ∈ L.map (·.2) → Q (.there none) s)
    (no : ∀ K, d ∉ L.map (·.2) → way t.mask (hsh w d) K ∉ t.place.toList → (∀ c, c < K → way t.mask (hsh w d) c ∈ t.place.toList) → Q (.free (way t.mask (hsh w d) K) false) s) :
    wpAny (model P w) A (setSearch a (.ref x) (hsh w d) true) Q E s := by
  have rm := T.room
  obtain ⟨K, hKf, hK, hB⟩ := T.tab.first (by rw [List.length_map]; omega) (hsh w d)
  have big : K < 100000 := by
    have : 10 * SetTable.turns t.mask ≤ 1420 := by
      unfold SetTable.turns
      rcases T.tab.mok with e | e | e <;> omega
    omega
  unfold setSearch
  refine search_go T M hu hKf hK hB yes (fun z => no K z hK hB) 100000 0 none rfl (Nat.zero_le _) (by omega) fun i p hp hk => ?_
  have hi : (L.map fun p => hsh w p.2)[i]? = some (hsh w d) := by
    rw [List.getElem?_map, hp, ← hk]
    rfl
  have hil : i < t.place.toList.length := by
    have z1 : i < L.length := (List.getElem?_eq_some_iff.mp hp).1
    have z2 := T.tab.sz
    rw [List.length_map] at z2
    rw [Array.length_toList]
    omega
  have hj := List.getElem?_eq_getElem hil
  obtain ⟨c, hc, e⟩ := T.tab.before hK hi hj
  exact ⟨c, Nat.zero_le _, hc, by rw [hj, e]⟩

theorem rws_put (L : List Row) (p : Nat) (x : Addr) (d : PyData) : rws w (L.take p ++ (x, d) :: L.drop p) = (rws w L).take p ++ (hsh w d, Value.ref x) :: (rws w L).drop p := by
  rw [rws, rws, List.map_append, List.map_cons, List.map_take, List.map_drop]
/-- the rows in another order -/
theorem rws_order (L : List Row) (es : Array (Int × Value)) (ord : Array Nat) (hr : es.toList = rws w L) (hp : ord.toList.Perm (List.range L.length)) :
    ∃ L2, (ord.filterMap (es[·]?)).toList = rws w L2 ∧ L2.Perm L ∧ (L2.map fun p => hsh w p.2) = ord.toList.map fun i => (es.map (·.1)).getD i 0 := by
  have sz := rws_len hr
  have go : ∀ l : List Nat, (∀ i ∈ l, i < L.length) → ∃ L2 : List Row, l.filterMap (fun i => es[i]?) = rws w L2 ∧ L2 = l.filterMap (fun i => L[i]?) ∧ (L2.map fun p => hsh w p.2) = l.map fun i => (es.map (·.1)).getD i 0 := by
    intro l
    induction l with
    | nil => exact fun _ => ⟨[], rfl, rfl, rfl⟩
    | cons i l ih =>
      intro hl
      have hi := hl i List.mem_cons_self
      obtain ⟨L2, e1, e2, e3⟩ := ih fun j hj => hl j (List.mem_cons_of_mem _ hj)
      have at_ := rws_at hr (List.getElem?_eq_getElem hi)
      refine ⟨L[i] :: L2, ?_, ?_, ?_⟩
      · rw [List.filterMap_cons_some at_, e1]
        rfl
      · rw [List.filterMap_cons_some (List.getElem?_eq_getElem hi), e2]
      · have e5 : (es.map (·.1))[i]? = some (hsh w (L[i]).2) := by
          rw [Array.getElem?_map, at_]
          rfl
        have e4 : (es.map (·.1)).getD i 0 = hsh w (L[i]).2 := by simp [Array.getD_eq_getD_getElem?, e5]
        rw [List.map_cons, List.map_cons, e3, e4]
  obtain ⟨L2, e1, e2, e3⟩ := go ord.toList fun i hi => List.mem_range.mp (hp.mem_iff.mp hi)
  have all : ∀ n, n ≤ L.length → (List.range n).filterMap (fun i => L[i]?) = L.take n := by
    intro n
    induction n with
    | zero => exact fun _ => rfl
    | succ n ih =>
      intro hn
      have hlt : n < L.length := hn
      rw [List.range_succ, List.filterMap_append, ih (Nat.le_of_lt hlt), List.take_succ, List.getElem?_eq_getElem hlt, List.filterMap_cons_some (List.getElem?_eq_getElem hlt)]
      rfl
  refine ⟨L2, by first | (rw [Array.toList_filterMap]; exact e1) | simpa using e1, ?_, e3⟩
  have z := hp.filterMap fun i => L[i]?
  rw [all L.length (Nat.le_refl _), List.take_length, ← e2] at z
  exact z
theorem tab_plain {t : SetTable} {hs : List Int} (T : TabOk t hs) (b : Bool) : TabOk { t with plain := b } hs := ⟨T.ris, T.dm, T.sz, T.mok, T.bd, T.reach⟩
/-- a larger table -/
theorem relay_d {ob : Obj} (go : s.heap.get? a = some ob) (ex : ob.ExactSet) (gd : ob.data = .set es ep t) (rows : es.toList = rws w L) (tsz : t.place.size = es.size) (tdm : t.dummies = #[]) (tfl : es.size ≤ t.mask) (nd : (L.map (·.2)).Nodup) (mem : ∀ p ∈ L, Mem s.heap p.2 p.1)
    (led : w.params.followText "set-order" = true ∨ t.led = true) (few : L.length < 64) {wanted N : Nat} (hw : SetTable.sizeAbove wanted - 1 = N) (hN : MaskOk N) (hw2 : SetTable.sizeAbove wanted ≤ 128) (hn : L.length * 5 < N * 3) {Q : Unit → Shared → Prop}
    (hQ : ∀ h' L' es' ep' t', Heap.SameBut a s.heap h' → SetD w h' a L' es' ep' t' → L'.Perm L → Q () { s with heap := h' }) : wpAny (model P w) A (setRelay a wanted) Q E s := by
  have sl := rws_len rows
  have fits : t.fits es.size = true := by
    unfold SetTable.fits SetTable.fill
    rw [tdm, Bool.and_eq_true, beq_iff_eq, decide_eq_true_eq]
    show t.place.size = es.size ∧ t.place.size + 0 ≤ t.mask
    omega
  obtain ⟨t', ord, e, hp, T, em, el, _, ed⟩ := relaid_ok t (hs := es.map (·.1)) (wanted := wanted) hw hN (by rw [Array.size_map, sl]; omega)
  rw [Array.size_map, sl] at hp
  obtain ⟨L2, r1, r2, r3⟩ := rws_order L es ord rows hp
  rw [← r3] at T
  have s2 : (ord.filterMap (es[·]?)).size = es.size := by rw [rws_len r1, r2.length_eq, sl]
  rw [setRelay_eq]
  refine wpAny_bind (wpAny_setState_of go gd fits ?_)
  dsimp only
  refine wp_if_neg (by rw [sizeLine_eq]; omega) ?_
  try refine wpAny_bind (wpAny_pure ?_)
  rw [e]
  dsimp only
  refine wpAny_bind (wp_if_neg (by rw [s2]; simp) ?_)
  try refine wpAny_bind (wpAny_pure ?_)
  refine wpAny_pure ?_
  dsimp only
  refine wpAny_storeSet_of go gd ?_ (by rw [s2, sl, sizeLine_eq]; omega)
  have sb : Heap.SameBut a s.heap (s.heap.update a (Obj.putSet (ord.filterMap (es[·]?)) t')) := Heap.SameBut.update ..
  refine hQ _ L2 (ord.filterMap (es[·]?)) (ep + 1) t' sb ⟨⟨_, store_at go gd, ⟨ex.1, ex.2.1, ex.2.2⟩, rfl⟩, r1, T, (r2.map (·.2)).nodup_iff.mpr nd, fun p hm => (mem p (r2.mem_iff.mp hm)).but go ex sb, by rw [el]; exact led, ?_, by rw [r2.length_eq]; exact few⟩ r2
  rw [r2.length_eq, em]
  exact hn
/-- one is added -/
theorem add_d (T : SetD w s.heap a L es ep t) {x : Addr} {d : PyData} (M : Mem s.heap d x) (hu : A.units + 8 < cLine) (few : L.length + 1 < 64) {Q : Bool → Shared → Prop}
    (hQ : ∀ b h' L' es' ep' t', Heap.SameBut a s.heap h' → SetD w h' a L' es' ep' t' → (d ∈ L.map (·.2) → L' = L) → (d ∉ L.map (·.2) → L'.Perm ((x, d) :: L)) → Q b { s with heap := h' }) :
    wpAny (model P w) A (setAddHashed a (.ref x) (hsh w d)) Q E s := by
  obtain ⟨ob, go, ex, gd⟩ := T.at_
  have sl := rws_len T.rows
  have rm := T.room
  unfold setAddHashed
  refine wpAny_holding ?_
  rw [show (100000 : Nat) = 99999 + 1 from rfl, setAddHashedIn_succ]
  refine wpAny_bind (wpAny_setState_of go gd T.fits ?_)
  dsimp only
  refine wp_if_neg (by simp [byScan, Value.scannable]) ?_
  try refine wpAny_bind (wpAny_pure ?_)
  refine wpAny_bind (search_d T M hu (fun z => ?_) fun K z hK hB => ?_)
  · dsimp only
    exact wpAny_pure (hQ false s.heap L es ep t (Heap.SameBut.refl a s.heap) T (fun _ => rfl) fun y => absurd z y)
  dsimp only
  refine wpAny_bind (wpAny_setState_of go gd T.fits ?_)
  dsimp only
  obtain ⟨q1, q2, q3, q4, q5, q6, q7, q8, q9⟩ := T.tab.put hK hB
  generalize hpt : t.put (way t.mask (hsh w d) K) = pt at q1 q3 q4 q5 q6 q7 q8 q9 ⊢
  obtain ⟨t1, p⟩ := pt
  dsimp only at q1 q3 q4 q5 q6 q7 q8 q9 ⊢
  subst q1
  have ins : (SetTable.insertAt es (SetTable.below t.place (way t.mask (hsh w d) K)) (hsh w d, Value.ref x)).toList = rws w (L.take (SetTable.below t.place (way t.mask (hsh w d) K)) ++ (x, d) :: L.drop (SetTable.below t.place (way t.mask (hsh w d) K))) := by
    rw [SetTable.toList_insertAt, rws_put, T.rows]
  generalize SetTable.below t.place (way t.mask (hsh w d) K) = p at q2 q3 ins ⊢
  have pm := put_perm L p (x, d)
  have hhs : (L.take p ++ (x, d) :: L.drop p).map (fun p => hsh w p.2) = (L.map fun p => hsh w p.2).take p ++ hsh w d :: (L.map fun p => hsh w p.2).drop p := by
    rw [List.map_append, List.map_cons, List.map_take, List.map_drop]
  rw [← hhs] at q3
  generalize L.take p ++ (x, d) :: L.drop p = L1 at pm q3 ins
  have len : L1.length = L.length + 1 := pm.length_eq
  have nd1 : (L1.map (·.2)).Nodup := by
    refine (pm.map (·.2)).nodup_iff.mpr ?_
    rw [List.map_cons]
    exact List.nodup_cons.mpr ⟨z, T.nd⟩
  generalize SetTable.insertAt es p (hsh w d, Value.ref x) = es1 at ins ⊢
  have esz : es1.size = L.length + 1 := by rw [rws_len ins, len]
  -- whatever its hash is by
  have goOn : ∀ b : Bool, wpAny (model P w) A (do
      storeSet a es1 (if b then t1 else { t1 with plain := false })
      if !false && (if b then t1 else { t1 with plain := false }).tooFull then setRelay a (SetTable.grown (es.size + 1))
      return true) Q E s := by
    intro b
    obtain ⟨t2, ht2⟩ : ∃ t2, t2 = (if b then t1 else { t1 with plain := false }) := ⟨_, rfl⟩
    rw [← ht2]
    have T2 : TabOk t2 (L1.map fun p => hsh w p.2) ∧ t2.mask = t1.mask ∧ t2.led = t1.led ∧ t2.tooFull = t1.tooFull := by
      cases b
      · subst ht2; exact ⟨tab_plain q3 false, rfl, rfl, rfl⟩
      · subst ht2; exact ⟨q3, rfl, rfl, rfl⟩
    obtain ⟨T2, m2, l2, f2⟩ := T2
    refine wpAny_bind (wpAny_storeSet_of go gd ?_ (by rw [esz, sizeLine_eq]; omega))
    have sb : Heap.SameBut a s.heap (s.heap.update a (Obj.putSet es1 t2)) := Heap.SameBut.update ..
    have go1 := store_at (es' := es1) (t' := t2) go gd
    generalize s.heap.update a (Obj.putSet es1 t2) = h1 at sb go1 ⊢
    have mem1 : ∀ p ∈ L1, Mem h1 p.2 p.1 := fun p hp => by
      rcases List.mem_cons.mp (pm.mem_iff.mp hp) with e | hp
      · rw [e]; exact M.but go ex sb
      · exact (T.mem p hp).but go ex sb
    have led1 : w.params.followText "set-order" = true ∨ t2.led = true := by rw [l2, q5]; exact T.led
    by_cases hf : t2.tooFull = true
    · first
        | (refine wpAny_bind ?_; refine wp_if_pos (by simp [hf]) ?_)
        | (refine wp_if_pos (by simp [hf]) ?_; refine wpAny_bind ?_)
      have full : (L.length + 1) * 5 ≥ t.mask * 3 := by
        have h := hf
        rw [f2] at h
        unfold SetTable.tooFull at h
        rw [decide_eq_true_eq, q9, List.length_map, q4] at h
        exact h
      rw [sl]
      have psz : t2.place.size = es1.size := by rw [T2.sz, List.length_map, len, esz]
      have two : (t.mask = 7 ∧ L.length = 4) ∨ (t.mask = 31 ∧ L.length = 18) := by
        rcases T.tab.mok with e | e | e <;> rw [e] at full rm
        · exact .inl ⟨e, by omega⟩
        · exact .inr ⟨e, by omega⟩
        · omega
      have big : ∀ N, SetTable.sizeAbove (SetTable.grown (L.length + 1)) - 1 = N → MaskOk N → SetTable.sizeAbove (SetTable.grown (L.length + 1)) ≤ 128 → (L.length + 1) * 5 < N * 3 →
          wpAny (model P w) A (setRelay a (SetTable.grown (L.length + 1))) (fun _ s' => wpAny (model P w) A (pure true) Q E s') E { s with heap := h1 } := fun N z1 z2 z3 z4 => by
        refine relay_d (s := { s with heap := h1 }) go1 ⟨ex.1, ex.2.1, ex.2.2⟩ rfl ins psz T2.dm (by rw [esz, m2, q4]; rcases two with ⟨e, e2⟩ | ⟨e, e2⟩ <;> omega) nd1 mem1 led1 (by rw [len]; exact few) z1 z2 z3 (by rw [len]; exact z4) ?_
        intro h2 L2 es2 ep2 t3 sb2 R2 pm2
        exact wpAny_pure (hQ true h2 L2 es2 ep2 t3 (sb.trans sb2) R2 (fun y => absurd y z) fun _ => pm2.trans pm)
      rcases two with ⟨_, e2⟩ | ⟨_, e2⟩
      · exact big 31 (by rw [e2, size_20]) (.inr (.inl rfl)) (by rw [e2, size_20]; decide) (by omega)
      · exact big 127 (by rw [e2, size_76]) (.inr (.inr rfl)) (by rw [e2, size_76]; decide) (by omega)
    · first
        | refine wp_if_neg (by simp [hf]) ?_
        | (refine wpAny_bind ?_; refine wp_if_neg (by simp [hf]) ?_; refine wpAny_pure ?_)
      refine wpAny_pure (hQ true h1 L1 es1 (ep + 1) t2 sb ⟨⟨_, go1, ⟨ex.1, ex.2.1, ex.2.2⟩, rfl⟩, ins, T2, nd1, mem1, led1, ?_, by rw [len]; exact few⟩ (fun y => absurd y z) fun _ => pm)
      have h := hf
      rw [f2] at h
      unfold SetTable.tooFull at h
      rw [decide_eq_true_eq, q9, List.length_map, q4] at h
      rw [len, m2, q4]
      omega
  obtain ⟨as, rx⟩ := M.rd
  by_cases hp : t1.plain = true
  · first
      | (refine wpAny_bind ?_; refine wp_if_pos hp ?_; refine hasStr_walk 8 d _ as _ _ _ M.dp M.k rx ?_)
      | refine wp_if_pos hp (wpAny_bind (hasStr_walk 8 d _ as _ _ _ M.dp M.k rx ?_))
    exact goOn
  · first
      | (refine wpAny_bind ?_; refine wp_if_neg hp ?_; refine wpAny_pure ?_)
      | refine wp_if_neg hp (wpAny_bind (wpAny_pure ?_))
    exact goOn true
end
end EV

end

section
set_option Elab.async false
set_option linter.all false
set_option maxRecDepth 100000
set_option maxHeartbeats 3200000
/-! EvSetOf: set(xs), xs a tuple of such tuples; len(set(xs)). -/
namespace EV
open PySem PySem.Spec PyProof.Rows L2
/-- what stands in the set behind the first i items -/
structure Upto (ks : List Row) (i : Nat) (L : List Row) : Prop where
  sub : ∀ p ∈ L, p ∈ ks.take i
  all : ∀ p ∈ ks.take i, p.2 ∈ L.map (·.2)
  len : L.length ≤ i
theorem Upto.zero (ks : List Row) : Upto ks 0 [] := ⟨fun p h => (nomatch h), fun p h => (by simp at h), Nat.le_refl _⟩
theorem Upto.old {ks L : List Row} {i : Nat} {x : Row} (g : Upto ks i L) (h : ks[i]? = some x) (hm : x.2 ∈ L.map (·.2)) : Upto ks (i + 1) L := by
  have e := take_next h
  refine ⟨fun p hp => by rw [e]; exact List.mem_append_left _ (g.sub p hp), fun p hp => ?_, Nat.le_succ_of_le g.len⟩
  rw [e] at hp
  rcases List.mem_append.mp hp with z | z
  · exact g.all p z
  · rw [List.mem_singleton.mp z]; exact hm
theorem Upto.new {ks L N : List Row} {i : Nat} {x : Row} (g : Upto ks i L) (h : ks[i]? = some x) (pm : N.Perm (x :: L)) : Upto ks (i + 1) N := by
  have e := take_next h
  refine ⟨fun p hp => ?_, fun p hp => ?_, by rw [pm.length_eq, List.length_cons]; exact Nat.succ_le_succ g.len⟩
  · rw [e]
    rcases List.mem_cons.mp (pm.mem_iff.mp hp) with z | z
    · rw [z]; exact List.mem_append_right _ (List.mem_singleton.mpr rfl)
    · exact List.mem_append_left _ (g.sub p z)
  · rw [(pm.map (·.2)).mem_iff, List.map_cons]
    rw [e] at hp
    rcases List.mem_append.mp hp with z | z
    · exact List.mem_cons_of_mem _ (g.all p z)
    · rw [List.mem_singleton.mp z]; exact List.mem_cons_self
section
variable {P : Program} {w : World} {A : Around} {E : Value → Shared → Prop} {s : Shared}
theorem SetD.keep {h h' : Heap} {a : Addr} {L : List Row} {es : Array (Int × Value)} {ep : Nat} {t : SetTable} (T : SetD w h a L es ep t) (ka : ∀ o, h.get? a = some o → h'.get? a = some o) (km : ∀ p ∈ L, Mem h' p.2 p.1) : SetD w h' a L es ep t := by
  obtain ⟨o, go, r⟩ := T.at_
  exact ⟨⟨o, ka o go, r⟩, T.rows, T.tab, T.nd, km, T.led, T.room, T.few⟩
theorem setD_new {h : Heap} {a : Addr} (go : h.get? a = some { cls := .type "set", dict := none, data := .set #[] 0 (.fresh 0 0 (!w.params.followText "set-order")) }) : SetD w h a [] #[] 0 (.fresh 0 0 (!w.params.followText "set-order")) where
  at_ := ⟨_, go, ⟨rfl, rfl, rfl⟩, rfl⟩
  rows := rfl
  tab := ⟨List.Pairwise.nil, rfl, rfl, .inl rfl, fun x hx => (nomatch hx), fun i h j hi => (by simp at hi)⟩
  nd := List.nodup_nil
  mem := fun p hp => nomatch hp
  led := by
    cases q : w.params.followText "set-order"
    · exact .inr (by show (!false) = true; rfl)
    · exact .inl rfl
  room := by
    show 0 * 5 < 7 * 3
    decide
  few := by
    show 0 < 64
    decide
theorem upd_loop {I : Addr} {fp wr : List Addr} {G : Array GenState → Array GenState → Prop} {n : Nat} {Pv : Nat → Value → Prop} {St : Nat → Shared → Prop} {R : Result → Shared → Prop}
    (W : WalksS P w A.in1 I fp wr G n Pv St) (Sa : Addr) (nfp : Sa ∉ fp) (ks : List Row) (hn : n = ks.length) (few : ks.length < 64) (hval : ∀ i v, Pv i v → ∃ p, ks[i]? = some p ∧ v = .ref p.1)
    (h0 : Heap) (hk : ∀ p ∈ ks, Mem h0 p.2 p.1) (free : h0.get? Sa = none) (fw : ∀ b ∈ wr, h0.get? b = none) (hu : A.in1.units + 8 < cLine) :
    ∀ (k i : Nat) (s : Shared), n - i = k → i ≤ n → St i s → (∀ b o, h0.get? b = some o → s.heap.get? b = some o) → (∃ L es ep t, SetD w s.heap Sa L es ep t ∧ Upto ks i L) →
      (∀ s' L es ep t, Moved (Sa :: wr) G s s' → SetD w s'.heap Sa L es ep t → Upto ks n L → (∀ b o, h0.get? b = some o → s'.heap.get? b = some o) → R (.ok (.ret .none)) s') →
      codeAny (model P w) A (.builtin "set.update.loop" ⟨[.ref Sa, .ref I], []⟩) R s := by
  have nw : Sa ∉ wr := fun z => nfp (W.sub _ z)
  have more : ∀ b ∈ wr, b ∈ Sa :: wr := fun b hb => List.mem_cons_of_mem _ hb
  have old : ∀ {s s' : Shared}, Moved wr G s s' → (∀ b o, h0.get? b = some o → s.heap.get? b = some o) → ∀ b o, h0.get? b = some o → s'.heap.get? b = some o := fun mv kp b o e =>
    mv.heap b o (fun hb => by rw [fw b hb] at e; cases e) (kp b o e)
  intro k
  induction k with
  | zero =>
    intro i s hk' hi hst kp ⟨L, es, ep, t, T, g⟩ hR
    obtain rfl : i = n := by omega
    refine codeAny_builtin F.entry_set_update_loop ?_
    rw [Around.under_plainId F.plain_set_update_loop _]
    show wpAny _ A.in1 (pyNext (.ref I) >>= _) _ _ s
    refine wpAny_bind (W.done s _ _ hst fun s' mv => ?_)
    show wpAny _ A.in1 (ret Value.none) _ _ s'
    have kp' := old mv kp
    refine wpAny_pure (hR s' L es ep t (mv.mono more) (T.keep (fun o e => mv.heap Sa o nw e) fun p hp => ?_) g kp')
    exact (hk p (List.mem_of_mem_take (g.sub p hp))).mv fun c o e _ => kp' c o e
  | succ k ih =>
    intro i s hk' hi hst kp ⟨L, es, ep, t, T, g⟩ hR
    have hlt : i < n := by omega
    refine codeAny_builtin F.entry_set_update_loop ?_
    rw [Around.under_plainId F.plain_set_update_loop _]
    show wpAny _ A.in1 (pyNext (.ref I) >>= _) _ _ s
    refine wpAny_bind (W.item i s _ _ hlt hst fun v s' hP hst' mv => ?_)
    obtain ⟨p, hp, rfl⟩ := hval i v hP
    have kp' := old mv kp
    have T' : SetD w s'.heap Sa L es ep t := T.keep (fun o e => mv.heap Sa o nw e) fun q hq => (hk q (List.mem_of_mem_take (g.sub q hq))).mv fun c o e _ => kp' c o e
    have M : Mem s'.heap p.2 p.1 := (hk p (List.mem_of_getElem? hp)).mv fun c o e _ => kp' c o e
    obtain ⟨as, rx⟩ := M.rd
    have hdp := M.dp
    show wpAny _ A.in1 (holding [Value.ref p.1] (setAdd Sa (.ref p.1)) >>= _) _ _ s'
    refine wpAny_bind (wpAny_holding ?_)
    unfold setAdd
    refine wpAny_holding (wpAny_bind (hash_walk (w := w) 8 _ _ _ p.2 _ as _ hdp M.k rx (by omega) fun tk lt => ?_))
    refine add_d (s := { s' with toks := tk }) T' M hu (by have := g.len; omega) fun b h' L' es' ep' t' sb T2 c1 c2 => ?_
    have g' : Upto ks (i + 1) L' := by
      rcases Classical.em (p.2 ∈ L.map (·.2)) with c | c
      · rw [c1 c]; exact g.old hp c
      · exact g.new hp (c2 c)
    have kp2 : ∀ b o, h0.get? b = some o → h'.get? b = some o := fun b o e => (sb.2 b (fun z => by rw [z, free] at e; cases e)).trans (kp' b o e)
    refine wpAny_pure ⟨plainId_quiet F.plain_set_update_loop _, ih (i + 1) _ (by omega) hlt (W.frame _ s' _ _ hst' lt fun b hb o e => ?_) kp2 ⟨L', es', ep', t', T2, g'⟩ fun s'' L2 es2 ep2 t2 mv2 T3 g3 kp3 => ?_⟩
    · rw [sb.2 b (fun z => nfp (z ▸ hb))]
      exact e
    · refine hR s'' L2 es2 ep2 t2 (Moved.trans W.gtrans ((mv.mono more).then_heap lt fun b o hb e => ?_) mv2) T3 g3 kp3
      rw [sb.2 b (fun z => hb (z ▸ List.mem_cons_self))]
      exact e

abbrev fresh0 (w : World) : Obj := { cls := .type "set", dict := none, data := .set #[] 0 (.fresh 0 0 (!w.params.followText "set-order")) }
set_option maxRecDepth 100000 in
/-- set(x), x a tuple -/
theorem call_setT {l : Addr} {items : Array Value} (ks : List Row) {Q : Value → Shared → Prop} (hh : A.handled = none) (hl : s.heap.IsTuple l items) (hit : items.toList = ks.map fun p => Value.ref p.1)
    (hk : ∀ p ∈ ks, Mem s.heap p.2 p.1) (few : ks.length < 64) (hu : A.units + 16 < cLine)
    (hQ : ∀ (h' : Heap) (tk : Nat) L es ep t, SetD w h' s.heap.objs.size L es ep t → Upto ks ks.length L → (∀ b o, s.heap.get? b = some o → h'.get? b = some o) → Q (.ref s.heap.objs.size) { s with heap := h', toks := tk }) :
    wpAny (model P w) A (call (.type "set") [.ref l]) Q E s := by
  have isz : items.size = ks.length := by rw [← Array.length_toList, hit, List.length_map]
  obtain ⟨c, tl, hmro⟩ := F.called_set.mro
  have hmade := F.called_set.made
  have hsub := F.called_set.sub
  refine wpAny_call (codeAny_of_tree ?_)
  show wpAny _ _ (callAny (.type "set") _) _ _ _
  refine wpAny_pure ⟨Code.quiet_builtin _ (by decide +kernel), codeAny_builtin F.entry_type_call ?_⟩
  rw [Around.under_plain (weight_type_call_type "set" [.ref l] []) rfl]
  have h1 := F.called_set.notType
  have h2 := F.called_set.canCreate
  have hct := F.typeCall_set_1 (.ref l)
  repeat (any_goals (first | assumption | wp_step))
  refine codeAny_mono (code_set_led1 (.ref l) (E := E) (Q₁ := fun obj s₁ => obj = .ref s.heap.objs.size ∧ s₁ = { s with heap := s.heap.push (fresh0 w) }) ⟨rfl, rfl⟩) fun r s₁ hr => ?_
  cases r with
  | error e => exact hr
  | ok fl =>
    cases fl with
    | ret obj =>
      obtain ⟨rfl, rfl⟩ := hr
      have gS : (s.heap.push (fresh0 w)).get? s.heap.objs.size = some (fresh0 w) := Heap.get?_push_size _ rfl
      have hT : Shared.TypeIs { s with heap := s.heap.push (fresh0 w) } (.ref s.heap.objs.size) "set" := ⟨_, gS, rfl⟩
      have hli := F.called_set.init.lookup
      have hbi := F.called_set.init.bind (.ref s.heap.objs.size)
      repeat (any_goals (first | assumption | wp_step))
      refine codeAny_mono (codeAny_call_builtin (R := wants (fun r s₂ => r = .none ∧ ∃ h' tk L es ep t, s₂ = { s with heap := h', toks := tk } ∧ SetD w h' s.heap.objs.size L es ep t ∧ Upto ks ks.length L ∧
          (∀ b o, s.heap.get? b = some o → h'.get? b = some o)) E) F.called_set.init.plain F.entry_set_init (check_set_init_1 hT ?_)) fun r₂ s₂ hr₂ => ?_
      · obtain ⟨ol, hol, hcl, nl, hdl⟩ := hl
        obtain ⟨ocls, odict, odata, oslots⟩ := ol
        simp only at hcl hdl
        subst hcl; subst hdl
        have hol' : (s.heap.push (fresh0 w)).get? l = some { cls := .type "tuple", dict := odict, data := .seq items nl, slots := oslots } := Heap.get?_push_of_some _ hol
        have hsls := F.sub_tuple_set
        have hslf := F.sub_tuple_frozenset
        have hne : (Value.type "tuple" == Value.type "dict") = false := by decide
        have hl1 : (s.heap.push (fresh0 w)).IsTuple l items := ⟨_, hol', rfl, nl, rfl⟩
        unfold Builtin.«set.__init__» noKeywords Builtin.Frozenset.updateFrom
        generalize hPI : pyIter = PI
        wp_walk
        subst hPI
        refine wpAny_pyIter_tuple hl1 ?_
        refine wpAny_bind (wpAny_runValue ?_)
        have lS : l < s.heap.objs.size := Heap.lt_size hol
        have hh3 : A.in1.in1.in1.handled = none := by simp [hh]
        have neI : l ≠ (s.heap.push (fresh0 w)).objs.size := by
          rw [Heap.size_push]
          exact Nat.ne_of_lt (Nat.lt_succ_of_lt lS)
        have nfp : s.heap.objs.size ∉ [(s.heap.push (fresh0 w)).objs.size, l] := by
          rw [Heap.size_push]
          simp only [List.mem_cons, List.not_mem_nil, or_false, not_or]
          exact ⟨Nat.ne_of_lt (Nat.lt_succ_self _), Nat.ne_of_gt lS⟩
        have val : ∀ (i : Nat) (v : Value), items[i]? = some v → ∃ p, ks[i]? = some p ∧ v = .ref p.1 := fun i v hv => by
          rw [← Array.getElem?_toList, hit, List.getElem?_map] at hv
          obtain ⟨p, e1, e2⟩ := Option.map_eq_some_iff.mp hv
          exact ⟨p, e1, e2.symm⟩
        have none_of : ∀ b, s.heap.objs.size ≤ b → s.heap.get? b = none := fun b hb => by
          cases q : s.heap.get? b with
          | none => rfl
          | some o => exact absurd (Nat.lt_of_lt_of_le (Heap.lt_size q) hb) (Nat.lt_irrefl _)
        refine upd_loop ((Walks.tuple hh3 _ l neI items).toS) s.heap.objs.size nfp ks isz few val s.heap hk (none_of _ (Nat.le_refl _)) (fun b hb => none_of b ?_) (by show A.units + 1 + 1 + 1 + 8 < cLine; omega) (items.size - 0) 0 _ (by omega) (Nat.zero_le _)
          ⟨⟨_, Heap.get?_push_size _ rfl, rfl, rfl⟩, hl1.push _⟩ (fun b o e => Heap.get?_push_of_some _ (Heap.get?_push_of_some _ e)) ⟨[], #[], 0, _, setD_new (Heap.get?_push_of_some _ gS), Upto.zero ks⟩ fun s' L es ep t mv T g kp => ?_
        · rw [List.mem_singleton.mp hb, Heap.size_push]
          exact Nat.le_succ _
        · obtain ⟨h', g2, d', tk', os'⟩ := s'
          have eg : g2 = s.gens := mv.gens
          have ed : d' = s.drawn := mv.drawn
          have eo : os' = s.os := mv.os
          subst eg; subst ed; subst eo
          show wpAny _ _ _ _ _ _
          refine wpAny_pure ?_
          show wpAny _ _ (ret Value.none) _ _ _
          rw [isz] at g
          exact wpAny_pure ⟨rfl, h', tk', L, es, ep, t, rfl, T, g, kp⟩
      · cases r₂ with
        | error e => exact hr₂
        | ok fl₂ =>
          cases fl₂ with
          | ret r =>
            obtain ⟨rfl, h', tk, L, es, ep, t, rfl, T, g, kp⟩ := hr₂
            repeat (any_goals (first | assumption | wp_step))
            exact hQ _ _ _ _ _ _ T g kp
          | _ => exact hr₂.elim
    | _ => exact hr.elim
end
end EV

end

section
set_option Elab.async false
set_option linter.all false
set_option maxRecDepth 100000
set_option maxHeartbeats 2000000
/-! EvLen: len(set(x)), len(sorted(set(x))). -/
namespace EV
open PySem PySem.Spec PyProof.Rows L2

/-- how many unlike ones there are -/
def nubN : List PyData → Nat
  | [] => 0
  | d :: r => if (r.any fun e => PyData.eqv d e) = true then nubN r else nubN r + 1
theorem any_mem {d : PyData} (hd : kd d = true) : ∀ {r : List PyData}, kds r = true → ((r.any fun e => PyData.eqv d e) = true ↔ d ∈ r)
  | [], _ => by simp
  | e :: r, hr => by
    unfold kds at hr
    obtain ⟨h1, h2⟩ := Bool.and_eq_true_iff.mp hr
    rw [List.any_cons, Bool.or_eq_true, any_mem hd h2, List.mem_cons]
    exact or_congr ⟨fun z => eqv_kd hd z h1, fun z => by rw [← z]; exact eqv_refl hd⟩ Iff.rfl
theorem nub_len : ∀ {ds l : List PyData}, kds ds = true → l.Nodup → (∀ x, x ∈ l ↔ x ∈ ds) → l.length = nubN ds
  | [], l, _, _, h => by
    cases l with
    | nil => rfl
    | cons x r => exact absurd ((h x).mp List.mem_cons_self) (by simp)
  | d :: r, l, hk, nd, h => by
    unfold kds at hk
    obtain ⟨h1, h2⟩ := Bool.and_eq_true_iff.mp hk
    unfold nubN
    by_cases m : d ∈ r
    · rw [if_pos ((any_mem h1 h2).mpr m)]
      refine nub_len h2 nd fun x => (h x).trans ?_
      rw [List.mem_cons]
      exact ⟨fun z => z.elim (fun e => e ▸ m) id, .inr⟩
    · rw [if_neg fun z => m ((any_mem h1 h2).mp z)]
      obtain ⟨a, b, rfl⟩ := List.append_of_mem ((h d).mpr List.mem_cons_self)
      have pm : (a ++ d :: b).Perm (d :: (a ++ b)) := List.perm_middle
      have nd2 := pm.nodup_iff.mp nd
      obtain ⟨n1, n2⟩ := List.nodup_cons.mp nd2
      rw [pm.length_eq, List.length_cons]
      congr 1
      refine nub_len h2 n2 fun x => ?_
      have hx := h x
      rw [pm.mem_iff, List.mem_cons, List.mem_cons] at hx
      constructor
      · intro z
        rcases hx.mp (.inr z) with e | e
        · exact absurd (e ▸ z) n1
        · exact e
      · intro z
        rcases hx.mpr (.inr z) with e | e
        · exact absurd (e ▸ z) m
        · exact e
mutual
theorem reads_nil {h : Heap} : ∀ {d : PyData} {v : Value} {as : List Addr}, kd d = true → Reads h v d as → as = []
  | _, _, _, _, .int _ _ => rfl
  | _, _, _, _, .str _ _ => rfl
  | _, _, _, k, .tuple _ _ _ r => readsAll_nil (by unfold kd at k; exact k) r
  | _, _, _, k, .none => by unfold kd at k; cases k
  | _, _, _, k, .bool _ => by unfold kd at k; cases k
  | _, _, _, k, .list _ _ _ _ => by unfold kd at k; cases k
  | _, _, _, k, .dict _ _ _ _ _ => by unfold kd at k; cases k
theorem readsAll_nil {h : Heap} : ∀ {ds : List PyData} {vs : List Value} {as : List Addr}, kds ds = true → ReadsAll h vs ds as → as = []
  | _, _, _, _, .nil => rfl
  | _, _, _, k, .cons r s => by
    unfold kds at k
    obtain ⟨k1, k2⟩ := Bool.and_eq_true_iff.mp k
    rw [reads_nil k1 r, readsAll_nil k2 s]
    rfl
end
def isTp : PyData → Bool
  | .tuple (_ :: _) => true
  | _ => false
/-- what a set takes here -/
def memOk (d : PyData) : Bool := isTp d && kd d && d.canLay0 && decide (d.depth ≤ 8)
def setIn (S : Sto) (a : A) : Option (List PyData) := match a with
  | .tup xs => match mapO (rdD 10 S) xs with
    | some ds => if ds.all memOk = true ∧ ds.length < 64 then some ds else none
    | none => none
  | _ => none
def oLenSet (a : A) (S : Sto) : Option (A × Sto) := (setIn S a).map fun ds => (.int (nubN ds : Nat), S)
def alikes (ds : List PyData) : Bool := ds.all fun x => ds.all fun y => PySem.W.alike x y
def oLenSort (a : A) (S : Sto) : Option (A × Sto) := match setIn S a with
  | some ds => if alikes ds = true then some (.int (nubN ds : Nat), S) else none
  | none => none
theorem memOk_of {d : PyData} (h : memOk d = true) : (∃ x r, d = .tuple (x :: r)) ∧ kd d = true ∧ d.canLay0 = true ∧ d.depth ≤ 8 := by
  unfold memOk at h
  rw [Bool.and_eq_true, Bool.and_eq_true, Bool.and_eq_true, decide_eq_true_eq] at h
  obtain ⟨⟨⟨h1, h2⟩, h3⟩, h4⟩ := h
  refine ⟨?_, h2, h3, h4⟩
  unfold isTp at h1
  split at h1
  · exact ⟨_, _, rfl⟩
  · cases h1
/-- the rows of a tuple's items -/
theorem rows_of {G : Gd} {ρ : Rn} {S : Sto} {H : Hp} (R : Rep G ρ S H) : ∀ {xs : List A} {vs : List V} {ds : List PyData}, RVs G.K ρ H xs vs → mapO (rdD 10 S) xs = some ds → ds.all memOk = true →
    ∃ ks : List Row, vs = ks.map (fun p => V.ref p.1) ∧ ds = ks.map (·.2) ∧ (∀ p ∈ ks, Dp G.K H (V.ref p.1) p.2 ∧ memOk p.2 = true) ∧ kds ds = true
  | _, _, _, .nil, e, _ => by cases e; exact ⟨[], rfl, rfl, fun p h => (nomatch h), by unfold kds; rfl⟩
  | _, _, _, .cons (a := a) (xs := xs) r t, e, m => by
    unfold mapO at e
    cases e1 : rdD 10 S a with
    | none => rw [e1] at e; cases e
    | some d =>
      cases e2 : mapO (rdD 10 S) xs with
      | none => rw [e1, e2] at e; cases e
      | some ds =>
        rw [e1, e2] at e; cases e
        rw [List.all_cons, Bool.and_eq_true] at m
        obtain ⟨m1, m2⟩ := m
        obtain ⟨ks, h1, h2, h3, h4⟩ := rows_of R t e2 m2
        have dp := rd_dp R 10 a _ d r e1
        subst h1
        obtain ⟨⟨x, rr, rfl⟩, k1, _, _⟩ := memOk_of m1
        have fin : ∀ {p : Addr}, Dp G.K H (V.ref p) (.tuple (x :: rr)) → ∃ ks' : List Row, V.ref p :: ks.map (fun p => V.ref p.1) = ks'.map (fun p => V.ref p.1) ∧ PyData.tuple (x :: rr) :: ds = ks'.map (·.2) ∧ (∀ p ∈ ks', Dp G.K H (V.ref p.1) p.2 ∧ memOk p.2 = true) ∧ kds (.tuple (x :: rr) :: ds) = true := fun {p} dp => by
          refine ⟨(p, _) :: ks, rfl, by rw [h2]; rfl, fun q hq => ?_, by unfold kds; rw [k1, h4]; rfl⟩
          rcases List.mem_cons.mp hq with e | hq
          · rw [e]; exact ⟨dp, m1⟩
          · exact h3 q hq
        cases r with
        | tup _ _ => exact fin dp
        | ref _ => exact fin dp
        | scr _ => cases e1
        | _ => cases dp
section
variable {X : Cx} {W : WX} {pos : Pos}
theorem upto_len {w : World} {h : Heap} {a : Addr} {L ks : List Row} {es : Array (Int × Value)} {ep : Nat} {t : SetTable} (T : SetD w h a L es ep t) (g : Upto ks ks.length L) (k : kds (ks.map (·.2)) = true) : L.length = nubN (ks.map (·.2)) := by
  rw [← List.length_map (f := (·.2))]
  refine nub_len k T.nd fun x => ⟨fun m => ?_, fun m => ?_⟩
  · obtain ⟨p, hp, e⟩ := List.mem_map.mp m
    exact List.mem_map.mpr ⟨p, List.mem_of_mem_take (g.sub p hp), e⟩
  · obtain ⟨p, hp, e⟩ := List.mem_map.mp m
    rw [← e]
    exact g.all p (by rw [List.take_length]; exact hp)
/-- set(x) of a value that the store reads -/
theorem set_walk {pins : List (Addr × Obj)} {σ : L2.St} {H : Hp} {s : Shared} {ρ : Rn} {S : Sto} {a : A} {x : V} {v : Value} {ds : List PyData} {Q : Value → Shared → Prop} (hc : X.calm = true) (hu : X.A.units + 65 < cLine) (I : Inv X pins σ H s) (R : Rep (gd X) ρ S H) (ra : RV X.K ρ H a x) (rx : RelV x v) (e : setIn S a = some ds)
    (hQ : ∀ (b : Addr) (h' : Heap) (tk : Nat) L es ep t, b = s.heap.objs.size → SetD X.w h' b L es ep t → L.length = nubN ds → (∀ p ∈ L, p.2 ∈ ds) → (∀ c o, s.heap.get? c = some o → h'.get? c = some o) → Q (.ref b) { s with heap := h', toks := tk }) : wpAny (model X.prog X.w) X.A (call (.type "set") [v]) Q X.xe s := by
  unfold setIn at e
  cases ra with
  | @tup p vs xs t rs =>
    dsimp only at e
    cases em : mapO (rdD 10 S) xs with
    | none => rw [em] at e; cases e
    | some d2 =>
      rw [em] at e
      dsimp only at e
      by_cases hz : d2.all memOk = true ∧ d2.length < 64
      · rw [if_pos hz] at e; cases e
        obtain ⟨ks, e1, e2, e3, e4⟩ := rows_of R rs em hz.1
        cases (show v = Value.ref p from rx)
        obtain ⟨its, rv, pl, _⟩ := I.tuple (SqT.of t)
        subst e1 e2
        refine call_setT (P := X.prog) (w := X.w) (items := its.toArray) ks (I.ok.hd hc) pl ?_ (fun q hq => ?_) (by have := hz.2; rw [List.length_map] at this; exact this) (by omega) fun h' tk L es ep t T g k => hQ _ h' tk L es ep t rfl T (upto_len T g e4) (fun q hq => List.mem_map.mpr ⟨q, List.mem_of_mem_take (g.sub q hq), rfl⟩) k
        · show its = _
          clear hz pl e3 e4 em
          generalize ks = ks at rv
          induction ks generalizing its with
          | nil => cases rv; rfl
          | cons q ks ih =>
            cases rv with
            | cons r t => cases r; rw [ih _ t]; rfl
        · obtain ⟨dp, mo⟩ := e3 q hq
          obtain ⟨_, k1, k2, k3⟩ := memOk_of mo
          exact ⟨Dp.reads I q.2 _ _ dp rfl, k1, k3, k2⟩
      · rw [if_neg hz] at e; cases e
  | _ => cases e
def cLenSet (c : CE) : CE := c1 oLenSet c
theorem je_lenSet {e : Expr} {c : CE} {p p2 q : Pos} (hc : X.calm = true) (hu : X.A.units + 65 < cLine) (hm : X.mg "len" = none) (hm2 : X.mg "set" = none) (he : JE X W e c) (hg : Gl X "len" := by rfl) (hg2 : Gl X "set" := by rfl) (na : starEach [e] X.env = (false, eval e X.env) :: starEach [] X.env := by rfl) :
    JE X W (.Call (.Name "len" p) [.Call (.Name "set" p2) [e] [] q] [] pos) (cLenSet c) := by
  refine ⟨fun pins s σ H Q I h => ?_⟩
  have h0 := un_in h
  refine Call_ (ld_blt I hg hm PySem.boot_len ?_)
  refine PyProof.Rows.callWith_builtin1 (PyProof.Rows.args_cons ?_ rfl) rfl rfl
  refine Call_ (ld_blt I hg2 hm2 PyProof.Rows.boot_set ?_)
  refine PyProof.Rows.callWith_type1 (PyProof.Rows.args_cons (thn (he.run pins s σ H _ I h0) fun v s1 ⟨x, H1, I1, rx, ρ, S, a, c', S', R, ra, e', k⟩ => PyProof.Rows.args_nil ?_) na) na rfl
  unfold oLenSet at e'
  obtain ⟨ds, ed, e2⟩ := Option.map_eq_some_iff.mp e'
  cases e2
  refine set_walk hc hu I1 R ra rx ed fun b h' tk L es ep t eb T ln _ kp => PyProof.Rows.args_nil ?_
  obtain ⟨ob, go, ex, gd'⟩ := T.at_
  have I2 : Inv X pins σ H1 { s1 with heap := h', toks := tk } := I1.kept fun c o z => kp c o z
  have sz := rws_len T.rows
  have fw := T.few
  have ft := SetD.fits (s := { s1 with heap := h', toks := tk }) T
  refine call_len_set go ex gd' ft (by omega) ⟨.int (nubN ds : Nat), H1, I2.tok _, ⟨_, by rw [sz, ln]⟩, k ρ H1 Ext.refl R _ (.int _)⟩
/-- sorted of the set that was just made -/
theorem sort_walk {A : Around} {E : Value → Shared → Prop} {s : Shared} {a : Addr} {L : List Row} {es : Array (Int × Value)} {ep : Nat} {t : SetTable} {Q : Value → Shared → Prop} {P : Program} {w : World} (hh : A.handled = none) (hu : A.units + 16 < cLine) (T : SetD w s.heap a L es ep t)
    (al : ∀ p ∈ L, ∀ q ∈ L, PySem.W.alike p.2 q.2 = true) (tp : ∀ p ∈ L, ∃ x r, p.2 = .tuple (x :: r))
    (hQ : ∀ s' l (out : List Value) (n : Nat), (∀ b o, s.heap.get? b = some o → s'.heap.get? b = some o) → s'.gens = s.gens → s'.os = s.os → s'.heap.get? l = some (seqObj "list" out.toArray n) → out.length = L.length → Q (.ref l) s') :
    wpAny (model P w) A (call (.builtin "sorted") [.ref a]) Q E s := by
  obtain ⟨ob, go, ex, gd'⟩ := T.at_
  have sz := rws_len T.rows
  have fw := T.few
  refine Calls.call_function_entry kind_sorted plain_sorted entry_sorted (args_sorted1 _) ?_
  unfold Builtin.«sorted»
  refine wpAny_bind (m := checkCount "sorted" 1 1 _) (wpAny_pure ?_)
  refine wpAny_bind (collect_set (A := A.in1) hh ⟨ob, go, ex.1, gd'⟩ T.fits (by unfold scanBound; omega) T.tab.ris T.led fun s1 vs kp zz g1 o1 pm => ?_)
  have ev : es.toList.map (·.2) = L.map fun q => Value.ref q.1 := by
    rw [T.rows, rws, List.map_map]
    rfl
  rw [ev] at pm
  -- the values in their order, with their data
  have rowsV : ∀ vs : List Value, (∀ v ∈ vs, ∃ q ∈ L, v = Value.ref q.1) → ∃ N : List Row, vs = N.map (fun q => Value.ref q.1) ∧ ∀ q ∈ N, q ∈ L := by
    intro vs
    induction vs with
    | nil => exact fun _ => ⟨[], rfl, fun q hq => nomatch hq⟩
    | cons v vs ih =>
      intro hv
      obtain ⟨q, hq, e⟩ := hv v List.mem_cons_self
      obtain ⟨N, e1, hs⟩ := ih fun u hm => hv u (List.mem_cons_of_mem _ hm)
      refine ⟨q :: N, by rw [e, e1]; rfl, fun r hr => ?_⟩
      rcases List.mem_cons.mp hr with z | z
      · exact z ▸ hq
      · exact hs r z
  obtain ⟨N, eN, sub⟩ := rowsV vs fun v hv => by
    obtain ⟨q, hq, e⟩ := List.mem_map.mp (pm.mem_iff.mp hv)
    exact ⟨q, hq, e.symm⟩
  have nl : vs.length = L.length := by rw [pm.length_eq, List.length_map]
  refine wpAny_bind (wpAny_newList ?_ (by rw [sizeLine_eq]; omega))
  have gl : (s1.heap.push (seqObj "list" vs.toArray 0)).get? s1.heap.objs.size = some (seqObj "list" vs.toArray 0) := Heap.get?_push_size _ rfl
  have mem2 : ∀ q ∈ L, Mem (s1.heap.push (seqObj "list" vs.toArray 0)) q.2 q.1 := fun q hq => (T.mem q hq).mv fun c o e _ => Heap.get?_push_of_some _ (kp c o e)
  have each : ∀ (N : List Row), (∀ q ∈ N, q ∈ L) → PySem.W.EachIs (fun v b => ∃ as, Reads (s1.heap.push (seqObj "list" vs.toArray 0)) v (id b) as ∧ s1.heap.objs.size ∉ as) (N.map fun q => Value.ref q.1) (N.map (·.2)) := by
    intro N
    induction N with
    | nil => exact fun _ => .nil
    | cons q N ih =>
      intro hN
      have hq := hN q List.mem_cons_self
      have M := mem2 q hq
      obtain ⟨as, r⟩ := M.rd
      have empty := reads_nil M.k r
      exact .cons ⟨as, r, by rw [empty]; simp⟩ (ih fun r hr => hN r (List.mem_cons_of_mem _ hr))
  have E2 := each N sub
  rw [← eN] at E2
  refine wpAny_bind (wpAny_holding (PySem.W.list_sort_data (s := { s1 with heap := s1.heap.push (seqObj "list" vs.toArray 0) }) (R := fun v b => ∃ as, Reads (s1.heap.push (seqObj "list" vs.toArray 0)) v (id b) as ∧ s1.heap.objs.size ∉ as) (enc := id) gl E2 E2 ?_ ?_ ?_ ?_ fun out l1 l2 => ?_))
  · rw [List.map_id]
    intro d hd d' hd'
    obtain ⟨q, hq, rfl⟩ := List.mem_map.mp hd
    obtain ⟨r, hr, rfl⟩ := List.mem_map.mp hd'
    exact al q (sub q hq) r (sub r hr)
  · rw [List.map_id]
    refine .inl fun d hd => ?_
    obtain ⟨q, hq, rfl⟩ := List.mem_map.mp hd
    exact tp q (sub q hq)
  · rw [List.length_map, sizeLine_eq]
    have := congrArg List.length eN
    rw [List.length_map] at this
    omega
  · intro d hd
    obtain ⟨q, hq, rfl⟩ := List.mem_map.mp hd
    have := (T.mem q (sub q hq)).dp
    show A.units + 1 + 1 + q.2.depth < cLine
    omega
  · obtain ⟨c, hcc⟩ := sortedHeap_at (vs := vs) (out := out.toArray) gl
    rw [List.length_map] at l1
    refine wpAny_pure ⟨_, rfl, hQ _ s1.heap.objs.size out c (fun b u e => ?_) g1 o1 hcc (by rw [l1, ← nl, eN, List.length_map])⟩
    have q := kp b u e
    have hlt := Heap.lt_size q
    show (sortedHeap (s1.heap.push (seqObj "list" vs.toArray 0)) s1.heap.objs.size vs out.toArray).get? b = some u
    rw [sortedHeap_old (Nat.ne_of_lt hlt) (by rw [size_push']; exact Nat.lt_succ_of_lt hlt)]
    exact Heap.get?_push_of_some _ q
def cLenSort (c : CE) : CE := c1 oLenSort c
theorem je_lenSort {e : Expr} {c : CE} {p p2 p3 q r : Pos} (hc : X.calm = true) (hu : X.A.units + 65 < cLine) (hm : X.mg "len" = none) (hm2 : X.mg "set" = none) (hm3 : X.mg "sorted" = none) (he : JE X W e c) (hg : Gl X "len" := by rfl) (hg2 : Gl X "set" := by rfl) (hg3 : Gl X "sorted" := by rfl) (na : starEach [e] X.env = (false, eval e X.env) :: starEach [] X.env := by rfl) :
    JE X W (.Call (.Name "len" p) [.Call (.Name "sorted" p3) [.Call (.Name "set" p2) [e] [] q] [] r] [] pos) (cLenSort c) := by
  refine ⟨fun pins s σ H Q I h => ?_⟩
  have h0 := un_in h
  refine Call_ (ld_blt I hg hm PySem.boot_len ?_)
  refine PyProof.Rows.callWith_builtin1 (PyProof.Rows.args_cons ?_ rfl) rfl rfl
  refine Call_ (ld_blt I hg3 hm3 PyProof.Rows.boot_sorted ?_)
  refine PyProof.Rows.callWith_builtin1 (PyProof.Rows.args_cons ?_ rfl) rfl rfl
  refine Call_ (ld_blt I hg2 hm2 PyProof.Rows.boot_set ?_)
  refine PyProof.Rows.callWith_type1 (PyProof.Rows.args_cons (thn (he.run pins s σ H _ I h0) fun v s1 ⟨x, H1, I1, rx, ρ, S, a, c', S', R, ra, e', k⟩ => PyProof.Rows.args_nil ?_) na) na rfl
  unfold oLenSort at e'
  cases ed : setIn S a with
  | none => rw [ed] at e'; cases e'
  | some ds =>
    rw [ed] at e'
    dsimp only at e'
    by_cases hal : alikes ds = true
    · rw [if_pos hal] at e'; cases e'
      refine set_walk hc hu I1 R ra rx ed fun b h' tk L es ep t eb T ln sub kp => PyProof.Rows.args_nil ?_
      have mo : ∀ d ∈ ds, memOk d = true := by
        intro d hd
        unfold setIn at ed
        split at ed
        · split at ed
          · split at ed
            · rename_i hz
              cases ed
              exact List.all_eq_true.mp hz.1 d hd
            · cases ed
          · cases ed
        · cases ed
      refine sort_walk (I1.ok.hd hc) (by omega) T (fun p hp q hq => ?_) (fun p hp => (memOk_of (mo _ (sub p hp))).1) fun s' l out n kp2 g o hl lo => PyProof.Rows.args_nil ?_
      · exact List.all_eq_true.mp (List.all_eq_true.mp hal _ (sub p hp)) _ (sub q hq)
      have fw := T.few
      have hz : out.toArray.size ≤ sizeLine := by rw [List.size_toArray, lo, sizeLine_eq]; omega
      have e : s' = { s1 with heap := s'.heap, gens := s'.gens, drawn := s'.drawn, toks := s'.toks } := by
        cases s'
        cases s1
        cases o
        rfl
      have kk : ∀ c o, s1.heap.get? c = some o → s'.heap.get? c = some o := fun c o z => kp2 c o (kp c o z)
      have I2 : Inv X pins σ H1 { s1 with heap := s'.heap, gens := s'.gens, drawn := s'.drawn, toks := s'.toks } := I1.call (ch := []) (Un.kept kk) (I1.hok.kept kk) (by rw [g]; exact I1.bare) fun _ z => (nomatch z)
      rw [e]
      refine PySem.Calls.call_len_list (items := out.toArray) ⟨_, hl, rfl, _, rfl⟩ (by rw [sizeLine_eq] at hz; omega) ⟨.int (nubN ds : Nat), H1, I2.tok _, ⟨_, by rw [List.size_toArray, lo, ln]⟩, k ρ H1 Ext.refl R _ (.int _)⟩
    · rw [if_neg hal] at e'; cases e'
end
end EV

end

section
set_option Elab.async false
set_option linter.all false
set_option maxRecDepth 100000
set_option maxHeartbeats 2000000
/-! EvDc: dict comprehensions of one clause, keys ints and texts, or tuples of these. -/
namespace EV
open PySem PySem.Spec PyProof.Rows L2

def ini (t : Bool) : HO := if t then .dT [] else .dK []
section
variable {X : Cx}
theorem ini_ok {P : Program} {w : World} {H : Hp} (t : Bool) (h : Heap) (hb : sysModules < h.objs.size) : ObjOk P w H (h.push { cls := .type "dict", data := .dict #[] }) h.objs.size (ini t) := by
  cases t
  · exact dk_empty h hb
  · exact dt_empty h hb
/-- one more pair -/
theorem put_pair {Y : Cx} {pins : List (Addr × Obj)} {σ : L2.St} {H H' : Hp} {s : Shared} {A : Around} {E : Value → Shared → Prop} {D : Addr} {y z : V} {u r : Value} {Q : Unit → Shared → Prop} (hu : A.units < cLine) (I : Inv Y pins σ H s) (ry : RelV y u) (rz : RelV z r) (p : DPut H D y z H')
    (hQ : ∀ s', Inv Y pins σ H' s' → Q () s') : wpAny (model Y.prog Y.w) A (dictSet D u r) Q E s := by
  rcases p with ⟨kvs, k, e, rfl, hl, rfl⟩ | ⟨kvs, k, b, e, rfl, eb, hl, rfl⟩
  · obtain ⟨z1, hd, vs, rel, dd⟩ := dk_of I.hok e
    have hzv : vs.length ≤ sizeLine := by rw [← rel.length]; exact z1
    have hl2 : (putK kvs k z).length ≤ sizeLine := by have := length_putK kvs k z; omega
    refine wpAny_dictSet_pairs (hsz := hzv) (kV_is ry) dd fun h' dd' hs => hQ _ ?_
    have there : ∃ q, h'.get? D = some q := let ⟨q, _, _, hq, _⟩ := dd'; ⟨q, hq⟩
    exact d_write I (by rw [e]; exact True.intro) hs there (dk_new hl2 hd (rel.put k rz) dd')
  · cases (show u = Value.ref b from ry)
    obtain ⟨z1, hd, xs, rel, dd⟩ := dt_of I.hok e
    have hzv : xs.length ≤ sizeLine := by rw [← Paired.length rel]; exact z1
    have hl2 : (putK kvs k z).length ≤ sizeLine := by have := length_putK kvs k z; omega
    refine wpAny_dictSet_heap (hsz := hzv) (show (tupleKind (mixKind Y.prog Y.w)).room A from hu) (key_of I.hok eb) dd fun h' dd' hs => hQ _ ?_
    obtain ⟨q, es, ep, hq, g2, g3, g4, _, g5⟩ := dd'
    refine d_write I (by rw [e]; exact True.intro) hs ⟨q, hq⟩ ⟨hl2, hd, _, (rel.put k eb rz).keeps fun c ys ec => ?_, q, es, ep, hq, g2, g3, g4, g5⟩
    rw [upd_ne (ne_of ec e (fun z => nomatch z))]
    exact ec
/-- the reading: D the new dict -/
def tDd (wi : TI) (g : TG) (tt : TT) (tk tv : TE) (vs : List Nat) (t : Bool) : TE := fun σ H Q => wi σ H fun J H1 => ∀ D, H1 D = none → ∃ Wv : Nat → Nat → Hp → Prop, (∃ m, Wv 0 m (upd H1 D (ini t))) ∧ ∀ i m H, Wv i m H →
  (J.stop i H ∧ Q (.ref D) H) ∨ (J.go i H ∧ ∃ Nx : Hp → Prop, (∀ H', Nx H' → ∃ m', m' < m ∧ Wv (i + 1) m' H') ∧ ∀ x H', J.yld i H x H' → g x (wipe σ vs) H' fun σ2 H2 => wipe σ2 vs = wipe σ vs ∧ tt σ2 H2 fun b H3 =>
    if b = true then tk σ2 H3 fun y H4 => tv σ2 H4 fun z H5 => ∃ H6, DPut H5 D y z H6 ∧ Nx H6 else Nx H3)
theorem dd_core {pins : List (Addr × Obj)} {s : Shared} {σ : L2.St} {H : Hp} {Q : VK} {kx vx tg iter : Expr} {ifs : List Expr} {scope : Scope} {own : List (Str × Nat)} {pos pos' : Pos} {wi : TI} {g : TG} {tt : TT} {tk tv : TE} {use : Option (Value → Sem Unit)} {Qf : Value → Shared → Prop} (I : Inv X pins σ H s) (t : Bool) (hu : X.A.units + 65 < cLine) (hc : X.calm = true) (hN : X.N.Nodup) (hi : PI X tg iter wi) (ok : BlkOk X.N X.env.scope scope own)
    (hg : ∀ (s : Shared) (H : Hp) (C : Addr) (cl : List (Str × Addr)) (fp : List Addr), PG (X.blk s H scope (compEnvC scope cl C X.env) fp) tg g) (ht : ∀ (s : Shared) (H : Hp) (C : Addr) (cl : List (Str × Addr)) (fp : List Addr), PTs (X.blk s H scope (compEnvC scope cl C X.env) fp) ifs tt)
    (hk : ∀ (s : Shared) (H : Hp) (C : Addr) (cl : List (Str × Addr)) (fp : List Addr), PE (X.blk s H scope (compEnvC scope cl C X.env) fp) kx tk)
    (hv : ∀ (s : Shared) (H : Hp) (C : Addr) (cl : List (Str × Addr)) (fp : List Addr), PE (X.blk s H scope (compEnvC scope cl C X.env) fp) vx tv) (hs : ∀ x, foldedSetIterable iter X.env x = pure x) (h : tDd wi g tt tk tv (own.map (·.2)) t σ H Q)
    (fin_ : ∀ D C s' m H', Inv X pins σ H' s' → Q (.ref D) H' → s'.heap.Ns C m → FpOk X pins H' C → compPost (model X.prog X.w) X.A X.xe use Qf (.ref D) C (.ok .next) s') :
    wpAny (model X.prog X.w) X.A (comprehension (.DictComp kx vx [⟨tg, iter, ifs, 0⟩] scope pos) scope X.env pos' newDict false (eval iter X.env) use) Qf X.xe s := by
  have frees : ∀ y ∈ scope.names, y.2 = .free → ∃ c, X.env.cells.lookup y.1 = some c := fun y hy e => (ok.free y hy e).elim (fun z => I.ok.has _ (.inl z)) fun z => I.ok.has _ (.inr z)
  refine wpAny_comprehension_free (use := use) rfl hs (closure_ok frees) ok.kind (fun y hy e => by rw [ok.uniq y hy, e]) (thn (hi.run pins s σ H _ I h) fun xv sA hx => thn hx fun itv sB hB => ?_)
  obtain ⟨it, fp, tn, J, HB, e, IB, T, tB, fB, q⟩ := hB
  subst e
  refine wpAny_newObj_type (newEnv_comp ?_)
  generalize hD : sB.heap.objs.size = D
  obtain ⟨Wv, ⟨m0, w0⟩, turn⟩ := q D (IB.hok.fresh (Nat.le_of_eq hD))
  generalize eC : ({ sB with heap := sB.heap.push { cls := .type "dict", data := .dict #[] } } : Shared) = sC
  have IC : Inv X pins σ (upd HB D (ini t)) sC := by
    rw [← eC]
    refine IB.laid (t' := sB.toks) (fun b o e => Heap.get?_push_of_some _ e) (Nat.le_of_eq hD) ?_
    rw [← hD]
    exact ini_ok t sB.heap IB.big
  have hpC : sC.heap = sB.heap.push { cls := .type "dict", data := .dict #[] } := by rw [← eC]
  have lowB : ∀ b ∈ fp, b < sB.heap.objs.size := fun b hb => let ⟨_, e, _⟩ := T.obj _ _ tB b hb; Heap.lt_size e
  have fC : ∀ b ∈ fp, FpOk X pins (upd HB D (ini t)) b ∧ b < sC.heap.objs.size := fun b hb => by
    have lt := lowB b hb
    refine ⟨⟨?_, (fB b hb).2⟩, by rw [hpC, Heap.size_push]; exact Nat.lt_succ_of_lt lt⟩
    rw [upd_ne (hD ▸ Nat.ne_of_lt lt)]
    exact (fB b hb).1
  have tC : tn 0 sC.heap := T.keep _ _ _ tB fun b _ o e => by rw [hpC]; exact Heap.get?_push_of_some _ e
  have ID := block_start IC ok hN fC
  have rg := hg sC (upd HB D (ini t)) sC.heap.objs.size (cellsFrom (sC.heap.objs.size + 1) scope.names (cloFrom X.env.cells scope.names [])) fp
  have rt' := ht sC (upd HB D (ini t)) sC.heap.objs.size (cellsFrom (sC.heap.objs.size + 1) scope.names (cloFrom X.env.cells scope.names [])) fp
  have rk := hk sC (upd HB D (ini t)) sC.heap.objs.size (cellsFrom (sC.heap.objs.size + 1) scope.names (cloFrom X.env.cells scope.names [])) fp
  have rv := hv sC (upd HB D (ini t)) sC.heap.objs.size (cellsFrom (sC.heap.objs.size + 1) scope.names (cloFrom X.env.cells scope.names [])) fp
  show codeAny _ _ (.compStart (.DictComp kx vx [⟨tg, iter, ifs, 0⟩] scope pos) 0 (.ref it) (.ref D) (compEnvC scope (cellsFrom (sC.heap.objs.size + 1) scope.names (cloFrom X.env.cells scope.names [])) sC.heap.objs.size X.env)) (compPost (model X.prog X.w) X.A X.xe use Qf (.ref D) sC.heap.objs.size) { sC with heap := pushCells (sC.heap.push { cls := .type "dict", data := .dict #[] }) scope.names }
  have nC : ∀ b ∈ fp, (upd HB D (ini t)) b = none := fun b hb => (fC b hb).1.1
  generalize ece : compEnvC scope (cellsFrom (sC.heap.objs.size + 1) scope.names (cloFrom X.env.cells scope.names [])) sC.heap.objs.size X.env = ce at ID rg rt' rk rv ⊢
  have locC : ce.locals = sC.heap.objs.size := by subst ece; rfl
  generalize eH : upd HB D (ini t) = HC at IC ID rg rt' rk rv w0 nC fC
  generalize eD : ({ sC with heap := pushCells (sC.heap.push { cls := .type "dict", data := .dict #[] }) scope.names } : Shared) = sD at ID ⊢
  have tD : tn 0 sD.heap := T.keep _ _ _ tC fun b _ o e => by rw [← eD]; exact pushCells_keeps _ _ _ _ (Heap.get?_push_of_some _ e)
  have fpk : ∀ {σ' : L2.St} {H' : Hp} {s' : Shared}, Inv (X.blk sC HC scope ce fp) [] σ' H' s' → (∀ b ∈ fp, H' b = none) → ∀ b ∈ fp, FpOk (X.blk sC HC scope ce fp) [] H' b := fun {σ' H' s'} J n b hb =>
    ⟨n b hb, (J.ok.exf b hb).1, J.ok.exfs b hb, .inl hb, fun x c e => (J.ok.exf b hb).2 x c e, fun p hp => absurd (show p ∈ ([] : List (Addr × Obj)) ++ [] from hp) (by simp)⟩
  have loop : codeAny (model X.prog X.w) X.A (.compLoop (.DictComp kx vx [⟨tg, iter, ifs, 0⟩] scope pos) 0 (.ref it) (.ref D) ce) (compPost (model X.prog X.w) X.A X.xe use Qf (.ref D) sC.heap.objs.size) sD := by
    refine compLoop_anyD (fun n s' => ∃ i H', Inv (X.blk sC HC scope ce fp) [] (wipe σ (own.map (·.2))) H' s' ∧ tn i s'.heap ∧ (∀ b ∈ fp, H' b = none) ∧ Wv i n H') ?_ m0 ⟨0, HC, ID, tD, nC, w0⟩
    rintro n s5 ⟨i, H5, I5, t5, n5, w5⟩
    rcases turn i n H5 w5 with ⟨stop, qq⟩ | ⟨go, Nx, hNx, step⟩
    · refine thnF (T.done (X.blk sC HC scope ce fp) rfl rfl rfl hc i [] s5 _ H5 (fun _ _ => False) I5 (fpk I5 n5) t5 stop) fun r s6 ⟨hr, I6⟩ => ?_
      subst hr
      have I7 : Inv X pins σ H5 s6 := IC.call' (ch := fp) I6.os I6.base I6.hok I6.bare fun b hb => ⟨(fC b hb).1.2.2.2.1, (fC b hb).1.2.1, (fC b hb).1.2.2.2.2.1, (fC b hb).1.2.2.2.2.2⟩
      have nL : H5 sC.heap.objs.size = none := by
        have z : H5 ce.locals = none := I6.free
        rw [locC] at z
        exact z
      obtain ⟨m, hn, _⟩ := I6.loc
      have hn : s6.heap.Ns ce.locals m := hn
      rw [locC] at hn
      exact fin_ D sC.heap.objs.size s6 m H5 I7 qq hn (IC.fpOk (Nat.le_refl _) nL)
    · refine thnF (T.item (X.blk sC HC scope ce fp) rfl rfl rfl hc i [] s5 _ H5 (fun _ _ => False) I5 (fpk I5 n5) t5 go) fun r s6 ⟨u, hr, h6⟩ => ?_
      subst hr
      refine thnF h6 fun _ s7 ⟨x, H7, I7, r7, y7, t7, n7⟩ => ?_
      refine thnF (rg.run _ s7 _ H7 x u _ (I7.pinned (fpk I7 n7) (T.obj _ _ t7)) r7 (step x H7 y7)) fun _ s8 ⟨σ8, H8, I8, hw8, q8⟩ => ?_
      refine thnF (rt'.run _ s8 σ8 H8 _ I8 q8) fun b s9 ⟨H9, I9, q9⟩ => ?_
      have fin : ∀ {s' : Shared} {H' : Hp}, Inv (X.blk sC HC scope ce fp) ([] ++ pinsAt fp s7.heap) σ8 H' s' → Nx H' → ∃ m, m < n ∧ ∃ i H', Inv (X.blk sC HC scope ce fp) [] (wipe σ (own.map (·.2))) H' s' ∧ tn i s'.heap ∧ (∀ b ∈ fp, H' b = none) ∧ Wv i m H' := fun {s' H'} J nx => by
        obtain ⟨m', lt, w'⟩ := hNx H' nx
        have stays : ∀ b ∈ fp, ∀ o, s7.heap.get? b = some o → s'.heap.get? b = some o ∧ H' b = none := fun b hb o e =>
          let z := J.pin (b, o) (List.mem_append_right _ (List.mem_append_right _ (mem_pinsAt hb e)))
          ⟨z.1, z.2.1⟩
        have len : (wipe σ (own.map (·.2))).length = σ8.length := by rw [← hw8, wipe_length]
        refine ⟨m', lt, i + 1, H', (J.unpinned (pins := [])).weak len (fun j v e => ?_), T.keep _ _ _ t7 fun b hb o e => (stays b hb o e).1, fun b hb => ?_, w'⟩
        · rw [← hw8] at e
          exact (wipe_some e).1
        · obtain ⟨o, e, _⟩ := T.obj _ _ t7 b hb
          exact (stays b hb o e).2
      cases b with
      | false =>
        simp only [Bool.false_eq_true, if_false] at q9 ⊢
        exact fin I9 q9
      | true =>
        simp only [if_true] at q9 ⊢
        refine thnF (rk.run _ s9 σ8 H9 _ I9 q9) fun z s10 ⟨yk, H10, I10, r10, q10⟩ => ?_
        refine thnF (rv.run _ s10 σ8 H10 _ I10 q10) fun z2 s11 ⟨yv, H11, I11, r11, H12, put, nx⟩ => ?_
        exact put_pair (Y := X.blk sC HC scope ce fp) (by omega) I11 r10 r11 put fun s12 I12 => fin I12 nx
  exact codeAny_compStart_dict loop (T.self X.A 0 _ _ _ tD loop)

/-- as a value -/
theorem pe_dd {kx vx tg iter : Expr} {ifs : List Expr} {scope : Scope} {own : List (Str × Nat)} {pos : Pos} {wi : TI} {g : TG} {tt : TT} {tk tv : TE} (t : Bool) (hu : X.A.units + 65 < cLine) (hc : X.calm = true) (hN : X.N.Nodup) (hi : PI X tg iter wi) (ok : BlkOk X.N X.env.scope scope own)
    (hg : ∀ (s : Shared) (H : Hp) (C : Addr) (cl : List (Str × Addr)) (fp : List Addr), PG (X.blk s H scope (compEnvC scope cl C X.env) fp) tg g) (ht : ∀ (s : Shared) (H : Hp) (C : Addr) (cl : List (Str × Addr)) (fp : List Addr), PTs (X.blk s H scope (compEnvC scope cl C X.env) fp) ifs tt)
    (hk : ∀ (s : Shared) (H : Hp) (C : Addr) (cl : List (Str × Addr)) (fp : List Addr), PE (X.blk s H scope (compEnvC scope cl C X.env) fp) kx tk)
    (hv : ∀ (s : Shared) (H : Hp) (C : Addr) (cl : List (Str × Addr)) (fp : List Addr), PE (X.blk s H scope (compEnvC scope cl C X.env) fp) vx tv) (hs : ∀ x, foldedSetIterable iter X.env x = pure x := by intro _; rfl) : PE X (.DictComp kx vx [⟨tg, iter, ifs, 0⟩] scope pos) (tDd wi g tt tk tv (own.map (·.2)) t) := by
  refine ⟨fun pins s σ H Q I h => ?_⟩
  rw [arm_eval_DictComp]
  refine dd_core I t hu hc hN hi ok hg ht hk hv hs h fun D C s' m H' J q hn f => ⟨m, hn, fun h'' sb => ?_⟩
  obtain ⟨f0, f1, _, f3, f4, f5⟩ := f
  exact ⟨.ref D, H', J.turned (t' := s'.toks) (fun b o hb e => (sb.2 b hb).trans e) f0 f1 f3 f4 f5, rfl, q⟩
/-- name = {..}, stored within the comprehension's frame -/
theorem ps_setDd {y : Str} {py : Pos} {i : Nat} {kx vx tg iter : Expr} {ifs : List Expr} {scope : Scope} {own : List (Str × Nat)} {pos spos : Pos} {wi : TI} {g : TG} {tt : TT} {tk tv : TE} (t : Bool) (hu : X.A.units + 65 < cLine) (hc : X.calm = true) (hN : X.N.Nodup) (hi : PI X tg iter wi) (ok : BlkOk X.N X.env.scope scope own)
    (hg : ∀ (s : Shared) (H : Hp) (C : Addr) (cl : List (Str × Addr)) (fp : List Addr), PG (X.blk s H scope (compEnvC scope cl C X.env) fp) tg g) (ht : ∀ (s : Shared) (H : Hp) (C : Addr) (cl : List (Str × Addr)) (fp : List Addr), PTs (X.blk s H scope (compEnvC scope cl C X.env) fp) ifs tt)
    (hk : ∀ (s : Shared) (H : Hp) (C : Addr) (cl : List (Str × Addr)) (fp : List Addr), PE (X.blk s H scope (compEnvC scope cl C X.env) fp) kx tk)
    (hv : ∀ (s : Shared) (H : Hp) (C : Addr) (cl : List (Str × Addr)) (fp : List Addr), PE (X.blk s H scope (compEnvC scope cl C X.env) fp) vx tv) (hy : X.N[i]? = some y) (hyl : X.env.scope.names.lookup y = some .local) (hsw : swapsWith (.DictComp kx vx [⟨tg, iter, ifs, 0⟩] scope pos) (some (.Name y py)) spos.line X.env = pure true) (hs : ∀ x, foldedSetIterable iter X.env x = pure x := by intro _; rfl) :
    PS X (.Assign [.Name y py] (.DictComp kx vx [⟨tg, iter, ifs, 0⟩] scope pos) spos) (tAsg (tDd wi g tt tk tv (own.map (·.2)) t) (gName i)) := by
  refine ⟨fun pins s σ H Dd I h => ?_⟩
  rw [exec_Assign_Name_used _ _ _ _ hsw]
  refine wpAny_bind (wpAny_standAt (wpAny_bind ?_))
  show wpAny _ X.A (do let _ ← comprehension (.DictComp kx vx [⟨tg, iter, ifs, 0⟩] scope pos) scope X.env (firstIterPos [⟨tg, iter, ifs, 0⟩] pos) newDict false (eval iter X.env) (some (assign (.Name y py) X.env))) _ _ s
  have h : tDd wi g tt tk tv (own.map (·.2)) t σ H (fun x H1 => gName i x σ H1 Dd.nx) := h
  refine wpAny_bind (thn (dd_core (Qf := fun _ s' => SP X pins Dd .next s') I t hu hc hN hi ok hg ht hk hv hs h fun L C s' m H' J q hn f => ?_) fun _ s' hq => wpAny_pure (wpAny_pure hq))
  show wpAny _ _ (assign (.Name y py) X.env (.ref L)) _ _ _
  obtain ⟨f0, f1, _, f3, f4, f5⟩ := f
  refine wpAny_assign_Name (store_ok2 (v := V.ref L) J hN hy (.inl hyl) rfl (fun s2 J2 ⟨a, sb, ha⟩ => ?_) (.inr hyl))
  have ne : C ≠ a := ha.elim (fun z => z ▸ f1) fun z e => f4 y a z e.symm
  exact ⟨m, hn.sameBut sb ne, fun h3 sb3 => ⟨_, H', J2.turned (t' := s2.toks) (fun b o hb e => (sb3.2 b hb).trans e) f0 f1 f3 f4 f5, q⟩⟩
theorem sw_dict {kx vx : Expr} {gs : List Comprehension} {scope : Scope} {pos py : Pos} {y : Str} {l : Nat} {env : PySem.Env} (hk : env.scope.kind = .function) (hy : env.scope.names.lookup y = some .local) (hl : (py.line == pos.line) = true)
    (no : (scope.names.any fun (n, k) => n == y && (k == .local || k == .cell)) = false) : swapsWith (.DictComp kx vx gs scope pos) (some (.Name y py)) l env = pure true := by
  have ky : env.kindOf y = some .local := hy
  have kb : env.blockKind = .function := by unfold Env.blockKind; rw [hk]; rfl
  unfold swapsWith
  simp only [kb, ky, no, Expr.pos, hl]
  rfl
/-! ### the computation -/
def dcGo (it : IT) (g : CG) (t : CB) (k v : CE) (tt : Bool) : Nat → Nat → Env → List (Kk × A) → M (List (Kk × A))
  | 0, i, ε, acc => fun S => match it.nxt i S with
    | some none => .ok acc S
    | _ => .bad
  | m + 1, i, ε, acc => fun S => match it.nxt i S with
    | none => .bad
    | some none => .ok acc S
    | some (some a) => match g a S with
      | none => .bad
      | some l => bnd (t (setE ε l)) (fun b => match b with
        | true => bnd (k (setE ε l)) fun x => bnd (v (setE ε l)) fun y => match keyOf x with
          | some kk => if kOk tt kk = true ∧ acc.length < line then dcGo it g t k v tt m (i + 1) ε (dput acc kk y) else stuck
          | none => stuck
        | false => dcGo it g t k v tt m (i + 1) ε acc) S
def newD (tt : Bool) (kvs : List (Kk × A)) : M A := fun S => .ok (.ref S.n) (S.new (.dct tt kvs))
def cDc (c : CI) (g : CG) (t : CB) (k v : CE) (vs : List Nat) (tt : Bool) : CE := fun ε => bnd (c ε) fun it => bnd (noX (dcGo it g t k v tt it.k 0 (wipeE ε vs) [])) (newD tt)

theorem dput_len (kvs : List (Kk × A)) (k : Kk) (v : A) : (dput kvs k v).length ≤ kvs.length + 1 := by
  unfold dput
  split
  · rw [List.length_map]; exact Nat.le_succ _
  · rw [List.length_append]; exact Nat.le_refl _
/-- the dict at a place and its pairs -/
inductive DR (K : PySem.W.Frag) (ρ : Rn) (H : Hp) : Bool → List (Kk × A) → HO → Prop
  | k {kvs : List (Kk × A)} {ks : List (Key × V)} : KR K ρ H kvs ks → DR K ρ H false kvs (.dK ks)
  | t {kvs : List (Kk × A)} {ks : List (List Key × V)} : TR K ρ H kvs ks → DR K ρ H true kvs (.dT ks)
theorem DR.mono {Pv : Addr → Prop} {K : PySem.W.Frag} {ρ ρ' : Rn} {H H' : Hp} {t : Bool} {kvs : List (Kk × A)} {h : HO} (x : ExtP Pv K ρ H ρ' H') (d : DR K ρ H t kvs h) : DR K ρ' H' t kvs h := by
  cases d with
  | k r => exact .k (r.mono x)
  | t r => exact .t (r.mono x)
theorem DR.noT {K : PySem.W.Frag} {ρ : Rn} {H : Hp} {t : Bool} {kvs : List (Kk × A)} {h : HO} (d : DR K ρ H t kvs h) : NoT h := by
  intro vs
  cases d <;> exact ⟨fun z => (nomatch z), fun o z => (nomatch z)⟩
theorem DR.ob {G : Gd} {ρ : Rn} {H : Hp} {t : Bool} {kvs : List (Kk × A)} {h : HO} (d : DR G.K ρ H t kvs h) : ObR G ρ H (.dct t kvs) h := by
  cases d with
  | k r => exact .dk r
  | t r => exact .dt r
theorem DR.nf {K : PySem.W.Frag} {ρ : Rn} {H : Hp} {t : Bool} {kvs : List (Kk × A)} {h : HO} (d : DR K ρ H t kvs h) : ∀ o u, h ≠ .frz o u := fun o u z => by cases d <;> cases z
/-- a pair put: the place that holds the dict, no handle's, changes -/
theorem DR.put {K : PySem.W.Frag} {ρ : Rn} {H : Hp} {t : Bool} {kvs : List (Kk × A)} {h : HO} {D : Addr} {x y : A} {xv yv : V} {kk : Kk} (d : DR K ρ H t kvs h) (hD : H D = some h) (rx : RV K ρ H x xv) (ry : RV K ρ H y yv) (ek : keyOf x = some kk) (hk : kOk t kk = true) (hl : kvs.length < line) :
    ∃ h', DPut H D xv yv (upd H D h') ∧ DR K ρ H t (dput kvs kk y) h' := by
  cases d with
  | @k _ ks rk =>
    rcases keyOf_rv rx ek with ⟨k', rfl, rfl⟩ | ⟨ts, q, rfl, rfl, ht⟩
    · exact ⟨_, DPut.k hD (by rw [← paired_len rk, ← line_eq]; exact hl), .k (dput_rv Sum.inl inl_iff k' ry rk)⟩
    · cases hk
  | @t _ ks rk =>
    rcases keyOf_rv rx ek with ⟨k', rfl, rfl⟩ | ⟨ts, q, rfl, rfl, ht⟩
    · cases hk
    · exact ⟨_, DPut.t hD ht (by rw [← paired_len rk, ← line_eq]; exact hl), .t (dput_rv Sum.inr inr_iff ts ry rk)⟩
variable {W : WX}
theorem dc_in {it : IT} {g : CG} {t : CB} {kc vc : CE} {vs : List Nat} {tt : Bool} {σ : L2.St} {Q : VK} {ρ0 : Rn} {H0 : Hp} {S0 : Sto} {ε : Env} {J : It} (inn : Inn g vs) (hJ : IOk (gd X) ρ0 H0 it J) (R0 : Rep (gd X) ρ0 S0 H0) (re : RE X.K ρ0 H0 ε σ)
    (h : Sat (gd X) W σ ρ0 H0 (bnd (EV.noX (dcGo it g t kc vc tt it.k 0 (wipeE ε vs) [])) (newD tt) S0) fun a ρ' _ H' => ∀ x, RV X.K ρ' H' a x → Q x H') :
    ∀ D, H0 D = none → ∃ Wv : Nat → Nat → Hp → Prop, (∃ m, Wv 0 m (upd H0 D (ini tt))) ∧ ∀ i m H, Wv i m H →
      (J.stop i H ∧ Q (.ref D) H) ∨ (J.go i H ∧ ∃ Nx : Hp → Prop, (∀ H', Nx H' → ∃ m', m' < m ∧ Wv (i + 1) m' H') ∧ ∀ x H', J.yld i H x H' → tG (gd X) g x (wipe σ vs) H' fun σ2 H2 => wipe σ2 vs = wipe σ vs ∧ tT (gd X) noW t σ2 H2 fun b H3 =>
        if b = true then tE (gd X) noW kc σ2 H3 fun y H4 => tE (gd X) noW vc σ2 H4 fun z H5 => ∃ H6, DPut H5 D y z H6 ∧ Nx H6 else Nx H3) := by
  intro D hD
  obtain ⟨RD, XD⟩ := R0.tup (h := ini tt) hD
  have nD : ∀ n, ρ0 n ≠ some D := fun n z => by
    obtain ⟨_, u, _, hu, _⟩ := R0.there z
    rw [hD] at hu; cases hu
  have hA := SatP.noX (SatP.bnd (SatP.aside (u := ini tt) h hD))
  refine ⟨fun i m H => ∃ ρ1 S1 acc u, Ext X.K ρ0 H0 ρ1 H ∧ Rep (gd X) ρ1 S1 H ∧ (∀ n, ρ1 n ≠ some D) ∧ H D = some u ∧ DR X.K ρ1 H tt acc u ∧ RE X.K ρ1 H (wipeE ε vs) (wipe σ vs) ∧
      SatP (fun p => p ≠ D) (gd X) noW σ ρ1 H (dcGo it g t kc vc tt m i (wipeE ε vs) acc S1) fun kvs ρ' S' H' => SatP (fun p => p ≠ D) (gd X) W σ ρ' H' (newD tt kvs S') fun a ρ' _ H' => ∀ x, RV X.K ρ' H' a x → Q x H',
    ⟨it.k, ρ0, S0, [], _, XD, RD, nD, upd_same, by cases tt <;> first | exact .k .nil | exact .t .nil, (re.mono XD).wipe vs, hA⟩, fun i m H w => ?_⟩
  obtain ⟨ρ1, S1, acc, u, x1, R1, n1, d1, dr, re1, q⟩ := w
  have hj := hJ ρ1 H S1 x1 R1 i
  cases eN : it.nxt i S1 with
  | none => cases m <;> (unfold dcGo at q; rw [eN] at q; exact q.elim)
  | some o =>
    rw [eN] at hj
    cases o with
    | none =>
      refine .inl ⟨hj, ?_⟩
      have q' : SatP (fun p => p ≠ D) (gd X) W σ ρ1 H (newD tt acc S1) fun a ρ' _ H' => ∀ x, RV X.K ρ' H' a x → Q x H' := by
        cases m <;> (unfold dcGo at q; rw [eN] at q; exact SatP.rt q R1)
      have xa : ExtP (fun q => q ≠ D) X.K ρ1 H (ren ρ1 S1.n D) H := ⟨fun n p e => by unfold ren; rw [if_neg fun z => by rw [z, R1.fresh] at e; cases e]; exact e, fun _ _ t => t, fun p o c e nn => ⟨e, fun m z => by
          unfold ren at z
          by_cases hm : m = S1.n
          · rw [if_pos hm] at z; exact c (Option.some.inj z).symm
          · rw [if_neg hm] at z; exact nn m z⟩, fun _ _ _ e => e⟩
      obtain ⟨Ra, xa2⟩ := R1.adopt (o := .dct tt acc) d1 n1 (DR.mono xa dr).ob
      exact q' _ H xa2 Ra _ (.ref ren_self)
    | some a =>
      obtain ⟨hgo, hy⟩ := hj
      cases m with
      | zero => unfold dcGo at q; rw [eN] at q; exact q.elim
      | succ m =>
        refine .inr ⟨hgo, _, fun H' z => ⟨m, Nat.lt_succ_self _, z⟩, fun x H' y => ?_⟩
        obtain ⟨xy, Ry, ry⟩ := hy x H' y
        unfold dcGo at q
        rw [eN] at q
        dsimp only at q
        cases eg : g a S1 with
        | none => rw [eg] at q; exact q.elim
        | some l =>
          rw [eg] at q
          dsimp only at q
          refine ⟨ρ1, S1, a, l, Ry, ry, eg, fun l' al => ⟨?_, ?_⟩⟩
          · rw [wipe_setV, wipe_twice]
            intro p hp
            obtain ⟨q, h1, h2⟩ := al.ix p hp
            rw [← h2]
            exact inn _ _ _ eg q h1
          · have qy := SatP.bnd (SatP.mono (ExtP.of xy) q)
            refine ⟨ρ1, S1, setE (wipeE ε vs) l, Ry, (re1.mono xy).setAll al, SatP.sig (qy.toSat fun b ρ2 S2 H3 x2 R2 q2 => ?_)⟩
            have dy := (xy.k D _ trivial d1 n1)
            have d3 := x2.k D _ trivial dy.1 dy.2
            have x13 : Ext X.K ρ1 H ρ2 H3 := xy.trans x2
            cases b with
            | false =>
              refine iteF ?_
              exact ⟨ρ2, S2, acc, u, x1.trans x13, R2, d3.2, d3.1, dr.mono x13, re1.mono x13, q2⟩
            | true =>
              refine iteT ?_
              refine ⟨ρ2, S2, setE (wipeE ε vs) l, R2, (re1.mono x13).setAll (Paired.mapP al fun _ _ z => ⟨z.1, z.2.mono x2⟩), SatP.sig ((SatP.bnd q2).toSat fun xa ρ3 S3 H4 x3 R3 q3 xv hxv => ?_)⟩
              have d4 := x3.k D _ trivial d3.1 d3.2
              refine ⟨ρ3, S3, setE (wipeE ε vs) l, R3, ((re1.mono x13).mono x3).setAll (Paired.mapP al fun _ _ z => ⟨z.1, (z.2.mono x2).mono x3⟩), SatP.sig ((SatP.bnd q3).toSat fun ya ρ4 S4 H5 x4 R4 q4 yv hyv => ?_)⟩
              have d5 := x4.k D _ trivial d4.1 d4.2
              have x15 : Ext X.K ρ1 H ρ4 H5 := (x13.trans x3).trans x4
              cases ek : keyOf xa with
              | none => rw [ek] at q4; exact q4.elim
              | some kk =>
                rw [ek] at q4
                dsimp only at q4
                by_cases hz : kOk tt kk = true ∧ acc.length < line
                · rw [if_pos hz] at q4
                  have dr5 := dr.mono x15
                  obtain ⟨h', dp, dr6⟩ := DR.put dr5 d5.1 (hxv.mono x4) hyv ek hz.1 hz.2
                  obtain ⟨Ro, to⟩ := R4.out (h := h') d5.2 (fun u' hu => by rw [d5.1] at hu; cases hu; exact dr5.noT)
                  have xo : ExtP (fun p => p ≠ D) X.K ρ4 H5 ρ4 (upd H5 D h') := ⟨fun _ _ z => z, to, fun p o c e n => ⟨by rw [upd_ne c]; exact e, n⟩, fun p o w e => by rw [upd_ne fun z => by rw [z, d5.1] at e; exact dr5.nf _ _ (Option.some.inj e)]; exact e⟩
                  refine ⟨_, dp, ρ4, S4, dput acc kk ya, h', ?_, Ro, d5.2, upd_same, dr6.mono xo, (re1.mono x15).mono xo, SatP.mono xo q4⟩
                  have xx := x1.trans x15
                  exact ⟨xx.m, fun p vs t => to p vs (xx.t p vs t), fun p o c e n => by
                    obtain ⟨k1, k2⟩ := xx.k p o c e n
                    exact ⟨by rw [upd_ne fun z => by rw [z, hD] at e; cases e]; exact k1, k2⟩, fun p o w e => by rw [upd_ne fun z => by rw [z, hD] at e; cases e]; exact xx.z p o w e⟩
                · rw [if_neg hz] at q4; exact q4.elim
theorem je_dc {kx vx tg iter : Expr} {ifs : List Expr} {scope : Scope} {own : List (Str × Nat)} {pos : Pos} {c : CI} {g : CG} {t : CB} {kc vc : CE} (tt : Bool) (hu : X.A.units + 65 < cLine) (hc : X.calm = true) (hN : X.N.Nodup) (hi : JI X W tg iter c) (ok : BlkOk X.N X.env.scope scope own) (inn : Inn g (own.map (·.2)))
    (hg : ∀ (s : Shared) (H : Hp) (C : Addr) (cl : List (Str × Addr)) (fp : List Addr), JG (X.blk s H scope (compEnvC scope cl C X.env) fp) tg g) (ht : ∀ (s : Shared) (H : Hp) (C : Addr) (cl : List (Str × Addr)) (fp : List Addr), JTs (X.blk s H scope (compEnvC scope cl C X.env) fp) noW ifs t)
    (hk : ∀ (s : Shared) (H : Hp) (C : Addr) (cl : List (Str × Addr)) (fp : List Addr), JE (X.blk s H scope (compEnvC scope cl C X.env) fp) noW kx kc)
    (hv : ∀ (s : Shared) (H : Hp) (C : Addr) (cl : List (Str × Addr)) (fp : List Addr), JE (X.blk s H scope (compEnvC scope cl C X.env) fp) noW vx vc) (hs : ∀ x, foldedSetIterable iter X.env x = pure x := by intro _; rfl) :
    JE X W (.DictComp kx vx [⟨tg, iter, ifs, 0⟩] scope pos) (cDc c g t kc vc (own.map (·.2)) tt) := by
  refine PE.imp (pe_dd (tt := tT (gd X) noW t) (tk := tE (gd X) noW kc) (tv := tE (gd X) noW vc) (g := tG (gd X) g) tt hu hc hN hi ok hg ht hk hv hs) fun σ H Q h => ?_
  obtain ⟨ρ, S, ε, R, r, h⟩ := h
  exact ⟨ρ, S, ε, R, r, (SatP.bnd h).imp fun it ρ0 S0 H0 x0 R0 q J hJ => dc_in inn hJ R0 (r.mono x0) q⟩
/-- name = {..} -/
theorem js_setDc {y : Str} {py : Pos} {spos : Pos} {kx vx tg iter : Expr} {ifs : List Expr} {scope : Scope} {own : List (Str × Nat)} {pos : Pos} {c : CI} {g : CG} {t : CB} {kc vc : CE} (i : Nat) (tt : Bool) (hu : X.A.units + 65 < cLine) (hc : X.calm = true) (hN : X.N.Nodup) (hi : JI X W tg iter c) (ok : BlkOk X.N X.env.scope scope own) (inn : Inn g (own.map (·.2)))
    (hg : ∀ (s : Shared) (H : Hp) (C : Addr) (cl : List (Str × Addr)) (fp : List Addr), JG (X.blk s H scope (compEnvC scope cl C X.env) fp) tg g) (ht : ∀ (s : Shared) (H : Hp) (C : Addr) (cl : List (Str × Addr)) (fp : List Addr), JTs (X.blk s H scope (compEnvC scope cl C X.env) fp) noW ifs t)
    (hk : ∀ (s : Shared) (H : Hp) (C : Addr) (cl : List (Str × Addr)) (fp : List Addr), JE (X.blk s H scope (compEnvC scope cl C X.env) fp) noW kx kc)
    (hv : ∀ (s : Shared) (H : Hp) (C : Addr) (cl : List (Str × Addr)) (fp : List Addr), JE (X.blk s H scope (compEnvC scope cl C X.env) fp) noW vx vc) (hsw : swapsWith (.DictComp kx vx [⟨tg, iter, ifs, 0⟩] scope pos) (some (.Name y py)) spos.line X.env = pure true) (hy : X.N[i]? = some y := by rfl) (hyl : X.env.scope.names.lookup y = some .local := by rfl) (hs : ∀ x, foldedSetIterable iter X.env x = pure x := by intro _; rfl) :
    JS X W (.Assign [.Name y py] (.DictComp kx vx [⟨tg, iter, ifs, 0⟩] scope pos) spos) (sAsg (cDc c g t kc vc (own.map (·.2)) tt) (gVar i)) := by
  refine PS.imp (ps_setDd (tt := tT (gd X) noW t) (tk := tE (gd X) noW kc) (tv := tE (gd X) noW vc) (g := tG (gd X) g) tt hu hc hN hi ok hg ht hk hv hy hyl hsw hs) fun D σ H h => ?_
  obtain ⟨ρ, S, ε, R, r, q⟩ := asg_in h
  refine ⟨ρ, S, ε, R, r, (SatP.bnd q).imp fun it ρ0 S0 H0 x0 R0 q J hJ => dc_in (Q := fun x H1 => gName i x σ H1 D.nx) inn hJ R0 (r.mono x0) (q.imp fun a ρ' S' H' x R' p v hv => ?_)⟩
  obtain ⟨ρ1, S1, a1, l, R1, rv, e, k⟩ := p v hv
  cases e
  exact k [(i, v)] (.cons ⟨rfl, rv⟩ .nil)
end
end EV

end

section
set_option Elab.async false
set_option linter.all false
set_option maxRecDepth 100000
set_option maxHeartbeats 2000000
/-! EvDictNe: d != e, d != None, for dicts. -/
namespace EV
open PySem PySem.Spec PyProof.Rows L2
theorem sub_none_dict : isSubtype (.type "NoneType") (.type "dict") = pure false := by rw [isSubtype_type]; kernel_rfl
section
variable {P : Program} {w : World} {A : Around} {E : Value → Shared → Prop} {s : Shared}
theorem ne_none {a : Addr} {Q : Value → Shared → Prop} (hd : s.TypeIs (.ref a) "dict") (hu : A.units < cLine) (hQ : Q (.bool true) s) : wpAny (model P w) A (compareOp .NotEq (.ref a) .none) Q E s := by
  show wpAny _ _ (richCompare .NotEq (.ref a) .none) _ _ _
  refine SeqAt.rc_ne_decline_or (k := false) hd (typeIs_none s) (by decide) sub_none_dict F.slot_dict_ne F.slot_NoneType_ne_refl (fun Q' hq => ?_)
    (fun _ hq => call_gives F.slot_NoneType_ne_refl (typeIs_none s) F.entry_NoneType_ne (F.args_NoneType_ne_2 _ _) (SeqAt.NoneType___ne___none_ref_0 a) hq) (fun _ hq => wpAny_of_eq (rfl : isSame (.ref a) .none = pure false) hq) (.inr hu) hQ
  refine wpAny_call_entry F.slot_dict_ne hd F.entry_dict_ne ?_ (F.args_dict_ne_2 _ _)
  show wpAny _ _ (Builtin.Dict.dictSlotArgs "__ne__" ⟨[.ref a, .none], []⟩ >>= _) _ _ s
  refine wpAny_bind ?_
  unfold Builtin.Dict.dictSlotArgs
  refine wpAny_bind (wpAny_notOrdered_dict hd ?_)
  show wpAny _ _ (pure (Value.ref a, Value.none)) _ _ s
  refine wpAny_pure ?_
  refine wpAny_bind (wpAny_isInstance (T := "NoneType") (typeIs_none s) sub_none_dict ?_)
  simp only [Bool.not_false, if_true]
  exact wpAny_bind (wpAny_rule (wpAny_pure ⟨_, rfl, hq⟩))

variable {K : Type} [DecidableEq K] {knd : HeapKind P w K}
/-- what is known of a pair of the first dict: the second has it, or not -/
def Hit (A : Around) (s : Shared) (ys : List (K × Addr × Value)) (x : K × Addr × Value) (b : Bool) : Prop := (atKey ys x.1 = none ∧ b = false) ∨ ∃ p, atKey ys x.1 = some p ∧ SeqAt.EqAt A s x.2.2 p.2 b
/-- the pairs of two dicts whose keys lie on the heap -/
theorem same_pairs {nm : String} {a b : Addr} {xs ys : List (K × Addr × Value)} {bs : List Bool} {Q : Bool → Shared → Prop} (ha : (a == sysModules) = false) (hb : (b == sysModules) = false) (hu : knd.room A) (da : s.heap.DictOfH knd a xs) (db : s.heap.DictOfH knd b ys)
    (hf : xs.length = ys.length → Paired (Hit A s ys) xs bs) (hQ : Q (xs.length == ys.length && bs.all id) s) : wpAny (model P w) A (Builtin.Dict.samePairs nm a b) Q E s := by
  obtain ⟨oa, es, ep, goa, _, gda, hea, hia, nda⟩ := da
  obtain ⟨ob, fs, fp, gob, _, gdb, heb, hib, ndb⟩ := db
  have la := size_of_entries hea
  have lb := size_of_entries heb
  unfold Builtin.Dict.samePairs Builtin.Dict.showsAll
  rw [if_neg (by rw [ha]; exact Bool.false_ne_true), if_neg (by rw [hb]; exact Bool.false_ne_true)]
  refine wpAny_bind (wpAny_pure (wpAny_bind (wpAny_pure ?_)))
  refine wpAny_bind (wpAny_dictEntries goa gda ?_)
  dsimp only
  refine wpAny_bind (wpAny_dictEntries gob gdb ?_)
  by_cases hsz : xs.length = ys.length
  case neg =>
    rw [if_pos (by rw [la, lb]; simpa using hsz)]
    have hbf : (xs.length == ys.length) = false := by simpa using hsz
    rw [hbf, Bool.false_and] at hQ
    exact wpAny_bind (wpAny_rule (wpAny_pure hQ))
  have hf := hf hsz
  have hQ : Q (bs.all id) s := by simpa [hsz] using hQ
  rw [if_neg (by rw [la, lb, hsz]; simp)]
  refine wpAny_bind (wpAny_dictEpoch goa gda (wpAny_bind ?_))
  rw [Std.Legacy.Range.forIn_eq_forIn_range']
  simp only [Std.Legacy.Range.size, Nat.sub_zero, Nat.add_sub_cancel, Nat.div_one]
  refine wpAny_forIn_list _ (fun rest q s' => s' = s ∧ q = (none, ()) ∧ ∃ i, rest = List.range' i (es.size - i) ∧ i ≤ es.size ∧ (bs.drop i).all id = bs.all id) _ ?_ ?_ _ _ ⟨rfl, rfl, 0, by simp, Nat.zero_le _, rfl⟩
  · rintro x rest q s' ⟨rfl, rfl, i, hr, hi, hall⟩
    have lt : i < es.size := by
      rcases Nat.lt_or_ge i es.size with h | h
      · exact h
      · rw [Nat.sub_eq_zero_of_le h] at hr
        cases hr
    have cut : es.size - i = (es.size - (i + 1)) + 1 := by omega
    rw [cut, List.range'_succ] at hr
    injection hr with r1 r2
    subst r1 r2
    have ltx : x < xs.length := by rw [← la]; exact lt
    obtain ⟨row, bt, hrow, hbt, hit⟩ : ∃ row bt, xs[x]? = some row ∧ bs[x]? = some bt ∧ Hit A s' ys row bt := by
      rcases paired_at hf x with ⟨z, _⟩ | z
      · exact absurd (List.getElem?_eq_none_iff.mp z) (Nat.not_le_of_lt ltx)
      · obtain ⟨row, bt, h1, h2, h3⟩ := z
        exact ⟨row, bt, h1, h2, h3⟩
    have hm : row ∈ xs := List.mem_of_getElem? hrow
    have hdrop : bs.drop x = bt :: bs.drop (x + 1) := by
      obtain ⟨lt2, e2⟩ := List.getElem?_eq_some_iff.mp hbt
      rw [List.drop_eq_getElem_cons lt2, e2]
    rw [hdrop, List.all_cons] at hall
    refine wpAny_bind (wpAny_dictEntries goa gda ?_)
    rw [entry_at hea x, hrow]
    show wpAny _ _ (holding [Value.ref row.2.1, row.2.2] _ >>= _) _ _ _
    refine wpAny_bind (wpAny_holding (wpAny_bind (wpAny_dictFind_heap hu (hia row hm) gob gdb heb hib ndb (fun no => ?_) fun j p hj => ?_)))
    · have hn := atKey_none_of_get no
      rcases hit with ⟨_, e⟩ | ⟨p, e, _⟩
      · rw [e] at hall
        have hall : false = bs.all id := hall
        rw [← hall] at hQ
        refine wpAny_pure ?_
        show wpAny _ _ (if (!false) = true then _ else _) _ _ _
        rw [if_pos (by decide)]
        exact wpAny_pure (wpAny_pure hQ)
      · rw [hn] at e; cases e
    · have hn := atKey_of_get ndb hj
      refine wpAny_bind (wpAny_dictEntries gob gdb ?_)
      rw [entry_at heb j, hj]
      rcases hit with ⟨e, _⟩ | ⟨p', e, eq⟩
      · rw [hn] at e; cases e
      · have ep' : p = p' := Option.some.inj (hn.symm.trans e)
        subst ep'
        refine wpAny_holding (eq P w _ _ ?_)
        cases bt with
        | false =>
          have hall : false = bs.all id := hall
          rw [← hall] at hQ
          show wpAny _ _ (if (!false) = true then _ else _) _ _ _
          rw [if_pos (by decide)]
          exact wpAny_pure (wpAny_pure hQ)
        | true =>
          have hall : (bs.drop (x + 1)).all id = bs.all id := by rw [← hall]; exact (Bool.true_and _).symm
          show wpAny _ _ (if (!true) = true then _ else _) _ _ _
          rw [if_neg (by decide)]
          refine wpAny_bind (wpAny_dictEpoch goa gda ?_)
          rw [if_neg (by simp)]
          exact wpAny_pure ⟨rfl, rfl, x + 1, rfl, lt, hall⟩
  · rintro q s' ⟨rfl, rfl, i, hr, hi, hall⟩
    have e : i = es.size := by
      rcases Nat.lt_or_ge i es.size with h | h
      · have cut : es.size - i = (es.size - (i + 1)) + 1 := by omega
        rw [cut, List.range'_succ] at hr
        cases hr
      · exact Nat.le_antisymm hi h
    rw [e, la, paired_len hf, List.drop_length, List.all_nil] at hall
    rw [← hall] at hQ
    exact wpAny_pure hQ
theorem ne_heap {a b : Addr} {xs ys : List (K × Addr × Value)} {bs : List Bool} {Q : Value → Shared → Prop} (ha : (a == sysModules) = false) (hb : (b == sysModules) = false) (hr : knd.room A.in1) (hu : A.units < cLine) (da : s.heap.DictOfH knd a xs) (db : s.heap.DictOfH knd b ys)
    (hf : xs.length = ys.length → Paired (Hit A.in1 s ys) xs bs) (hQ : Q (.bool (!(xs.length == ys.length && bs.all id))) s) : wpAny (model P w) A (compareOp .NotEq (.ref a) (.ref b)) Q E s := by
  refine wpAny_richCompare_same_room (op := .NotEq) da.typeIs db.typeIs F.slot_dict_ne (wpAny_call_entry F.slot_dict_ne da.typeIs F.entry_dict_ne ?_ (F.args_dict_ne_2 _ _)) hu
  show wpAny _ _ (Builtin.Dict.dictSlotArgs "__ne__" ⟨[.ref a, .ref b], []⟩ >>= _) _ _ s
  refine wpAny_bind ?_
  unfold Builtin.Dict.dictSlotArgs
  refine wpAny_bind (wpAny_notOrdered_dict da.typeIs ?_)
  show wpAny _ _ (pure (Value.ref a, Value.ref b)) _ _ s
  refine wpAny_pure (wpAny_bind (wpAny_isInstance (T := "dict") db.typeIs F.sub_dict_dict ?_))
  simp only [Bool.not_true, Bool.false_eq_true, if_false]
  refine wpAny_bind (wpAny_pure (wpAny_bind (wpAny_pure (wpAny_bind (same_pairs ha hb hr da db hf (wpAny_pure ⟨_, rfl, ?_, ?_⟩))))))
  · exact fun x => nomatch x
  · simpa using hQ
end

/-! ### the computation: dicts of tuple keys whose values are data, or None -/
/-- d has the pair -/
def hasP (S : Sto) (ys : List (Kk × A)) (p : Kk × A) : Option Bool := match lk ys p.1 with
  | none => some false
  | some c => match rdE S p.2, rdE S c with
    | some d, some e => some (PyData.eqv d e)
    | _, _ => none
def allP (S : Sto) (ys : List (Kk × A)) : List (Kk × A) → Option Bool
  | [] => some true
  | p :: r => match hasP S ys p, allP S ys r with
    | some b, some c => some (b && c)
    | _, _ => none
def oNeD : P2 := fun a b S => match a, b with
  | .ref n, .non => match dctAt S n with
    | some _ => some (.bl true, S)
    | none => none
  | .ref n, .ref m => match dctAt S n, dctAt S m with
    | some (true, xs), some (true, ys) => if xs.length = ys.length then (allP S ys xs).map fun e => (.bl (!e), S) else some (.bl true, S)
    | _, _ => none
  | _, _ => none
section
variable {X : Cx} {W : WX} {pos : Pos}
theorem dct_T {G : Gd} {ρ : Rn} {H : Hp} {S : Sto} (R : Rep G ρ S H) {n : Nat} {p : Addr} {kvs : List (Kk × A)} (en : ρ n = some p) (e : dctAt S n = some (true, kvs)) : ∃ ks, Rd H p (.dT ks) ∧ TR G.K ρ H kvs ks := by
  rcases dct_at R en e with ⟨z, _⟩ | ⟨_, ks, hd, r⟩
  · cases z
  · exact ⟨ks, hd, r⟩

theorem hit_of {pins : List (Addr × Obj)} {σ : L2.St} {H : Hp} {s : Shared} {ρ : Rn} {S : Sto} (hu : X.A.units + 65 < cLine) (I : Inv X pins σ H s) (R : Rep (gd X) ρ S H) {ysA : List (Kk × A)} {ksY : List (List Key × V)} {rowsY : List (List Key × Addr × Value)} (ty : TR X.K ρ H ysA ksY) (ky : KT H ksY rowsY)
    {p : Kk × A} {k : List Key} {v : V} {a : Addr} {val : Value} {b : Bool} (k1 : p.1 = .inr k) (rv : RV X.K ρ H p.2 v) (rl : RelV v val) (h : hasP S ysA p = some b) : Hit X.A.in1 s rowsY (k, a, val) b := by
  unfold hasP at h
  rw [k1] at h
  have kv := ky.val k
  rcases lk_val Sum.inr inr_iff k ty with ⟨l1, l2⟩ | ⟨c', v', l1, l2, l3⟩
  · rw [l1] at h; cases h
    rw [l2] at kv
    exact .inl ⟨Option.map_eq_none_iff.mp (RelO.none_of kv), rfl⟩
  · rw [l1] at h
    dsimp only at h
    rw [l2] at kv
    obtain ⟨u, hu1, hu2⟩ := RelO.some_of kv
    obtain ⟨p', hp1, hp2⟩ := Option.map_eq_some_iff.mp hu1
    subst hp2
    cases e1 : rdE S p.2 with
    | none => rw [e1] at h; cases h
    | some d =>
      cases e2 : rdE S c' with
      | none => rw [e1, e2] at h; cases h
      | some d2 =>
        rw [e1, e2] at h; cases h
        obtain ⟨f1, g1⟩ := rdE_some e1
        obtain ⟨f2, g2⟩ := rdE_some e2
        obtain ⟨as, r1⟩ := Dp.reads I d v val (rd_dp R _ _ _ _ rv f1) rl
        obtain ⟨bs, r2⟩ := Dp.reads I d2 v' p'.2 (rd_dp R _ _ _ _ l3 f2) hu2
        exact .inr ⟨p', hp1, PySem.W.keq_at (A := X.A) r1 r2 g1 g2 (by show X.A.units + 1 + 64 < cLine; omega)⟩
theorem hits_of {pins : List (Addr × Obj)} {σ : L2.St} {H : Hp} {s : Shared} {ρ : Rn} {S : Sto} (hu : X.A.units + 65 < cLine) (I : Inv X pins σ H s) (R : Rep (gd X) ρ S H) {ysA : List (Kk × A)} {ksY : List (List Key × V)} {rowsY : List (List Key × Addr × Value)} (ty : TR X.K ρ H ysA ksY) (ky : KT H ksY rowsY) :
    ∀ {xsA : List (Kk × A)} {ksX : List (List Key × V)} {rowsX : List (List Key × Addr × Value)} {e : Bool}, TR X.K ρ H xsA ksX → KT H ksX rowsX → allP S ysA xsA = some e → ∃ bs, e = bs.all id ∧ Paired (Hit X.A.in1 s rowsY) rowsX bs
  | [], _, _, _, .nil, .nil, h => by cases h; exact ⟨[], rfl, .nil⟩
  | p :: xs, _ :: _, _ :: _, e, .cons q t, .cons q2 t2, h => by
    unfold allP at h
    cases e1 : hasP S ysA p with
    | none => rw [e1] at h; cases h
    | some b =>
      cases e2 : allP S ysA xs with
      | none => rw [e1, e2] at h; cases h
      | some c =>
        rw [e1, e2] at h; cases h
        obtain ⟨bs, rfl, pr⟩ := hits_of hu I R ty ky t t2 e2
        refine ⟨b :: bs, by rw [List.all_cons]; rfl, .cons (hit_of hu I R ty ky (by rw [q.1, q2.1]) q.2 q2.2.2 e1) pr⟩
theorem o_neD (hu : X.A.units + 65 < cLine) : OpR X (compareOp .NotEq) (r2 (gd X) oNeD) := by
  intro pins s σ H x y v u Q I rx ry h
  obtain ⟨ρ, S, a, b, c, S', R, ra, rb, e, k⟩ := h
  unfold oNeD at e
  cases ra with
  | @ref n p en =>
    cases (show v = Value.ref p from rx)
    cases rb with
    | non =>
      cases (show u = Value.none from ry)
      dsimp only at e
      cases ed : dctAt S n with
      | none => rw [ed] at e; cases e
      | some tk =>
        rw [ed] at e; cases e
        obtain ⟨t, kvs⟩ := tk
        obtain ⟨ty, _, _⟩ := isD_at I (isD_of R en ed)
        exact ne_none ty (by omega) ⟨.bl true, H, I, rfl, k ρ H Ext.refl R _ (.bl _)⟩
    | @ref m q em =>
      cases (show u = Value.ref q from ry)
      dsimp only at e
      split at e
      · rename_i xsA ysA e1 e2
        obtain ⟨ks, hd, tr⟩ := dct_T R en e1
        obtain ⟨ls, hd2, tr2⟩ := dct_T R em e2
        obtain ⟨_, ya, rows, kt, da⟩ := dt_rd I.hok hd
        obtain ⟨_, yb, rows2, kt2, db⟩ := dt_rd I.hok hd2
        have l1 : xsA.length = rows.length := (paired_len tr).trans (paired_len kt)
        have l2 : ysA.length = rows2.length := (paired_len tr2).trans (paired_len kt2)
        have room : (tupleKind (mixKind X.prog X.w)).room X.A.in1 := show X.A.units + 1 < cLine by omega
        split at e
        · rename_i hz
          obtain ⟨z, e3, e4⟩ := Option.map_eq_some_iff.mp e
          cases e4
          obtain ⟨bs, rfl, pr⟩ := hits_of hu I R tr2 kt2 tr kt e3
          refine ne_heap (bs := bs) ya yb room (by omega) da db (fun _ => pr) ⟨.bl _, H, I, rfl, ?_⟩
          have hl : (rows.length == rows2.length) = true := by rw [← l1, ← l2, hz]; exact beq_self_eq_true _
          rw [hl, Bool.true_and]
          exact k ρ H Ext.refl R _ (.bl _)
        · rename_i hz
          cases e
          refine ne_heap (bs := []) ya yb room (by omega) da db (fun z => absurd (l1.trans (z.trans l2.symm)) hz) ⟨.bl _, H, I, rfl, ?_⟩
          have hl : (rows.length == rows2.length) = false := by rw [← l1, ← l2]; simpa using hz
          rw [hl, Bool.false_and]
          exact k ρ H Ext.refl R _ (.bl _)
      · cases e
    | _ => cases e
  | _ => cases rb <;> cases e
end
end EV

end

section
set_option Elab.async false
set_option linter.all false
set_option maxRecDepth 100000
set_option maxHeartbeats 2000000
/-! EvMin: min of a dict of tuple keys; a tuple backwards. -/
namespace EV
open PySem PySem.Spec PyProof.Rows L2
def keyD : Key → PyData
  | .inl i => .int i
  | .inr x => .str x
def kkD : Kk → PyData
  | .inl k => keyD k
  | .inr ks => .tuple (ks.map keyD)
theorem reads_keys {h : Heap} : ∀ {ks : List Key} {us : List Value}, Vals (ks.map kV) us → ReadsAll h us (ks.map keyD) []
  | [], _, .nil => .nil
  | .inl i :: ks, _, .cons r t => by
    obtain ⟨tk, rfl⟩ := r
    exact .cons (as := []) (bs := []) (.int i tk) (reads_keys t)
  | .inr x :: ks, _, .cons r t => by
    obtain ⟨tk, rfl⟩ := r
    exact .cons (as := []) (bs := []) (.str x tk) (reads_keys t)
theorem depth_keys : ∀ ks : List Key, PyData.depthAll (ks.map keyD) = 0
  | [] => by rw [List.map_nil, PyData.depthAll]
  | k :: ks => by
    rw [List.map_cons, PyData.depthAll, depth_keys ks]
    cases k <;> (unfold keyD; rw [PyData.depth]; rfl)
theorem reads_key {P : Program} {w : World} {H : Hp} {h : Heap} {ks : List Key} {a : Addr} (ok : HOk P w H h) (e : H a = some (.tup (ks.map kV))) : Reads h (.ref a) (kkD (.inr ks)) [] := by
  obtain ⟨_, its, r, o, h1, h2, n, h3⟩ := (show ObjOk P w H h a (.tup (ks.map kV)) from ok a _ e)
  exact .tuple h1 h2 h3 (by simpa using reads_keys r)
/-- the place of the least -/
def leastAt (ds : List PyData) : Nat := argBest (fun i j => PySem.W.dataLt (ds.getD i .none) (ds.getD j .none)) (ds.length - 1)
def oMinD : PL := fun as S => match as with
  | [.ref n] => match dctAt S n with
    | some (true, kvs) => if alikes (kvs.map fun p => kkD p.1) = true then (kvs[leastAt (kvs.map fun p => kkD p.1)]?).map fun p => (keyTo p.1, S) else none
    | _ => none
  | _ => none
section
variable {X : Cx} {W : WX} {pos : Pos}
theorem b_minD (hc : X.calm = true) (hu : X.A.units + 65 < cLine) : CallR X (.builtin "min") (rL (gd X) oMinD) := by
  intro pins s σ H xs us Q I r h
  obtain ⟨ρ, S, as, c, S', R, ra, e, k⟩ := h
  unfold oMinD at e
  split at e
  · obtain ⟨v, rfl, rv⟩ := rvs1 ra
    cases rv with
    | @ref n p en =>
      rw [Vals.ref1 r]
      split at e
      · rename_i kvs ed
        split at e
        · rename_i hal
          obtain ⟨pr, e1, e2⟩ := Option.map_eq_some_iff.mp e
          cases e2
          obtain ⟨ks, hd, tr⟩ := dct_T R en ed
          obtain ⟨_, ya, rows, kt, da⟩ := dt_rd I.hok hd
          obtain ⟨o, es, ep, go, ex, gdt, hes, his, nd⟩ := da
          have hl : kvs.length = es.size := by rw [size_of_entries hes, ← paired_len kt, paired_len tr]
          have raw : s.heap.DictRaw p es ep := ⟨o, go, ex, gdt⟩
          have lt : p < s.heap.objs.size := Heap.lt_size go
          -- the i-th entry's key
          have at_ : ∀ i (hi : i < es.size), ∃ y k q w, kvs[i]? = some y ∧ y.1 = .inr k ∧ es[i].key = .ref q ∧ H q = some (.tup (k.map kV)) ∧ rows[i]? = some (k, q, w) := by
            intro i hi
            rcases paired_at tr i with ⟨z, _⟩ | ⟨y, y2, z1, z2, z3⟩
            · exact absurd (List.getElem?_eq_none_iff.mp z) (by omega)
            · rcases paired_at kt i with ⟨u, _⟩ | ⟨y3, y4, u1, u2, u3⟩
              · rw [z2] at u; cases u
              · rw [z2] at u1; cases u1
                obtain ⟨k4, q4, w4⟩ := y4
                have ee := entry_at hes i
                rw [u2, Array.getElem?_eq_getElem hi] at ee
                have ee := Option.some.inj ee
                refine ⟨y, k4, q4, w4, z1, ?_, by rw [ee]; rfl, ?_, u2⟩
                · rw [z3.1, u3.1]
                · have := u3.2.1; rw [u3.1] at this; exact this
          have dat : ∀ i v, (∃ hi : i < es.size, v = es[i].key) → Reads s.heap v ((kvs.map fun p => kkD p.1).getD i .none) [] ∧ i < kvs.length ∧ ((kvs.map fun p => kkD p.1).getD i .none).depth ≤ 1 := by
            rintro i v ⟨hi, rfl⟩
            obtain ⟨y, k, q, w, h1, h2, h3, h4, _⟩ := at_ i hi
            have e5 : (kvs.map fun p => kkD p.1).getD i .none = kkD (.inr k) := by rw [List.getD_eq_getElem?_getD, List.getElem?_map, h1, ← h2]; rfl
            rw [e5, h3]
            refine ⟨reads_key I.hok h4, by omega, ?_⟩
            unfold kkD
            rw [PyData.depth, depth_keys]
            exact Nat.le_refl _
          have pos : 0 < es.size := by
            have := (List.getElem?_eq_some_iff.mp e1).1
            omega
          refine PySem.call_min_walkH (wpAny_pyIter_dict_raw ya raw ?_)
          refine ⟨_, _, _, _, es.size, _, _, s.heap, (fun i j => PySem.W.dataLt ((kvs.map fun p => kkD p.1).getD i .none) ((kvs.map fun p => kkD p.1).getD j .none)), rfl, (Walks.rawKeys (A := X.A.in1) (I.ok.hd hc) s.heap.objs.size p (Nat.ne_of_lt lt) es ep).toS,
            ⟨⟨_, Heap.get?_push_size _ rfl, rfl, rfl⟩, raw.at fun o e => Heap.get?_push_of_some _ e⟩, fun b hb => ?_, pos, fun b o e hb => ?_, fun b o e => Heap.get?_push_of_some _ e, fun i j vi vj s' Q' E' hk hi hj hq => ?_, fun v s' hP m => ?_⟩
          · show b < (s.heap.push _).objs.size
            rw [Heap.size_push]
            rcases List.mem_cons.mp hb with z | hb
            · rw [z]; exact Nat.lt_succ_self _
            · rw [List.mem_singleton.mp hb]; exact Nat.lt_succ_of_lt lt
          · exact absurd (Heap.lt_size e) ((List.mem_singleton.mp hb) ▸ Nat.lt_irrefl _)
          · obtain ⟨r1, l1, d1⟩ := dat i vi hi
            obtain ⟨r2, l2, d2⟩ := dat j vj hj
            have m1 : (kvs.map fun p => kkD p.1).getD i .none ∈ kvs.map fun p => kkD p.1 := by
              rw [List.getD_eq_getElem?_getD, List.getElem?_eq_getElem (by rw [List.length_map]; exact l1)]
              exact List.getElem_mem _
            have m2 : (kvs.map fun p => kkD p.1).getD j .none ∈ kvs.map fun p => kkD p.1 := by
              rw [List.getD_eq_getElem?_getD, List.getElem?_eq_getElem (by rw [List.length_map]; exact l2)]
              exact List.getElem_mem _
            have al := List.all_eq_true.mp (List.all_eq_true.mp hal _ m1) _ m2
            refine PySem.W.rcLt_alike _ _ X.A.in1 s' vi vj _ _ (Reads.keeps hk r1) (Reads.keeps hk r2) al (fun z => ?_) ?_ X.prog X.w E' Q' hq
            · rw [z] at d1 r1
              obtain ⟨hi', rfl⟩ := hi
              obtain ⟨y, k, q, w, _, _, h3, _⟩ := at_ i hi'
              rw [h3] at r1
              cases r1
            · have := Nat.min_le_left ((kvs.map fun p => kkD p.1).getD i .none).depth ((kvs.map fun p => kkD p.1).getD j .none).depth
              show X.A.units + 1 + _ < _
              omega
          · obtain ⟨h', tk, rfl, kp⟩ := PySem.W.moved_old rfl rfl m
            obtain ⟨hi, rfl⟩ := hP
            have el : leastAt (kvs.map fun p => kkD p.1) = argBest (fun i j => PySem.W.dataLt ((kvs.map fun p => kkD p.1).getD i .none) ((kvs.map fun p => kkD p.1).getD j .none)) (es.size - 1) := by
              unfold leastAt
              rw [List.length_map, hl]
            obtain ⟨y, kk, q, w, h1, h2, h3, h4, _⟩ := at_ _ hi
            rw [el, h1] at e1
            cases e1
            rw [h3]
            refine ⟨.ref q, H, I.kept (t' := tk) kp, rfl, k ρ H Ext.refl R _ ?_⟩
            rw [h2]
            exact .tup h4 (keyAs_rv kk)
        · cases e
      · cases e
  · cases e

/-! ### t[::-1] of a tuple -/
theorem back_adjust (n : Nat) : Builtin.Slice.sliceAdjust none none (-1) (n : Int) = ((n : Int) - 1, -1) := rfl
theorem back_places (n : Nat) : Builtin.Slice.slicePlaces ((n : Int) - 1) (-1) (-1) = n := by
  unfold Builtin.Slice.slicePlaces
  rw [if_neg (by decide)]
  by_cases h : (n : Int) - 1 > -1
  · rw [if_pos h, show -(-1 : Int) = 1 by decide, Int.ediv_one]
    omega
  · rw [if_neg h]
    omega
theorem back_pick (xs : Array Value) : ((List.range xs.size).filterMap fun (k : Nat) => xs[(((xs.size : Nat) : Int) - 1 + (k : Int) * (-1)).toNat]?) = xs.toList.reverse := by
  apply List.ext_getElem?
  intro i
  have e : (List.range xs.size).filterMap (fun (k : Nat) => xs[(((xs.size : Nat) : Int) - 1 + (k : Int) * (-1)).toNat]?) = (List.range xs.size).map fun k => xs.toList.getD (xs.size - 1 - k) .none := by
    have key : ∀ l : List Nat, (∀ k ∈ l, k < xs.size) → l.filterMap (fun (k : Nat) => xs[(((xs.size : Nat) : Int) - 1 + (k : Int) * (-1)).toNat]?) = l.map fun k => xs.toList.getD (xs.size - 1 - k) .none := by
      intro l
      induction l with
      | nil => exact fun _ => rfl
      | cons k l ih =>
        intro hl
        have hk := hl k List.mem_cons_self
        have e1 : (((xs.size : Nat) : Int) - 1 + (k : Int) * (-1)).toNat = xs.size - 1 - k := by omega
        have lt : xs.size - 1 - k < xs.toList.length := by rw [Array.length_toList]; omega
        have e2 : xs[xs.size - 1 - k]? = some (xs.toList.getD (xs.size - 1 - k) .none) := by
          rw [← Array.getElem?_toList, List.getD_eq_getElem?_getD, List.getElem?_eq_getElem lt]
          rfl
        rw [List.filterMap_cons_some (b := xs.toList.getD (xs.size - 1 - k) .none) (by rw [e1]; exact e2), ih fun j hj => hl j (List.mem_cons_of_mem _ hj)]
        rfl
    exact key _ fun k hk => List.mem_range.mp hk
  rw [e]
  by_cases hi : i < xs.size
  · rw [List.getElem?_map, List.getElem?_range hi, List.getElem?_reverse (by rw [Array.length_toList]; exact hi), Array.length_toList, List.getElem?_eq_getElem (by rw [Array.length_toList]; omega)]
    show some (xs.toList.getD (xs.size - 1 - i) .none) = _
    rw [List.getD_eq_getElem?_getD, List.getElem?_eq_getElem (by rw [Array.length_toList]; omega)]
    rfl
  · rw [List.getElem?_eq_none (by rw [List.length_map, List.length_range]; omega), List.getElem?_eq_none (by rw [List.length_reverse, Array.length_toList]; omega)]
theorem back_item {P : Program} {w : World} {A : Around} {E : Value → Shared → Prop} {s : Shared} {t sl : Addr} {items : Array Value} {vl vu vs : Value} {Q : Value → Shared → Prop} (ht : IsTup s.heap t items) (hs : s.heap.IsSliceOf sl vl vu vs) (pl : IsPart vl none) (pu : IsPart vu none) (ps : IsPart vs (some (-1)))
    (hsz : items.size ≤ sizeLine) (hQ : Q (.ref s.heap.objs.size) { s with heap := s.heap.push { cls := .type "tuple", data := .seq items.toList.reverse.toArray } }) : wpAny (model P w) A (getItem (.ref t) (.ref sl)) Q E s := by
  have fits : sizeOk (.seq items.toList.reverse.toArray) := by
    show items.toList.reverse.toArray.size ≤ sizeLine
    rw [List.size_toArray, List.length_reverse, Array.length_toList]
    exact hsz
  obtain ⟨os, hos, hcs, hds⟩ := id hs
  have hTs : s.TypeIs (.ref sl) "slice" := ⟨os, hos, hcs⟩
  unfold getItem
  try with_reducible refine wpAny_holding ?_
  first | refine wpAny_bind (wpAny_pure ?_) | skip
  refine wpAny_bind (wpAny_sequenceKey ht.typeIs (by decide) (wpAny_bind (wpAny_callSpecial?_slot (name := Str.ofString "__getitem__") ht.typeIs PyProof.Rows.slot_tuple_getitem (wpAny_call_entry PyProof.Rows.slot_tuple_getitem ht.typeIs entry_tuple_getitem ?_ (args_tuple_getitem _ _)))))
  show wpAny _ _ (Builtin.Tuple.tupleItemsOf (.ref t) >>= _) _ _ s
  refine wpAny_bind (tupleItemsOf_ ht (wpAny_bind (wpAny_typeOf hTs ?_)))
  rw [if_pos (by decide)]
  unfold Builtin.Slice.sliceApplied Builtin.Slice.sliceFields
  refine wpAny_bind (wpAny_bind (wpAny_bind (wpAny_field hos hds (x := vl) rfl (wpAny_bind (wpAny_field hos hds (x := vu) rfl (wpAny_bind (wpAny_field hos hds (x := vs) rfl (wpAny_pure ?_))))))))
  refine wpAny_bind (HT.slicePart_ ps ?_)
  show wpAny _ _ (if ((-1 : Int) == 0) = true then _ else _) _ _ s
  rw [if_neg (by decide)]
  refine wpAny_bind (HT.slicePart_ pl (wpAny_bind (HT.slicePart_ pu (wpAny_bind (wpAny_pure ?_)))))
  show wpAny _ _ (match Builtin.Slice.sliceAdjust none none (-1) ((items.size : Nat) : Int) with | (lo, hi) => pure (lo, (-1 : Int), Builtin.Slice.slicePlaces lo hi (-1))) _ _ s
  rw [back_adjust]
  show wpAny _ _ (pure (((items.size : Nat) : Int) - 1, (-1 : Int), Builtin.Slice.slicePlaces (((items.size : Nat) : Int) - 1) (-1) (-1))) _ _ s
  rw [back_places]
  refine wpAny_pure ?_
  show wpAny _ _ (if (((items.size : Nat) : Int) - 1 == 0 && (-1 : Int) == 1 && items.size == items.size) = true then _ else _) _ _ s
  rw [if_neg (by simp), back_pick]
  first
    | exact wpAny_bind (m := Builtin.Tuple.tupleExact _) (wpAny_newObj_type (wpAny_pure ⟨_, rfl, wpAny_pure hQ⟩) fits)
    | exact wpAny_bind (m := Builtin.Tuple.tupleExact _) (wpAny_newObj_type (wpAny_bind (wpAny_pure (wpAny_pure ⟨_, rfl, wpAny_pure hQ⟩))) fits)
    | exact wpAny_bind (wpAny_bind (m := Builtin.Tuple.tupleExact _) (wpAny_newObj_type (wpAny_pure (wpAny_pure ⟨_, rfl, wpAny_pure hQ⟩)) fits))
    | exact wpAny_bind (wpAny_bind (m := Builtin.Tuple.tupleExact _) (wpAny_newObj_type (wpAny_pure ⟨_, rfl, wpAny_pure hQ⟩) fits))
def oBack : A → Sto → Option (A × Sto) := fun a S => match a with
  | .tup xs => some (.tup xs.reverse, S)
  | _ => none
theorem je_back {e : Expr} {c : CE} {k : Nat} {p1 p2 p3 : Pos} (he : JE X W e c) : JE X W (.Subscript e (.Slice none none (some (.UnaryOp .USub (.Constant (.int 1) k p1) p2)) p3) pos) (c1 oBack c) := by
  refine ⟨fun pins s σ H Q I h => ?_⟩
  have h0 := un_in h
  refine Subscript_ (thn (he.run pins s σ H _ I h0) fun v s1 ⟨x, H1, I1, r1, ρ, S, a, c', S', R, ra, e', kk⟩ => ?_)
  unfold oBack at e'
  cases ra with
  | @tup p vs xs t rs =>
    cases e'
    cases (show v = Value.ref p from r1)
    have hst : PO X (some (.UnaryOp .USub (.Constant (.int 1) k p1) p2)) (tPart (L2.tUn (rU fun i => .int (-i)) (tC (.int 1)))) := po_some (pe_un un_neg pe_int)
    refine wpAny_Slice (thn (po_none.run pins s1 σ H1 (fun o H2 => o = none ∧ H2 = H1) I1 ⟨rfl, rfl⟩) fun vl s2 ⟨l, H2, I2, pl, el, e2⟩ => ?_)
    subst el e2
    refine thn (po_none.run pins s2 σ H2 (fun o H3 => o = none ∧ H3 = H2) I2 ⟨rfl, rfl⟩) fun vu s3 ⟨u, H3, I3, pu, eu, e3⟩ => ?_
    subst eu e3
    refine thn (hst.run pins s3 σ H3 (fun o H4 => o = some (-1) ∧ H4 = H3) I3 ⟨1, rfl, -1, rfl, rfl, rfl⟩) fun vst s4 ⟨o, H4, I4, ps, eo, e4⟩ => ?_
    subst eo e4
    have I5 : Inv X pins σ H4 { s4 with heap := s4.heap.push { cls := .type "slice", data := .fields #[vl, vu, vst] } } := I4.kept (t' := s4.toks) fun b ob q => Heap.get?_push_of_some _ q
    obtain ⟨its, r, ht, hz⟩ := I5.tuple (SqT.of t)
    have hlen := r.length
    show wpAny (model X.prog X.w) X.A (subscriptTail e (.Slice none none (some (.UnaryOp .USub (.Constant (.int 1) k p1) p2)) p3) (.ref p) (.ref s4.heap.objs.size)) (EP X pins σ Q) X.xe { s4 with heap := s4.heap.push { cls := .type "slice", data := .fields #[vl, vu, vst] } }
    refine tail_any (ops := [.ref p, .ref s4.heap.objs.size]) ht.typeIs (PyProof.Rows.slot_tuple_getitem.lookup) ?_ (by with_unfolding_all rfl)
    refine back_item ht (Heap.IsSliceOf.new _ vl vu vst) pl pu ps (by rw [List.size_toArray]; omega) ?_
    have hn : H4 (s4.heap.push { cls := .type "slice", data := .fields #[vl, vu, vst] }).objs.size = none := I5.hok.fresh (Nat.le_refl _)
    refine ⟨.ref _, _, I5.laid (t' := s4.toks) (o := .tup vs.reverse) (fun b ob q => Heap.get?_push_of_some _ q) (Nat.le_refl _) ?_, rfl, fin_tup R rs.reverse kk _ hn⟩
    exact ⟨by rw [List.length_reverse]; exact hz, _, r.reverse, ⟨_, Heap.get?_push_size _ rfl, rfl, _, rfl⟩⟩
  | _ => cases e'
end
end EV

end

section
set_option Elab.async false
set_option linter.all false
set_option maxRecDepth 100000
/-! EvGen: what the printed derivations lean on. -/
namespace EV
open PySem PySem.Spec PyProof.Rows L2
/-- a def of the text stands and holds its promise -/
def Ok (P : Program) (w : World) (K : PySem.W.Frag) (mg : Str → Option Value) (base : Heap) (k : Nat) (x : Str) (ps : List Str) (f : List A → M A) : Prop :=
  ∃ (a : Addr) (fd : FuncData) (st : Stmt), FnOk P w K mg base (L2.CX P w) k a fd ps (spF ⟨P, w, K, mg⟩ ps.length f) ∧ mg x = some (.ref a) ∧ Binds K fd ps [] ∧ Fun K x x st a fd
/-- the def is where the text has it -/
def Df (K : PySem.W.Frag) (mg : Str → Option Value) (x : Str) (st : Stmt) (ps : List Str) : Prop := ∃ (a : Addr) (fd : FuncData), Fun K x x st a fd ∧ mg x = some (.ref a) ∧ Binds K fd ps []
section
variable {P : Program} {w : World} {K : PySem.W.Frag} {mg : Str → Option Value} {base : Heap}
theorem okD {x : Str} {st : Stmt} {N ps : List Str} {k : Nat} {b : CS} (D : Df K mg x st ps) (S : FnScope N ps (defScope st))
    (hb : ∀ (f : Addr) (cdv : Value) (A : Around) (outer : List PySem.Env) (s : Shared) (H : Hp) (E : XK), Room k (A.deeper (envOfC x (defScope st) s.heap.objs.size f cdv)) →
      JB (cxOf (L2.CX P w) P w K mg base N x (defScope st) f cdv A outer s H E) (fun cls d _ H => E cls d H) (defBody st) b) : Ok P w K mg base (k + 1) x ps (fnRun ps.length N.length b) := by
  obtain ⟨a, fd, F, g, bd⟩ := D
  exact ⟨a, fd, st, okF F S fun cdv A outer s H E hr => hb a cdv A outer s H E hr, g, bd, F⟩
theorem hu65 {A : Around} {k : Nat} (r : Room k A) : A.units + 65 < cLine := by have := r.un; omega
variable {X : Cx} {W : WX} {pos : Pos}
theorem je_fn {k j : Nat} {g : List A → M A} {x : Str} {p : Pos} {e : Expr} {es : List Expr} {l : CL} {ps : List Str} {n : Nat} (O : Ok X.prog X.w X.K X.mg X.base k x ps g) (hr : Room j X.A) (tk : Takes X W) (ha : JA X W (e :: es) l) (hj : k ≤ j := by decide) (hn : ps.length = n := by rfl)
    (hg : Gl X x := by rfl) (hdb : (x == ("__debug__" : Str)) = false := by decide) (he : starEach (e :: es) X.env = (false, eval e X.env) :: starEach es X.env := by rfl) (hpl : (backTo pos (starEach es X.env)).any (·.1) = false := by rfl) :
    JE X W (.Call (.Name x p) (e :: es) [] pos) (cCall n g l) := by
  subst hn
  obtain ⟨a, fd, st, F, hm, hb, hF⟩ := O
  exact je_call F (hr.mono hj) hm hF.kp hb tk ha hg hdb he hpl
theorem je_gi {x : Str} {pos : Pos} {i : Int} (h : ∃ t, X.mg x = some (.int i t)) (hg : Gl X x := by rfl) (hd : (x == ("__debug__" : Str)) = false := by decide) : JE X W (.Name x pos) (cC (.int i)) := by
  obtain ⟨t, h⟩ := h
  exact je_gint h hg hd
theorem je_gs {x : Str} {pos : Pos} {z : Str} (h : ∃ t, X.mg x = some (.str z t)) (hg : Gl X x := by rfl) (hd : (x == ("__debug__" : Str)) = false := by decide) : JE X W (.Name x pos) (cC (.str z)) := by
  obtain ⟨t, h⟩ := h
  exact je_gstr h hg hd
/-- a if t else b, asked for its truth -/
def bIf (t a b : CB) : CB := fun ε => bnd (t ε) fun k => match k with
  | true => a ε
  | false => b ε
theorem jw_ifExp {c a b : Expr} {t ca cb : CB} (hc : JT X W c t) (ha : JT X W a ca) (hb : JT X W b cb) : JW X W (.IfExp c a b pos) (bIf t ca cb) := by
  refine ⟨fun wh pins s σ H Q I h => ?_⟩
  have q := tT_seq (c := t) (k := fun k ε => match k with | true => ca ε | false => cb ε) h
  refine PyProof.Rows.isTrue_IfExp (thn (hc.run pins s σ H _ I q) fun k s1 ⟨H1, I1, ρ, S, ε, R, r, p⟩ => ?_)
  cases k with
  | true => exact iteT (ha.run pins s1 σ H1 Q I1 ⟨ρ, S, ε, R, r, p⟩)
  | false => exact iteF (hb.run pins s1 σ H1 Q I1 ⟨ρ, S, ε, R, r, p⟩)
/-- an own exception class without own __init__ -/
structure ExcF (K : PySem.W.Frag) (mg : Str → Option Value) (x : Str) (C : Addr) : Prop where
  g : mg x = some (.ref C)
  q : ∃ (bmB : List Value) (B newId initId : String), ExcBaseFacts B newId initId bmB ∧ PySem.W.excIn K C bmB newId = true
  kp : PySem.W.keepIn K (.ref C) = true
  ty : PySem.W.typeIn K (.ref C) = some (.type "type")
  ec : ExcC K C
theorem js_rs {C : Addr} {x m : Str} {j : Nat} {p p2 pos' : Pos} (F : ExcF X.K X.mg x C) (hc : X.calm = true) (tk : Takes X W) (hg : Gl X x := by rfl) (hdb : (x == ("__debug__" : Str)) = false := by decide) :
    JS X W (.Raise (some (.Call (.Name x p) [.Constant (.str m) j p2] [] pos')) none pos) (sRaise x) := by
  obtain ⟨bmB, B, newId, initId, h1, h2⟩ := F.q
  exact js_raise hc tk h1 h2 F.g F.kp (raises_own F.ec.hs F.ty) hg hdb
theorem names_of {C : Addr} {x : Str} (F : ExcF X.K X.mg x C) (hg : Gl X x := by rfl) (hdb : (x == ("__debug__" : Str)) = false := by decide) : Names X x (.ref C) := ⟨hg, hdb, .inl F.g⟩
end
/-- a scope's literal -/
abbrev scL (ns : List (Str × NameKind)) : Scope := { kind := .function, names := ns, isGenerator := false, isCoroutine := false, more := [] }
end EV

end

section
set_option Elab.async false
set_option linter.all false
set_option maxRecDepth 100000
/-! EvEnd: from the facts of the written part to Df, ExcF; from the law's computation to walk_of. -/
namespace EV
open PySem PySem.Spec PyProof.Rows L2
theorem df_mk {K : PySem.W.Frag} {h : Heap} {mg : Str → Option Value} (X : K.In h) (G : h.Ns mainGlobals mg) {x : Str} {st : Stmt} {ps : List Str} {f : Addr} {oc kV doc pm cdv ct : Value} {od an : Option Addr} {osl : Array (Option Value)}
    (a : PySem.W.nsIn K mainGlobals x = some (some (.ref f))) (l : K.lookup f = some ⟨oc, od, .func (PySem.W.fnOf x x (defArgs st) (defBody st) (defScope st) .none kV doc pm an cdv ct), osl⟩) (c : PySem.W.codeIn K cdv x = true) (k : PySem.W.keepIn K (.ref f) = true)
    (hb : ∀ (kV doc pm : Value) (an : Option Addr) (cdv ct : Value) (us : List Value), us.length = ps.length → bindArgs (PySem.W.fnOf x x (defArgs st) (defBody st) (defScope st) .none kV doc pm an cdv ct) ⟨us, []⟩ = pure (ps.zip us)) : Df K mg x st ps := by
  have F := fun_mk (st := st) l c k
  exact ⟨f, _, F, PySem.W.mg_of X G a, F.binds hb⟩
theorem gi_mk {K : PySem.W.Frag} {h : Heap} {mg : Str → Option Value} (X : K.In h) (G : h.Ns mainGlobals mg) {x : Str} {i : Int} {t : Tok} (a : PySem.W.nsIn K mainGlobals x = some (some (.int i t))) : ∃ t, mg x = some (.int i t) := ⟨t, PySem.W.mg_of X G a⟩
theorem gs_mk {K : PySem.W.Frag} {h : Heap} {mg : Str → Option Value} (X : K.In h) (G : h.Ns mainGlobals mg) {x z : Str} {t : Tok} (a : PySem.W.nsIn K mainGlobals x = some (some (.str z t))) : ∃ t, mg x = some (.str z t) := ⟨t, PySem.W.mg_of X G a⟩
theorem exc_mk {K : PySem.W.Frag} {h : Heap} {mg : Str → Option Value} (X : K.In h) (G : h.Ns mainGlobals mg) {x : Str} {C : Addr} {bmB : List Value} {B newId initId : String} (F : ExcBaseFacts B newId initId bmB)
    (a : PySem.W.nsIn K mainGlobals x = some (some (.ref C))) (q : PySem.W.excIn K C bmB newId = true) (kp : PySem.W.keepIn K (.ref C) = true) (ty : PySem.W.typeIn K (.ref C) = some (.type "type"))
    (e1 : PySem.W.findIn K (.ref C) "__getattribute__" = some (some (.builtin "BaseException.__getattribute__"))) (e2 : PySem.W.findIn K (.ref C) "__getattr__" = some none) (e3 : PySem.W.subIn K (.ref C) (.type "BaseException") = some true) (e4 : PySem.W.hasDictIn K C = true)
    (e5 : PySem.W.findIn K (.ref C) "__class__" = some (some (.builtin "object.__class__"))) (e6 : PySem.W.specialIn K (.builtin "object.__class__") "__get__" = some (some (.builtin "getset_descriptor.__get__"))) (e7 : PySem.W.takesIn K (.builtin "object.__class__") = some true) (e8 : PySem.W.mroIn K C (.type "object") = some true) : ExcF K mg x C :=
  ⟨PySem.W.mg_of X G a, ⟨bmB, B, newId, initId, F, q⟩, kp, ty, ⟨e1, e2, e3, e4, e5, e6, e7, e8⟩⟩
/-- one class of a table, taken by its own clause -/
theorem subs_one {K : PySem.W.Frag} {mg : Str → Option Value} {x : Str} {C : Addr} (F : ExcF K mg x C) (s : PySem.W.subIn K (.ref C) (.ref C) = some true) : ∀ X : Cx, X.K = K → X.mg = mg → Subs X [(x, true)] (.ref C) := by
  rintro X rfl rfl y v b hb hv
  unfold subAt at hb
  rw [List.find?_cons] at hb
  by_cases e : x = y
  · rw [decide_eq_true e] at hb
    cases hb
    rw [← e, F.g] at hv
    cases hv
    exact PySem.W.exm_ref F.ec.hs F.ec.hd F.ty s
  · rw [decide_eq_false e] at hb
    cases hb
theorem isis_one {K : PySem.W.Frag} {mg : Str → Option Value} {x : Str} {C : Addr} {D : Value} (F : ExcF K mg x C) (s : PySem.W.kitOne K (.ref C) D = some true) : ∀ X : Cx, X.K = K → X.mg = mg → Isis X [(x, true)] D := by
  rintro X rfl rfl y v b hb hv
  unfold subAt at hb
  rw [List.find?_cons] at hb
  by_cases e : x = y
  · rw [decide_eq_true e] at hb
    cases hb
    rw [← e, F.g] at hv
    cases hv
    exact ⟨C, rfl, F.ec, s⟩
  · rw [decide_eq_false e] at hb
    cases hb
/-- the store at the start: the script alone, or nothing -/
def S1 (ns : List Int) : Sto := ⟨1, fun m => if m = 0 then some (.rol (ns.map .int)) else none⟩
def S0 : Sto := ⟨0, fun _ => none⟩
/-- the law's computation answers True -/
structure Yes (n : Nat) (f : List A → M A) : Prop where
  h : ∀ ns : List Int, ns.length ≤ n → ∃ S', f [.ref 0] (S1 ns) = .ok (.bl true) S'
  v : ∀ ns : List Int, ns.length ≤ n → ∃ S', f [.scr ns] S0 = .ok (.bl true) S'
def spE (K : PySem.W.Frag) (n : Nat) : Sp := fun vs H Q _ => ∃ (a : Addr) (ns : List Int), vs = [.ref a] ∧ ns.length ≤ n ∧ Only H ∧ SqL K H a (ns.map V.int) ∧ ∀ H', Q (.bl true) H'
theorem sp_end {G : Gd} {n : Nat} {f : List A → M A} (Y : Yes n f) : ∀ vs H Q E, spE G.K n vs H Q E → spF G 1 f vs H Q E := by
  rintro vs H Q E ⟨a, ns, rfl, hn, hO, hS, q⟩
  have fin : ∀ {ρ : Rn} {S S' : Sto} {as : List A}, f as S = .ok (.bl true) S' → Sat G (fun cls d _ H => E cls d H) [] ρ H (f as S) fun a ρ' _ H' => ∀ x, RV G.K ρ' H' a x → Q x H' := by
    intro ρ S S' as e
    rw [e]
    intro ρ' H' x R v rv
    cases rv
    exact q H'
  refine ⟨rfl, ?_⟩
  rcases hS with (hS | ⟨o, hS⟩) | hS
  · rcases hO a with z | ⟨o, xs, z⟩ <;> rw [hS] at z <;> cases z
  · obtain ⟨S', e⟩ := Y.h ns hn
    refine ⟨fun m => if m = 0 then some a else none, S1 ns, [.ref 0], ⟨fun m u hu => ?_, fun m k p h1 h2 => ?_, fun m p h1 => ?_⟩, .cons (.ref (if_pos rfl)) .nil, fin e⟩
    · unfold S1 at hu
      dsimp only at hu
      by_cases h0 : m = 0
      · rw [if_pos h0] at hu
        cases hu
        exact ⟨a, _, if_pos h0, hS, .rol (ints_rv ns)⟩
      · rw [if_neg h0] at hu; cases hu
    · by_cases h0 : m = 0
      · by_cases h3 : k = 0
        · rw [h0, h3]
        · rw [if_neg h3] at h2; cases h2
      · rw [if_neg h0] at h1; cases h1
    · by_cases h0 : m = 0
      · subst h0
        exact ⟨Nat.zero_lt_one, .rol (ns.map .int), rfl⟩
      · rw [if_neg h0] at h1; cases h1
  · obtain ⟨S', e⟩ := Y.v ns hn
    exact ⟨fun _ => none, S0, [.scr ns], ⟨fun m u hu => (nomatch hu), fun m k p h1 => (nomatch h1), fun m p h1 => (nomatch h1)⟩, .cons (.scr hS) .nil, fin e⟩
theorem cx_no {P : Program} {w : World} {H : Hp} {s : Shared} {e : Value} {s' : Shared} (h : L2.CX P w [] H s (fun _ _ _ => False) e s') : False := by
  obtain ⟨_, _, _, _, _, _, _, _, _, _, _, _, z⟩ := h
  exact z
/-- as walk_of wants it -/
theorem ok_end {P : Program} {w : World} {K : PySem.W.Frag} {mg : Str → Option Value} {fa : Addr} {k n : Nat} {x : Str} {st : Stmt} {f : List A → M A} (hmg : mg x = some (.ref fa)) (D : Df K mg x st ["script"]) (Y : Yes n f)
    (hO : ∀ base : Heap, Ok P w K mg base k x ["script"] f) (hbt : ∀ (kV doc pm : Value) (an : Option Addr) (cdv ct : Value) (s : Shared) (u : Value), BindsTo s (PySem.W.fnOf x x (defArgs st) (defBody st) (defScope st) .none kV doc pm an cdv ct) ⟨[u], []⟩ [("script", u)]) :
    ∃ fd : FuncData, (∀ (s : Shared) (u : Value), BindsTo s fd ⟨[u], []⟩ [("script", u)]) ∧ ∀ base : Heap, K.In base → base.Ns mainGlobals mg → FnOk P w K mg base (L2.CX P w) k fa fd ["script"] (spE K n) := by
  obtain ⟨a, fd, F, g, bd⟩ := D
  rw [hmg] at g
  cases g
  obtain ⟨oc, od, kV, doc, pm, an, cdv, ct, osl, rfl, lk, _⟩ := F.ex
  refine ⟨PySem.W.fnOf x x (defArgs st) (defBody st) (defScope st) .none kV doc pm an cdv ct, fun s u => hbt kV doc pm an cdv ct s u, fun base hK hN => ?_⟩
  obtain ⟨a2, fd2, st2, F2, g2, _, G2⟩ := hO base
  rw [hmg] at g2
  cases g2
  obtain ⟨_, _, _, _, _, _, _, _, _, _, lk2, _⟩ := G2.ex
  rw [lk] at lk2
  cases lk2
  exact F2.imp (sp_end (G := ⟨P, w, K, mg⟩) Y)
end EV

end

section
set_option Elab.async false
set_option linter.all false
set_option maxRecDepth 100000
/-! EvRun: shallow computations, run: rules that simp and refine use. -/
namespace EV
open PySem PySem.Spec PyProof.Rows L2
def Run {α : Type} (m : M α) (S : Sto) (P : α → Sto → Prop) (X : Ex → Sto → Prop) : Prop := match m S with
  | .ok a S' => P a S'
  | .exc e S' => X e S'
  | .bad => False
section
variable {α β : Type} {m : M α} {S : Sto} {P P' : α → Sto → Prop} {X X' : Ex → Sto → Prop}
theorem Run.mono (h : Run m S P X) (k : ∀ a S', P a S' → P' a S') (kx : ∀ e S', X e S' → X' e S') : Run m S P' X' := by
  unfold Run at h ⊢
  cases e : m S with
  | ok a S1 => rw [e] at h; exact k _ _ h
  | exc x S1 => rw [e] at h; exact kx _ _ h
  | bad => rw [e] at h; exact h
theorem Run.imp (h : Run m S P X) (k : ∀ a S', P a S' → P' a S') : Run m S P' X := h.mono k fun _ _ z => z
theorem run_rt {a : α} {P : α → Sto → Prop} : Run (rt a) S P X = P a S := rfl
theorem run_ok {a : α} {S1 : Sto} {P : α → Sto → Prop} : Run (fun _ => Res.ok a S1) S P X = P a S1 := rfl
theorem run_stuck {P : α → Sto → Prop} : Run (stuck : M α) S P X = False := rfl
theorem run_bnd {f : α → M β} {P : β → Sto → Prop} : Run (bnd m f) S P X = Run m S (fun a S1 => Run (f a) S1 P X) X := by
  unfold Run bnd
  cases m S <;> rfl
theorem run_ite {c : Prop} [Decidable c] {a b : M α} : Run (if c then a else b) S P X = if c then Run a S P X else Run b S P X := by
  split <;> rfl
theorem run_stE {ε : Env} {k : α → M Fl} {P : Fl → Sto → Prop} : Run (stE m ε k) S P X = Run m S (fun a S1 => Run (k a) S1 P X) (fun e S1 => P (.ex e ε) S1) := by
  unfold Run stE
  cases m S <;> rfl
theorem run_lft {f : Sto → Option (A × Sto)} {P : A → Sto → Prop} : Run (lft f) S P X = match f S with | some (c, S') => P c S' | none => False := by
  unfold Run lft
  cases f S with
  | none => rfl
  | some z => cases z; rfl
theorem run_var {i : Nat} {ε : Env} {P : A → Sto → Prop} : Run (cVar i ε) S P X = match ε[i]? with | some (some a) => P a S | _ => False := by
  unfold Run cVar
  cases ε[i]? with
  | none => rfl
  | some o => cases o <;> rfl
theorem run_c {a : A} {ε : Env} {P : A → Sto → Prop} : Run (cC a ε) S P X = P a S := rfl
theorem run_isB {b : Bool} {P : Bool → Sto → Prop} : Run (isB (.bl b)) S P X = P b S := rfl
theorem run_fn {n k : Nat} {b : CS} {as : List A} {P : A → Sto → Prop} (h : as.length = n) : Run (fnRun n k b as) S P X = Run (b (as.map some ++ List.replicate (k - n) none)) S (fun fl S' => match fl with
    | .nx _ => P .non S'
    | .rt a => P a S'
    | .ex e _ => X e S'
    | _ => False) fun _ _ => False := by
  unfold Run fnRun
  rw [if_pos h]
  cases b (as.map some ++ List.replicate (k - n) none) S with
  | ok fl S' => cases fl <;> rfl
  | exc e S' => rfl
  | bad => rfl
theorem fn_run {n k : Nat} {b : CS} {as : List A} {S : Sto} {P : A → Sto → Prop} {X : Ex → Sto → Prop} (r : Run (b (as.map some ++ List.replicate (k - n) none)) S (fun fl S' => match fl with
    | .nx _ => P .non S'
    | .rt a => P a S'
    | .ex e _ => X e S'
    | _ => False) fun _ _ => False) (h : as.length = n := by rfl) : Run (fnRun n k b as) S P X := by
  rw [run_fn h]
  exact r
theorem run_call {n : Nat} {f : List A → M A} {l : CL} {ε : Env} {P : A → Sto → Prop} : Run (cCall n f l ε) S P X = Run (l ε) S (fun as S1 => if as.length = n then Run (f as) S1 P X else False) X := by
  unfold cCall
  rw [run_bnd]
  congr 1
  funext as S1
  rw [run_ite]
  rfl
theorem run_setG {g : CG} {c : CE} {ε : Env} {P : Fl → Sto → Prop} : Run (sAsg c g ε) S P X = Run (c ε) S (fun a S1 => match g a S1 with | some l => P (.nx (setE ε l)) S1 | none => False) (fun e S1 => P (.ex e ε) S1) := by
  unfold sAsg
  rw [run_stE]
  congr 1
  funext a S1
  unfold Run
  dsimp only
  cases g a S1 <;> rfl
end
/-! ### stores that grow -/
/-- all that stood, stands, but what U names -/
structure Gw (U : Nat → Prop) (S S' : Sto) : Prop where
  n : S.n ≤ S'.n
  k : ∀ m, m < S.n → ¬ U m → S'.f m = S.f m
abbrev Gr := Gw fun _ => False
theorem Gw.refl {U : Nat → Prop} {S : Sto} : Gw U S S := ⟨Nat.le_refl _, fun _ _ _ => rfl⟩
theorem Gw.trans {U : Nat → Prop} {S S1 S2 : Sto} (a : Gw U S S1) (b : Gw U S1 S2) : Gw U S S2 := ⟨Nat.le_trans a.n b.n, fun m h u => (b.k m (Nat.lt_of_lt_of_le h a.n) u).trans (a.k m h u)⟩
theorem Gw.mono {U V : Nat → Prop} {S S1 : Sto} (a : Gw U S S1) (h : ∀ m, U m → V m) : Gw V S S1 := ⟨a.n, fun m l u => a.k m l fun z => u (h m z)⟩
theorem Gr.at {S S1 : Sto} (a : Gr S S1) {m : Nat} (h : m < S.n) : S1.f m = S.f m := a.k m h fun z => z
theorem gr_new {S : Sto} {o : Ob} : Gr S (S.new o) := ⟨Nat.le_succ _, fun m h _ => by
  show (if m = S.n then some o else S.f m) = S.f m
  rw [if_neg (Nat.ne_of_lt h)]⟩
theorem new_at {S : Sto} {o : Ob} : (S.new o).f S.n = some o := if_pos rfl
theorem new_n {S : Sto} {o : Ob} : (S.new o).n = S.n + 1 := rfl
theorem put_at {S : Sto} {k : Nat} {o : Ob} : (S.put k o).f k = some o := if_pos rfl
theorem put_ne {S : Sto} {k m : Nat} {o : Ob} (h : m ≠ k) : (S.put k o).f m = S.f m := if_neg h
theorem put_n {S : Sto} {k : Nat} {o : Ob} : (S.put k o).n = S.n := rfl
theorem gw_put {S : Sto} {k : Nat} {o : Ob} : Gw (fun m => m = k) S (S.put k o) := ⟨Nat.le_refl _, fun m _ h => put_ne h⟩
/-! ### loops -/
/-- a for over a thing whose turns are told by xs -/
theorem run_for {it : IT} {g : CG} {b : CS} {P : Fl → Sto → Prop} {X : Ex → Sto → Prop} (xs : List A) (Inv : Nat → Env → Sto → Prop) (hn : ∀ i ε S, Inv i ε S → it.nxt i S = some xs[i]?)
    (step : ∀ i a ε S, xs[i]? = some a → Inv i ε S → ∃ l, g a S = some l ∧ Run (b (setE ε l)) S (fun fl S' => match fl with | .nx ε' => Inv (i + 1) ε' S' | .ct ε' => Inv (i + 1) ε' S' | .bk ε' => P (.nx ε') S' | fl => P fl S') X)
    (fin : ∀ ε S, Inv xs.length ε S → P (.nx ε) S) : ∀ (m i : Nat) (ε : Env) (S : Sto), i ≤ xs.length → xs.length ≤ i + m → Inv i ε S → Run (forGo it g b m i ε) S P X
  | 0, i, ε, S, h1, h2, h => by
    have e : i = xs.length := by omega
    subst e
    unfold Run forGo
    rw [hn _ _ _ h, List.getElem?_eq_none (Nat.le_refl _)]
    exact fin _ _ h
  | m + 1, i, ε, S, h1, h2, h => by
    by_cases hi : i < xs.length
    · obtain ⟨l, e1, r⟩ := step i xs[i] ε S (List.getElem?_eq_getElem hi) h
      have e : Run (forGo it g b (m + 1) i ε) S P X = Run (bnd (b (setE ε l)) (fun fl => match fl with
        | .nx ε' => forGo it g b m (i + 1) ε'
        | .ct ε' => forGo it g b m (i + 1) ε'
        | .bk ε' => rt (.nx ε')
        | _ => rt fl)) S P X := by
        unfold Run
        rw [forGo]; dsimp only; rw [hn _ _ _ h, List.getElem?_eq_getElem hi]
        dsimp only
        rw [e1]
        all_goals rfl
      rw [e, run_bnd]
      refine r.imp fun fl S' z => ?_
      cases fl with
      | nx ε' => exact run_for xs Inv hn step fin m (i + 1) ε' S' hi (by omega) z
      | ct ε' => exact run_for xs Inv hn step fin m (i + 1) ε' S' hi (by omega) z
      | bk ε' => exact z
      | rt a => exact z
      | ex x ε' => exact z
    · have e : i = xs.length := by omega
      subst e
      unfold Run
      rw [forGo]; dsimp only; rw [hn _ _ _ h, List.getElem?_eq_none (Nat.le_refl _)]
      exact fin _ _ h
/-- a comprehension: q tells which items, v what of each; the store only grows, R tells what must stand -/
theorem run_lc {it : IT} {g : CG} {t : CB} {e : CE} {ε : Env} {X : Ex → Sto → Prop} (xs : List A) (R : Sto → Prop) (q : A → Bool) (v : A → A) (hn : ∀ i S, R S → it.nxt i S = some xs[i]?)
    (step : ∀ a S, a ∈ xs → R S → ∃ l, g a S = some l ∧ Run (t (setE ε l)) S (fun b S1 => b = q a ∧ Gr S S1 ∧ R S1 ∧ (q a = true → Run (e (setE ε l)) S1 (fun y S2 => y = v a ∧ Gr S1 S2 ∧ R S2) X)) X) :
    ∀ (m i : Nat) (S : Sto), i ≤ xs.length → xs.length ≤ i + m → R S → Run (lcGo it g t e m i ε) S (fun ys S' => ys = ((xs.drop i).filter q).map v ∧ Gr S S' ∧ R S') X
  | 0, i, S, h1, h2, h => by
    have e : i = xs.length := by omega
    subst e
    unfold Run lcGo
    rw [hn _ _ h, List.getElem?_eq_none (Nat.le_refl _)]
    exact ⟨by rw [List.drop_length]; rfl, Gw.refl, h⟩
  | m + 1, i, S, h1, h2, h => by
    by_cases hi : i < xs.length
    · have hm : xs[i] ∈ xs := List.getElem_mem hi
      obtain ⟨l, e1, r⟩ := step xs[i] S hm h
      have e0 : Run (lcGo it g t e (m + 1) i ε) S (fun ys S' => ys = ((xs.drop i).filter q).map v ∧ Gr S S' ∧ R S') X = Run (bnd (t (setE ε l)) (fun b => match b with
        | true => bnd (e (setE ε l)) fun y => bnd (lcGo it g t e m (i + 1) ε) fun ys => rt (y :: ys)
        | false => lcGo it g t e m (i + 1) ε)) S (fun ys S' => ys = ((xs.drop i).filter q).map v ∧ Gr S S' ∧ R S') X := by
        unfold Run
        rw [lcGo]; dsimp only; rw [hn _ _ h, List.getElem?_eq_getElem hi]
        dsimp only
        rw [e1]
        all_goals rfl
      rw [e0, run_bnd]
      refine r.imp fun b S1 ⟨eb, g1, r1, z⟩ => ?_
      have cut : xs.drop i = xs[i] :: xs.drop (i + 1) := List.drop_eq_getElem_cons hi
      cases b with
      | false =>
        refine (run_lc xs R q v hn step m (i + 1) S1 hi (by omega) r1).imp fun ys S2 ⟨y1, y2, y3⟩ => ⟨?_, g1.trans y2, y3⟩
        rw [cut, List.filter_cons, if_neg (by rw [← eb]; decide)]
        exact y1
      | true =>
        show Run (bnd _ _) _ _ _
        rw [run_bnd]
        refine (z eb.symm).imp fun y S2 ⟨ey, g2, r2⟩ => ?_
        rw [run_bnd]
        refine (run_lc xs R q v hn step m (i + 1) S2 hi (by omega) r2).imp fun ys S3 ⟨y1, y2, y3⟩ => ?_
        refine ⟨?_, (g1.trans g2).trans y2, y3⟩
        rw [cut, List.filter_cons, if_pos eb.symm, List.map_cons, ← ey, y1]
    · have e : i = xs.length := by omega
      subst e
      unfold Run
      rw [lcGo]; dsimp only; rw [hn _ _ h, List.getElem?_eq_none (Nat.le_refl _)]
      exact ⟨by rw [List.drop_length]; rfl, Gw.refl, h⟩
end EV

end

section
set_option Elab.async false
set_option linter.all false
set_option maxRecDepth 100000
/-! EvSimp: each construct's computation as an equation that simp uses. -/
namespace EV
open PySem PySem.Spec PyProof.Rows L2
section
variable {a b c : CE} {t u v : CB} {l r : CL} {s d : CS} {ε : Env} {S : Sto} {X : Ex → Sto → Prop}
@[simp] theorem sp_rt {α : Type} {x : α} {P : α → Sto → Prop} : Run (fun S => Res.ok x S) S P X = P x S := rfl
@[simp] theorem sp_stuck {α : Type} {P : α → Sto → Prop} : Run (fun _ => (Res.bad : Res α)) S P X = False := rfl
@[simp] theorem sp_bnd {α β : Type} {m : M α} {f : α → M β} {P : β → Sto → Prop} : Run (fun S => match m S with | .ok a S' => f a S' | .exc e S' => .exc e S' | .bad => .bad) S P X = Run m S (fun a S1 => Run (f a) S1 P X) X := run_bnd
@[simp] theorem sp_ite {α : Type} {p : Prop} [Decidable p] {x y : M α} {P : α → Sto → Prop} : Run (if p then x else y) S P X = if p then Run x S P X else Run y S P X := run_ite
@[simp] theorem sp_stE {α : Type} {m : M α} {k : α → M Fl} {P : Fl → Sto → Prop} : Run (stE m ε k) S P X = Run m S (fun a S1 => Run (k a) S1 P X) (fun e S1 => P (.ex e ε) S1) := run_stE
@[simp] theorem sp_lft {f : Sto → Option (A × Sto)} {P : A → Sto → Prop} : Run (lft f) S P X = match f S with | some (c, S') => P c S' | none => False := run_lft
@[simp] theorem sp_var {i : Nat} {P : A → Sto → Prop} : Run (cVar i ε) S P X = match ε[i]? with | some (some a) => P a S | _ => False := run_var
@[simp] theorem sp_c {x : A} {P : A → Sto → Prop} : Run (cC x ε) S P X = P x S := rfl
@[simp] theorem sp_isB {k : Bool} {P : Bool → Sto → Prop} : Run (isB (.bl k)) S P X = P k S := rfl
@[simp] theorem sp_and {P : A → Sto → Prop} : Run (cAnd a b ε) S P X = Run (a ε) S (fun x S1 => Run (isB x) S1 (fun k S2 => if k = true then Run (b ε) S2 P X else P (.bl false) S2) X) X := by
  unfold cAnd
  rw [run_bnd]; congr 1; funext x S1
  rw [run_bnd]; congr 1; funext k S2
  cases k <;> rfl
@[simp] theorem sp_or {P : A → Sto → Prop} : Run (cOr a b ε) S P X = Run (a ε) S (fun x S1 => Run (isB x) S1 (fun k S2 => if k = true then P (.bl true) S2 else Run (b ε) S2 P X) X) X := by
  unfold cOr
  rw [run_bnd]; congr 1; funext x S1
  rw [run_bnd]; congr 1; funext k S2
  cases k <;> rfl
@[simp] theorem sp_not {P : A → Sto → Prop} : Run (cNot a ε) S P X = Run (a ε) S (fun x S1 => Run (isB x) S1 (fun k S2 => P (.bl (!k)) S2) X) X := by
  unfold cNot
  rw [run_bnd]; congr 1; funext x S1
  rw [run_bnd]
  rfl
@[simp] theorem sp_if {P : A → Sto → Prop} : Run (cIf t a b ε) S P X = Run (t ε) S (fun k S1 => if k = true then Run (a ε) S1 P X else Run (b ε) S1 P X) X := by
  unfold cIf
  rw [run_bnd]; congr 1; funext k S1
  cases k <;> rfl
@[simp] theorem sp_bAnd {P : Bool → Sto → Prop} : Run (bAnd t u ε) S P X = Run (t ε) S (fun k S1 => if k = true then Run (u ε) S1 P X else P false S1) X := by
  unfold bAnd
  rw [run_bnd]; congr 1; funext k S1
  cases k <;> rfl
@[simp] theorem sp_bOr {P : Bool → Sto → Prop} : Run (bOr t u ε) S P X = Run (t ε) S (fun k S1 => if k = true then P true S1 else Run (u ε) S1 P X) X := by
  unfold bOr
  rw [run_bnd]; congr 1; funext k S1
  cases k <;> rfl
@[simp] theorem sp_bNot {P : Bool → Sto → Prop} : Run (bNot t ε) S P X = Run (t ε) S (fun k S1 => P (!k) S1) X := run_bnd
@[simp] theorem sp_bOf {P : Bool → Sto → Prop} : Run (bOf a ε) S P X = Run (a ε) S (fun x S1 => Run (isB x) S1 P X) X := run_bnd
@[simp] theorem sp_bYes {P : Bool → Sto → Prop} : Run (bYes ε) S P X = P true S := rfl
@[simp] theorem sp_bIf {P : Bool → Sto → Prop} : Run (bIf t u v ε) S P X = Run (t ε) S (fun k S1 => if k = true then Run (u ε) S1 P X else Run (v ε) S1 P X) X := by
  unfold bIf
  rw [run_bnd]; congr 1; funext k S1
  cases k <;> rfl
@[simp] theorem sp_lNil {P : List A → Sto → Prop} : Run (lNil ε) S P X = P [] S := rfl
@[simp] theorem sp_lCons {P : List A → Sto → Prop} : Run (lCons a l ε) S P X = Run (a ε) S (fun x S1 => Run (l ε) S1 (fun xs S2 => P (x :: xs) S2) X) X := by
  unfold lCons
  rw [run_bnd]; congr 1; funext x S1
  rw [run_bnd]
  rfl
@[simp] theorem sp_c2 {f : P2} {P : A → Sto → Prop} : Run (c2 f a b ε) S P X = Run (a ε) S (fun x S1 => Run (b ε) S1 (fun y S2 => match f x y S2 with | some (c, S') => P c S' | none => False) X) X := by
  unfold c2
  rw [run_bnd]; congr 1; funext x S1
  rw [run_bnd]; congr 1; funext y S2
  rw [run_lft]
  all_goals rfl
@[simp] theorem sp_c1 {f : A → Sto → Option (A × Sto)} {P : A → Sto → Prop} : Run (c1 f a ε) S P X = Run (a ε) S (fun x S1 => match f x S1 with | some (c, S') => P c S' | none => False) X := by
  unfold c1
  rw [run_bnd]; congr 1; funext x S1
  rw [run_lft]
  all_goals rfl
@[simp] theorem sp_chain {f g : P2} {P : A → Sto → Prop} : Run (cChain f g a b c ε) S P X = Run (a ε) S (fun x S1 => Run (b ε) S1 (fun y S2 => match f x y S2 with | some (z, S3) => Run (isB z) S3 (fun k S4 => if k = true then Run (c ε) S4 (fun w S5 => match g y w S5 with | some (z, S') => P z S' | none => False) X else P (.bl false) S4) X | none => False) X) X := by
  unfold cChain
  rw [run_bnd]; congr 1; funext x S1
  rw [run_bnd]; congr 1; funext y S2
  rw [run_bnd, run_lft]
  cases f x y S2 with
  | none => rfl
  | some z =>
    obtain ⟨z, S3⟩ := z
    dsimp only
    rw [run_bnd]; congr 1; funext k S4
    cases k with
    | false => rfl
    | true =>
      show Run (bnd _ _) _ _ _ = _
      rw [run_bnd, if_pos rfl]; congr 1; funext w S5
      rw [run_lft]
      all_goals rfl
@[simp] theorem sp_isi {T : Ty} {P : A → Sto → Prop} : Run (cIsi T a ε) S P X = Run (a ε) S (fun x S1 => match tyA S1 x with | some t => P (.bl (isTy t T)) S1 | none => False) X := by
  unfold cIsi
  rw [run_bnd]; congr 1; funext x S1
  rw [run_lft]
  unfold isiA
  cases tyA S1 x <;> rfl
@[simp] theorem sp_tup {P : A → Sto → Prop} : Run (cTup l ε) S P X = Run (l ε) S (fun xs S1 => if xs.length ≤ line then P (.tup xs) S1 else False) X := by
  unfold cTup
  rw [run_bnd]; congr 1; funext x S1
  rw [run_lft]
  split
  · rename_i h; split at h <;> cases h; rename_i z; rw [if_pos z]
  · rename_i h; split at h <;> cases h; rename_i z; rw [if_neg z]
@[simp] theorem sp_lst {P : A → Sto → Prop} : Run (cLst l ε) S P X = Run (l ε) S (fun xs S1 => if xs.length ≤ line then P (.ref S1.n) (S1.new (.lst xs)) else False) X := by
  unfold cLst
  rw [run_bnd]; congr 1; funext x S1
  rw [run_lft]
  split
  · rename_i h; split at h <;> cases h; rename_i z; rw [if_pos z]
  · rename_i h; split at h <;> cases h; rename_i z; rw [if_neg z]
@[simp] theorem sp_cB {f : PL} {P : A → Sto → Prop} : Run (cB f l ε) S P X = Run (l ε) S (fun xs S1 => match f xs S1 with | some (c, S') => P c S' | none => False) X := by
  unfold cB
  rw [run_bnd]; congr 1; funext x S1
  rw [run_lft]
  all_goals rfl
@[simp] theorem sp_call {n : Nat} {f : List A → M A} {P : A → Sto → Prop} : Run (cCall n f l ε) S P X = Run (l ε) S (fun as S1 => if as.length = n then Run (f as) S1 P X else False) X := run_call
@[simp] theorem sp_aLst {n : Nat} {P : Unit → Sto → Prop} : Run (aLst (.ref n)) S P X = match S.f n with | some (.lst _) => P () S | _ => False := by
  unfold Run aLst
  dsimp only
  cases S.f n with
  | none => rfl
  | some o => cases o <;> rfl
@[simp] theorem sp_cM {f : A → PL} {P : A → Sto → Prop} : Run (cM f a l ε) S P X = Run (a ε) S (fun x S1 => Run (aLst x) S1 (fun _ S2 => Run (l ε) S2 (fun as S3 => match f x as S3 with | some (c, S') => P c S' | none => False) X) X) X := by
  unfold cM
  rw [run_bnd]; congr 1; funext x S1
  rw [run_bnd]; congr 1; funext y S2
  rw [run_bnd]; congr 1; funext as S3
  rw [run_lft]
  all_goals rfl
@[simp] theorem sp_oNo {P : Option Int → Sto → Prop} : Run (oNo ε) S P X = P none S := rfl
@[simp] theorem sp_oAt {P : Option Int → Sto → Prop} : Run (oAt a ε) S P X = Run (a ε) S (fun x S1 => match x with | .int i => P (some i) S1 | _ => False) X := by
  unfold oAt
  rw [run_bnd]; congr 1; funext x S1
  cases x <;> rfl
@[simp] theorem sp_cSl {o p : CO} {P : A → Sto → Prop} : Run (cSl a o p ε) S P X = Run (a ε) S (fun x S1 => Run (o ε) S1 (fun lo S2 => Run (p ε) S2 (fun hi S3 => match oSl x lo hi S3 with | some (c, S') => P c S' | none => False) X) X) X := by
  unfold cSl
  rw [run_bnd]; congr 1; funext x S1
  rw [run_bnd]; congr 1; funext y S2
  rw [run_bnd]; congr 1; funext as S3
  rw [run_lft]
  all_goals rfl
@[simp] theorem sp_dnew {k : Bool} {P : A → Sto → Prop} : Run (cDnew k ε) S P X = P (.ref S.n) (S.new (.dct k [])) := rfl
@[simp] theorem sp_lenSet {P : A → Sto → Prop} : Run (cLenSet a ε) S P X = Run (a ε) S (fun x S1 => match oLenSet x S1 with | some (c, S') => P c S' | none => False) X := sp_c1
@[simp] theorem sp_lenSort {P : A → Sto → Prop} : Run (cLenSort a ε) S P X = Run (a ε) S (fun x S1 => match oLenSort x S1 with | some (c, S') => P c S' | none => False) X := sp_c1
/-! statements -/
@[simp] theorem sp_next {P : Fl → Sto → Prop} : Run (sNext ε) S P X = P (.nx ε) S := rfl
@[simp] theorem sp_break {P : Fl → Sto → Prop} : Run (sBreak ε) S P X = P (.bk ε) S := rfl
@[simp] theorem sp_cont {P : Fl → Sto → Prop} : Run (sCont ε) S P X = P (.ct ε) S := rfl
@[simp] theorem sp_seq {P : Fl → Sto → Prop} : Run (sSeq s d ε) S P X = Run (s ε) S (fun fl S1 => match fl with | .nx ε' => Run (d ε') S1 P X | fl => P fl S1) X := by
  unfold sSeq
  rw [run_bnd]; congr 1; funext fl S1
  cases fl <;> rfl
@[simp] theorem sp_expr {P : Fl → Sto → Prop} : Run (sExpr a ε) S P X = Run (a ε) S (fun _ S1 => P (.nx ε) S1) (fun e S1 => P (.ex e ε) S1) := run_stE
@[simp] theorem sp_ret {P : Fl → Sto → Prop} : Run (sRet a ε) S P X = Run (a ε) S (fun x S1 => P (.rt x) S1) (fun e S1 => P (.ex e ε) S1) := run_stE
@[simp] theorem sp_sIf {P : Fl → Sto → Prop} : Run (sIf t s d ε) S P X = Run (t ε) S (fun k S1 => if k = true then Run (s ε) S1 P X else Run (d ε) S1 P X) (fun e S1 => P (.ex e ε) S1) := by
  unfold sIf
  rw [run_stE]; congr 1; funext k S1
  cases k <;> rfl
@[simp] theorem sp_asg {g : CG} {P : Fl → Sto → Prop} : Run (sAsg a g ε) S P X = Run (a ε) S (fun x S1 => match g x S1 with | some l => P (.nx (setE ε l)) S1 | none => False) (fun e S1 => P (.ex e ε) S1) := run_setG
@[simp] theorem sp_par {i j : Nat} {P : Fl → Sto → Prop} : Run (sPar i j l ε) S P X = Run (l ε) S (fun xs S1 => match xs with | [x, y] => P (.nx ((ε.set i (some x)).set j (some y))) S1 | _ => False) (fun e S1 => P (.ex e ε) S1) := by
  unfold sPar
  rw [run_stE]; congr 1; funext xs S1
  rcases xs with _ | ⟨x, _ | ⟨y, _ | ⟨z, r⟩⟩⟩ <;> rfl
@[simp] theorem sp_raise {x : Str} {P : Fl → Sto → Prop} : Run (sRaise x ε) S P X = P (.ex ⟨x, []⟩ ε) S := rfl
@[simp] theorem sp_put {P : Fl → Sto → Prop} : Run (sPut c a b ε) S P X = Run (c ε) S (fun v S1 => Run (a ε) S1 (fun o S2 => Run (b ε) S2 (fun j S3 => match oPut o j v S3 with | some S' => P (.nx ε) S' | none => False) (fun e S1 => P (.ex e ε) S1)) (fun e S1 => P (.ex e ε) S1)) (fun e S1 => P (.ex e ε) S1) := by
  unfold sPut
  rw [run_stE, run_bnd]; congr 1; funext v S1
  rw [run_bnd]; congr 1; funext o S2
  rw [run_bnd]; congr 1; funext j S3
  show Run _ _ _ _ = _
  unfold Run
  dsimp only
  cases oPut o j v S3 <;> rfl
@[simp] theorem sp_for {ci : CI} {g : CG} {P : Fl → Sto → Prop} : Run (sFor ci g s ε) S P X = Run (ci ε) S (fun it S1 => Run (forGo it g s it.k 0 ε) S1 P X) (fun e S1 => P (.ex e ε) S1) := run_stE
@[simp] theorem sp_cSeq {P : IT → Sto → Prop} : Run (cSeq a ε) S P X = Run (a ε) S (fun x S1 => Run (seqIT x) S1 P X) X := run_bnd
@[simp] theorem sp_cKeys {P : IT → Sto → Prop} : Run (cKeys a ε) S P X = Run (a ε) S (fun x S1 => Run (keysIT x) S1 P X) X := run_bnd
@[simp] theorem sp_cLc {ci : CI} {g : CG} {vs : List Nat} {P : A → Sto → Prop} : Run (cLc ci g t a vs ε) S P X = Run (ci ε) S (fun it S1 => Run (lcAll it g t a (wipeE ε vs)) S1 (fun ys S2 => P (.ref S2.n) (S2.new (.lst ys))) (fun _ _ => False)) X := by
  unfold cLc
  rw [run_bnd]; congr 1; funext it S1
  rw [run_bnd]
  unfold Run noX newL
  cases lcAll it g t a (wipeE ε vs) S1 <;> rfl
@[simp] theorem sp_cDc {ci : CI} {g : CG} {vs : List Nat} {tt : Bool} {P : A → Sto → Prop} : Run (cDc ci g t a b vs tt ε) S P X = Run (ci ε) S (fun it S1 => Run (dcGo it g t a b tt it.k 0 (wipeE ε vs) []) S1 (fun ys S2 => P (.ref S2.n) (S2.new (.dct tt ys))) (fun _ _ => False)) X := by
  unfold cDc
  rw [run_bnd]; congr 1; funext it S1
  rw [run_bnd]
  unfold Run noX newD
  cases dcGo it g t a b tt it.k 0 (wipeE ε vs) [] S1 <;> rfl
@[simp] theorem sp_seqT {xs : List A} {P : IT → Sto → Prop} : Run (seqIT (.tup xs)) S P X = P ⟨fun i _ => some xs[i]?, xs.length⟩ S := rfl
@[simp] theorem sp_setd {P : A → Sto → Prop} : Run (cSetd a b c ε) S P X = Run (a ε) S (fun x S1 => Run (aDct x) S1 (fun _ S2 => Run (b ε) S2 (fun y S3 => Run (c ε) S3 (fun z S4 => match oSetd x y z S4 with | some (c, S') => P c S' | none => False) X) X) X) X := by
  unfold cSetd
  rw [run_bnd]; congr 1; funext x S1
  rw [run_bnd]; congr 1; funext y S2
  rw [run_bnd]; congr 1; funext z S3
  rw [run_bnd]; congr 1; funext w S4
  rw [run_lft]
  all_goals rfl
end
/-! operators -/
section
variable {S : Sto} {i j : Int}
@[simp] theorem ov_add : oAdd (.int i) (.int j) S = some (.int (i + j), S) := rfl
@[simp] theorem ov_sub : oSub (.int i) (.int j) S = some (.int (i - j), S) := rfl
@[simp] theorem ov_lt : oLt (.int i) (.int j) S = some (.bl (decide (i < j)), S) := rfl
@[simp] theorem ov_le : oLe (.int i) (.int j) S = some (.bl (decide (i ≤ j)), S) := rfl
@[simp] theorem ov_gt : oGt (.int i) (.int j) S = some (.bl (decide (j < i)), S) := rfl
@[simp] theorem ov_ge : oGe (.int i) (.int j) S = some (.bl (decide (j ≤ i)), S) := rfl
@[simp] theorem ov_neg : oNeg (.int i) S = some (.int (-i), S) := rfl
@[simp] theorem ov_lenT {xs : List A} : bLen [.tup xs] S = some (.int xs.length, S) := rfl
theorem ov_lenL {n : Nat} {xs : List A} (h : S.f n = some (.lst xs)) : bLen [.ref n] S = some (.int xs.length, S) := by
  unfold bLen; dsimp only; rw [h]
theorem ov_ixT {xs : List A} {k : Nat} {a : A} (h : xs[k]? = some a) : oIx (.tup xs) (.int (k : Int)) S = some (a, S) := by
  unfold oIx
  dsimp only
  rw [atI_nat h]
  rfl
theorem ov_ixL {xs : List A} {n k : Nat} {a : A} (h : S.f n = some (.lst xs)) (hk : xs[k]? = some a) : oIx (.ref n) (.int (k : Int)) S = some (a, S) := by
  unfold oIx
  dsimp only
  rw [h]
  dsimp only
  rw [atI_nat hk]
  rfl
theorem ov_addL {n m : Nat} {xs ys : List A} (h1 : S.f n = some (.lst xs)) (h2 : S.f m = some (.lst ys)) (h : xs.length + ys.length ≤ line) : oAdd (.ref n) (.ref m) S = some (.ref S.n, S.new (.lst (xs ++ ys))) := by
  unfold oAdd
  dsimp only
  rw [h1, h2]
  exact if_pos h
theorem ov_addT {xs ys : List A} (h : xs.length + ys.length ≤ line) : oAdd (.tup xs) (.tup ys) S = some (.tup (xs ++ ys), S) := if_pos h
theorem ov_tupL {n : Nat} {xs : List A} (h : S.f n = some (.lst xs)) : bTuple [.ref n] S = some (.tup xs, S) := by
  unfold bTuple; dsimp only; rw [h]
end
/-! targets -/
@[simp] theorem sg_var {i : Nat} {a : A} {S : Sto} : gVar i a S = some [(i, a)] := rfl
@[simp] theorem sg_unpT {n : Nat} {gs : CGs} {xs : List A} {S : Sto} : gUnp n gs (.tup xs) S = if xs.length = n then gs xs S else none := rfl
@[simp] theorem sg_nil {S : Sto} : gsNil [] S = some [] := rfl
@[simp] theorem sg_cons {g : CG} {gs : CGs} {x : A} {xs : List A} {S : Sto} : gsCons g gs (x :: xs) S = match g x S with
  | none => none
  | some l => match gs xs S with
    | none => none
    | some l2 => some (l ++ l2) := rfl
@[simp] theorem se_nil {ε : Env} : setE ε [] = ε := rfl
@[simp] theorem se_cons {ε : Env} {i : Nat} {a : A} {r : Asg} : setE ε ((i, a) :: r) = setE (ε.set i (some a)) r := rfl
@[simp] theorem we_nil {ε : Env} : wipeE ε [] = ε := rfl
@[simp] theorem we_cons {ε : Env} {v : Nat} {vs : List Nat} : wipeE ε (v :: vs) = (wipeE ε vs).set v none := rfl
end EV

end

section
set_option Elab.async false
set_option linter.all false
set_option maxRecDepth 100000
/-! EvLc: loops and comprehensions over things that stand for those of a list. -/
namespace EV
open PySem PySem.Spec PyProof.Rows L2
/-- a comprehension over the things of us, as f lays them -/
theorem run_lcM {α : Type} {it : IT} {g : CG} {t : CB} {e : CE} {ε : Env} {X : Ex → Sto → Prop} (us : List α) (f : α → A) (R : Sto → Prop) (q : α → Bool) (v : α → A) (hn : ∀ i S, R S → it.nxt i S = some (us[i]?.map f))
    (step : ∀ u S, u ∈ us → R S → ∃ l, g (f u) S = some l ∧ Run (t (setE ε l)) S (fun b S1 => b = q u ∧ Gr S S1 ∧ R S1 ∧ (q u = true → Run (e (setE ε l)) S1 (fun y S2 => y = v u ∧ Gr S1 S2 ∧ R S2) X)) X) :
    ∀ (m i : Nat) (S : Sto), i ≤ us.length → us.length ≤ i + m → R S → Run (lcGo it g t e m i ε) S (fun ys S' => ys = ((us.drop i).filter q).map v ∧ Gr S S' ∧ R S') X
  | 0, i, S, h1, h2, h => by
    have e : i = us.length := by omega
    subst e
    unfold Run lcGo
    rw [hn _ _ h, List.getElem?_eq_none (Nat.le_refl _)]
    exact ⟨by rw [List.drop_length]; rfl, Gw.refl, h⟩
  | m + 1, i, S, h1, h2, h => by
    by_cases hi : i < us.length
    · have hm : us[i] ∈ us := List.getElem_mem hi
      have at_i : it.nxt i S = some (some (f us[i])) := by rw [hn _ _ h, List.getElem?_eq_getElem hi]; rfl
      obtain ⟨l, e1, r⟩ := step us[i] S hm h
      have e0 : Run (lcGo it g t e (m + 1) i ε) S (fun ys S' => ys = ((us.drop i).filter q).map v ∧ Gr S S' ∧ R S') X = Run (bnd (t (setE ε l)) (fun b => match b with
        | true => bnd (e (setE ε l)) fun y => bnd (lcGo it g t e m (i + 1) ε) fun ys => rt (y :: ys)
        | false => lcGo it g t e m (i + 1) ε)) S (fun ys S' => ys = ((us.drop i).filter q).map v ∧ Gr S S' ∧ R S') X := by
        unfold Run
        rw [lcGo]; dsimp only; rw [at_i]
        dsimp only
        rw [e1]
        all_goals rfl
      rw [e0, run_bnd]
      refine r.imp fun b S1 ⟨eb, g1, r1, z⟩ => ?_
      have cut : us.drop i = us[i] :: us.drop (i + 1) := List.drop_eq_getElem_cons hi
      cases b with
      | false =>
        refine (run_lcM us f R q v hn step m (i + 1) S1 hi (by omega) r1).imp fun ys S2 ⟨y1, y2, y3⟩ => ⟨?_, g1.trans y2, y3⟩
        rw [cut, List.filter_cons, if_neg (by rw [← eb]; decide)]
        exact y1
      | true =>
        show Run (bnd _ _) _ _ _
        rw [run_bnd]
        refine (z eb.symm).imp fun y S2 ⟨ey, g2, r2⟩ => ?_
        rw [run_bnd]
        refine (run_lcM us f R q v hn step m (i + 1) S2 hi (by omega) r2).imp fun ys S3 ⟨y1, y2, y3⟩ => ?_
        refine ⟨?_, (g1.trans g2).trans y2, y3⟩
        rw [cut, List.filter_cons, if_pos eb.symm, List.map_cons, ← ey, y1]
    · have e : i = us.length := by omega
      subst e
      have at_i : it.nxt us.length S = some none := by rw [hn _ _ h, List.getElem?_eq_none (Nat.le_refl _)]; rfl
      unfold Run
      rw [lcGo]; dsimp only; rw [at_i]
      exact ⟨by rw [List.drop_length]; rfl, Gw.refl, h⟩
/-- all kept -/
theorem lc_yes {α : Type} {it : IT} {g : CG} {e : CE} {ε : Env} {S : Sto} {X : Ex → Sto → Prop} {Q : List A → Sto → Prop} (us : List α) (f v : α → A) (hk : it.k ≤ 16777216) (hl : us.length ≤ it.k) (hn : ∀ i S1, Gr S S1 → it.nxt i S1 = some (us[i]?.map f))
    (step : ∀ u S1, u ∈ us → Gr S S1 → ∃ l, g (f u) S1 = some l ∧ Run (e (setE ε l)) S1 (fun y S2 => y = v u ∧ Gr S1 S2) X) (h : ∀ S', Gr S S' → Q (us.map v) S') :
    Run (lcAll it g bYes e ε) S Q X := by
  unfold lcAll
  rw [if_pos hk]
  refine (run_lcM (R := fun S1 => Gr S S1) us f (fun _ => true) v hn (fun a S1 ha g1 => ?_) it.k 0 S (Nat.zero_le _) (by omega) Gw.refl).imp fun ys S' ⟨y1, y2, y3⟩ => ?_
  · obtain ⟨l, e1, e2⟩ := step a S1 ha g1
    refine ⟨l, e1, ?_⟩
    rw [sp_bYes]
    exact ⟨rfl, Gw.refl, g1, fun _ => e2.imp fun y S2 ⟨z1, z2⟩ => ⟨z1, z2, g1.trans z2⟩⟩
  · rw [List.drop_zero, List.filter_eq_self.mpr (fun _ _ => rfl)] at y1
    rw [y1]
    exact h S' y2
/-- those kept of which q says so -/
theorem lc_if {α : Type} {it : IT} {g : CG} {t : CB} {e : CE} {ε : Env} {S : Sto} {X : Ex → Sto → Prop} {Q : List A → Sto → Prop} (us : List α) (f : α → A) (q : α → Bool) (v : α → A) (hk : it.k ≤ 16777216) (hl : us.length ≤ it.k) (hn : ∀ i S1, Gr S S1 → it.nxt i S1 = some (us[i]?.map f))
    (step : ∀ u S1, u ∈ us → Gr S S1 → ∃ l, g (f u) S1 = some l ∧ Run (t (setE ε l)) S1 (fun b S2 => b = q u ∧ Gr S1 S2 ∧ (q u = true → Run (e (setE ε l)) S2 (fun y S3 => y = v u ∧ Gr S2 S3) X)) X) (h : ∀ S', Gr S S' → Q ((us.filter q).map v) S') :
    Run (lcAll it g t e ε) S Q X := by
  unfold lcAll
  rw [if_pos hk]
  refine (run_lcM (R := fun S1 => Gr S S1) us f q v hn (fun a S1 ha g1 => ?_) it.k 0 S (Nat.zero_le _) (by omega) Gw.refl).imp fun ys S' ⟨y1, y2, y3⟩ => ?_
  · obtain ⟨l, e1, e2⟩ := step a S1 ha g1
    exact ⟨l, e1, e2.imp fun b S2 ⟨z1, z2, z3⟩ => ⟨z1, z2, g1.trans z2, fun hq => (z3 hq).imp fun y S3 ⟨w1, w2⟩ => ⟨w1, w2, (g1.trans z2).trans w2⟩⟩⟩
  · rw [List.drop_zero] at y1
    rw [y1]
    exact h S' y2
/-- a for over the things of us -/
theorem run_forM {α : Type} {it : IT} {g : CG} {b : CS} {P : Fl → Sto → Prop} {X : Ex → Sto → Prop} (us : List α) (f : α → A) (Inv : Nat → Env → Sto → Prop) (hn : ∀ i ε S, Inv i ε S → it.nxt i S = some (us[i]?.map f))
    (step : ∀ i u ε S, us[i]? = some u → Inv i ε S → ∃ l, g (f u) S = some l ∧ Run (b (setE ε l)) S (fun fl S' => match fl with | .nx ε' => Inv (i + 1) ε' S' | .ct ε' => Inv (i + 1) ε' S' | .bk ε' => P (.nx ε') S' | fl => P fl S') X)
    (fin : ∀ ε S, Inv us.length ε S → P (.nx ε) S) (m : Nat) (ε : Env) (S : Sto) (h : us.length ≤ m) (i0 : Inv 0 ε S) : Run (forGo it g b m 0 ε) S P X := by
  refine run_for (us.map f) Inv (fun i ε S I => ?_) (fun i a ε S ha I => ?_) (fun ε S I => ?_) m 0 ε S (Nat.zero_le _) (by rw [List.length_map]; omega) i0
  · rw [hn i ε S I, List.getElem?_map]
  · rw [List.getElem?_map] at ha
    cases hu : us[i]? with
    | none => rw [hu] at ha; cases ha
    | some u =>
      rw [hu] at ha
      cases ha
      exact step i u ε S hu I
  · rw [List.length_map] at I
    exact fin ε S I
/-- a while: so many turns are enough -/
theorem run_while {t : CB} {b : CS} {P : Fl → Sto → Prop} {X : Ex → Sto → Prop} (Inv : Nat → Env → Sto → Prop)
    (step : ∀ n ε S, Inv n ε S → Run (t ε) S (fun k S1 => match k with
      | false => P (.nx ε) S1
      | true => Run (b ε) S1 (fun fl S' => match fl with | .nx ε' => ∃ n', n' < n ∧ Inv n' ε' S' | .ct ε' => ∃ n', n' < n ∧ Inv n' ε' S' | .bk ε' => P (.nx ε') S' | fl => P fl S') X) (fun e S1 => P (.ex e ε) S1)) :
    ∀ (m n : Nat) (ε : Env) (S : Sto), n < m → Inv n ε S → Run (sWhile t b m ε) S P X
  | 0, n, ε, S, h, _ => absurd h (Nat.not_lt_zero n)
  | m + 1, n, ε, S, h, I => by
    unfold sWhile
    rw [run_stE]
    refine (step n ε S I).imp fun k S1 z => ?_
    cases k with
    | false => exact z
    | true =>
      show Run (bnd _ _) _ _ _
      rw [run_bnd]
      refine Run.imp z fun fl S2 y => ?_
      cases fl with
      | nx ε' =>
        obtain ⟨n', h', I'⟩ := y
        exact run_while Inv step m n' ε' S2 (by omega) I'
      | ct ε' =>
        obtain ⟨n', h', I'⟩ := y
        exact run_while Inv step m n' ε' S2 (by omega) I'
      | bk ε' => exact y
      | rt a => exact y
      | ex x ε' => exact y
/-- a dict comprehension that keeps all -/
theorem run_dc {α : Type} {it : IT} {g : CG} {t : CB} {k v : CE} {tt : Bool} {ε : Env} {X : Ex → Sto → Prop} (us : List α) (f : α → A) (Inv : Nat → List (Kk × A) → Sto → Prop) (hn : ∀ i acc S, Inv i acc S → it.nxt i S = some (us[i]?.map f))
    (step : ∀ i u acc S, us[i]? = some u → Inv i acc S → ∃ l, g (f u) S = some l ∧ Run (t (setE ε l)) S (fun b S1 => b = true ∧ Run (k (setE ε l)) S1 (fun x S2 => Run (v (setE ε l)) S2 (fun y S3 => ∃ kk, keyOf x = some kk ∧ kOk tt kk = true ∧ acc.length < line ∧ Inv (i + 1) (dput acc kk y) S3) X) X) X) :
    ∀ (m i : Nat) (acc : List (Kk × A)) (S : Sto), i ≤ us.length → us.length ≤ i + m → Inv i acc S → Run (dcGo it g t k v tt m i ε acc) S (fun acc S' => Inv us.length acc S') X
  | 0, i, acc, S, h1, h2, h => by
    have e : i = us.length := by omega
    subst e
    unfold Run dcGo
    rw [hn _ _ _ h, List.getElem?_eq_none (Nat.le_refl _)]
    exact h
  | m + 1, i, acc, S, h1, h2, h => by
    by_cases hi : i < us.length
    · have at_i : it.nxt i S = some (some (f us[i])) := by rw [hn _ _ _ h, List.getElem?_eq_getElem hi]; rfl
      obtain ⟨l, e1, r⟩ := step i us[i] acc S (List.getElem?_eq_getElem hi) h
      have e0 : Run (dcGo it g t k v tt (m + 1) i ε acc) S (fun acc S' => Inv us.length acc S') X = Run (bnd (t (setE ε l)) (fun b => match b with
        | true => bnd (k (setE ε l)) fun x => bnd (v (setE ε l)) fun y => match keyOf x with
          | some kk => if kOk tt kk = true ∧ acc.length < line then dcGo it g t k v tt m (i + 1) ε (dput acc kk y) else stuck
          | none => stuck
        | false => dcGo it g t k v tt m (i + 1) ε acc)) S (fun acc S' => Inv us.length acc S') X := by
        unfold Run
        rw [dcGo]; dsimp only; rw [at_i]
        dsimp only
        rw [e1]
        all_goals rfl
      rw [e0, run_bnd]
      refine r.imp fun b S1 ⟨eb, z⟩ => ?_
      subst eb
      show Run (bnd _ _) _ _ _
      rw [run_bnd]
      refine z.imp fun x S2 z2 => ?_
      rw [run_bnd]
      refine z2.imp fun y S3 ⟨kk, q1, q2, q3, I⟩ => ?_
      rw [q1]
      dsimp only
      rw [if_pos ⟨q2, q3⟩]
      exact run_dc us f Inv hn step m (i + 1) _ S3 hi (by omega) I
    · have e : i = us.length := by omega
      subst e
      have at_i : it.nxt us.length S = some none := by rw [hn _ _ _ h, List.getElem?_eq_none (Nat.le_refl _)]; rfl
      unfold Run
      rw [dcGo]; dsimp only; rw [at_i]
      exact h
/-- while a dict is walked -/
theorem run_lock {c b : CE} {ε : Env} {S S0 : Sto} {n : Nat} {t : Bool} {kvs : List (Kk × A)} {P : A → Sto → Prop} {X : Ex → Sto → Prop} (hc : c ε S = .ok (.ref n) S0) (hd : S.f n = some (.dct t kvs)) (h : Run (b ε) (S.put n (.ldk t kvs)) (fun a S2 => S2.f n = some (.ldk t kvs) ∧ P a (S2.put n (.dct t kvs))) fun _ _ => False) : Run (cLock c b ε) S P X := by
  unfold Run at h ⊢
  unfold cLock
  rw [hc]
  dsimp only
  unfold lockD
  rw [hd]
  dsimp only
  cases e : b ε (S.put n (.ldk t kvs)) with
  | ok a S2 =>
    rw [e] at h
    dsimp only at h ⊢
    rw [h.1]
    exact h.2
  | exc x S2 => rw [e] at h; exact h.elim
  | bad => rw [e] at h; exact h
end EV

end

section
set_option Elab.async false
set_option linter.all false
set_option maxRecDepth 100000
set_option maxHeartbeats 4000000
namespace Rings
open PySem PySem.Spec PyProof.Rows L2 EV
def top (i : Nat) : Stmt := PySem.Challenge.pw_talkwright_k73_rings.main.body.getD i (.Pass ⟨0, 0, 0, 0⟩)
/-- at most so many turns of a while -/
def fuel : Nat := 1000000
/-- names that the text leaves to the machine; its constants -/
structure Blt (mg : Str → Option Value) : Prop where
  abs : mg "abs" = none
  all : mg "all" = none
  bool : mg "bool" = none
  int : mg "int" = none
  isinstance : mg "isinstance" = none
  len : mg "len" = none
  list : mg "list" = none
  min : mg "min" = none
  range : mg "range" = none
  set : mg "set" = none
  sorted : mg "sorted" = none
  str : mg "str" = none
  tuple : mg "tuple" = none
  zip : mg "zip" = none
  MOST : ∃ t, mg "MOST" = some (.int 12 t)
  TIES : ∃ t, mg "TIES" = some (.int 400 t)
def t_InvalidTies : List (Str × Bool) := [("InvalidTies", true)]
def u_InvalidTies_TalkError : List (Str × Bool) := [("InvalidTies", true)]
section
variable {P : Program} {w : World} {K : PySem.W.Frag} {mg : Str → Option Value} {base : Heap} {C_InvalidTies C_TalkError : Addr}
/-! ### is_whole -/
abbrev st_is_whole : Stmt := top 4
abbrev N_is_whole : List Str := ["value", "low", "high"]
theorem sc_is_whole : FnScope N_is_whole ["value", "low", "high"] (defScope st_is_whole) := ⟨rfl, rfl, rfl, by decide +kernel, rfl, by decide +kernel, by decide +kernel⟩
def b_is_whole : CS := (sRet (cAnd (cIsi .int (cVar 0)) (cAnd (cNot (cIsi .bool (cVar 0))) (cChain oLe oLe (cVar 1) (cVar 0) (cVar 2)))))
def f_is_whole : List A → M A := fnRun 3 3 b_is_whole
theorem ok_is_whole (B : Blt mg) (D : Df K mg "is_whole" st_is_whole ["value", "low", "high"]) : Ok P w K mg base 1 "is_whole" ["value", "low", "high"] f_is_whole := by
  have nd := sc_is_whole.nd
  refine okD (x := "is_whole") (st := st_is_whole) (N := N_is_whole) (ps := ["value", "low", "high"]) (k := 0) (b := b_is_whole) D sc_is_whole fun f cdv A outer s H E hr => ?_
  have hu := hu65 hr
  exact (jb_one (js_ret (je_and (je_isi .int B.isinstance B.int (je_var 0)) (je_and (je_not (je_isi .bool B.isinstance B.bool (je_var 0))) (je_one (je_chain o_le o_le (je_var 1) (je_var 0) (je_var 2)))))))
/-! ### is_tuple_of -/
abbrev st_is_tuple_of : Stmt := top 5
abbrev N_is_tuple_of : List Str := ["value", "low", "high"]
theorem sc_is_tuple_of : FnScope N_is_tuple_of ["value", "low", "high"] (defScope st_is_tuple_of) := ⟨rfl, rfl, rfl, by decide +kernel, rfl, by decide +kernel, by decide +kernel⟩
def b_is_tuple_of : CS := (sRet (cAnd (cIsi .tuple (cVar 0)) (cChain oLe oLe (cVar 1) (cB bLen (lCons (cVar 0) lNil)) (cVar 2))))
def f_is_tuple_of : List A → M A := fnRun 3 3 b_is_tuple_of
theorem ok_is_tuple_of (B : Blt mg) (D : Df K mg "is_tuple_of" st_is_tuple_of ["value", "low", "high"]) : Ok P w K mg base 1 "is_tuple_of" ["value", "low", "high"] f_is_tuple_of := by
  have nd := sc_is_tuple_of.nd
  refine okD (x := "is_tuple_of") (st := st_is_tuple_of) (N := N_is_tuple_of) (ps := ["value", "low", "high"]) (k := 0) (b := b_is_tuple_of) D sc_is_tuple_of fun f cdv A outer s H E hr => ?_
  have hu := hu65 hr
  exact (jb_one (js_ret (je_and (je_isi .tuple B.isinstance B.tuple (je_var 0)) (je_one (je_chain o_le o_le (je_var 1) (je_callB b_len B.len (by rfl) (ja_cons (je_var 0) ja_nil)) (je_var 2))))))
/-! ### are_unlike -/
abbrev st_are_unlike : Stmt := top 6
abbrev N_are_unlike : List Str := ["items"]
theorem sc_are_unlike : FnScope N_are_unlike ["items"] (defScope st_are_unlike) := ⟨rfl, rfl, rfl, by decide +kernel, rfl, by decide +kernel, by decide +kernel⟩
def b_are_unlike : CS := (sRet (c2 (oEq false) (cLenSet (cVar 0)) (cB bLen (lCons (cVar 0) lNil))))
def f_are_unlike : List A → M A := fnRun 1 1 b_are_unlike
theorem ok_are_unlike (B : Blt mg) (D : Df K mg "are_unlike" st_are_unlike ["items"]) : Ok P w K mg base 1 "are_unlike" ["items"] f_are_unlike := by
  have nd := sc_are_unlike.nd
  refine okD (x := "are_unlike") (st := st_are_unlike) (N := N_are_unlike) (ps := ["items"]) (k := 0) (b := b_are_unlike) D sc_are_unlike fun f cdv A outer s H E hr => ?_
  have hu := hu65 hr
  exact (jb_one (js_ret (je_cmp (o_eq hu) (je_lenSet rfl hu B.len B.set (je_var 0)) (je_callB b_len B.len (by rfl) (ja_cons (je_var 0) ja_nil)))))
/-! ### is_node -/
abbrev st_is_node : Stmt := top 10
abbrev N_is_node : List Str := ["value"]
theorem sc_is_node : FnScope N_is_node ["value"] (defScope st_is_node) := ⟨rfl, rfl, rfl, by decide +kernel, rfl, by decide +kernel, by decide +kernel⟩
def b_is_node : CS := (sSeq (sIf (bOr (bNot (bOf (cCall 3 f_is_tuple_of (lCons (cVar 0) (lCons (cC (.int 2)) (lCons (cC (.int 2)) lNil)))))) (bOr (bNot (bOf (cIsi .str (c2 oIx (cVar 0) (cC (.int 0)))))) (bOf (c2 (oIn true) (c2 oIx (cVar 0) (cC (.int 0))) (cTup (lCons (cC (.str "process")) (lCons (cC (.str "talk")) lNil))))))) (sRet (cC (.bl false))) sNext) (sRet (cCall 3 f_is_whole (lCons (c2 oIx (cVar 0) (cC (.int 1))) (lCons (cC (.int 0)) (lCons (c2 oSub (cC (.int 12)) (cC (.int 1))) lNil))))))
def f_is_node : List A → M A := fnRun 1 1 b_is_node
theorem ok_is_node (B : Blt mg) (D : Df K mg "is_node" st_is_node ["value"]) (O_is_whole : Ok P w K mg base 1 "is_whole" ["value", "low", "high"] f_is_whole) (O_is_tuple_of : Ok P w K mg base 1 "is_tuple_of" ["value", "low", "high"] f_is_tuple_of) : Ok P w K mg base 2 "is_node" ["value"] f_is_node := by
  have nd := sc_is_node.nd
  refine okD (x := "is_node") (st := st_is_node) (N := N_is_node) (ps := ["value"]) (k := 1) (b := b_is_node) D sc_is_node fun f cdv A outer s H E hr => ?_
  have hu := hu65 hr
  exact (jb_cons (js_if ((jw_or (jt_not (jt_val (je_fn O_is_tuple_of hr (takes_of rfl rfl rfl rfl) (ja_cons (je_var 0) (ja_cons (je_int) (ja_cons (je_int) ja_nil)))))) (jw_or (jt_not (jt_val (je_isi .str B.isinstance B.str (je_ix hu (je_var 0) (je_int))))) (jw_or1 (jt_cmp (o_notin hu) (je_ix hu (je_var 0) (je_int)) (je_tup (ja_cons (je_str) (ja_cons (je_str) ja_nil))))))).pt) (jb_one (js_ret (je_bl))) jb_nil) (jb_one (js_ret (je_fn O_is_whole hr (takes_of rfl rfl rfl rfl) (ja_cons (je_ix hu (je_var 0) (je_int)) (ja_cons (je_int) (ja_cons (je_bin o_sub (je_gi B.MOST) (je_int)) ja_nil)))))))
/-! ### need_ties -/
abbrev st_need_ties : Stmt := top 11
abbrev N_need_ties : List Str := ["value", "one"]
theorem sc_need_ties : FnScope N_need_ties ["value"] (defScope st_need_ties) := ⟨rfl, rfl, rfl, by decide +kernel, rfl, by decide +kernel, by decide +kernel⟩
def b_need_ties : CS := (sSeq (sIf (bOr (bNot (bOf (cCall 3 f_is_tuple_of (lCons (cVar 0) (lCons (cC (.int 0)) (lCons (cC (.int 400)) lNil)))))) (bNot (bOf (cB bAll (lCons (cLc (cSeq (cVar 0)) (gVar 1) bYes (cCall 3 f_is_tuple_of (lCons (cVar 1) (lCons (cC (.int 2)) (lCons (cC (.int 2)) lNil)))) [1]) lNil))))) (sRaise "InvalidTies") sNext) (sIf (bOr (bNot (bOf (cB bAll (lCons (cLc (cSeq (cVar 0)) (gVar 1) bYes (cAnd (cCall 1 f_is_node (lCons (c2 oIx (cVar 1) (cC (.int 0))) lNil)) (cCall 3 f_is_whole (lCons (c2 oIx (cVar 1) (cC (.int 1))) (lCons (cC (.int 0)) (lCons (c2 oSub (cC (.int 12)) (cC (.int 1))) lNil))))) [1]) lNil)))) (bNot (bOf (cCall 1 f_are_unlike (lCons (cVar 0) lNil))))) (sRaise "InvalidTies") sNext))
def f_need_ties : List A → M A := fnRun 1 2 b_need_ties
theorem ok_need_ties (B : Blt mg) (X_InvalidTies : ExcF K mg "InvalidTies" C_InvalidTies) (D : Df K mg "need_ties" st_need_ties ["value"]) (O_is_whole : Ok P w K mg base 1 "is_whole" ["value", "low", "high"] f_is_whole) (O_is_tuple_of : Ok P w K mg base 1 "is_tuple_of" ["value", "low", "high"] f_is_tuple_of) (O_are_unlike : Ok P w K mg base 1 "are_unlike" ["items"] f_are_unlike) (O_is_node : Ok P w K mg base 2 "is_node" ["value"] f_is_node) : Ok P w K mg base 3 "need_ties" ["value"] f_need_ties := by
  have nd := sc_need_ties.nd
  refine okD (x := "need_ties") (st := st_need_ties) (N := N_need_ties) (ps := ["value"]) (k := 2) (b := b_need_ties) D sc_need_ties fun f cdv A outer s H E hr => ?_
  have hu := hu65 hr
  exact (jb_cons (js_if ((jw_or (jt_not (jt_val (je_fn O_is_tuple_of hr (takes_of rfl rfl rfl rfl) (ja_cons (je_var 0) (ja_cons (je_int) (ja_cons (je_gi B.TIES) ja_nil)))))) (jw_or1 (jt_not (jt_val (je_callB (b_all rfl) B.all (by rfl) (ja_cons (je_lc (own := [("one", 1)]) rfl nd (ji_seq (je_var 0)) (blkOk_by (N := N_need_ties) (sc := (defScope st_need_ties)) (by decide +kernel)) (inn_var) (fun _ _ _ _ _ => (jg_var 1 nd)) (fun _ _ _ _ _ => jts_nil) (fun _ _ _ _ _ => (je_fn O_is_tuple_of hr takes0 (ja_cons (je_var 1) (ja_cons (je_int) (ja_cons (je_int) ja_nil)))))) ja_nil)))))).pt) (jb_one (js_rs X_InvalidTies rfl (takes_of rfl rfl rfl rfl))) jb_nil) (jb_one (js_if ((jw_or (jt_not (jt_val (je_callB (b_all rfl) B.all (by rfl) (ja_cons (je_lc (own := [("one", 1)]) rfl nd (ji_seq (je_var 0)) (blkOk_by (N := N_need_ties) (sc := (defScope st_need_ties)) (by decide +kernel)) (inn_var) (fun _ _ _ _ _ => (jg_var 1 nd)) (fun _ _ _ _ _ => jts_nil) (fun _ _ _ _ _ => (je_and (je_fn O_is_node hr takes0 (ja_cons (je_ix hu (je_var 1) (je_int)) ja_nil)) (je_one (je_fn O_is_whole hr takes0 (ja_cons (je_ix hu (je_var 1) (je_int)) (ja_cons (je_int) (ja_cons (je_bin o_sub (je_gi B.MOST) (je_int)) ja_nil)))))))) ja_nil)))) (jw_or1 (jt_not (jt_val (je_fn O_are_unlike hr (takes_of rfl rfl rfl rfl) (ja_cons (je_var 0) ja_nil)))))).pt) (jb_one (js_rs X_InvalidTies rfl (takes_of rfl rfl rfl rfl))) jb_nil)))
/-! ### short_ring -/
abbrev st_short_ring : Stmt := top 13
abbrev N_short_ring : List Str := ["ties", "holder", "talk"]
theorem sc_short_ring : FnScope N_short_ring ["ties"] (defScope st_short_ring) := ⟨rfl, rfl, rfl, by decide +kernel, rfl, by decide +kernel, by decide +kernel⟩
def b_short_ring : CS := (sSeq (sFor (cSeq (cVar 0)) (gUnp 2 (gsCons (gVar 1) (gsCons (gVar 2) gsNil))) (sSeq (sIf (bOf (c2 (oEq false) (cVar 1) (cTup (lCons (cC (.str "talk")) (lCons (cVar 2) lNil))))) (sRet (cTup (lCons (cVar 1) lNil))) sNext) (sIf (bAnd (bOf (c2 (oEq false) (c2 oIx (cVar 1) (cC (.int 0))) (cC (.str "talk")))) (bOf (c2 (oIn false) (cTup (lCons (cTup (lCons (cC (.str "talk")) (lCons (cVar 2) lNil))) (lCons (c2 oIx (cVar 1) (cC (.int 1))) lNil))) (cVar 0)))) (sRet (cTup (lCons (cVar 1) (lCons (cTup (lCons (cC (.str "talk")) (lCons (cVar 2) lNil))) lNil)))) sNext))) (sRet (cC .non)))
def f_short_ring : List A → M A := fnRun 1 3 b_short_ring
theorem ok_short_ring (B : Blt mg) (D : Df K mg "short_ring" st_short_ring ["ties"]) : Ok P w K mg base 1 "short_ring" ["ties"] f_short_ring := by
  have nd := sc_short_ring.nd
  refine okD (x := "short_ring") (st := st_short_ring) (N := N_short_ring) (ps := ["ties"]) (k := 0) (b := b_short_ring) D sc_short_ring fun f cdv A outer s H E hr => ?_
  have hu := hu65 hr
  exact (jb_cons (js_for (passes_of rfl) rfl (ji_seq (je_var 0)) (jg_unp rfl (jgs_cons (jg_var 1 nd) (jgs_cons (jg_var 2 nd) jgs_nil))) (jb_cons (js_if (jt_cmp (o_eq hu) (je_var 1) (je_tup (ja_cons (je_str) (ja_cons (je_var 2) ja_nil)))) (jb_one (js_ret (je_tup (ja_cons (je_var 1) ja_nil)))) jb_nil) (jb_one (js_if ((jw_and (jt_cmp (o_eq hu) (je_ix hu (je_var 1) (je_int)) (je_str)) (jw_and1 (jt_cmp (o_in hu) (je_tup (ja_cons (je_tup (ja_cons (je_str) (ja_cons (je_var 2) ja_nil))) (ja_cons (je_ix hu (je_var 1) (je_int)) ja_nil))) (je_var 0)))).pt) (jb_one (js_ret (je_tup (ja_cons (je_var 1) (ja_cons (je_tup (ja_cons (je_str) (ja_cons (je_var 2) ja_nil))) ja_nil))))) jb_nil)))) (jb_one (js_ret (je_non))))
/-! ### neighbours_in -/
abbrev st_neighbours_in : Stmt := top 14
abbrev N_neighbours_in : List Str := ["ties", "found", "holder", "talk"]
theorem sc_neighbours_in : FnScope N_neighbours_in ["ties"] (defScope st_neighbours_in) := ⟨rfl, rfl, rfl, by decide +kernel, rfl, by decide +kernel, by decide +kernel⟩
def b_neighbours_in : CS := (sSeq (sAsg (cDnew true) (gVar 1)) (sSeq (sFor (cSeq (cVar 0)) (gUnp 2 (gsCons (gVar 2) (gsCons (gVar 3) gsNil))) (sSeq (sExpr (cM mAppend (cSetd (cVar 1) (cVar 2) (cLst lNil)) (lCons (cTup (lCons (cC (.str "talk")) (lCons (cVar 3) lNil))) lNil))) (sExpr (cM mAppend (cSetd (cVar 1) (cTup (lCons (cC (.str "talk")) (lCons (cVar 3) lNil))) (cLst lNil)) (lCons (cVar 2) lNil))))) (sRet (cVar 1))))
def f_neighbours_in : List A → M A := fnRun 1 4 b_neighbours_in
theorem ok_neighbours_in (B : Blt mg) (D : Df K mg "neighbours_in" st_neighbours_in ["ties"]) : Ok P w K mg base 1 "neighbours_in" ["ties"] f_neighbours_in := by
  have nd := sc_neighbours_in.nd
  refine okD (x := "neighbours_in") (st := st_neighbours_in) (N := N_neighbours_in) (ps := ["ties"]) (k := 0) (b := b_neighbours_in) D sc_neighbours_in fun f cdv A outer s H E hr => ?_
  have hu := hu65 hr
  exact (jb_cons (js_set 1 nd (je_dnewT)) (jb_cons (js_for (passes_of rfl) rfl (ji_seq (je_var 0)) (jg_unp rfl (jgs_cons (jg_var 2 nd) (jgs_cons (jg_var 3 nd) jgs_nil))) (jb_cons (js_expr (je_m PySem.F.slot_list_append PySem.F.type_list_append (m_append) (je_setd hu (je_var 1) (je_var 2) (je_lst ja_nil) ⟨rfl, rfl, rfl, rfl⟩) (ja_cons (je_tup (ja_cons (je_str) (ja_cons (je_var 3) ja_nil))) ja_nil))) (jb_one (js_expr (je_m PySem.F.slot_list_append PySem.F.type_list_append (m_append) (je_setd hu (je_var 1) (je_tup (ja_cons (je_str) (ja_cons (je_var 3) ja_nil))) (je_lst ja_nil) ⟨rfl, rfl, rfl, rfl⟩) (ja_cons (je_var 2) ja_nil)))))) (jb_one (js_ret (je_var 1)))))
/-! ### without_leaves -/
abbrev st_without_leaves : Stmt := top 15
abbrev N_without_leaves : List Str := ["neighbours", "left", "before", "kept", "node", "one"]
theorem sc_without_leaves : FnScope N_without_leaves ["neighbours"] (defScope st_without_leaves) := ⟨rfl, rfl, rfl, by decide +kernel, rfl, by decide +kernel, by decide +kernel⟩
def b_without_leaves : CS := (sSeq (sAsg (cTup (lCons (cVar 0) (lCons (cC .non) lNil))) (gUnp 2 (gsCons (gVar 1) (gsCons (gVar 2) gsNil)))) (sSeq (sWhile (bOf (c2 oNeD (cVar 1) (cVar 2))) (sSeq (sAsg (cVar 1) (gVar 2)) (sSeq (sAsg (cLock (cVar 2) (cLc (cKeys (cVar 2)) (gVar 4) (bOf (c2 oGt (cB bLen (lCons (c2 oIx (cVar 2) (cVar 4)) lNil)) (cC (.int 1)))) (cVar 4) [4])) (gVar 3)) (sAsg (cDc (cSeq (cVar 3)) (gVar 4) bYes (cVar 4) (cLc (cSeq (c2 oIx (cVar 2) (cVar 4))) (gVar 5) (bOf (c2 (oIn false) (cVar 5) (cVar 3))) (cVar 5) [5]) [4] true) (gVar 1)))) fuel) (sRet (cVar 1))))
def f_without_leaves : List A → M A := fnRun 1 6 b_without_leaves
theorem ok_without_leaves (B : Blt mg) (D : Df K mg "without_leaves" st_without_leaves ["neighbours"]) : Ok P w K mg base 1 "without_leaves" ["neighbours"] f_without_leaves := by
  have nd := sc_without_leaves.nd
  refine okD (x := "without_leaves") (st := st_without_leaves) (N := N_without_leaves) (ps := ["neighbours"]) (k := 0) (b := b_without_leaves) D sc_without_leaves fun f cdv A outer s H E hr => ?_
  have hu := hu65 hr
  exact (jb_cons (js_asg (je_tup (ja_cons (je_var 0) (ja_cons (je_non) ja_nil))) (jg_unp rfl (jgs_cons (jg_var 1 nd) (jgs_cons (jg_var 2 nd) jgs_nil)))) (jb_cons (js_while (passes_of rfl) (jt_cmp (o_neD hu) (je_var 1) (je_var 2)) (jb_cons (js_set 2 nd (je_var 1)) (jb_cons (js_set 3 nd (je_lock (je_lc (own := [("node", 4)]) rfl nd (ji_keys (je_var 2)) (blkOk_by (N := N_without_leaves) (sc := (defScope st_without_leaves)) (by decide +kernel)) (inn_var) (fun _ _ _ _ _ => (jg_var 4 nd)) (fun _ _ _ _ _ => jts_one (jt_cmp o_gt (je_callB b_len B.len (by rfl) (ja_cons (je_ix hu (je_var 2) (je_var 4)) ja_nil)) (je_int))) (fun _ _ _ _ _ => (je_var 4))))) (jb_one (js_setDc (own := [("node", 4)]) 1 true hu rfl nd (ji_seq (je_var 3)) (blkOk_by (N := N_without_leaves) (sc := (defScope st_without_leaves)) (by decide +kernel)) (inn_var) (fun _ _ _ _ _ => (jg_var 4 nd)) (fun _ _ _ _ _ => jts_nil) (fun _ _ _ _ _ => (je_var 4)) (fun _ _ _ _ _ => (je_lc (own := [("one", 5)]) rfl nd (ji_seq (je_ix hu (je_var 2) (je_var 4))) (blkOk_by (N := N_without_leaves) (sc := (L2.relS (scL [(".0", .local), ("node", .local), ("before", .free), ("kept", .free)]) (defScope st_without_leaves))) (by decide +kernel)) (inn_var) (fun _ _ _ _ _ => (jg_var 5 nd)) (fun _ _ _ _ _ => jts_one (jt_cmp (o_in hu) (je_var 5) (je_var 3))) (fun _ _ _ _ _ => (je_var 5)))) (sw_dict rfl rfl rfl (by decide +kernel))))))) (jb_one (js_ret (je_var 1)))))
/-! ### long_ring -/
abbrev st_long_ring : Stmt := top 16
abbrev N_long_ring : List Str := ["neighbours", "walk", "back", "one"]
theorem sc_long_ring : FnScope N_long_ring ["neighbours"] (defScope st_long_ring) := ⟨rfl, rfl, rfl, by decide +kernel, rfl, by decide +kernel, by decide +kernel⟩
def b_long_ring : CS := (sSeq (sAsg (cLst (lCons (cB oMinD (lCons (cVar 0) lNil)) lNil)) (gVar 1)) (sSeq (sWhile (bOf (c2 (oIn true) (c2 oIx (cVar 1) (c1 oNeg (cC (.int 1)))) (cSl (cVar 1) oNo (oAt (c1 oNeg (cC (.int 1))))))) (sSeq (sAsg (cSl (cVar 1) (oAt (c1 oNeg (cC (.int 2)))) (oAt (c1 oNeg (cC (.int 1))))) (gVar 2)) (sExpr (cM mAppend (cVar 1) (lCons (c2 oIx (cLc (cSeq (c2 oIx (cVar 0) (c2 oIx (cVar 1) (c1 oNeg (cC (.int 1)))))) (gVar 3) (bOf (c2 (oEq true) (cLst (lCons (cVar 3) lNil)) (cVar 2))) (cVar 3) [3]) (cC (.int 0))) lNil)))) fuel) (sRet (cB bTuple (lCons (cSl (cVar 1) (oAt (cM mIndex (cVar 1) (lCons (c2 oIx (cVar 1) (c1 oNeg (cC (.int 1)))) lNil))) (oAt (c1 oNeg (cC (.int 1))))) lNil)))))
def f_long_ring : List A → M A := fnRun 1 4 b_long_ring
theorem ok_long_ring (B : Blt mg) (D : Df K mg "long_ring" st_long_ring ["neighbours"]) : Ok P w K mg base 1 "long_ring" ["neighbours"] f_long_ring := by
  have nd := sc_long_ring.nd
  refine okD (x := "long_ring") (st := st_long_ring) (N := N_long_ring) (ps := ["neighbours"]) (k := 0) (b := b_long_ring) D sc_long_ring fun f cdv A outer s H E hr => ?_
  have hu := hu65 hr
  exact (jb_cons (js_set 1 nd (je_lst (ja_cons (je_callB (b_minD rfl hu) B.min (by rfl) (ja_cons (je_var 0) ja_nil)) ja_nil))) (jb_cons (js_while (passes_of rfl) (jt_cmp (o_notin hu) (je_ix hu (je_var 1) (je_neg (je_int))) (je_slice (je_var 1) jo_no (jo_at (je_neg (je_int))))) (jb_cons (js_set 2 nd (je_slice (je_var 1) (jo_at (je_neg (je_int))) (jo_at (je_neg (je_int))))) (jb_one (js_expr (je_m PySem.F.slot_list_append PySem.F.type_list_append (m_append) (je_var 1) (ja_cons (je_ix hu (je_lc (own := [("one", 3)]) rfl nd (ji_seq (je_ix hu (je_var 0) (je_ix hu (je_var 1) (je_neg (je_int))))) (blkOk_by (N := N_long_ring) (sc := (defScope st_long_ring)) (by decide +kernel)) (inn_var) (fun _ _ _ _ _ => (jg_var 3 nd)) (fun _ _ _ _ _ => jts_one (jt_cmp (o_ne hu) (je_lst (ja_cons (je_var 3) ja_nil)) (je_var 2))) (fun _ _ _ _ _ => (je_var 3))) (je_int)) ja_nil)))))) (jb_one (js_ret (je_callTy b_tuple B.tuple (by rfl) (ja_cons (je_slice (je_var 1) (jo_at (je_m PySem.F.slot_list_index PySem.F.type_list_index (m_index hu) (je_var 1) (ja_cons (je_ix hu (je_var 1) (je_neg (je_int))) ja_nil))) (jo_at (je_neg (je_int)))) ja_nil))))))
/-! ### found_ring -/
abbrev st_found_ring : Stmt := top 17
abbrev N_found_ring : List Str := ["ties", "ring", "left"]
theorem sc_found_ring : FnScope N_found_ring ["ties"] (defScope st_found_ring) := ⟨rfl, rfl, rfl, by decide +kernel, rfl, by decide +kernel, by decide +kernel⟩
def b_found_ring : CS := (sSeq (sAsg (cCall 1 f_short_ring (lCons (cVar 0) lNil)) (gVar 1)) (sSeq (sIf (bOf (c2 (oIs true) (cVar 1) (cC .non))) (sRet (cVar 1)) sNext) (sSeq (sAsg (cCall 1 f_without_leaves (lCons (cCall 1 f_neighbours_in (lCons (cVar 0) lNil)) lNil)) (gVar 2)) (sRet (cIf (bOf (c2 oNeD (cVar 2) (cDnew true))) (cCall 1 f_long_ring (lCons (cVar 2) lNil)) (cC .non))))))
def f_found_ring : List A → M A := fnRun 1 3 b_found_ring
theorem ok_found_ring (B : Blt mg) (D : Df K mg "found_ring" st_found_ring ["ties"]) (O_short_ring : Ok P w K mg base 1 "short_ring" ["ties"] f_short_ring) (O_neighbours_in : Ok P w K mg base 1 "neighbours_in" ["ties"] f_neighbours_in) (O_without_leaves : Ok P w K mg base 1 "without_leaves" ["neighbours"] f_without_leaves) (O_long_ring : Ok P w K mg base 1 "long_ring" ["neighbours"] f_long_ring) : Ok P w K mg base 2 "found_ring" ["ties"] f_found_ring := by
  have nd := sc_found_ring.nd
  refine okD (x := "found_ring") (st := st_found_ring) (N := N_found_ring) (ps := ["ties"]) (k := 1) (b := b_found_ring) D sc_found_ring fun f cdv A outer s H E hr => ?_
  have hu := hu65 hr
  exact (jb_cons (js_set 1 nd (je_fn O_short_ring hr (takes_of rfl rfl rfl rfl) (ja_cons (je_var 0) ja_nil))) (jb_cons (js_if (jt_cmp o_isnot (je_var 1) (je_non)) (jb_one (js_ret (je_var 1))) jb_nil) (jb_cons (js_set 2 nd (je_fn O_without_leaves hr (takes_of rfl rfl rfl rfl) (ja_cons (je_fn O_neighbours_in hr (takes_of rfl rfl rfl rfl) (ja_cons (je_var 0) ja_nil)) ja_nil))) (jb_one (js_ret (je_ifExp (jt_cmp (o_neD hu) (je_var 2) (je_dnewT)) (je_fn O_long_ring hr (takes_of rfl rfl rfl rfl) (ja_cons (je_var 2) ja_nil)) (je_non)))))))
/-! ### ring_in -/
abbrev st_ring_in : Stmt := top 19
abbrev N_ring_in : List Str := ["ties"]
theorem sc_ring_in : FnScope N_ring_in ["ties"] (defScope st_ring_in) := ⟨rfl, rfl, rfl, by decide +kernel, rfl, by decide +kernel, by decide +kernel⟩
def b_ring_in : CS := (sSeq (sExpr (cCall 1 f_need_ties (lCons (cVar 0) lNil))) (sRet (cCall 1 f_found_ring (lCons (cVar 0) lNil))))
def f_ring_in : List A → M A := fnRun 1 1 b_ring_in
theorem ok_ring_in (B : Blt mg) (D : Df K mg "ring_in" st_ring_in ["ties"]) (O_need_ties : Ok P w K mg base 3 "need_ties" ["value"] f_need_ties) (O_found_ring : Ok P w K mg base 2 "found_ring" ["ties"] f_found_ring) : Ok P w K mg base 4 "ring_in" ["ties"] f_ring_in := by
  have nd := sc_ring_in.nd
  refine okD (x := "ring_in") (st := st_ring_in) (N := N_ring_in) (ps := ["ties"]) (k := 3) (b := b_ring_in) D sc_ring_in fun f cdv A outer s H E hr => ?_
  have hu := hu65 hr
  exact (jb_cons (js_expr (je_fn O_need_ties hr (takes_of rfl rfl rfl rfl) (ja_cons (je_var 0) ja_nil))) (jb_one (js_ret (je_fn O_found_ring hr (takes_of rfl rfl rfl rfl) (ja_cons (je_var 0) ja_nil)))))
/-! ### are_tied -/
abbrev st_are_tied : Stmt := top 12
abbrev N_are_tied : List Str := ["ties", "one", "other"]
theorem sc_are_tied : FnScope N_are_tied ["ties", "one", "other"] (defScope st_are_tied) := ⟨rfl, rfl, rfl, by decide +kernel, rfl, by decide +kernel, by decide +kernel⟩
def b_are_tied : CS := (sRet (cOr (cAnd (c2 (oEq false) (c2 oIx (cVar 2) (cC (.int 0))) (cC (.str "talk"))) (c2 (oIn false) (cTup (lCons (cVar 1) (lCons (c2 oIx (cVar 2) (cC (.int 1))) lNil))) (cVar 0))) (cAnd (c2 (oEq false) (c2 oIx (cVar 1) (cC (.int 0))) (cC (.str "talk"))) (c2 (oIn false) (cTup (lCons (cVar 2) (lCons (c2 oIx (cVar 1) (cC (.int 1))) lNil))) (cVar 0)))))
def f_are_tied : List A → M A := fnRun 3 3 b_are_tied
theorem ok_are_tied (B : Blt mg) (D : Df K mg "are_tied" st_are_tied ["ties", "one", "other"]) : Ok P w K mg base 1 "are_tied" ["ties", "one", "other"] f_are_tied := by
  have nd := sc_are_tied.nd
  refine okD (x := "are_tied") (st := st_are_tied) (N := N_are_tied) (ps := ["ties", "one", "other"]) (k := 0) (b := b_are_tied) D sc_are_tied fun f cdv A outer s H E hr => ?_
  have hu := hu65 hr
  exact (jb_one (js_ret (je_or (je_and (je_cmp (o_eq hu) (je_ix hu (je_var 2) (je_int)) (je_str)) (je_one (je_cmp (o_in hu) (je_tup (ja_cons (je_var 1) (ja_cons (je_ix hu (je_var 2) (je_int)) ja_nil))) (je_var 0)))) (je_one (je_and (je_cmp (o_eq hu) (je_ix hu (je_var 1) (je_int)) (je_str)) (je_one (je_cmp (o_in hu) (je_tup (ja_cons (je_var 2) (ja_cons (je_ix hu (je_var 1) (je_int)) ja_nil))) (je_var 0))))))))
/-! ### fits_ring -/
abbrev st_fits_ring : Stmt := top 18
abbrev N_fits_ring : List Str := ["ties", "value", "turned", "one", "other", "node"]
theorem sc_fits_ring : FnScope N_fits_ring ["ties", "value"] (defScope st_fits_ring) := ⟨rfl, rfl, rfl, by decide +kernel, rfl, by decide +kernel, by decide +kernel⟩
def b_fits_ring : CS := (sSeq (sIf (bOr (bNot (bOf (cCall 3 f_is_tuple_of (lCons (cVar 1) (lCons (cC (.int 1)) (lCons (cC (.int 400)) lNil)))))) (bOr (bNot (bOf (cB bAll (lCons (cLc (cSeq (cVar 1)) (gVar 5) bYes (cCall 1 f_is_node (lCons (cVar 5) lNil)) [5]) lNil)))) (bNot (bOf (cCall 1 f_are_unlike (lCons (cVar 1) lNil)))))) (sRet (cC (.bl false))) sNext) (sSeq (sIf (bOf (c2 oLt (cB bLen (lCons (cVar 1) lNil)) (cC (.int 3)))) (sSeq (sAsg (c2 oAdd (cSl (cVar 1) (oAt (cC (.int 1))) oNo) (cSl (cVar 1) oNo (oAt (cC (.int 1))))) (gVar 2)) (sRet (cB bAll (lCons (cLc (cZip (lCons (cVar 1) (lCons (cVar 2) lNil))) (gUnp 2 (gsCons (gVar 3) (gsCons (gVar 4) gsNil))) bYes (cAnd (c2 (oEq false) (c2 oIx (cVar 4) (cC (.int 0))) (cC (.str "talk"))) (c2 (oIn false) (cTup (lCons (cVar 3) (lCons (c2 oIx (cVar 4) (cC (.int 1))) lNil))) (cVar 0))) [3, 4]) lNil)))) sNext) (sRet (cB bAll (lCons (cLc (cZip (lCons (cVar 1) (lCons (c2 oAdd (cSl (cVar 1) (oAt (cC (.int 1))) oNo) (cSl (cVar 1) oNo (oAt (cC (.int 1))))) lNil))) (gUnp 2 (gsCons (gVar 3) (gsCons (gVar 4) gsNil))) bYes (cCall 3 f_are_tied (lCons (cVar 0) (lCons (cVar 3) (lCons (cVar 4) lNil)))) [3, 4]) lNil)))))
def f_fits_ring : List A → M A := fnRun 2 6 b_fits_ring
theorem ok_fits_ring (B : Blt mg) (D : Df K mg "fits_ring" st_fits_ring ["ties", "value"]) (O_is_tuple_of : Ok P w K mg base 1 "is_tuple_of" ["value", "low", "high"] f_is_tuple_of) (O_are_unlike : Ok P w K mg base 1 "are_unlike" ["items"] f_are_unlike) (O_is_node : Ok P w K mg base 2 "is_node" ["value"] f_is_node) (O_are_tied : Ok P w K mg base 1 "are_tied" ["ties", "one", "other"] f_are_tied) : Ok P w K mg base 3 "fits_ring" ["ties", "value"] f_fits_ring := by
  have nd := sc_fits_ring.nd
  refine okD (x := "fits_ring") (st := st_fits_ring) (N := N_fits_ring) (ps := ["ties", "value"]) (k := 2) (b := b_fits_ring) D sc_fits_ring fun f cdv A outer s H E hr => ?_
  have hu := hu65 hr
  exact (jb_cons (js_if ((jw_or (jt_not (jt_val (je_fn O_is_tuple_of hr (takes_of rfl rfl rfl rfl) (ja_cons (je_var 1) (ja_cons (je_int) (ja_cons (je_gi B.TIES) ja_nil)))))) (jw_or (jt_not (jt_val (je_callB (b_all rfl) B.all (by rfl) (ja_cons (je_lc (own := [("node", 5)]) rfl nd (ji_seq (je_var 1)) (blkOk_by (N := N_fits_ring) (sc := (defScope st_fits_ring)) (by decide +kernel)) (inn_var) (fun _ _ _ _ _ => (jg_var 5 nd)) (fun _ _ _ _ _ => jts_nil) (fun _ _ _ _ _ => (je_fn O_is_node hr takes0 (ja_cons (je_var 5) ja_nil)))) ja_nil)))) (jw_or1 (jt_not (jt_val (je_fn O_are_unlike hr (takes_of rfl rfl rfl rfl) (ja_cons (je_var 1) ja_nil))))))).pt) (jb_one (js_ret (je_bl))) jb_nil) (jb_cons (js_if (jt_cmp o_lt (je_callB b_len B.len (by rfl) (ja_cons (je_var 1) ja_nil)) (je_int)) (jb_cons (js_set 2 nd (je_bin o_add (je_slice (je_var 1) (jo_at (je_int)) jo_no) (je_slice (je_var 1) jo_no (jo_at (je_int))))) (jb_one (js_ret (je_callB (b_all rfl) B.all (by rfl) (ja_cons (je_lc (own := [("one", 3), ("other", 4)]) rfl nd (ji_zip B.zip (ja_cons (je_var 1) (ja_cons (je_var 2) ja_nil))) (blkOk_by (N := N_fits_ring) (sc := (defScope st_fits_ring)) (by decide +kernel)) (inn_unp (inns_cons (inn_var) (inns_cons (inn_var) inns_nil))) (fun _ _ _ _ _ => (jg_unp rfl (jgs_cons (jg_var 3 nd) (jgs_cons (jg_var 4 nd) jgs_nil)))) (fun _ _ _ _ _ => jts_nil) (fun _ _ _ _ _ => (je_and (je_cmp (o_eq hu) (je_ix hu (je_var 4) (je_int)) (je_str)) (je_one (je_cmp (o_in hu) (je_tup (ja_cons (je_var 3) (ja_cons (je_ix hu (je_var 4) (je_int)) ja_nil))) (je_var 0)))))) ja_nil))))) jb_nil) (jb_one (js_ret (je_callB (b_all rfl) B.all (by rfl) (ja_cons (je_lc (own := [("one", 3), ("other", 4)]) rfl nd (ji_zip B.zip (ja_cons (je_var 1) (ja_cons (je_bin o_add (je_slice (je_var 1) (jo_at (je_int)) jo_no) (je_slice (je_var 1) jo_no (jo_at (je_int)))) ja_nil))) (blkOk_by (N := N_fits_ring) (sc := (defScope st_fits_ring)) (by decide +kernel)) (inn_unp (inns_cons (inn_var) (inns_cons (inn_var) inns_nil))) (fun _ _ _ _ _ => (jg_unp rfl (jgs_cons (jg_var 3 nd) (jgs_cons (jg_var 4 nd) jgs_nil)))) (fun _ _ _ _ _ => jts_nil) (fun _ _ _ _ _ => (je_fn O_are_tied hr takes0 (ja_cons (je_var 0) (ja_cons (je_var 3) (ja_cons (je_var 4) ja_nil)))))) ja_nil))))))
/-! ### is_ring -/
abbrev st_is_ring : Stmt := top 20
abbrev N_is_ring : List Str := ["ties", "value"]
theorem sc_is_ring : FnScope N_is_ring ["ties", "value"] (defScope st_is_ring) := ⟨rfl, rfl, rfl, by decide +kernel, rfl, by decide +kernel, by decide +kernel⟩
def b_is_ring : CS := (sSeq (sExpr (cCall 1 f_need_ties (lCons (cVar 0) lNil))) (sRet (cCall 2 f_fits_ring (lCons (cVar 0) (lCons (cVar 1) lNil)))))
def f_is_ring : List A → M A := fnRun 2 2 b_is_ring
theorem ok_is_ring (B : Blt mg) (D : Df K mg "is_ring" st_is_ring ["ties", "value"]) (O_need_ties : Ok P w K mg base 3 "need_ties" ["value"] f_need_ties) (O_fits_ring : Ok P w K mg base 3 "fits_ring" ["ties", "value"] f_fits_ring) : Ok P w K mg base 4 "is_ring" ["ties", "value"] f_is_ring := by
  have nd := sc_is_ring.nd
  refine okD (x := "is_ring") (st := st_is_ring) (N := N_is_ring) (ps := ["ties", "value"]) (k := 3) (b := b_is_ring) D sc_is_ring fun f cdv A outer s H E hr => ?_
  have hu := hu65 hr
  exact (jb_cons (js_expr (je_fn O_need_ties hr (takes_of rfl rfl rfl rfl) (ja_cons (je_var 0) ja_nil))) (jb_one (js_ret (je_fn O_fits_ring hr (takes_of rfl rfl rfl rfl) (ja_cons (je_var 0) (ja_cons (je_var 1) ja_nil))))))
/-! ### _law_cup -/
abbrev st__law_cup : Stmt := top 22
abbrev N__law_cup : List Str := ["script", "cell"]
theorem sc__law_cup : FnScope N__law_cup ["script"] (defScope st__law_cup) := ⟨rfl, rfl, rfl, by decide +kernel, rfl, by decide +kernel, by decide +kernel⟩
def b__law_cup : CS := (sSeq (sAsg (cB bAbs (lCons (c2 oIx (c2 oAdd (cB bList (lCons (cVar 0) lNil)) (cLst (lCons (cC (.int 0)) lNil))) (cC (.int 0))) lNil)) (gVar 1)) (sRet (cLst (lCons (cIf (bOf (c2 oGe (cVar 1) (c2 oPow (cC (.int 10)) (cC (.int 18))))) (c2 oDiv (cVar 1) (cC (.int 73))) (cC (.int 0))) (lCons (c2 oAdd (c2 oMod (cB bInt (lCons (c2 oAdd (c2 oMul (cVar 1) (cC (.int 283))) (cC (.int 2801))) lNil)) (cC (.int 2077503139))) (cC (.int 173))) lNil)))))
def f__law_cup : List A → M A := fnRun 1 2 b__law_cup
theorem ok__law_cup (B : Blt mg) (D : Df K mg "_law_cup" st__law_cup ["script"]) : Ok P w K mg base 1 "_law_cup" ["script"] f__law_cup := by
  have nd := sc__law_cup.nd
  refine okD (x := "_law_cup") (st := st__law_cup) (N := N__law_cup) (ps := ["script"]) (k := 0) (b := b__law_cup) D sc__law_cup fun f cdv A outer s H E hr => ?_
  have hu := hu65 hr
  exact (jb_cons (js_set 1 nd (je_callB b_abs B.abs (by rfl) (ja_cons (je_ix hu (je_bin o_add (je_callTy b_list B.list (by rfl) (ja_cons (je_var 0) ja_nil)) (je_lst (ja_cons (je_int) ja_nil))) (je_int)) ja_nil))) (jb_one (js_ret (je_lst (ja_cons (je_ifExp (jt_cmp o_ge (je_var 1) (je_bin o_pow (je_int) (je_int))) (je_bin o_div (je_var 1) (je_int)) (je_int)) (ja_cons (je_bin o_add (je_bin o_mod (je_callTy b_int B.int (by rfl) (ja_cons (je_bin o_add (je_bin o_mul (je_var 1) (je_int)) (je_int)) ja_nil)) (je_int)) (je_int)) ja_nil))))))
/-! ### _law_roll -/
abbrev st__law_roll : Stmt := top 23
abbrev N__law_roll : List Str := ["cup", "many", "found", "deep"]
theorem sc__law_roll : FnScope N__law_roll ["cup", "many"] (defScope st__law_roll) := ⟨rfl, rfl, rfl, by decide +kernel, rfl, by decide +kernel, by decide +kernel⟩
def b__law_roll : CS := (sSeq (sIf (bOf (c2 oGt (c2 oIx (cVar 0) (cC (.int 0))) (cC (.int 0)))) (sSeq (sAsg (c2 oMod (cB bInt (lCons (c2 oIx (cVar 0) (cC (.int 0))) lNil)) (cVar 1)) (gVar 2)) (sSeq (sPut (c2 oDiv (c2 oIx (cVar 0) (cC (.int 0))) (cVar 1)) (cVar 0) (cC (.int 0))) (sRet (cVar 2)))) sNext) (sSeq (sPut (c2 oMod (cB bInt (lCons (c2 oAdd (c2 oMul (c2 oIx (cVar 0) (cC (.int 1))) (cC (.int 31063))) (cC (.int 8011))) lNil)) (cC (.int 2147483497))) (cVar 0) (cC (.int 1))) (sSeq (sAsg (c2 oMod (cB bInt (lCons (c2 oMul (c2 oIx (cVar 0) (cC (.int 1))) (c2 oAdd (c2 oIx (cVar 0) (cC (.int 1))) (cC (.int 239)))) lNil)) (cC (.int 2147483587))) (gVar 3)) (sRet (c2 oMod (cB bInt (lCons (c2 oDiv (cVar 3) (cC (.int 827))) lNil)) (cVar 1))))))
def f__law_roll : List A → M A := fnRun 2 4 b__law_roll
theorem ok__law_roll (B : Blt mg) (D : Df K mg "_law_roll" st__law_roll ["cup", "many"]) : Ok P w K mg base 1 "_law_roll" ["cup", "many"] f__law_roll := by
  have nd := sc__law_roll.nd
  refine okD (x := "_law_roll") (st := st__law_roll) (N := N__law_roll) (ps := ["cup", "many"]) (k := 0) (b := b__law_roll) D sc__law_roll fun f cdv A outer s H E hr => ?_
  have hu := hu65 hr
  exact (jb_cons (js_if (jt_cmp o_gt (je_ix hu (je_var 0) (je_int)) (je_int)) (jb_cons (js_set 2 nd (je_bin o_mod (je_callTy b_int B.int (by rfl) (ja_cons (je_ix hu (je_var 0) (je_int)) ja_nil)) (je_var 1))) (jb_cons (js_put hu (je_bin o_div (je_ix hu (je_var 0) (je_int)) (je_var 1)) (je_var 0) (je_int)) (jb_one (js_ret (je_var 2))))) jb_nil) (jb_cons (js_put hu (je_bin o_mod (je_callTy b_int B.int (by rfl) (ja_cons (je_bin o_add (je_bin o_mul (je_ix hu (je_var 0) (je_int)) (je_int)) (je_int)) ja_nil)) (je_int)) (je_var 0) (je_int)) (jb_cons (js_set 3 nd (je_bin o_mod (je_callTy b_int B.int (by rfl) (ja_cons (je_bin o_mul (je_ix hu (je_var 0) (je_int)) (je_bin o_add (je_ix hu (je_var 0) (je_int)) (je_int))) ja_nil)) (je_int))) (jb_one (js_ret (je_bin o_mod (je_callTy b_int B.int (by rfl) (ja_cons (je_bin o_div (je_var 3) (je_int)) ja_nil)) (je_var 1)))))))
/-! ### _law_some -/
abbrev st__law_some : Stmt := top 24
abbrev N__law_some : List Str := ["cup", "things"]
theorem sc__law_some : FnScope N__law_some ["cup", "things"] (defScope st__law_some) := ⟨rfl, rfl, rfl, by decide +kernel, rfl, by decide +kernel, by decide +kernel⟩
def b__law_some : CS := (sRet (c2 oIx (cVar 1) (cCall 2 f__law_roll (lCons (cVar 0) (lCons (cB bLen (lCons (cVar 1) lNil)) lNil)))))
def f__law_some : List A → M A := fnRun 2 2 b__law_some
theorem ok__law_some (B : Blt mg) (D : Df K mg "_law_some" st__law_some ["cup", "things"]) (O__law_roll : Ok P w K mg base 1 "_law_roll" ["cup", "many"] f__law_roll) : Ok P w K mg base 2 "_law_some" ["cup", "things"] f__law_some := by
  have nd := sc__law_some.nd
  refine okD (x := "_law_some") (st := st__law_some) (N := N__law_some) (ps := ["cup", "things"]) (k := 1) (b := b__law_some) D sc__law_some fun f cdv A outer s H E hr => ?_
  have hu := hu65 hr
  exact (jb_one (js_ret (je_ix hu (je_var 1) (je_fn O__law_roll hr (takes_of rfl rfl rfl rfl) (ja_cons (je_var 0) (ja_cons (je_callB b_len B.len (by rfl) (ja_cons (je_var 1) ja_nil)) ja_nil))))))
/-! ### _law_drawn_ties -/
abbrev st__law_drawn_ties : Stmt := top 25
abbrev N__law_drawn_ties : List Str := ["cup", "found", "turn", "holder", "tie"]
theorem sc__law_drawn_ties : FnScope N__law_drawn_ties ["cup"] (defScope st__law_drawn_ties) := ⟨rfl, rfl, rfl, by decide +kernel, rfl, by decide +kernel, by decide +kernel⟩
def b__law_drawn_ties : CS := (sSeq (sAsg (cLst lNil) (gVar 1)) (sSeq (sFor (cRng1 (lCons (cCall 2 f__law_some (lCons (cVar 0) (lCons (cLst (lCons (cC (.int 0)) (lCons (cC (.int 1)) (lCons (cC (.int 2)) (lCons (cC (.int 4)) (lCons (cC (.int 7)) (lCons (cC (.int 14)) lNil))))))) lNil))) lNil)) (gVar 2) (sSeq (sAsg (cTup (lCons (cCall 2 f__law_some (lCons (cVar 0) (lCons (cLst (lCons (cC (.str "process")) (lCons (cC (.str "process")) (lCons (cC (.str "talk")) lNil)))) lNil))) (lCons (cCall 2 f__law_roll (lCons (cVar 0) (lCons (cIf (bOf (c2 oLt (cVar 2) (cC (.int 9)))) (cC (.int 12)) (cC (.int 5))) lNil))) lNil))) (gVar 3)) (sSeq (sAsg (cTup (lCons (cVar 3) (lCons (cCall 2 f__law_roll (lCons (cVar 0) (lCons (cIf (bOf (c2 oLt (cVar 2) (cC (.int 9)))) (cC (.int 12)) (cC (.int 5))) lNil))) lNil))) (gVar 4)) (sAsg (c2 oAdd (cVar 1) (cIf (bOf (c2 (oIn true) (cVar 4) (cVar 1))) (cLst (lCons (cVar 4) lNil)) (cLst lNil))) (gVar 1))))) (sRet (cB bTuple (lCons (cVar 1) lNil)))))
def f__law_drawn_ties : List A → M A := fnRun 1 5 b__law_drawn_ties
theorem ok__law_drawn_ties (B : Blt mg) (D : Df K mg "_law_drawn_ties" st__law_drawn_ties ["cup"]) (O__law_roll : Ok P w K mg base 1 "_law_roll" ["cup", "many"] f__law_roll) (O__law_some : Ok P w K mg base 2 "_law_some" ["cup", "things"] f__law_some) : Ok P w K mg base 3 "_law_drawn_ties" ["cup"] f__law_drawn_ties := by
  have nd := sc__law_drawn_ties.nd
  refine okD (x := "_law_drawn_ties") (st := st__law_drawn_ties) (N := N__law_drawn_ties) (ps := ["cup"]) (k := 2) (b := b__law_drawn_ties) D sc__law_drawn_ties fun f cdv A outer s H E hr => ?_
  have hu := hu65 hr
  exact (jb_cons (js_set 1 nd (je_lst ja_nil)) (jb_cons (js_for (passes_of rfl) rfl (ji_range1 B.range (ja_cons (je_fn O__law_some hr (takes_of rfl rfl rfl rfl) (ja_cons (je_var 0) (ja_cons (je_lst (ja_cons (je_int) (ja_cons (je_int) (ja_cons (je_int) (ja_cons (je_int) (ja_cons (je_int) (ja_cons (je_int) ja_nil))))))) ja_nil))) ja_nil)) (jg_var 2 nd) (jb_cons (js_set 3 nd (je_tup (ja_cons (je_fn O__law_some hr (takes_of rfl rfl rfl rfl) (ja_cons (je_var 0) (ja_cons (je_lst (ja_cons (je_str) (ja_cons (je_str) (ja_cons (je_str) ja_nil)))) ja_nil))) (ja_cons (je_fn O__law_roll hr (takes_of rfl rfl rfl rfl) (ja_cons (je_var 0) (ja_cons (je_ifExp (jt_cmp o_lt (je_var 2) (je_int)) (je_int) (je_int)) ja_nil))) ja_nil)))) (jb_cons (js_set 4 nd (je_tup (ja_cons (je_var 3) (ja_cons (je_fn O__law_roll hr (takes_of rfl rfl rfl rfl) (ja_cons (je_var 0) (ja_cons (je_ifExp (jt_cmp o_lt (je_var 2) (je_int)) (je_int) (je_int)) ja_nil))) ja_nil)))) (jb_one (js_set 1 nd (je_bin o_add (je_var 1) (je_ifExp (jt_cmp (o_notin hu) (je_var 4) (je_var 1)) (je_lst (ja_cons (je_var 4) ja_nil)) (je_lst ja_nil)))))))) (jb_one (js_ret (je_callTy b_tuple B.tuple (by rfl) (ja_cons (je_var 1) ja_nil))))))
/-! ### _law_is_forest -/
abbrev st__law_is_forest : Stmt := top 26
abbrev N__law_is_forest : List Str := ["ties", "groups", "holder", "talk", "one", "other", "group"]
theorem sc__law_is_forest : FnScope N__law_is_forest ["ties"] (defScope st__law_is_forest) := ⟨rfl, rfl, rfl, by decide +kernel, rfl, by decide +kernel, by decide +kernel⟩
def b__law_is_forest : CS := (sSeq (sAsg (cLst lNil) (gVar 1)) (sSeq (sFor (cSeq (cVar 0)) (gUnp 2 (gsCons (gVar 2) (gsCons (gVar 3) gsNil))) (sSeq (sAsg (c2 oAdd (cLc (cSeq (cVar 1)) (gVar 6) (bOf (c2 (oIn false) (cVar 2) (cVar 6))) (cVar 6) [6]) (cLst (lCons (cLst (lCons (cVar 2) lNil)) lNil))) (gVar 4)) (sSeq (sAsg (c2 oAdd (cLc (cSeq (cVar 1)) (gVar 6) (bOf (c2 (oIn false) (cTup (lCons (cC (.str "talk")) (lCons (cVar 3) lNil))) (cVar 6))) (cVar 6) [6]) (cLst (lCons (cLst (lCons (cTup (lCons (cC (.str "talk")) (lCons (cVar 3) lNil))) lNil)) lNil))) (gVar 5)) (sSeq (sIf (bOf (c2 (oEq false) (c2 oIx (cVar 4) (cC (.int 0))) (c2 oIx (cVar 5) (cC (.int 0))))) (sRet (cC (.bl false))) sNext) (sAsg (c2 oAdd (cLc (cSeq (cVar 1)) (gVar 6) (bAnd (bOf (c2 (oEq true) (cVar 6) (c2 oIx (cVar 4) (cC (.int 0))))) (bOf (c2 (oEq true) (cVar 6) (c2 oIx (cVar 5) (cC (.int 0)))))) (cVar 6) [6]) (cLst (lCons (c2 oAdd (c2 oIx (cVar 4) (cC (.int 0))) (c2 oIx (cVar 5) (cC (.int 0)))) lNil))) (gVar 1)))))) (sRet (cC (.bl true)))))
def f__law_is_forest : List A → M A := fnRun 1 7 b__law_is_forest
theorem ok__law_is_forest (B : Blt mg) (D : Df K mg "_law_is_forest" st__law_is_forest ["ties"]) : Ok P w K mg base 1 "_law_is_forest" ["ties"] f__law_is_forest := by
  have nd := sc__law_is_forest.nd
  refine okD (x := "_law_is_forest") (st := st__law_is_forest) (N := N__law_is_forest) (ps := ["ties"]) (k := 0) (b := b__law_is_forest) D sc__law_is_forest fun f cdv A outer s H E hr => ?_
  have hu := hu65 hr
  exact (jb_cons (js_set 1 nd (je_lst ja_nil)) (jb_cons (js_for (passes_of rfl) rfl (ji_seq (je_var 0)) (jg_unp rfl (jgs_cons (jg_var 2 nd) (jgs_cons (jg_var 3 nd) jgs_nil))) (jb_cons (js_set 4 nd (je_bin o_add (je_lc (own := [("group", 6)]) rfl nd (ji_seq (je_var 1)) (blkOk_by (N := N__law_is_forest) (sc := (defScope st__law_is_forest)) (by decide +kernel)) (inn_var) (fun _ _ _ _ _ => (jg_var 6 nd)) (fun _ _ _ _ _ => jts_one (jt_cmp (o_in hu) (je_var 2) (je_var 6))) (fun _ _ _ _ _ => (je_var 6))) (je_lst (ja_cons (je_lst (ja_cons (je_var 2) ja_nil)) ja_nil)))) (jb_cons (js_set 5 nd (je_bin o_add (je_lc (own := [("group", 6)]) rfl nd (ji_seq (je_var 1)) (blkOk_by (N := N__law_is_forest) (sc := (defScope st__law_is_forest)) (by decide +kernel)) (inn_var) (fun _ _ _ _ _ => (jg_var 6 nd)) (fun _ _ _ _ _ => jts_one (jt_cmp (o_in hu) (je_tup (ja_cons (je_str) (ja_cons (je_var 3) ja_nil))) (je_var 6))) (fun _ _ _ _ _ => (je_var 6))) (je_lst (ja_cons (je_lst (ja_cons (je_tup (ja_cons (je_str) (ja_cons (je_var 3) ja_nil))) ja_nil)) ja_nil)))) (jb_cons (js_if (jt_cmp (o_eq hu) (je_ix hu (je_var 4) (je_int)) (je_ix hu (je_var 5) (je_int))) (jb_one (js_ret (je_bl))) jb_nil) (jb_one (js_set 1 nd (je_bin o_add (je_lc (own := [("group", 6)]) rfl nd (ji_seq (je_var 1)) (blkOk_by (N := N__law_is_forest) (sc := (defScope st__law_is_forest)) (by decide +kernel)) (inn_var) (fun _ _ _ _ _ => (jg_var 6 nd)) (fun _ _ _ _ _ => jts_one ((jw_and (jt_cmp (o_ne hu) (je_var 6) (je_ix hu (je_var 4) (je_int))) (jw_and1 (jt_cmp (o_ne hu) (je_var 6) (je_ix hu (je_var 5) (je_int))))).pt)) (fun _ _ _ _ _ => (je_var 6))) (je_lst (ja_cons (je_bin o_add (je_ix hu (je_var 4) (je_int)) (je_ix hu (je_var 5) (je_int))) ja_nil))))))))) (jb_one (js_ret (je_bl)))))
/-! ### _law_tied -/
abbrev st__law_tied : Stmt := top 27
abbrev N__law_tied : List Str := ["ties", "one", "other", "holder", "talk"]
theorem sc__law_tied : FnScope N__law_tied ["ties", "one", "other"] (defScope st__law_tied) := ⟨rfl, rfl, rfl, by decide +kernel, rfl, by decide +kernel, by decide +kernel⟩
def b__law_tied : CS := (sRet (c2 (oEq true) (cLc (cSeq (cVar 0)) (gUnp 2 (gsCons (gVar 3) (gsCons (gVar 4) gsNil))) (bOf (c2 (oIn false) (cTup (lCons (cVar 3) (lCons (cTup (lCons (cC (.str "talk")) (lCons (cVar 4) lNil))) lNil))) (cLst (lCons (cTup (lCons (cVar 1) (lCons (cVar 2) lNil))) (lCons (cTup (lCons (cVar 2) (lCons (cVar 1) lNil))) lNil))))) (cC (.int 1)) [3, 4]) (cLst lNil)))
def f__law_tied : List A → M A := fnRun 3 5 b__law_tied
theorem ok__law_tied (B : Blt mg) (D : Df K mg "_law_tied" st__law_tied ["ties", "one", "other"]) : Ok P w K mg base 1 "_law_tied" ["ties", "one", "other"] f__law_tied := by
  have nd := sc__law_tied.nd
  refine okD (x := "_law_tied") (st := st__law_tied) (N := N__law_tied) (ps := ["ties", "one", "other"]) (k := 0) (b := b__law_tied) D sc__law_tied fun f cdv A outer s H E hr => ?_
  have hu := hu65 hr
  exact (jb_one (js_ret (je_cmp (o_ne hu) (je_lc (own := [("holder", 3), ("talk", 4)]) rfl nd (ji_seq (je_var 0)) (blkOk_by (N := N__law_tied) (sc := (defScope st__law_tied)) (by decide +kernel)) (inn_unp (inns_cons (inn_var) (inns_cons (inn_var) inns_nil))) (fun _ _ _ _ _ => (jg_unp rfl (jgs_cons (jg_var 3 nd) (jgs_cons (jg_var 4 nd) jgs_nil)))) (fun _ _ _ _ _ => jts_one (jt_cmp (o_in hu) (je_tup (ja_cons (je_var 3) (ja_cons (je_tup (ja_cons (je_str) (ja_cons (je_var 4) ja_nil))) ja_nil))) (je_lst (ja_cons (je_tup (ja_cons (je_var 1) (ja_cons (je_var 2) ja_nil))) (ja_cons (je_tup (ja_cons (je_var 2) (ja_cons (je_var 1) ja_nil))) ja_nil))))) (fun _ _ _ _ _ => (je_int))) (je_lst ja_nil))))
/-! ### _law_is_ring -/
abbrev st__law_is_ring : Stmt := top 28
abbrev N__law_is_ring : List Str := ["ties", "value", "node", "k", "one", "other"]
theorem sc__law_is_ring : FnScope N__law_is_ring ["ties", "value"] (defScope st__law_is_ring) := ⟨rfl, rfl, rfl, by decide +kernel, rfl, by decide +kernel, by decide +kernel⟩
def b__law_is_ring : CS := (sSeq (sIf (bOr (bNot (bOf (cIsi .tuple (cVar 1)))) (bOf (c2 (oEq false) (cVar 1) (cTup lNil)))) (sRet (cC (.bl false))) sNext) (sSeq (sFor (cSeq (cVar 1)) (gVar 2) (sIf (bOr (bNot (bOf (cIsi .tuple (cVar 2)))) (bOr (bOf (c2 (oEq true) (cB bLen (lCons (cVar 2) lNil)) (cC (.int 2)))) (bOr (bOf (c2 (oIn true) (c2 oIx (cVar 2) (cC (.int 0))) (cLst (lCons (cC (.str "process")) (lCons (cC (.str "talk")) lNil))))) (bOf (cIsi .bool (c2 oIx (cVar 2) (cC (.int 1)))))))) (sRet (cC (.bl false))) sNext)) (sSeq (sIf (bOf (c2 oLt (cLenSort (cVar 1)) (cB bLen (lCons (cVar 1) lNil)))) (sRet (cC (.bl false))) sNext) (sSeq (sFor (cRng1 (lCons (cB bLen (lCons (cVar 1) lNil)) lNil)) (gVar 3) (sSeq (sPar 4 5 (lCons (c2 oIx (cVar 1) (cVar 3)) (lCons (c2 oIx (cVar 1) (c2 oMod (cB bInt (lCons (c2 oAdd (cVar 3) (cC (.int 1))) lNil)) (cB bLen (lCons (cVar 1) lNil)))) lNil))) (sIf (bOr (bAnd (bOf (c2 oLt (cB bLen (lCons (cVar 1) lNil)) (cC (.int 3)))) (bOr (bOf (c2 (oEq true) (c2 oIx (cVar 5) (cC (.int 0))) (cC (.str "talk")))) (bOf (c2 (oIn true) (cTup (lCons (cVar 4) (lCons (c2 oIx (cVar 5) (cC (.int 1))) lNil))) (cVar 0))))) (bNot (bOf (cCall 3 f__law_tied (lCons (cVar 0) (lCons (cVar 4) (lCons (cVar 5) lNil))))))) (sRet (cC (.bl false))) sNext))) (sRet (cC (.bl true)))))))
def f__law_is_ring : List A → M A := fnRun 2 6 b__law_is_ring
theorem ok__law_is_ring (B : Blt mg) (D : Df K mg "_law_is_ring" st__law_is_ring ["ties", "value"]) (O__law_tied : Ok P w K mg base 1 "_law_tied" ["ties", "one", "other"] f__law_tied) : Ok P w K mg base 2 "_law_is_ring" ["ties", "value"] f__law_is_ring := by
  have nd := sc__law_is_ring.nd
  refine okD (x := "_law_is_ring") (st := st__law_is_ring) (N := N__law_is_ring) (ps := ["ties", "value"]) (k := 1) (b := b__law_is_ring) D sc__law_is_ring fun f cdv A outer s H E hr => ?_
  have hu := hu65 hr
  exact (jb_cons (js_if ((jw_or (jt_not (jt_val (je_isi .tuple B.isinstance B.tuple (je_var 1)))) (jw_or1 (jt_cmp (o_eq hu) (je_var 1) (je_tup ja_nil)))).pt) (jb_one (js_ret (je_bl))) jb_nil) (jb_cons (js_for (passes_of rfl) rfl (ji_seq (je_var 1)) (jg_var 2 nd) (jb_one (js_if ((jw_or (jt_not (jt_val (je_isi .tuple B.isinstance B.tuple (je_var 2)))) (jw_or (jt_cmp (o_ne hu) (je_callB b_len B.len (by rfl) (ja_cons (je_var 2) ja_nil)) (je_int)) (jw_or (jt_cmp (o_notin hu) (je_ix hu (je_var 2) (je_int)) (je_lst (ja_cons (je_str) (ja_cons (je_str) ja_nil)))) (jw_or1 (jt_val (je_isi .bool B.isinstance B.bool (je_ix hu (je_var 2) (je_int)))))))).pt) (jb_one (js_ret (je_bl))) jb_nil))) (jb_cons (js_if (jt_cmp o_lt (je_lenSort rfl hu B.len B.set B.sorted (je_var 1)) (je_callB b_len B.len (by rfl) (ja_cons (je_var 1) ja_nil))) (jb_one (js_ret (je_bl))) jb_nil) (jb_cons (js_for (passes_of rfl) rfl (ji_range1 B.range (ja_cons (je_callB b_len B.len (by rfl) (ja_cons (je_var 1) ja_nil)) ja_nil)) (jg_var 3 nd) (jb_cons (js_par 4 5 rfl nd (ja_cons (je_ix hu (je_var 1) (je_var 3)) (ja_cons (je_ix hu (je_var 1) (je_bin o_mod (je_callTy b_int B.int (by rfl) (ja_cons (je_bin o_add (je_var 3) (je_int)) ja_nil)) (je_callB b_len B.len (by rfl) (ja_cons (je_var 1) ja_nil)))) ja_nil))) (jb_one (js_if ((jw_or ((jw_and (jt_cmp o_lt (je_callB b_len B.len (by rfl) (ja_cons (je_var 1) ja_nil)) (je_int)) (jw_and1 ((jw_or (jt_cmp (o_ne hu) (je_ix hu (je_var 5) (je_int)) (je_str)) (jw_or1 (jt_cmp (o_notin hu) (je_tup (ja_cons (je_var 4) (ja_cons (je_ix hu (je_var 5) (je_int)) ja_nil))) (je_var 0)))).pt))).pt) (jw_or1 (jt_not (jt_val (je_fn O__law_tied hr (takes_of rfl rfl rfl rfl) (ja_cons (je_var 0) (ja_cons (je_var 4) (ja_cons (je_var 5) ja_nil)))))))).pt) (jb_one (js_ret (je_bl))) jb_nil)))) (jb_one (js_ret (je_bl)))))))
/-! ### _law_refused -/
abbrev st__law_refused : Stmt := top 29
abbrev N__law_refused : List Str := ["value", "by_value", "e"]
theorem sc__law_refused : FnScope N__law_refused ["value", "by_value"] (defScope st__law_refused) := ⟨rfl, rfl, rfl, by decide +kernel, rfl, by decide +kernel, by decide +kernel⟩
def b__law_refused : CS := (sSeq (sTryIsi (sIf (bOf (cVar 1)) (sExpr (cCall 2 f_is_ring (lCons (cVar 0) (lCons (cTup lNil) lNil)))) (sExpr (cCall 1 f_ring_in (lCons (cVar 0) lNil)))) t_InvalidTies u_InvalidTies_TalkError 2) (sRet (cC (.bl false))))
def f__law_refused : List A → M A := fnRun 2 3 b__law_refused
theorem ok__law_refused (B : Blt mg) (X_InvalidTies : ExcF K mg "InvalidTies" C_InvalidTies) (X_TalkError : ExcF K mg "TalkError" C_TalkError) (T_InvalidTies : ∀ X : Cx, X.K = K → X.mg = mg → Subs X t_InvalidTies (.ref C_InvalidTies)) (U_InvalidTies_TalkError : ∀ X : Cx, X.K = K → X.mg = mg → Isis X u_InvalidTies_TalkError (.ref C_TalkError)) (D : Df K mg "_law_refused" st__law_refused ["value", "by_value"]) (O_ring_in : Ok P w K mg base 4 "ring_in" ["ties"] f_ring_in) (O_is_ring : Ok P w K mg base 4 "is_ring" ["ties", "value"] f_is_ring) : Ok P w K mg base 5 "_law_refused" ["value", "by_value"] f__law_refused := by
  have nd := sc__law_refused.nd
  refine okD (x := "_law_refused") (st := st__law_refused) (N := N__law_refused) (ps := ["value", "by_value"]) (k := 4) (b := b__law_refused) D sc__law_refused fun f cdv A outer s H E hr => ?_
  have hu := hu65 hr
  exact (jb_cons (js_tryIsi (i := 2) (takes_of rfl rfl rfl rfl) rfl rfl nd (names_of X_InvalidTies) (T_InvalidTies _ rfl rfl) (U_InvalidTies_TalkError _ rfl rfl) (fun _ _ _ tk pp => (jb_one (js_if (jt_val (je_var 1)) (jb_one (js_expr (je_fn O_is_ring hr tk (ja_cons (je_var 0) (ja_cons (je_tup ja_nil) ja_nil))))) (jb_one (js_expr (je_fn O_ring_in hr tk (ja_cons (je_var 0) ja_nil))))))) B.isinstance X_TalkError.g) (jb_one (js_ret (je_bl))))
/-! ### law -/
abbrev st_law : Stmt := top 30
abbrev N_law : List Str := ["script", "cup", "ties", "ring", "nodes", "some", "value", "bad", "strange", "odd", "k", "one", "holder", "talk"]
theorem sc_law : FnScope N_law ["script"] (defScope st_law) := ⟨rfl, rfl, rfl, by decide +kernel, rfl, by decide +kernel, by decide +kernel⟩
def b_law : CS := (sSeq (sAsg (cCall 1 f__law_cup (lCons (cVar 0) lNil)) (gVar 1)) (sSeq (sAsg (cCall 1 f__law_drawn_ties (lCons (cVar 1) lNil)) (gVar 2)) (sSeq (sAsg (cCall 1 f_ring_in (lCons (cVar 2) lNil)) (gVar 3)) (sSeq (sIf (bOf (c2 (oIs false) (cVar 3) (cC .non))) (sIf (bNot (bOf (cCall 1 f__law_is_forest (lCons (cVar 2) lNil)))) (sRet (cC (.bl false))) sNext) (sIf (bOr (bOf (cCall 1 f__law_is_forest (lCons (cVar 2) lNil))) (bOr (bNot (bOf (cCall 2 f__law_is_ring (lCons (cVar 2) (lCons (cVar 3) lNil))))) (bOf (c2 (oIs true) (cCall 2 f_is_ring (lCons (cVar 2) (lCons (cVar 3) lNil))) (cC (.bl true)))))) (sRet (cC (.bl false))) sNext)) (sSeq (sAsg (c2 oAdd (c2 oAdd (cLc (cSeq (cVar 2)) (gUnp 2 (gsCons (gVar 12) (gsCons (gVar 13) gsNil))) bYes (cVar 12) [12, 13]) (cLc (cSeq (cVar 2)) (gUnp 2 (gsCons (gVar 12) (gsCons (gVar 13) gsNil))) bYes (cTup (lCons (cC (.str "talk")) (lCons (cVar 13) lNil))) [12, 13])) (cLst (lCons (cTup (lCons (cC (.str "process")) (lCons (cC (.int 0)) lNil))) lNil))) (gVar 4)) (sSeq (sAsg (cB bTuple (lCons (cLc (cRng1 (lCons (cCall 2 f__law_roll (lCons (cVar 1) (lCons (cC (.int 4)) lNil))) lNil)) (gVar 10) bYes (cCall 2 f__law_some (lCons (cVar 1) (lCons (cVar 4) lNil))) [10]) lNil)) (gVar 5)) (sSeq (sFor (cSeq (cLst (lCons (cVar 5) (lCons (cSl (cVar 5) oNo (oAt (cC (.int 1)))) (lCons (cB bList (lCons (cVar 5) lNil)) (lCons (cC .non) (lCons (cIf (bOf (c2 (oIs true) (cVar 3) (cC .non))) (c2 oAdd (cVar 3) (cVar 3)) (cTup lNil)) (lCons (cIf (bOf (c2 (oIs true) (cVar 3) (cC .non))) (c1 oBack (cVar 3)) (c1 oBack (cVar 5))) (lCons (cIf (bOf (c2 (oIs true) (cVar 3) (cC .non))) (cSl (cVar 3) (oAt (cC (.int 1))) oNo) (cC (.int 7))) lNil))))))))) (gVar 6) (sIf (bIf (bOf (cCall 2 f__law_is_ring (lCons (cVar 2) (lCons (cVar 6) lNil)))) (bOf (c2 (oIs true) (cCall 2 f_is_ring (lCons (cVar 2) (lCons (cVar 6) lNil))) (cC (.bl true)))) (bOf (c2 (oIs true) (cCall 2 f_is_ring (lCons (cVar 2) (lCons (cVar 6) lNil))) (cC (.bl false))))) (sRet (cC (.bl false))) sNext)) (sSeq (sAsg (cLst (lCons (cB bList (lCons (cVar 2) lNil)) (lCons (c2 oAdd (cVar 2) (cTup (lCons (cTup (lCons (cTup (lCons (cC (.str "talk")) (lCons (cC (.int 12)) lNil))) (lCons (cC (.int 0)) lNil))) lNil))) (lCons (c2 oAdd (cVar 2) (cTup (lCons (cTup (lCons (cTup (lCons (cC (.str "house")) (lCons (cC (.int 1)) lNil))) (lCons (cC (.int 0)) lNil))) lNil))) (lCons (c2 oAdd (cVar 2) (cTup (lCons (cTup (lCons (cTup (lCons (cC (.str "talk")) (lCons (cC (.int 1)) lNil))) (lCons (cC (.bl true)) lNil))) lNil))) (lCons (c2 oAdd (c2 oAdd (cVar 2) (cSl (cVar 2) oNo (oAt (cC (.int 1))))) (cTup (lCons (cTup (lCons (cTup (lCons (cC (.str "talk")) lNil)) (lCons (cC (.int 0)) lNil))) lNil))) (lCons (cC .non) (lCons (c2 oAdd (cVar 2) (cTup (lCons (cC (.int 7)) lNil))) lNil)))))))) (gVar 7)) (sSeq (sAsg (c2 oAdd (cVar 7) (cLc (cSeq (cTup (lCons (cTup (lCons (cTup (lCons (cC (.str "talk")) (lCons (cC (.int 1)) lNil))) (lCons (cC (.int 12)) lNil))) (lCons (cTup (lCons (cTup (lCons (cC (.str "talk")) (lCons (cC (.int 1)) lNil))) (lCons (c1 oNeg (cC (.int 1))) lNil))) (lCons (cTup (lCons (cTup (lCons (cC (.str "process")) (lCons (cC (.int 12)) lNil))) (lCons (cC (.int 0)) lNil))) (lCons (cTup (lCons (cTup (lCons (cC (.str "talk")) (lCons (c1 oNeg (cC (.int 1))) lNil))) (lCons (cC (.int 0)) lNil))) (lCons (cLst (lCons (cTup (lCons (cC (.str "talk")) (lCons (cC (.int 1)) lNil))) (lCons (cC (.int 0)) lNil))) (lCons (cTup (lCons (cTup (lCons (cC (.str "talk")) (lCons (cC (.int 1)) lNil))) (lCons (cC (.int 0)) (lCons (cC (.int 0)) lNil)))) (lCons (cTup (lCons (cLst (lCons (cC (.str "talk")) (lCons (cC (.int 1)) lNil))) (lCons (cC (.int 0)) lNil))) lNil))))))))) (gVar 11) bYes (c2 oAdd (cVar 2) (cTup (lCons (cVar 11) lNil))) [11])) (gVar 7)) (sSeq (sAsg (c2 oAdd (cVar 7) (cIf (bOf (c2 (oEq true) (cVar 2) (cTup lNil))) (cLst (lCons (c2 oAdd (cVar 2) (cSl (cVar 2) oNo (oAt (cC (.int 1))))) (lCons (c2 oMul (cSl (cVar 2) oNo (oAt (cC (.int 1)))) (cC (.int 2))) lNil))) (cLst (lCons (c2 oMul (cTup (lCons (cTup (lCons (cTup (lCons (cC (.str "talk")) (lCons (cC (.int 1)) lNil))) (lCons (cC (.int 0)) lNil))) lNil)) (cC (.int 2))) lNil)))) (gVar 7)) (sSeq (sAsg (cLst (lCons (cTup (lCons (cTup (lCons (cC (.str "talk")) (lCons (cC (.bl true)) lNil))) lNil)) (lCons (cTup (lCons (cTup (lCons (cC (.str "talk")) (lCons (cC (.int 12)) lNil))) lNil)) (lCons (cTup (lCons (cLst (lCons (cC (.str "talk")) (lCons (cC (.int 1)) lNil))) lNil)) (lCons (cTup (lCons (cLst (lCons (cC (.int 1)) lNil)) lNil)) (lCons (cTup (lCons (cTup (lCons (cC (.str "talk")) lNil)) lNil)) (lCons (cTup (lCons (cTup (lCons (cC (.str "talk")) (lCons (cC (.str "1")) lNil))) lNil)) (lCons (cTup (lCons (cTup (lCons (cC (.str "house")) (lCons (cC (.int 1)) lNil))) lNil)) (lCons (cTup (lCons (cTup (lCons (cC (.str "talk")) (lCons (cC (.int 1)) (lCons (cC (.int 1)) lNil)))) lNil)) lNil))))))))) (gVar 8)) (sSeq (sAsg (cCall 2 f__law_some (lCons (cVar 1) (lCons (c2 oAdd (cVar 8) (cLst (lCons (cTup (lCons (cTup (lCons (cLst (lCons (cC (.str "talk")) lNil)) (lCons (cC (.int 1)) lNil))) lNil)) (lCons (cTup (lCons (cC (.int 7)) lNil)) (lCons (cTup (lCons (cC (.str "ab")) lNil)) (lCons (cTup (lCons (cLst lNil) lNil)) (lCons (cTup (lCons (cC .non) lNil)) (lCons (cTup (lCons (cTup (lCons (cC (.str "process")) (lCons (cC (.int 12)) lNil))) lNil)) (lCons (cTup (lCons (cTup (lCons (cC (.str "talk")) (lCons (c1 oNeg (cC (.int 1))) lNil))) lNil)) lNil))))))))) lNil))) (gVar 9)) (sSeq (sIf (bOr (bOf (c2 (oIs true) (cCall 2 f_is_ring (lCons (cTup (lCons (cTup (lCons (cTup (lCons (cC (.str "talk")) (lCons (cC (.int 1)) lNil))) (lCons (cC (.int 1)) lNil))) lNil)) (lCons (cVar 9) lNil))) (cC (.bl false)))) (bOf (c2 (oIs true) (cCall 2 f_is_ring (lCons (cTup (lCons (cTup (lCons (cTup (lCons (cC (.str "talk")) (lCons (cC (.int 1)) lNil))) (lCons (cC (.int 1)) lNil))) lNil)) (lCons (cTup (lCons (cTup (lCons (cC (.str "talk")) (lCons (cC (.int 1)) lNil))) lNil)) lNil))) (cC (.bl true))))) (sRet (cC (.bl false))) sNext) (sRet (cCall 2 f__law_refused (lCons (cCall 2 f__law_some (lCons (cVar 1) (lCons (cVar 7) lNil))) (lCons (c2 (oEq false) (cCall 2 f__law_roll (lCons (cVar 1) (lCons (cC (.int 2)) lNil))) (cC (.int 0))) lNil)))))))))))))))))
def f_law : List A → M A := fnRun 1 14 b_law
theorem ok_law (B : Blt mg) (D : Df K mg "law" st_law ["script"]) (O_ring_in : Ok P w K mg base 4 "ring_in" ["ties"] f_ring_in) (O_is_ring : Ok P w K mg base 4 "is_ring" ["ties", "value"] f_is_ring) (O__law_cup : Ok P w K mg base 1 "_law_cup" ["script"] f__law_cup) (O__law_roll : Ok P w K mg base 1 "_law_roll" ["cup", "many"] f__law_roll) (O__law_some : Ok P w K mg base 2 "_law_some" ["cup", "things"] f__law_some) (O__law_drawn_ties : Ok P w K mg base 3 "_law_drawn_ties" ["cup"] f__law_drawn_ties) (O__law_is_forest : Ok P w K mg base 1 "_law_is_forest" ["ties"] f__law_is_forest) (O__law_is_ring : Ok P w K mg base 2 "_law_is_ring" ["ties", "value"] f__law_is_ring) (O__law_refused : Ok P w K mg base 5 "_law_refused" ["value", "by_value"] f__law_refused) : Ok P w K mg base 6 "law" ["script"] f_law := by
  have nd := sc_law.nd
  refine okD (x := "law") (st := st_law) (N := N_law) (ps := ["script"]) (k := 5) (b := b_law) D sc_law fun f cdv A outer s H E hr => ?_
  have hu := hu65 hr
  exact (jb_cons (js_set 1 nd (je_fn O__law_cup hr (takes_of rfl rfl rfl rfl) (ja_cons (je_var 0) ja_nil))) (jb_cons (js_set 2 nd (je_fn O__law_drawn_ties hr (takes_of rfl rfl rfl rfl) (ja_cons (je_var 1) ja_nil))) (jb_cons (js_set 3 nd (je_fn O_ring_in hr (takes_of rfl rfl rfl rfl) (ja_cons (je_var 2) ja_nil))) (jb_cons (js_if (jt_cmp o_is (je_var 3) (je_non)) (jb_one (js_if (jt_not (jt_val (je_fn O__law_is_forest hr (takes_of rfl rfl rfl rfl) (ja_cons (je_var 2) ja_nil)))) (jb_one (js_ret (je_bl))) jb_nil)) (jb_one (js_if ((jw_or (jt_val (je_fn O__law_is_forest hr (takes_of rfl rfl rfl rfl) (ja_cons (je_var 2) ja_nil))) (jw_or (jt_not (jt_val (je_fn O__law_is_ring hr (takes_of rfl rfl rfl rfl) (ja_cons (je_var 2) (ja_cons (je_var 3) ja_nil))))) (jw_or1 (jt_cmp o_isnot (je_fn O_is_ring hr (takes_of rfl rfl rfl rfl) (ja_cons (je_var 2) (ja_cons (je_var 3) ja_nil))) (je_bl))))).pt) (jb_one (js_ret (je_bl))) jb_nil))) (jb_cons (js_set 4 nd (je_bin o_add (je_bin o_add (je_lc (own := [("holder", 12), ("talk", 13)]) rfl nd (ji_seq (je_var 2)) (blkOk_by (N := N_law) (sc := (defScope st_law)) (by decide +kernel)) (inn_unp (inns_cons (inn_var) (inns_cons (inn_var) inns_nil))) (fun _ _ _ _ _ => (jg_unp rfl (jgs_cons (jg_var 12 nd) (jgs_cons (jg_var 13 nd) jgs_nil)))) (fun _ _ _ _ _ => jts_nil) (fun _ _ _ _ _ => (je_var 12))) (je_lc (own := [("holder", 12), ("talk", 13)]) rfl nd (ji_seq (je_var 2)) (blkOk_by (N := N_law) (sc := (defScope st_law)) (by decide +kernel)) (inn_unp (inns_cons (inn_var) (inns_cons (inn_var) inns_nil))) (fun _ _ _ _ _ => (jg_unp rfl (jgs_cons (jg_var 12 nd) (jgs_cons (jg_var 13 nd) jgs_nil)))) (fun _ _ _ _ _ => jts_nil) (fun _ _ _ _ _ => (je_tup (ja_cons (je_str) (ja_cons (je_var 13) ja_nil)))))) (je_lst (ja_cons (je_tup (ja_cons (je_str) (ja_cons (je_int) ja_nil))) ja_nil)))) (jb_cons (js_set 5 nd (je_callTy b_tuple B.tuple (by rfl) (ja_cons (je_lc (own := [("k", 10)]) rfl nd (ji_range1 B.range (ja_cons (je_fn O__law_roll hr (takes_of rfl rfl rfl rfl) (ja_cons (je_var 1) (ja_cons (je_int) ja_nil))) ja_nil)) (blkOk_by (N := N_law) (sc := (defScope st_law)) (by decide +kernel)) (inn_var) (fun _ _ _ _ _ => (jg_var 10 nd)) (fun _ _ _ _ _ => jts_nil) (fun _ _ _ _ _ => (je_fn O__law_some hr takes0 (ja_cons (je_var 1) (ja_cons (je_var 4) ja_nil))))) ja_nil))) (jb_cons (js_for (passes_of rfl) rfl (ji_seq (je_lst (ja_cons (je_var 5) (ja_cons (je_slice (je_var 5) jo_no (jo_at (je_int))) (ja_cons (je_callTy b_list B.list (by rfl) (ja_cons (je_var 5) ja_nil)) (ja_cons (je_non) (ja_cons (je_ifExp (jt_cmp o_isnot (je_var 3) (je_non)) (je_bin o_add (je_var 3) (je_var 3)) (je_tup ja_nil)) (ja_cons (je_ifExp (jt_cmp o_isnot (je_var 3) (je_non)) (je_back (je_var 3)) (je_back (je_var 5))) (ja_cons (je_ifExp (jt_cmp o_isnot (je_var 3) (je_non)) (je_slice (je_var 3) (jo_at (je_int)) jo_no) (je_int)) ja_nil))))))))) (jg_var 6 nd) (jb_one (js_if ((jw_ifExp (jt_val (je_fn O__law_is_ring hr (takes_of rfl rfl rfl rfl) (ja_cons (je_var 2) (ja_cons (je_var 6) ja_nil)))) (jt_cmp o_isnot (je_fn O_is_ring hr (takes_of rfl rfl rfl rfl) (ja_cons (je_var 2) (ja_cons (je_var 6) ja_nil))) (je_bl)) (jt_cmp o_isnot (je_fn O_is_ring hr (takes_of rfl rfl rfl rfl) (ja_cons (je_var 2) (ja_cons (je_var 6) ja_nil))) (je_bl))).pt) (jb_one (js_ret (je_bl))) jb_nil))) (jb_cons (js_set 7 nd (je_lst (ja_cons (je_callTy b_list B.list (by rfl) (ja_cons (je_var 2) ja_nil)) (ja_cons (je_bin o_add (je_var 2) (je_tup (ja_cons (je_tup (ja_cons (je_tup (ja_cons (je_str) (ja_cons (je_int) ja_nil))) (ja_cons (je_int) ja_nil))) ja_nil))) (ja_cons (je_bin o_add (je_var 2) (je_tup (ja_cons (je_tup (ja_cons (je_tup (ja_cons (je_str) (ja_cons (je_int) ja_nil))) (ja_cons (je_int) ja_nil))) ja_nil))) (ja_cons (je_bin o_add (je_var 2) (je_tup (ja_cons (je_tup (ja_cons (je_tup (ja_cons (je_str) (ja_cons (je_int) ja_nil))) (ja_cons (je_bl) ja_nil))) ja_nil))) (ja_cons (je_bin o_add (je_bin o_add (je_var 2) (je_slice (je_var 2) jo_no (jo_at (je_int)))) (je_tup (ja_cons (je_tup (ja_cons (je_tup (ja_cons (je_str) ja_nil)) (ja_cons (je_int) ja_nil))) ja_nil))) (ja_cons (je_non) (ja_cons (je_bin o_add (je_var 2) (je_tup (ja_cons (je_int) ja_nil))) ja_nil))))))))) (jb_cons (js_set 7 nd (je_bin o_add (je_var 7) (je_lc (own := [("one", 11)]) rfl nd (ji_seq (je_tup (ja_cons (je_tup (ja_cons (je_tup (ja_cons (je_str) (ja_cons (je_int) ja_nil))) (ja_cons (je_int) ja_nil))) (ja_cons (je_tup (ja_cons (je_tup (ja_cons (je_str) (ja_cons (je_int) ja_nil))) (ja_cons (je_neg (je_int)) ja_nil))) (ja_cons (je_tup (ja_cons (je_tup (ja_cons (je_str) (ja_cons (je_int) ja_nil))) (ja_cons (je_int) ja_nil))) (ja_cons (je_tup (ja_cons (je_tup (ja_cons (je_str) (ja_cons (je_neg (je_int)) ja_nil))) (ja_cons (je_int) ja_nil))) (ja_cons (je_lst (ja_cons (je_tup (ja_cons (je_str) (ja_cons (je_int) ja_nil))) (ja_cons (je_int) ja_nil))) (ja_cons (je_tup (ja_cons (je_tup (ja_cons (je_str) (ja_cons (je_int) ja_nil))) (ja_cons (je_int) (ja_cons (je_int) ja_nil)))) (ja_cons (je_tup (ja_cons (je_lst (ja_cons (je_str) (ja_cons (je_int) ja_nil))) (ja_cons (je_int) ja_nil))) ja_nil))))))))) (blkOk_by (N := N_law) (sc := (defScope st_law)) (by decide +kernel)) (inn_var) (fun _ _ _ _ _ => (jg_var 11 nd)) (fun _ _ _ _ _ => jts_nil) (fun _ _ _ _ _ => (je_bin o_add (je_var 2) (je_tup (ja_cons (je_var 11) ja_nil))))))) (jb_cons (js_set 7 nd (je_bin o_add (je_var 7) (je_ifExp (jt_cmp (o_ne hu) (je_var 2) (je_tup ja_nil)) (je_lst (ja_cons (je_bin o_add (je_var 2) (je_slice (je_var 2) jo_no (jo_at (je_int)))) (ja_cons (je_bin o_mul (je_slice (je_var 2) jo_no (jo_at (je_int))) (je_int)) ja_nil))) (je_lst (ja_cons (je_bin o_mul (je_tup (ja_cons (je_tup (ja_cons (je_tup (ja_cons (je_str) (ja_cons (je_int) ja_nil))) (ja_cons (je_int) ja_nil))) ja_nil)) (je_int)) ja_nil))))) (jb_cons (js_set 8 nd (je_lst (ja_cons (je_tup (ja_cons (je_tup (ja_cons (je_str) (ja_cons (je_bl) ja_nil))) ja_nil)) (ja_cons (je_tup (ja_cons (je_tup (ja_cons (je_str) (ja_cons (je_int) ja_nil))) ja_nil)) (ja_cons (je_tup (ja_cons (je_lst (ja_cons (je_str) (ja_cons (je_int) ja_nil))) ja_nil)) (ja_cons (je_tup (ja_cons (je_lst (ja_cons (je_int) ja_nil)) ja_nil)) (ja_cons (je_tup (ja_cons (je_tup (ja_cons (je_str) ja_nil)) ja_nil)) (ja_cons (je_tup (ja_cons (je_tup (ja_cons (je_str) (ja_cons (je_str) ja_nil))) ja_nil)) (ja_cons (je_tup (ja_cons (je_tup (ja_cons (je_str) (ja_cons (je_int) ja_nil))) ja_nil)) (ja_cons (je_tup (ja_cons (je_tup (ja_cons (je_str) (ja_cons (je_int) (ja_cons (je_int) ja_nil)))) ja_nil)) ja_nil)))))))))) (jb_cons (js_set 9 nd (je_fn O__law_some hr (takes_of rfl rfl rfl rfl) (ja_cons (je_var 1) (ja_cons (je_bin o_add (je_var 8) (je_lst (ja_cons (je_tup (ja_cons (je_tup (ja_cons (je_lst (ja_cons (je_str) ja_nil)) (ja_cons (je_int) ja_nil))) ja_nil)) (ja_cons (je_tup (ja_cons (je_int) ja_nil)) (ja_cons (je_tup (ja_cons (je_str) ja_nil)) (ja_cons (je_tup (ja_cons (je_lst ja_nil) ja_nil)) (ja_cons (je_tup (ja_cons (je_non) ja_nil)) (ja_cons (je_tup (ja_cons (je_tup (ja_cons (je_str) (ja_cons (je_int) ja_nil))) ja_nil)) (ja_cons (je_tup (ja_cons (je_tup (ja_cons (je_str) (ja_cons (je_neg (je_int)) ja_nil))) ja_nil)) ja_nil))))))))) ja_nil)))) (jb_cons (js_if ((jw_or (jt_cmp o_isnot (je_fn O_is_ring hr (takes_of rfl rfl rfl rfl) (ja_cons (je_tup (ja_cons (je_tup (ja_cons (je_tup (ja_cons (je_str) (ja_cons (je_int) ja_nil))) (ja_cons (je_int) ja_nil))) ja_nil)) (ja_cons (je_var 9) ja_nil))) (je_bl)) (jw_or1 (jt_cmp o_isnot (je_fn O_is_ring hr (takes_of rfl rfl rfl rfl) (ja_cons (je_tup (ja_cons (je_tup (ja_cons (je_tup (ja_cons (je_str) (ja_cons (je_int) ja_nil))) (ja_cons (je_int) ja_nil))) ja_nil)) (ja_cons (je_tup (ja_cons (je_tup (ja_cons (je_str) (ja_cons (je_int) ja_nil))) ja_nil)) ja_nil))) (je_bl)))).pt) (jb_one (js_ret (je_bl))) jb_nil) (jb_one (js_ret (je_fn O__law_refused hr (takes_of rfl rfl rfl rfl) (ja_cons (je_fn O__law_some hr (takes_of rfl rfl rfl rfl) (ja_cons (je_var 1) (ja_cons (je_var 7) ja_nil))) (ja_cons (je_cmp (o_eq hu) (je_fn O__law_roll hr (takes_of rfl rfl rfl rfl) (ja_cons (je_var 1) (ja_cons (je_int) ja_nil))) (je_int)) ja_nil))))))))))))))))))
end
end Rings

end

section
set_option Elab.async false
set_option linter.all false
set_option maxRecDepth 100000
set_option maxHeartbeats 1000000
/-! RP1: the checks of k73's text, run. -/
namespace Rings
open PySem PySem.Spec PyProof.Rows L2 EV
abbrev R := @EV.Run A
/-- a value all of whose parts are told by the store -/
inductive Kn (S : Sto) : A → Prop
  | non : Kn S .non
  | bl (b : Bool) : Kn S (.bl b)
  | int (i : Int) : Kn S (.int i)
  | str {x : Str} : (PyData.str x).canLay0 = true → Kn S (.str x)
  | tup {xs : List A} : (∀ x ∈ xs, Kn S x) → Kn S (.tup xs)
  | lst {n : Nat} {xs : List A} : n < S.n → S.f n = some (.lst xs) → Kn S (.ref n)
theorem Kn.gr {S S' : Sto} (g : ∀ n xs, n < S.n → S.f n = some (.lst xs) → n < S'.n ∧ S'.f n = some (.lst xs)) {v : A} (k : Kn S v) : Kn S' v := by
  induction k with
  | non => exact .non
  | bl b => exact .bl b
  | int i => exact .int i
  | str h => exact .str h
  | tup _ ih => exact .tup ih
  | lst l h => exact .lst (g _ _ l h).1 (g _ _ l h).2
theorem Kn.ty {S : Sto} {v : A} (k : Kn S v) : ∃ t, tyA S v = some t ∧ isTy t .bool = (match v with | .bl _ => true | _ => false) ∧ isTy t .int = (match v with | .bl _ => true | .int _ => true | _ => false) ∧ isTy t .str = (match v with | .str _ => true | _ => false) ∧ isTy t .tuple = (match v with | .tup _ => true | _ => false) := by
  cases k with
  | non => exact ⟨_, rfl, rfl, rfl, rfl, rfl⟩
  | bl b => exact ⟨_, rfl, rfl, rfl, rfl, rfl⟩
  | int i => exact ⟨_, rfl, rfl, rfl, rfl, rfl⟩
  | str h => exact ⟨_, rfl, rfl, rfl, rfl, rfl⟩
  | tup _ => exact ⟨_, rfl, rfl, rfl, rfl, rfl⟩
  | lst l h => exact ⟨.list, by unfold tyA; dsimp only; rw [h], rfl, rfl, rfl, rfl⟩
/-- an int, not a bool, between -/
def whole (v : A) (lo hi : Int) : Bool := match v with
  | .int i => decide (lo ≤ i) && decide (i ≤ hi)
  | _ => false
theorem r_is_whole {v : A} {lo hi : Int} {S : Sto} {P : A → Sto → Prop} {X : Ex → Sto → Prop} (hv : Kn S v) (h : P (.bl (whole v lo hi)) S) : Run (f_is_whole [v, .int lo, .int hi]) S P X := by
  refine fn_run ?_
  obtain ⟨t, ht, h1, h2, h3, h4⟩ := hv.ty
  simp [b_is_whole]
  rw [ht]
  cases hv with
  | int i =>
    by_cases e : lo ≤ i
    · simpa [h1, h2, ht, whole, e] using h
    · simpa [h1, h2, ht, whole, e] using h
  | bl b => simpa [h1, h2, ht, whole] using h
  | _ => simpa [h1, h2, ht, whole] using h
def tupOf (v : A) (lo hi : Int) : Bool := match v with
  | .tup xs => decide (lo ≤ xs.length) && decide ((xs.length : Int) ≤ hi)
  | _ => false
theorem r_is_tuple_of {v : A} {lo hi : Int} {S : Sto} {P : A → Sto → Prop} {X : Ex → Sto → Prop} (hv : Kn S v) (h : P (.bl (tupOf v lo hi)) S) : Run (f_is_tuple_of [v, .int lo, .int hi]) S P X := by
  refine fn_run ?_
  obtain ⟨t, ht, h1, h2, h3, h4⟩ := hv.ty
  simp [b_is_tuple_of]
  rw [ht]
  cases hv with
  | @tup xs _ =>
    by_cases e : lo ≤ xs.length
    · simpa [h4, ht, tupOf, e] using h
    · simpa [h4, ht, tupOf, e] using h
  | _ => simpa [h4, ht, tupOf] using h
/-- data of texts -/
theorem rd_str {S : Sto} {x : Str} (h : (PyData.str x).canLay0 = true) : rdE S (.str x) = some (.str x) := by
  unfold rdE
  show (if SeqAt.shaped (.str x) = true then some (PyData.str x) else none) = _
  rw [if_pos]
  unfold SeqAt.shaped
  rw [h]
  rfl
def isKind (k : Str) : Bool := decide (k = "process") || decide (k = "talk")
theorem rdE_of {S : Sto} {a : A} {d : PyData} (h : rdD 64 S a = some d) (s : SeqAt.shaped d = true) : rdE S a = some d := by
  unfold rdE
  rw [h]
  exact if_pos s
theorem kinds_rd {S : Sto} : rdE S (.tup [.str "process", .str "talk"]) = some (.tuple [.str "process", .str "talk"]) := rdE_of rfl (by decide +kernel)
theorem in_kinds {S : Sto} {k : Str} (h : (PyData.str k).canLay0 = true) (neg : Bool) : oIn neg (.str k) (.tup [.str "process", .str "talk"]) S = some (.bl (neg != isKind k), S) := by
  unfold oIn
  dsimp only
  rw [rd_str h, kinds_rd]
  simp [PyData.eqv, isKind, Bool.beq_eq_decide_eq, eq_comm]
/-- a node -/
def nodeB (v : A) : Bool := match v with
  | .tup [.str k, x] => isKind k && whole x 0 11
  | _ => false
theorem r_is_node {v : A} {S : Sto} {P : A → Sto → Prop} {X : Ex → Sto → Prop} (hv : Kn S v) (h : P (.bl (nodeB v)) S) : Run (f_is_node [v]) S P X := by
  refine fn_run ?_
  simp [b_is_node]
  refine r_is_tuple_of hv ?_
  by_cases ht : tupOf v 2 2 = true
  · obtain ⟨a, b, rfl⟩ : ∃ a b, v = .tup [a, b] := by
      unfold tupOf at ht
      split at ht
      · rename_i xs
        rcases xs with _ | ⟨a, _ | ⟨b, _ | ⟨c, r⟩⟩⟩
        · simp at ht
        · simp at ht
        · exact ⟨a, b, rfl⟩
        · simp at ht; omega
      · cases ht
    cases hv with
    | tup hk =>
      have ka := hk a (by simp)
      have kb := hk b (by simp)
      obtain ⟨t, hta, h1, h2, h3, h4⟩ := ka.ty
      have i0 : oIx (.tup [a, b]) (.int 0) S = some (a, S) := ov_ixT (k := 0) rfl
      have i1 : oIx (.tup [a, b]) (.int 1) S = some (b, S) := ov_ixT (k := 1) rfl
      simp [ht, i0, hta]
      cases ka with
      | @str k hs =>
        simp [h3, i0, in_kinds hs, line]
        by_cases hkk : isKind k = true
        · simp [hkk, i1]
          refine r_is_whole kb ?_
          simpa [nodeB, hkk] using h
        · simp [hkk]
          simpa [nodeB, hkk] using h
      | _ => simp [h3]; simpa [nodeB] using h
  · have : nodeB v = false := by
      unfold nodeB
      split
      · exact absurd (by simp [tupOf]) ht
      · rfl
    simp [ht]
    rw [this] at h
    exact h
end Rings

end

section
set_option Elab.async false
set_option linter.all false
set_option maxRecDepth 100000
set_option maxHeartbeats 1000000
/-! RP2: nodes and ties as values; need_ties. -/
namespace Rings
open PySem PySem.Spec PyProof.Rows L2 EV
/-- a node: a conversation (true) or a process, its number -/
abbrev Nd := Bool × Nat
/-- a tie: a node, a conversation's number -/
abbrev Tie := Nd × Nat
def kS (b : Bool) : Str := if b then "talk" else "process"
def nA (n : Nd) : A := .tup [.str (kS n.1), .int n.2]
def tA (t : Tie) : A := .tup [nA t.1, .int t.2]
def nD (n : Nd) : PyData := .tuple [.str (kS n.1), .int n.2]
def tD (t : Tie) : PyData := .tuple [nD t.1, .int t.2]
theorem kS_ok (b : Bool) : (PyData.str (kS b)).canLay0 = true := by cases b <;> decide +kernel
theorem kS_inj {a b : Bool} (h : kS a = kS b) : a = b := by
  cases a <;> cases b <;> first | rfl | (exact absurd h (by decide))
theorem nD_inj {m n : Nd} (h : nD m = nD n) : m = n := by
  unfold nD at h
  injection h with h
  injection h with h1 h2
  injection h1 with h1
  injection h2 with h2 _
  injection h2 with h2
  exact Prod.ext (kS_inj h1) (by omega)
theorem tD_inj {s t : Tie} (h : tD s = tD t) : s = t := by
  unfold tD at h
  injection h with h
  injection h with h1 h2
  injection h2 with h2 _
  injection h2 with h2
  exact Prod.ext (nD_inj h1) (by omega)
theorem nA_inj {m n : Nd} (h : nA m = nA n) : m = n := by
  unfold nA at h
  injection h with h
  injection h with h1 h2
  injection h1 with h1
  injection h2 with h2 _
  injection h2 with h2
  exact Prod.ext (kS_inj h1) (by omega)
theorem nD_kd (n : Nd) : kd (nD n) = true := rfl
theorem tD_kd (t : Tie) : kd (tD t) = true := rfl
theorem kds_map {α : Type} {f : α → PyData} (h : ∀ a, kd (f a) = true) : ∀ l : List α, kds (l.map f) = true
  | [] => by unfold kds; rfl
  | a :: l => by rw [List.map_cons]; unfold kds; rw [h a, kds_map h l]; rfl
theorem nD_lay (n : Nd) : (nD n).canLay0 = true := by
  have h := kS_ok n.1
  unfold nD
  simp only [PyData.canLay0, PyData.canLayAll0] at h ⊢
  rw [h]
  rfl
theorem tD_lay (t : Tie) : (tD t).canLay0 = true := by
  have h := nD_lay t.1
  unfold tD
  simp only [PyData.canLay0, PyData.canLayAll0] at h ⊢
  rw [h]
  rfl
theorem nD_dep (n : Nd) : (nD n).depth = 1 := by unfold nD; simp [PyData.depth, PyData.depthAll]
theorem tD_dep (t : Tie) : (tD t).depth = 2 := by unfold tD; simp [PyData.depth, PyData.depthAll, nD_dep]
theorem n_rd {S : Sto} {k : Nat} (n : Nd) : rdD (k + 2) S (nA n) = some (nD n) := rfl
theorem t_rd {S : Sto} {k : Nat} (t : Tie) : rdD (k + 3) S (tA t) = some (tD t) := rfl
theorem mapO_map {α β : Type} {f : A → Option β} {g : α → A} {h : α → β} (e : ∀ a, f (g a) = some (h a)) : ∀ l : List α, mapO f (l.map g) = some (l.map h)
  | [] => rfl
  | a :: l => by
    rw [List.map_cons, List.map_cons]
    unfold mapO
    rw [e a, mapO_map e l]
theorem n_kn {S : Sto} (n : Nd) : Kn S (nA n) := .tup fun x hx => by
  rcases List.mem_cons.mp hx with e | hx
  · rw [e]; exact .str (kS_ok n.1)
  · rw [List.mem_singleton.mp hx]; exact .int _
theorem t_kn {S : Sto} (t : Tie) : Kn S (tA t) := .tup fun x hx => by
  rcases List.mem_cons.mp hx with e | hx
  · rw [e]; exact n_kn t.1
  · rw [List.mem_singleton.mp hx]; exact .int _
theorem ts_kn {S : Sto} (ts : List Tie) : Kn S (.tup (ts.map tA)) := .tup fun x hx => by
  obtain ⟨t, _, e⟩ := List.mem_map.mp hx
  rw [← e]
  exact t_kn t
theorem ns_kn {S : Sto} (ns : List Nd) : Kn S (.tup (ns.map nA)) := .tup fun x hx => by
  obtain ⟨t, _, e⟩ := List.mem_map.mp hx
  rw [← e]
  exact n_kn t
abbrev okN (n : Nd) : Prop := n.2 ≤ 11
abbrev okT (t : Tie) : Prop := okN t.1 ∧ t.2 ≤ 11
theorem isKind_kS (b : Bool) : isKind (kS b) = true := by cases b <;> decide
theorem whole_nat (i : Nat) : whole (.int (i : Int)) 0 11 = decide (i ≤ 11) := by
  unfold whole
  dsimp only
  rw [decide_eq_true (by omega : (0 : Int) ≤ (i : Int)), Bool.true_and]
  exact decide_eq_decide.mpr ⟨fun h => by omega, fun h => by omega⟩
theorem nodeB_nA (n : Nd) : nodeB (nA n) = decide (okN n) := by
  show (isKind (kS n.1) && whole (.int n.2) 0 11) = _
  rw [isKind_kS, whole_nat]
  rfl
theorem whole_inv {v : A} (h : whole v 0 11 = true) : ∃ i : Nat, v = .int i ∧ i ≤ 11 := by
  unfold whole at h
  split at h
  · rename_i i
    rw [Bool.and_eq_true, decide_eq_true_eq, decide_eq_true_eq] at h
    exact ⟨i.toNat, by rw [Int.toNat_of_nonneg h.1], by omega⟩
  · cases h
theorem nodeB_inv {v : A} (h : nodeB v = true) : ∃ n : Nd, v = nA n ∧ okN n := by
  unfold nodeB at h
  split at h
  · rename_i k x
    rw [Bool.and_eq_true] at h
    obtain ⟨i, rfl, hi⟩ := whole_inv h.2
    unfold isKind at h
    rcases Bool.or_eq_true_iff.mp h.1 with e | e
    · exact ⟨(false, i), by rw [of_decide_eq_true e]; rfl, hi⟩
    · exact ⟨(true, i), by rw [of_decide_eq_true e]; rfl, hi⟩
  · cases h
/-- a tuple of a node and a whole number -/
def tieB (v : A) : Bool := match v with
  | .tup [a, b] => nodeB a && whole b 0 11
  | _ => false
theorem tieB_inv {v : A} (h : tieB v = true) : ∃ t : Tie, v = tA t ∧ okT t := by
  unfold tieB at h
  split at h
  · rename_i a b
    rw [Bool.and_eq_true] at h
    obtain ⟨n, rfl, hn⟩ := nodeB_inv h.1
    obtain ⟨i, rfl, hi⟩ := whole_inv h.2
    exact ⟨(n, i), rfl, hn, hi⟩
  · cases h
theorem tieB_tA {t : Tie} (h : okT t) : tieB (tA t) = true := by
  show (nodeB (nA t.1) && whole (.int t.2) 0 11) = true
  rw [nodeB_nA, whole_nat, decide_eq_true h.1, decide_eq_true h.2]
  rfl
theorem ties_inv : ∀ {xs : List A}, xs.all tieB = true → ∃ ts : List Tie, xs = ts.map tA ∧ ∀ t ∈ ts, okT t
  | [], _ => ⟨[], rfl, fun t h => nomatch h⟩
  | x :: xs, h => by
    rw [List.all_cons, Bool.and_eq_true] at h
    obtain ⟨t, rfl, ht⟩ := tieB_inv h.1
    obtain ⟨ts, rfl, hts⟩ := ties_inv h.2
    exact ⟨t :: ts, rfl, fun s hs => (List.mem_cons.mp hs).elim (fun e => e ▸ ht) (hts s)⟩
/-! ### unlike -/
theorem nub_le : ∀ ds : List PyData, nubN ds ≤ ds.length
  | [] => Nat.le_refl _
  | d :: r => by
    unfold nubN
    have := nub_le r
    split <;> simp <;> omega
theorem nub_nodup : ∀ {ds : List PyData}, kds ds = true → (nubN ds = ds.length ↔ ds.Nodup)
  | [], _ => by simp [nubN]
  | d :: r, h => by
    unfold kds at h
    obtain ⟨h1, h2⟩ := Bool.and_eq_true_iff.mp h
    have ih := nub_nodup h2
    have le := nub_le r
    unfold nubN
    rw [List.nodup_cons, List.length_cons]
    by_cases m : d ∈ r
    · rw [if_pos ((any_mem h1 h2).mpr m)]
      exact ⟨fun z => by omega, fun z => absurd m z.1⟩
    · rw [if_neg fun z => m ((any_mem h1 h2).mp z)]
      exact ⟨fun z => ⟨m, ih.mp (by omega)⟩, fun z => by rw [ih.mpr z.2]⟩
theorem nodup_map {α : Type} {f : α → PyData} (inj : ∀ a b, f a = f b → a = b) {l : List α} : (l.map f).Nodup ↔ l.Nodup := by
  induction l with
  | nil => simp
  | cons a l ih =>
    rw [List.map_cons, List.nodup_cons, List.nodup_cons, ih]
    refine and_congr_left fun _ => not_congr ⟨fun h => ?_, fun h => List.mem_map.mpr ⟨a, h, rfl⟩⟩
    obtain ⟨b, hb, e⟩ := List.mem_map.mp h
    rw [← inj _ _ e]
    exact hb
theorem lenset_ties {S : Sto} {ts : List Tie} (h : ts.length < 64) : oLenSet (.tup (ts.map tA)) S = some (.int (nubN (ts.map tD) : Nat), S) := by
  unfold oLenSet setIn
  dsimp only
  rw [mapO_map (fun t => t_rd (k := 7) t)]
  dsimp only
  rw [if_pos]
  · rfl
  · refine ⟨List.all_eq_true.mpr fun d hd => ?_, by rw [List.length_map]; exact h⟩
    obtain ⟨t, _, e⟩ := List.mem_map.mp hd
    rw [← e]
    unfold memOk
    rw [tD_kd, tD_lay, tD_dep]
    rfl
theorem lenset_nodes {S : Sto} {ns : List Nd} (h : ns.length < 64) : oLenSet (.tup (ns.map nA)) S = some (.int (nubN (ns.map nD) : Nat), S) := by
  unfold oLenSet setIn
  dsimp only
  rw [mapO_map (fun t => n_rd (k := 8) t)]
  dsimp only
  rw [if_pos]
  · rfl
  · refine ⟨List.all_eq_true.mpr fun d hd => ?_, by rw [List.length_map]; exact h⟩
    obtain ⟨t, _, e⟩ := List.mem_map.mp hd
    rw [← e]
    unfold memOk
    rw [nD_kd, nD_lay, nD_dep]
    rfl
end Rings

end

section
set_option Elab.async false
set_option linter.all false
set_option maxRecDepth 100000
set_option maxHeartbeats 1000000
/-! RP3: comprehensions over tuples; need_ties, fits_ring. -/
namespace Rings
open PySem PySem.Spec PyProof.Rows L2 EV
theorem bools_map {α : Type} (q : α → Bool) : ∀ xs : List α, bools (xs.map fun a => .bl (q a)) = some (xs.map q)
  | [] => rfl
  | x :: xs => by
    rw [List.map_cons, List.map_cons]
    show (bools (xs.map fun a => .bl (q a))).map _ = _
    rw [bools_map q xs]
    rfl
/-- the items of a comprehension over a tuple, all kept, q of each a truth value -/
theorem lc_bools {xs : List A} {g : CG} {e : CE} {ε : EV.Env} {S : Sto} {X : Ex → Sto → Prop} {Q : List A → Sto → Prop} (q : A → Bool) (hk : xs.length ≤ 16777216)
    (step : ∀ a S1, a ∈ xs → Gr S S1 → ∃ l, g a S1 = some l ∧ Run (e (setE ε l)) S1 (fun y S2 => y = .bl (q a) ∧ Gr S1 S2) X) (h : ∀ S', Gr S S' → Q (xs.map fun a => .bl (q a)) S') :
    Run (lcAll ⟨fun i _ => some xs[i]?, xs.length⟩ g bYes e ε) S Q X := by
  unfold lcAll
  rw [if_pos (show (IT.mk (fun i _ => some xs[i]?) xs.length).k ≤ 16777216 from hk)]
  refine (run_lc (R := fun S1 => Gr S S1) xs (fun _ => true) (fun a => .bl (q a)) (fun _ _ _ => rfl) (fun a S1 ha g1 => ?_) xs.length 0 S (Nat.zero_le _) (by omega) Gw.refl).imp fun ys S' ⟨y1, y2, y3⟩ => ?_
  · obtain ⟨l, e1, e2⟩ := step a S1 ha g1
    refine ⟨l, e1, ?_⟩
    rw [sp_bYes]
    exact ⟨rfl, Gw.refl, g1, fun _ => e2.imp fun y S2 ⟨z1, z2⟩ => ⟨z1, z2, g1.trans z2⟩⟩
  · rw [List.drop_zero, List.filter_eq_self.mpr (fun _ _ => rfl)] at y1
    rw [y1]
    exact h S' y2
theorem all_at {S : Sto} {xs : List Bool} {ys : List A} (h : bools ys = some xs) : bAll [.ref S.n] (S.new (.lst ys)) = some (.bl (xs.all id), S.new (.lst ys)) := by
  unfold bAll
  dsimp only
  rw [new_at]
  dsimp only
  rw [h]
  rfl
theorem all_map {S : Sto} {xs : List A} (q : A → Bool) : bAll [.ref S.n] (S.new (.lst (xs.map fun a => .bl (q a)))) = some (.bl (xs.all q), S.new (.lst (xs.map fun a => .bl (q a)))) := by
  rw [all_at (bools_map q xs), List.all_map]
  rfl
theorem tA_inj {s t : Tie} (h : tA s = tA t) : s = t := by
  unfold tA at h
  injection h with h
  injection h with h1 h2
  injection h2 with h2 _
  injection h2 with h2
  exact Prod.ext (nA_inj h1) (by omega)
theorem maps_inj {α β : Type} {f : α → β} (inj : ∀ a b, f a = f b → a = b) : ∀ {xs ys : List α}, xs.map f = ys.map f → xs = ys
  | [], [], _ => rfl
  | [], _ :: _, e => by cases e
  | _ :: _, [], e => by cases e
  | x :: xs, y :: ys, e => by
    rw [List.map_cons, List.map_cons] at e
    injection e with e1 e2
    rw [inj _ _ e1, maps_inj inj e2]
theorem gr_of {S S' : Sto} (g : Gr S S') : ∀ n xs, n < S.n → S.f n = some (.lst xs) → S'.f n = some (.lst xs) := fun n xs hn h => by rw [g.k n hn (fun z => z)]; exact h
theorem kn_gr {S S' : Sto} (g : Gr S S') {v : A} (k : Kn S v) : Kn S' v := k.gr fun n xs hn h => ⟨Nat.lt_of_lt_of_le hn g.n, gr_of g n xs hn h⟩
theorem r_are_unlike {xs : List A} {m : Nat} {S : Sto} {P : A → Sto → Prop} {X : Ex → Sto → Prop} (h : oLenSet (.tup xs) S = some (.int (m : Nat), S)) (hp : P (.bl (decide (m = xs.length))) S) : Run (f_are_unlike [.tup xs]) S P X := by
  refine fn_run ?_
  have e : oEq false (.int (m : Nat)) (.int (xs.length : Nat)) S = some (.bl (decide (m = xs.length)), S) := by
    show some (A.bl (false != ((m : Int) == (xs.length : Int))), S) = _
    congr 3
    rw [Bool.false_bne]
    by_cases z : m = xs.length
    · rw [z]; simp
    · have : ¬ (m : Int) = (xs.length : Int) := by omega
      simp [z, this]
  simp [b_are_unlike, h, e, hp]
/-- the two rounds of need_ties -/
def pairB (v : A) : Bool := tupOf v 2 2
theorem pair_inv {v : A} (h : pairB v = true) : ∃ a b, v = .tup [a, b] := by
  unfold pairB tupOf at h
  split at h
  · rename_i xs
    rcases xs with _ | ⟨a, _ | ⟨b, _ | ⟨c, r⟩⟩⟩
    · simp at h
    · simp at h
    · exact ⟨a, b, rfl⟩
    · simp at h; omega
  · cases h
/-- what need_ties lets pass -/
def tiesOk (v : A) : Prop := ∃ ts : List Tie, v = .tup (ts.map tA) ∧ (∀ t ∈ ts, okT t) ∧ ts.Nodup
theorem r_need_ties {v : A} {S : Sto} (hv : Kn S v) (hl : ∀ xs, v = .tup xs → xs.length < 64) : Run (f_need_ties [v]) S (fun a S' => a = .non ∧ tiesOk v ∧ Gr S S') (fun e S' => e = ⟨"InvalidTies", []⟩ ∧ ¬ tiesOk v ∧ Gr S S') := by
  refine fn_run ?_
  simp [b_need_ties]
  refine r_is_tuple_of hv ?_
  cases ht : tupOf v 0 400 with
  | false =>
    simp
    refine ⟨fun ⟨ts, e, _⟩ => ?_, Gw.refl⟩
    subst e
    have := hl _ rfl
    rw [List.length_map] at this
    unfold tupOf at ht
    dsimp only at ht
    rw [List.length_map] at ht
    simp at ht
    omega
  | true =>
    obtain ⟨xs, rfl⟩ : ∃ xs, v = .tup xs := by
      unfold tupOf at ht
      split at ht
      · exact ⟨_, rfl⟩
      · cases ht
    have len := hl xs rfl
    cases hv with
    | tup hk =>
      simp
      refine lc_bools pairB (by omega) (fun a S1 ha g1 => ⟨_, rfl, ?_⟩) fun S1 g1 => ?_
      · simp [setE, wipeE]
        exact r_is_tuple_of (kn_gr g1 (hk a ha)) ⟨rfl, Gw.refl⟩
      rw [all_map]
      have g2 : Gr S (S1.new (Ob.lst (xs.map fun a => .bl (pairB a)))) := g1.trans gr_new
      dsimp only
      cases hp : xs.all pairB with
      | false =>
        simp
        refine ⟨fun ⟨ts, e, _⟩ => ?_, g2⟩
        injection e with e
        rw [e, List.all_map] at hp
        have : (ts.all (pairB ∘ tA)) = true := List.all_eq_true.mpr fun t _ => rfl
        rw [this] at hp
        cases hp
      | true =>
        simp
        refine lc_bools tieB (by omega) (fun a S2 ha g3 => ⟨_, rfl, ?_⟩) fun S2 g3 => ?_
        · obtain ⟨x, y, rfl⟩ := pair_inv (List.all_eq_true.mp hp a ha)
          have kk := hk _ ha
          cases kk with
          | tup kk =>
            have kx : Kn S2 x := kn_gr (g2.trans g3) (kk x (by simp))
            have ky : Kn S2 y := kn_gr (g2.trans g3) (kk y (by simp))
            have i0 : ∀ S, oIx (.tup [x, y]) (.int 0) S = some (x, S) := fun S => ov_ixT (k := 0) rfl
            have i1 : ∀ S, oIx (.tup [x, y]) (.int 1) S = some (y, S) := fun S => ov_ixT (k := 1) rfl
            simp [setE, wipeE, i0, i1]
            refine r_is_node kx ?_
            cases hx : nodeB x with
            | true =>
              simp
              refine r_is_whole ky ?_
              exact ⟨by simp [tieB, hx], Gw.refl⟩
            | false =>
              simp
              exact ⟨by simp [tieB, hx], Gw.refl⟩
        rw [all_map]
        have g4 := (g2.trans g3).trans (gr_new (o := .lst (xs.map fun a => .bl (tieB a))))
        generalize S2.new (.lst (xs.map fun a => .bl (tieB a))) = S4 at g4 ⊢
        dsimp only
        cases hq : xs.all tieB with
        | false =>
          simp
          refine ⟨fun ⟨us, e, hu, _⟩ => ?_, g4⟩
          injection e with e
          rw [e] at hq
          rw [List.all_eq_true.mpr fun x hx => by
            obtain ⟨u, m, e⟩ := List.mem_map.mp hx
            rw [← e]
            exact tieB_tA (hu u m)] at hq
          cases hq
        | true =>
          simp
          obtain ⟨ts, rfl, okts⟩ := ties_inv hq
          rw [List.length_map] at len
          refine r_are_unlike (lenset_ties len) ?_
          have nn := nub_nodup (kds_map tD_kd ts)
          rw [List.length_map, nodup_map (fun a b => tD_inj)] at nn
          rw [List.length_map]
          by_cases hn : ts.Nodup
          · rw [nn.mpr hn]
            simp
            exact ⟨⟨ts, rfl, okts, hn⟩, g4⟩
          · have : ¬ nubN (ts.map tD) = ts.length := fun z => hn (nn.mp z)
            simp [this]
            refine ⟨fun ⟨us, e, _, hu⟩ => hn ?_, g4⟩
            injection e with e
            rw [maps_inj (fun a b => tA_inj) e]
            exact hu
end Rings

end

section
set_option Elab.async false
set_option linter.all false
set_option maxRecDepth 100000
set_option maxHeartbeats 1000000
/-! RP4: ties asked; fits_ring. -/
namespace Rings
open PySem PySem.Spec PyProof.Rows L2 EV
theorem lay_all {α : Type} {f : α → PyData} (h : ∀ a, (f a).canLay0 = true) : ∀ l : List α, PyData.canLayAll0 (l.map f) = true
  | [] => by simp [PyData.canLayAll0]
  | a :: l => by rw [List.map_cons, PyData.canLayAll0, h a, lay_all h l]; rfl
theorem dep_all {α : Type} {f : α → PyData} {k : Nat} (h : ∀ a, (f a).depth ≤ k) : ∀ l : List α, PyData.depthAll (l.map f) ≤ k
  | [] => by simp [PyData.depthAll]
  | a :: l => by
    rw [List.map_cons, PyData.depthAll]
    exact Nat.max_le.mpr ⟨h a, dep_all h l⟩
theorem shp_tup {α : Type} {f : α → PyData} {k : Nat} (h : ∀ a, (f a).canLay0 = true) (hd : ∀ a, (f a).depth ≤ k) (hk : k ≤ 63) (l : List α) : SeqAt.shaped (.tuple (l.map f)) = true ∧ SeqAt.shaped (.list (l.map f)) = true := by
  have e := dep_all hd l
  unfold SeqAt.shaped
  rw [PyData.canLay0, PyData.canLay0, lay_all h l, PyData.depth, PyData.depth]
  have : decide (PyData.depthAll (l.map f) + 1 ≤ 64) = true := decide_eq_true (by omega)
  rw [this]
  exact ⟨rfl, rfl⟩
theorem shp_t (t : Tie) : SeqAt.shaped (tD t) = true := by
  unfold SeqAt.shaped
  rw [tD_lay, tD_dep]
  rfl
theorem shp_n (n : Nd) : SeqAt.shaped (nD n) = true := by
  unfold SeqAt.shaped
  rw [nD_lay, nD_dep]
  rfl
theorem rd_t {S : Sto} (t : Tie) : rdE S (tA t) = some (tD t) := rdE_of (t_rd t) (shp_t t)
theorem rd_n {S : Sto} (n : Nd) : rdE S (nA n) = some (nD n) := rdE_of (n_rd n) (shp_n n)
theorem rd_ts {S : Sto} (ts : List Tie) : rdE S (.tup (ts.map tA)) = some (.tuple (ts.map tD)) := by
  refine rdE_of ?_ (shp_tup tD_lay (k := 2) (fun t => Nat.le_of_eq (tD_dep t)) (by omega) ts).1
  show (mapO (rdD 63 S) (ts.map tA)).map PyData.tuple = _
  rw [mapO_map (fun t => t_rd (k := 60) t)]
  rfl
theorem rd_ns {S : Sto} (ns : List Nd) : rdE S (.tup (ns.map nA)) = some (.tuple (ns.map nD)) := by
  refine rdE_of ?_ (shp_tup nD_lay (k := 1) (fun t => Nat.le_of_eq (nD_dep t)) (by omega) ns).1
  show (mapO (rdD 63 S) (ns.map nA)).map PyData.tuple = _
  rw [mapO_map (fun t => n_rd (k := 61) t)]
  rfl
theorem rd_nl {S : Sto} {k : Nat} {ns : List Nd} (h : S.f k = some (.lst (ns.map nA))) : rdE S (.ref k) = some (.list (ns.map nD)) := by
  refine rdE_of ?_ (shp_tup nD_lay (k := 1) (fun t => Nat.le_of_eq (nD_dep t)) (by omega) ns).2
  show (match S.f k with
    | some (.lst xs) => (mapO (rdD 63 S) xs).map PyData.list
    | _ => none) = _
  rw [h]
  dsimp only
  rw [mapO_map (fun t => n_rd (k := 61) t)]
  rfl
theorem any_iff {α : Type} {f : α → PyData} (hk : ∀ a, kd (f a) = true) (inj : ∀ a b, f a = f b → a = b) (a : α) (l : List α) : ((l.map f).any fun z => PyData.eqv z (f a)) = true ↔ a ∈ l := by
  rw [List.any_eq_true]
  constructor
  · rintro ⟨z, hz, e⟩
    obtain ⟨b, hb, rfl⟩ := List.mem_map.mp hz
    rw [← inj _ _ (eqv_kd (hk b) e (hk a))]
    exact hb
  · exact fun h => ⟨f a, List.mem_map.mpr ⟨a, h, rfl⟩, eqv_refl (hk a)⟩
theorem any_in {α : Type} {f : α → PyData} (hk : ∀ a, kd (f a) = true) (inj : ∀ a b, f a = f b → a = b) (a : α) (l : List α) [Decidable (a ∈ l)] : ((l.map f).any fun z => PyData.eqv z (f a)) = decide (a ∈ l) := by
  rw [Bool.eq_iff_iff, any_iff hk inj, decide_eq_true_iff]
theorem in_ties {S : Sto} (neg : Bool) (t : Tie) (ts : List Tie) : oIn neg (tA t) (.tup (ts.map tA)) S = some (.bl (neg != decide (t ∈ ts)), S) := by
  unfold oIn
  dsimp only
  rw [rd_t, rd_ts]
  dsimp only
  rw [any_in tD_kd (fun a b => tD_inj)]
theorem in_nodesT {S : Sto} (neg : Bool) (n : Nd) (ns : List Nd) : oIn neg (nA n) (.tup (ns.map nA)) S = some (.bl (neg != decide (n ∈ ns)), S) := by
  unfold oIn
  dsimp only
  rw [rd_n, rd_ns]
  dsimp only
  rw [any_in nD_kd (fun a b => nD_inj)]
theorem in_nodesL {S : Sto} {k : Nat} {ns : List Nd} (h : S.f k = some (.lst (ns.map nA))) (neg : Bool) (n : Nd) : oIn neg (nA n) (.ref k) S = some (.bl (neg != decide (n ∈ ns)), S) := by
  have nd : dctAt S k = none := by unfold dctAt; rw [h]
  unfold oIn
  dsimp only
  rw [nd]
  dsimp only
  rw [rd_n, rd_nl h]
  dsimp only
  rw [any_in nD_kd (fun a b => nD_inj)]
theorem eq_kind {S : Sto} (neg b : Bool) : oEq neg (.str (kS b)) (.str "talk") S = some (.bl (neg != b), S) := by
  unfold oEq
  rw [rd_str (kS_ok b), rd_str (x := "talk") (by decide +kernel)]
  cases b <;> cases neg <;> rfl
theorem ix_n0 {S : Sto} (n : Nd) : oIx (nA n) (.int 0) S = some (.str (kS n.1), S) := ov_ixT (k := 0) rfl
theorem ix_n1 {S : Sto} (n : Nd) : oIx (nA n) (.int 1) S = some (.int n.2, S) := ov_ixT (k := 1) rfl
theorem tA_eq (n : Nd) (i : Nat) : (A.tup [nA n, .int (i : Int)]) = tA (n, i) := rfl
/-- tied, one way or the other -/
def tied (ts : List Tie) (a b : Nd) : Bool := (b.1 && decide ((a, b.2) ∈ ts)) || (a.1 && decide ((b, a.2) ∈ ts))
theorem line_two : (2 : Nat) ≤ line := by unfold line; omega
theorem r_are_tied {ts : List Tie} {a b : Nd} {S : Sto} {P : A → Sto → Prop} {X : Ex → Sto → Prop} (h : P (.bl (tied ts a b)) S) : Run (f_are_tied [.tup (ts.map tA), nA a, nA b]) S P X := by
  refine fn_run ?_
  simp [b_are_tied, ix_n0, ix_n1, eq_kind]
  cases hb : b.1 with
  | true =>
    simp [line_two, tA_eq, in_ties]
    by_cases h1 : (a, b.2) ∈ ts
    · simpa [h1, tied, hb] using h
    · cases ha : a.1 with
      | true => simpa [h1, tied, hb, ha] using h
      | false => simpa [h1, tied, hb, ha] using h
  | false =>
    cases ha : a.1 with
    | true => simpa [line_two, tA_eq, in_ties, tied, hb, ha] using h
    | false => simpa [tied, hb, ha] using h
end Rings

end

section
set_option Elab.async false
set_option linter.all false
set_option maxRecDepth 100000
set_option maxHeartbeats 1000000
/-! RP5: fits_ring. -/
namespace Rings
open PySem PySem.Spec PyProof.Rows L2 EV
@[simp] theorem sp_zip {l : CL} {ε : EV.Env} {S : Sto} {P : IT → Sto → Prop} {X : Ex → Sto → Prop} : Run (cZip l ε) S P X = Run (l ε) S (fun as S1 => match as with | [a, b] => Run (zipIT a b) S1 P X | _ => False) X := by
  unfold cZip
  rw [run_bnd]; congr 1; funext as S1
  rcases as with _ | ⟨a, _ | ⟨b, _ | ⟨c, r⟩⟩⟩ <;> rfl
@[simp] theorem sp_zipT {xs ys : List A} {S : Sto} {P : IT → Sto → Prop} {X : Ex → Sto → Prop} : Run (zipIT (.tup xs) (.tup ys)) S P X = P ⟨zipAt (.tup xs) (.tup ys), xs.length⟩ S := rfl
theorem zip_get {α β : Type} : ∀ (xs : List α) (ys : List β) (i : Nat), (xs.zip ys)[i]? = match xs[i]?, ys[i]? with | some a, some b => some (a, b) | _, _ => none
  | [], _, _ => by simp
  | _ :: _, [], _ => by simp
  | x :: xs, y :: ys, 0 => by simp
  | x :: xs, y :: ys, i + 1 => by
    rw [List.zip_cons_cons, List.getElem?_cons_succ, List.getElem?_cons_succ, List.getElem?_cons_succ]
    exact zip_get xs ys i
theorem zip_at (xs ys : List A) (i : Nat) (S : Sto) : zipAt (.tup xs) (.tup ys) i S = some (((xs.zip ys).map fun p => A.tup [p.1, p.2])[i]?) := by
  unfold zipAt
  dsimp only
  rw [List.getElem?_map, zip_get]
  cases xs[i]? with
  | none => rfl
  | some a => cases ys[i]? <;> rfl
theorem cut_from (xs : List A) : cutA xs (some 1) none = xs.drop 1 := by
  unfold cutA
  rw [show HT.sIx xs.length 0 (some 1) = min 1 xs.length from HT.sIx_nat xs.length 0 1, HT.sIx_none]
  cases xs with
  | nil => rfl
  | cons x r =>
    have : min 1 (x :: r).length = 1 := by rw [List.length_cons]; omega
    rw [this]
    show List.take ((r.length + 1) - 1) r = r
    rw [Nat.add_sub_cancel]
    exact List.take_length
theorem cut_to (xs : List A) : cutA xs none (some 1) = xs.take 1 := by
  unfold cutA
  rw [show HT.sIx xs.length xs.length (some 1) = min 1 xs.length from HT.sIx_nat xs.length xs.length 1, HT.sIx_none, List.drop_zero, Nat.sub_zero]
  cases xs with
  | nil => rfl
  | cons x r =>
    have : min 1 (x :: r).length = 1 := by rw [List.length_cons]; omega
    rw [this]
@[simp] theorem sl_from {xs : List A} {S : Sto} : oSl (.tup xs) (some 1) none S = some (.tup (xs.drop 1), S) := by unfold oSl; dsimp only; rw [cut_from]
@[simp] theorem sl_to {xs : List A} {S : Sto} : oSl (.tup xs) none (some 1) S = some (.tup (xs.take 1), S) := by unfold oSl; dsimp only; rw [cut_to]
/-- each one and the next, around -/
def pairs (ns : List Nd) : List (Nd × Nd) := ns.zip (ns.drop 1 ++ ns.take 1)
/-- a ring in the ties -/
def ringB (ts : List Tie) (ns : List Nd) : Bool := if ns.length < 3 then (pairs ns).all fun p => p.2.1 && decide ((p.1, p.2.2) ∈ ts) else (pairs ns).all fun p => tied ts p.1 p.2
def isRing (ts : List Tie) (ns : List Nd) : Prop := 1 ≤ ns.length ∧ (∀ n ∈ ns, okN n) ∧ ns.Nodup ∧ ringB ts ns = true
theorem nodes_inv : ∀ {xs : List A}, xs.all nodeB = true → ∃ ns : List Nd, xs = ns.map nA ∧ ∀ n ∈ ns, okN n
  | [], _ => ⟨[], rfl, fun t h => nomatch h⟩
  | x :: xs, h => by
    rw [List.all_cons, Bool.and_eq_true] at h
    obtain ⟨t, rfl, ht⟩ := nodeB_inv h.1
    obtain ⟨ts, rfl, hts⟩ := nodes_inv h.2
    exact ⟨t :: ts, rfl, fun s hs => (List.mem_cons.mp hs).elim (fun e => e ▸ ht) (hts s)⟩
theorem zipA (ns ms : List Nd) : ((ns.map nA).zip (ms.map nA)).map (fun p => A.tup [p.1, p.2]) = (ns.zip ms).map fun p => A.tup [nA p.1, nA p.2] := by
  rw [List.zip_map, List.map_map]
  rfl
theorem rotA (ns : List Nd) : (ns.map nA).drop 1 ++ (ns.map nA).take 1 = (ns.drop 1 ++ ns.take 1).map nA := by
  rw [List.map_append, List.map_drop, List.map_take]

theorem zip_ns (ns ms : List Nd) (i : Nat) (S : Sto) : zipAt (.tup (ns.map nA)) (.tup (ms.map nA)) i S = some ((ns.zip ms)[i]?.map fun p => A.tup [nA p.1, nA p.2]) := by
  rw [zip_at, zipA, List.getElem?_map]
theorem pairs_len (ns : List Nd) : (pairs ns).length = ns.length := by
  unfold pairs
  rw [List.length_zip, List.length_append, List.length_drop, List.length_take]
  omega
theorem pairs_zip (ns : List Nd) (i : Nat) (S : Sto) : zipAt (.tup (ns.map nA)) (.tup ((ns.map nA).tail ++ (ns.map nA).take 1)) i S = some ((pairs ns)[i]?.map fun p => A.tup [nA p.1, nA p.2]) := by
  rw [← List.drop_one, rotA]
  exact zip_ns _ _ _ _
theorem all_q {α : Type} {S : Sto} {us : List α} (q : α → Bool) : bAll [.ref S.n] (S.new (.lst (us.map fun a => .bl (q a)))) = some (.bl (us.all q), S.new (.lst (us.map fun a => .bl (q a)))) := by
  rw [all_at (bools_map q us), List.all_map]
  rfl
theorem ring_add {ns : List Nd} {S : Sto} (h : ns.length < 64) : oAdd (.tup (ns.map nA).tail) (.tup ((ns.map nA).take 1)) S = some (.tup ((ns.drop 1 ++ ns.take 1).map nA), S) := by
  rw [← rotA, List.drop_one]
  refine ov_addT ?_
  rw [List.length_tail, List.length_take, List.length_map]
  unfold line
  omega
theorem r_fits_ring {ts : List Tie} {v : A} {S : Sto} {P : A → Sto → Prop} {X : Ex → Sto → Prop} (hv : Kn S v) (hl : ∀ xs, v = .tup xs → xs.length < 64)
    (h : ∀ (b : Bool) S', Gr S S' → (b = true ↔ ∃ ns : List Nd, v = .tup (ns.map nA) ∧ isRing ts ns) → P (.bl b) S') : Run (f_fits_ring [.tup (ts.map tA), v]) S P X := by
  refine fn_run ?_
  simp [b_fits_ring]
  refine r_is_tuple_of hv ?_
  have fin : ∀ (S' : Sto), Gr S S' → (¬ ∃ ns : List Nd, v = .tup (ns.map nA) ∧ isRing ts ns) → P (.bl false) S' := fun S' g no => h false S' g ⟨fun z => (nomatch z), fun z => absurd z no⟩
  cases ht : tupOf v 1 400 with
  | false =>
    simp
    refine fin _ Gw.refl ?_
    rintro ⟨ns, rfl, h1, _⟩
    have := hl _ rfl
    rw [List.length_map] at this
    unfold tupOf at ht
    dsimp only at ht
    rw [List.length_map] at ht
    simp at ht
    omega
  | true =>
    obtain ⟨xs, rfl⟩ : ∃ xs, v = .tup xs := by
      unfold tupOf at ht
      split at ht
      · exact ⟨_, rfl⟩
      · cases ht
    have pos : 1 ≤ xs.length := by
      unfold tupOf at ht
      simp at ht
      omega
    have len := hl xs rfl
    cases hv with
    | tup hk =>
      simp
      refine lc_bools nodeB (by show xs.length ≤ _; omega) (fun a S1 ha g1 => ⟨_, rfl, ?_⟩) fun S1 g1 => ?_
      · simp [setE, wipeE]
        exact r_is_node (kn_gr g1 (hk a ha)) ⟨rfl, Gw.refl⟩
      rw [all_map]
      have g2 : Gr S (S1.new (Ob.lst (xs.map fun a => .bl (nodeB a)))) := g1.trans gr_new
      generalize S1.new (.lst (xs.map fun a => .bl (nodeB a))) = S2 at g2 ⊢
      dsimp only
      cases hp : xs.all nodeB with
      | false =>
        simp
        refine fin _ g2 ?_
        rintro ⟨ns, e, _, h2, _⟩
        injection e with e
        rw [e, List.all_map] at hp
        have : (ns.all (nodeB ∘ nA)) = true := List.all_eq_true.mpr fun n hn => by
          show nodeB (nA n) = true
          rw [nodeB_nA]
          exact decide_eq_true (h2 n hn)
        rw [this] at hp
        cases hp
      | true =>
        obtain ⟨ns, rfl, okns⟩ := nodes_inv hp
        rw [List.length_map] at len pos
        have nn := nub_nodup (kds_map nD_kd ns)
        rw [List.length_map, nodup_map (fun a b => nD_inj)] at nn
        have uniq : ∀ ms : List Nd, A.tup (ns.map nA) = .tup (ms.map nA) → ns = ms := fun ms e => by
          injection e with e
          exact maps_inj (fun a b => nA_inj) e
        simp
        refine r_are_unlike (lenset_nodes len) ?_
        rw [List.length_map]
        by_cases hn : ns.Nodup
        · rw [nn.mpr hn]
          have key : ∀ b, b = ringB ts ns → (b = true ↔ ∃ ms : List Nd, A.tup (ns.map nA) = .tup (ms.map nA) ∧ isRing ts ms) := fun b e => by
            subst e
            exact ⟨fun z => ⟨ns, rfl, pos, okns, hn, z⟩, fun ⟨ms, e, _, _, _, z⟩ => by rw [uniq ms e]; exact z⟩
          simp
          by_cases h3 : ns.length < 3
          · have h3' : ((ns.length : Nat) : Int) < 3 := by omega
            simp [h3', ring_add len]
            refine lc_yes (pairs ns) (fun p => A.tup [nA p.1, nA p.2]) (fun p => .bl (p.2.1 && decide ((p.1, p.2.2) ∈ ts))) (by show ns.length ≤ _; omega) (Nat.le_of_eq (pairs_len ns)) (fun i S _ => pairs_zip ns i S) (fun u S3 hu g3 => ⟨[(3, nA u.1), (4, nA u.2)], rfl, ?_⟩) fun S3 g3 => ?_
            · simp [ix_n0, ix_n1, eq_kind]
              cases hb : u.2.1 with
              | false => simp; exact Gw.refl
              | true => simp [line_two, tA_eq, in_ties]; exact Gw.refl
            rw [all_q]
            refine h _ _ ((g2.trans g3).trans gr_new) (key _ ?_)
            unfold ringB
            rw [if_pos h3]
          · have h3' : ¬ ((ns.length : Nat) : Int) < 3 := by omega
            simp [h3', ring_add len]
            refine lc_yes (pairs ns) (fun p => A.tup [nA p.1, nA p.2]) (fun p => .bl (tied ts p.1 p.2)) (by show ns.length ≤ _; omega) (Nat.le_of_eq (pairs_len ns)) (fun i S _ => pairs_zip ns i S) (fun u S3 hu g3 => ⟨[(3, nA u.1), (4, nA u.2)], rfl, ?_⟩) fun S3 g3 => ?_
            · simp
              exact r_are_tied ⟨rfl, Gw.refl⟩
            rw [all_q]
            refine h _ _ ((g2.trans g3).trans gr_new) (key _ ?_)
            unfold ringB
            rw [if_neg h3]
        · have : ¬ nubN (ns.map nD) = ns.length := fun z => hn (nn.mp z)
          simp [this]
          refine fin _ g2 ?_
          rintro ⟨ms, e, _, _, h2, _⟩
          rw [uniq ms e] at hn
          exact hn h2
end Rings

end

section
set_option Elab.async false
set_option linter.all false
set_option maxRecDepth 100000
set_option maxHeartbeats 1000000
/-! RM1: forests, by groups that are joined; parities. No program here. -/
namespace Rings
def tl (t : Tie) : Nd := (true, t.2)
/-- the parity of f over a list -/
def xf {α : Type} (l : List α) (f : α → Bool) : Bool := l.foldr (fun a b => f a ^^ b) false
section
variable {α : Type} {f g : α → Bool} {t : α}
theorem xf_cons {a : α} {l : List α} : xf (a :: l) f = (f a ^^ xf l f) := rfl
theorem xf_congr : ∀ {l : List α}, (∀ a ∈ l, f a = g a) → xf l f = xf l g
  | [], _ => rfl
  | a :: l, h => by rw [xf_cons, xf_cons, h a (by simp), xf_congr fun b hb => h b (by simp [hb])]
theorem xf_none {l : List α} (h : ∀ a ∈ l, f a = false) : xf l f = false := by
  rw [xf_congr h]
  induction l with
  | nil => rfl
  | cons a l ih => rw [xf_cons, ih fun b hb => h b (by simp [hb])]; rfl
theorem xf_xor (l : List α) : xf l (fun a => f a ^^ g a) = (xf l f ^^ xf l g) := by
  induction l with
  | nil => rfl
  | cons a l ih =>
    rw [xf_cons, xf_cons, xf_cons, ih]
    cases f a <;> cases g a <;> cases xf l f <;> cases xf l g <;> rfl
theorem xf_one : ∀ {l : List α}, l.Nodup → t ∈ l → f t = true → (∀ s ∈ l, s ≠ t → f s = false) → xf l f = true
  | a :: l, hn, ht, h1, h0 => by
    rw [List.nodup_cons] at hn
    rw [xf_cons]
    rcases List.mem_cons.mp ht with rfl | ht
    · rw [h1, xf_none fun s hs => h0 s (by simp [hs]) fun e => hn.1 (e ▸ hs)]
      rfl
    · rw [h0 a (by simp) fun e => hn.1 (e ▸ ht), xf_one hn.2 ht h1 fun s hs => h0 s (by simp [hs])]
      rfl
theorem xf_at [DecidableEq α] {l : List α} (hn : l.Nodup) (ht : t ∈ l) : xf l (fun s => decide (s = t) && f s) = f t := by
  cases h : f t with
  | true => exact xf_one hn ht (by simp [h]) fun s _ ne => by simp [ne]
  | false =>
    refine xf_none fun s _ => ?_
    by_cases e : s = t
    · rw [e]; simp [h]
    · simp [e]
end
/-- the first group that holds n; else n alone -/
def grp (gs : List (List Nd)) (n : Nd) : List Nd := match gs.filter fun g => decide (n ∈ g) with
  | [] => [n]
  | g :: _ => g
theorem grp_cases (gs : List (List Nd)) (n : Nd) : (grp gs n ∈ gs ∧ n ∈ grp gs n) ∨ (grp gs n = [n] ∧ ∀ g ∈ gs, n ∉ g) := by
  unfold grp
  split
  · rename_i h
    rw [List.filter_eq_nil_iff] at h
    exact .inr ⟨rfl, fun g hg z => h g hg (decide_eq_true z)⟩
  · rename_i g r h
    have m : g ∈ gs.filter fun g => decide (n ∈ g) := by rw [h]; simp
    rw [List.mem_filter] at m
    exact .inl ⟨m.1, of_decide_eq_true m.2⟩
theorem grp_mem (gs : List (List Nd)) (n : Nd) : n ∈ grp gs n := by
  rcases grp_cases gs n with ⟨_, h⟩ | ⟨h, _⟩
  · exact h
  · rw [h]; simp
def join (gs : List (List Nd)) (t : Tie) : List (List Nd) := (gs.filter fun g => decide (g ≠ grp gs t.1) && decide (g ≠ grp gs (tl t))) ++ [grp gs t.1 ++ grp gs (tl t)]
def forest : List (List Nd) → List Tie → Bool
  | _, [] => true
  | gs, t :: ts => if grp gs t.1 = grp gs (tl t) then false else forest (join gs t) ts
structure GI (done : List Tie) (gs : List (List Nd)) : Prop where
  dj : ∀ g ∈ gs, ∀ k ∈ gs, ∀ n, n ∈ g → n ∈ k → g = k
  cl : ∀ s ∈ done, ∃ g ∈ gs, s.1 ∈ g ∧ tl s ∈ g
theorem GI.is {done : List Tie} {gs : List (List Nd)} (G : GI done gs) {n x : Nd} {g : List Nd} (hx : x ∈ grp gs n) (hg : g ∈ gs) (h : x ∈ g) : g = grp gs n := by
  rcases grp_cases gs n with ⟨h1, _⟩ | ⟨h1, h2⟩
  · exact G.dj g hg _ h1 x h hx
  · rw [h1, List.mem_singleton] at hx
    exact absurd (hx ▸ h) (h2 g hg)
theorem mem_join {gs : List (List Nd)} {t : Tie} {g : List Nd} : g ∈ join gs t ↔ (g ∈ gs ∧ g ≠ grp gs t.1 ∧ g ≠ grp gs (tl t)) ∨ g = grp gs t.1 ++ grp gs (tl t) := by
  unfold join
  rw [List.mem_append, List.mem_filter, List.mem_singleton, Bool.and_eq_true, decide_eq_true_iff, decide_eq_true_iff]
theorem GI.join {done : List Tie} {gs : List (List Nd)} (G : GI done gs) (t : Tie) : GI (done ++ [t]) (join gs t) := by
  have no : ∀ g ∈ gs, g ≠ grp gs t.1 → g ≠ grp gs (tl t) → ∀ n, n ∈ g → n ∉ grp gs t.1 ++ grp gs (tl t) := fun g hg h1 h2 n hn hm => by
    rcases List.mem_append.mp hm with z | z
    · exact h1 (G.is z hg hn)
    · exact h2 (G.is z hg hn)
  refine ⟨fun g hg k hk n h1 h2 => ?_, fun s hs => ?_⟩
  · rcases mem_join.mp hg with ⟨a1, a2, a3⟩ | rfl
    · rcases mem_join.mp hk with ⟨b1, _, _⟩ | rfl
      · exact G.dj g a1 k b1 n h1 h2
      · exact absurd h2 (no g a1 a2 a3 n h1)
    · rcases mem_join.mp hk with ⟨b1, b2, b3⟩ | rfl
      · exact absurd h1 (no k b1 b2 b3 n h2)
      · rfl
  · rcases List.mem_append.mp hs with hs | hs
    · obtain ⟨g, hg, h1, h2⟩ := G.cl s hs
      by_cases e1 : g = grp gs t.1
      · exact ⟨_, mem_join.mpr (.inr rfl), List.mem_append.mpr (.inl (e1 ▸ h1)), List.mem_append.mpr (.inl (e1 ▸ h2))⟩
      · by_cases e2 : g = grp gs (tl t)
        · exact ⟨_, mem_join.mpr (.inr rfl), List.mem_append.mpr (.inr (e2 ▸ h1)), List.mem_append.mpr (.inr (e2 ▸ h2))⟩
        · exact ⟨g, mem_join.mpr (.inl ⟨hg, e1, e2⟩), h1, h2⟩
    · rw [List.mem_singleton.mp hs]
      exact ⟨_, mem_join.mpr (.inr rfl), List.mem_append.mpr (.inl (grp_mem gs t.1)), List.mem_append.mpr (.inr (grp_mem gs (tl t)))⟩
theorem gi_nil : GI [] [] := ⟨fun g h => (nomatch h), fun s h => (nomatch h)⟩
/-! ### a row of ties that closes: no forest -/
def Closed (es : List Tie) : Prop := ∀ c : Nd → Bool, xf es (fun t => c t.1 ^^ c (tl t)) = false
theorem no_closed : ∀ (rest done : List Tie) (gs : List (List Nd)), GI done gs → forest gs rest = true → ∀ es : List Tie, es.Nodup → (∀ e ∈ es, e ∈ done ++ rest) → Closed es → ∀ e ∈ es, e ∈ done
  | [], done, gs, G, hf, es, hn, hs, hc => fun e he => by have := hs e he; rwa [List.append_nil] at this
  | t :: rest, done, gs, G, hf, es, hn, hs, hc => fun e he => by
    unfold forest at hf
    by_cases z : grp gs t.1 = grp gs (tl t)
    · rw [if_pos z] at hf; cases hf
    rw [if_neg z] at hf
    have ih := no_closed rest (done ++ [t]) (Rings.join gs t) (G.join t) hf es hn (fun e he => by rw [List.append_assoc]; exact hs e he) hc
    have nt : t ∉ es := fun ht => by
      have h1 := hc fun n => decide (n ∈ grp gs t.1)
      have c1 : decide (t.1 ∈ grp gs t.1) = true := decide_eq_true (grp_mem _ _)
      have c2 : decide (tl t ∈ grp gs t.1) = false := decide_eq_false fun m => z (by
        rcases grp_cases gs (tl t) with ⟨a, b⟩ | ⟨a, b⟩
        · exact (G.is m a b).symm
        · rcases grp_cases gs t.1 with ⟨c, d⟩ | ⟨c, d⟩
          · exact absurd m (b _ c)
          · rw [c, List.mem_singleton] at m
            rw [a, c, m])
      rw [xf_one hn ht (by rw [c1, c2]; rfl) fun s hs ne => ?_] at h1
      · cases h1
      · rcases List.mem_append.mp (ih s hs) with m | m
        · obtain ⟨g, hg, g1, g2⟩ := G.cl s m
          have : decide (s.1 ∈ grp gs t.1) = decide (tl s ∈ grp gs t.1) := by
            rw [decide_eq_decide]
            exact ⟨fun z => by rw [← G.is z hg g1]; exact g2, fun z => by rw [← G.is z hg g2]; exact g1⟩
          rw [this, Bool.xor_self]
        · exact absurd (List.mem_singleton.mp m) ne
    rcases List.mem_append.mp (ih e he) with m | m
    · exact m
    · exact absurd (List.mem_singleton.mp m ▸ he) nt
/-! ### no forest: ties that meet each node an even number of times -/
def inc (t : Tie) (n : Nd) : Bool := decide (n = t.1) ^^ decide (n = tl t)
def Cn (ts done : List Tie) (a b : Nd) : Prop := ∃ F : Tie → Bool, (∀ t, F t = true → t ∈ done) ∧ ∀ n, xf ts (fun t => F t && inc t n) = (decide (n = a) ^^ decide (n = b))
section
variable {ts done done' : List Tie} {a b c : Nd}
theorem Cn.refl : Cn ts done a a := ⟨fun _ => false, fun _ h => (nomatch h), fun n => by rw [Bool.xor_self]; exact xf_none fun _ _ => rfl⟩
theorem Cn.symm (h : Cn ts done a b) : Cn ts done b a := by
  obtain ⟨F, h1, h2⟩ := h
  exact ⟨F, h1, fun n => by rw [h2 n, Bool.xor_comm]⟩
theorem Cn.trans (h : Cn ts done a b) (k : Cn ts done b c) : Cn ts done a c := by
  obtain ⟨F, f1, f2⟩ := h
  obtain ⟨E, e1, e2⟩ := k
  refine ⟨fun t => F t ^^ E t, fun t z => ?_, fun n => ?_⟩
  · cases hF : F t with
    | true => exact f1 t hF
    | false => dsimp only at z; rw [hF, Bool.false_xor] at z; exact e1 t z
  · rw [xf_congr (g := fun t => (F t && inc t n) ^^ (E t && inc t n)) fun t _ => by dsimp only; cases F t <;> cases E t <;> cases inc t n <;> rfl, xf_xor, f2, e2]
    cases decide (n = a) <;> cases decide (n = b) <;> cases decide (n = c) <;> rfl
theorem Cn.mono (h : Cn ts done a b) (k : ∀ t ∈ done, t ∈ done') : Cn ts done' a b := by
  obtain ⟨F, h1, h2⟩ := h
  exact ⟨F, fun t z => k t (h1 t z), h2⟩
theorem Cn.edge (hn : ts.Nodup) {t : Tie} (ht : t ∈ ts) (hd : t ∈ done) : Cn ts done t.1 (tl t) := ⟨fun s => decide (s = t), fun s h => of_decide_eq_true h ▸ hd, fun n => xf_at (f := fun s => inc s n) hn ht⟩
end
theorem even_of : ∀ (rest done : List Tie) (gs : List (List Nd)) (ts : List Tie), ts.Nodup → ts = done ++ rest → (∀ g ∈ gs, ∀ a ∈ g, ∀ b ∈ g, Cn ts done a b) → forest gs rest = false → ∃ F : Tie → Bool, (∀ t, F t = true → t ∈ ts) ∧ (∃ t, F t = true) ∧ ∀ n, xf ts (fun t => F t && inc t n) = false
  | [], done, gs, ts, hn, e, hc, hf => by cases hf
  | t :: rest, done, gs, ts, hn, e, hc, hf => by
    have mt : t ∈ ts := by rw [e]; simp
    have own : ∀ n, ∀ a ∈ grp gs n, Cn ts done a n := fun n a ha => by
      rcases grp_cases gs n with ⟨h1, h2⟩ | ⟨h1, h2⟩
      · exact hc _ h1 a ha n h2
      · rw [h1, List.mem_singleton] at ha
        rw [ha]
        exact .refl
    unfold forest at hf
    by_cases z : grp gs t.1 = grp gs (tl t)
    · have nt : t ∉ done := fun h => by
        rw [e, List.nodup_append] at hn
        exact hn.2.2 t h t (by simp) rfl
      obtain ⟨F, f1, f2⟩ := own t.1 (tl t) (by rw [z]; exact grp_mem _ _)
      refine ⟨fun s => F s ^^ decide (s = t), fun s h => ?_, ⟨t, ?_⟩, fun n => ?_⟩
      · by_cases es : s = t
        · rw [es]; exact mt
        · dsimp only at h
          rw [decide_eq_false es, Bool.xor_false] at h
          rw [e]
          exact List.mem_append.mpr (.inl (f1 s h))
      · have : F t = false := by
          cases h : F t with
          | false => rfl
          | true => exact absurd (f1 t h) nt
        dsimp only
        rw [this, decide_eq_true rfl]
        rfl
      · rw [xf_congr (g := fun s => (F s && inc s n) ^^ (decide (s = t) && inc s n)) fun s _ => by dsimp only; cases F s <;> cases decide (s = t) <;> cases inc s n <;> rfl, xf_xor, f2, xf_at hn mt]
        unfold inc
        cases decide (n = t.1) <;> cases decide (n = tl t) <;> rfl
    · rw [if_neg z] at hf
      refine even_of rest (done ++ [t]) (Rings.join gs t) ts hn (by rw [List.append_assoc]; exact e) (fun g hg a ha b hb => ?_) hf
      have up : ∀ s ∈ done, s ∈ done ++ [t] := fun s hs => List.mem_append.mpr (.inl hs)
      rcases mem_join.mp hg with ⟨g1, _, _⟩ | rfl
      · exact (hc g g1 a ha b hb).mono up
      · have hub : ∀ x ∈ grp gs t.1 ++ grp gs (tl t), Cn ts (done ++ [t]) x t.1 := fun x hx => by
          rcases List.mem_append.mp hx with y | y
          · exact (own _ x y).mono up
          · exact ((own _ x y).mono up).trans (Cn.edge hn mt (List.mem_append.mpr (.inr (by simp)))).symm
        exact (hub a ha).trans (hub b hb).symm
/-! ### nodes with two neighbours each -/
/-- no ring of one node or of two -/
def NoShort (ts : List Tie) : Prop := ∀ t ∈ ts, t.1 ≠ tl t ∧ (t.1.1 = true → (tl t, t.1.2) ∉ ts)
def Fat (ts : List Tie) (V : Nd → Prop) : Prop := (∃ n, V n) ∧ ∀ n, V n → ∃ x y, x ≠ y ∧ V x ∧ V y ∧ tied ts n x = true ∧ tied ts n y = true
theorem tied_iff {ts : List Tie} {a b : Nd} : tied ts a b = true ↔ ∃ t ∈ ts, (a = t.1 ∧ b = tl t) ∨ (b = t.1 ∧ a = tl t) := by
  unfold tied
  rw [Bool.or_eq_true, Bool.and_eq_true, Bool.and_eq_true, decide_eq_true_iff, decide_eq_true_iff]
  constructor
  · rintro (⟨h, m⟩ | ⟨h, m⟩)
    · exact ⟨_, m, .inl ⟨rfl, Prod.ext h rfl⟩⟩
    · exact ⟨_, m, .inr ⟨rfl, Prod.ext h rfl⟩⟩
  · rintro ⟨t, m, ⟨rfl, rfl⟩ | ⟨rfl, rfl⟩⟩
    · exact .inl ⟨rfl, m⟩
    · exact .inr ⟨rfl, m⟩
theorem fat_of {ts : List Tie} (hn : ts.Nodup) (ns : NoShort ts) (hf : forest [] ts = false) : ∃ V, Fat ts V := by
  obtain ⟨F, f1, ⟨t0, f2⟩, f3⟩ := even_of ts [] [] ts hn rfl (fun g h => (nomatch h)) hf
  refine ⟨fun n => ∃ t, F t = true ∧ (n = t.1 ∨ n = tl t), ⟨t0.1, t0, f2, .inl rfl⟩, fun n ⟨t, ht, hm⟩ => ?_⟩
  have mt := f1 t ht
  have inc_iff : ∀ s ∈ ts, inc s n = true ↔ (n = s.1 ∨ n = tl s) := fun s hs => by
    have ne := (ns s hs).1
    unfold inc
    by_cases e1 : n = s.1
    · rw [decide_eq_true e1, decide_eq_false fun z => ne (e1 ▸ z)]; simp [e1]
    · rw [decide_eq_false e1]; simp [e1]
  obtain ⟨s, hs1, hs2, hs3⟩ : ∃ s ∈ ts, s ≠ t ∧ (F s && inc s n) = true := by
    false_or_by_contra
    rename_i no
    have one := xf_one (f := fun s => F s && inc s n) hn mt (by rw [ht, (inc_iff t mt).mpr hm]; rfl) fun s hs ne => by
      cases z : (F s && inc s n) with
      | false => rfl
      | true => exact absurd ⟨s, hs, ne, z⟩ no
    rw [f3 n] at one
    cases one
  rw [Bool.and_eq_true, inc_iff s hs1] at hs3
  have other : ∀ u ∈ ts, F u = true → (n = u.1 ∨ n = tl u) → ∃ x, ((n = u.1 ∧ x = tl u) ∨ (n = tl u ∧ x = u.1)) ∧ (∃ t, F t = true ∧ (x = t.1 ∨ x = tl t)) ∧ tied ts n x = true := fun u hu hF h => by
    rcases h with h | h
    · exact ⟨tl u, .inl ⟨h, rfl⟩, ⟨u, hF, .inr rfl⟩, tied_iff.mpr ⟨u, hu, .inl ⟨h, rfl⟩⟩⟩
    · exact ⟨u.1, .inr ⟨h, rfl⟩, ⟨u, hF, .inl rfl⟩, tied_iff.mpr ⟨u, hu, .inr ⟨rfl, h⟩⟩⟩
  obtain ⟨x, x1, x2, x3⟩ := other t mt ht hm
  obtain ⟨y, y1, y2, y3⟩ := other s hs1 hs3.1 hs3.2
  refine ⟨x, y, fun e => ?_, x2, y2, x3, y3⟩
  subst e
  have same : ∀ u v : Tie, u.1 = v.1 → tl u = tl v → u = v := fun u v h1 h2 => Prod.ext h1 (by unfold tl at h2; injection h2)
  have twist : ∀ u ∈ ts, ∀ v ∈ ts, u.1 = tl v → tl u = v.1 → False := fun u hu v hv h1 h2 => by
    refine (ns u hu).2 (by rw [h1]; rfl) ?_
    have : (tl u, u.1.2) = v := Prod.ext h2 (by rw [h1]; rfl)
    rw [this]
    exact hv
  rcases x1 with ⟨a1, a2⟩ | ⟨a1, a2⟩ <;> rcases y1 with ⟨b1, b2⟩ | ⟨b1, b2⟩
  · exact hs2 (same s t (b1.symm.trans a1) (b2.symm.trans a2))
  · exact twist t mt s hs1 (a1.symm.trans b1) (a2.symm.trans b2)
  · exact twist s hs1 t mt (b1.symm.trans a1) (b2.symm.trans a2)
  · exact hs2 (same s t (b2.symm.trans a2) (b1.symm.trans a1))
end Rings

end

section
set_option Elab.async false
set_option linter.all false
set_option maxRecDepth 100000
set_option maxHeartbeats 1000000
/-! RM2: a ring is no forest. No program here. -/
namespace Rings
theorem pairs_at (ns : List Nd) (i : Nat) (h : i < (pairs ns).length) : (pairs ns)[i] = (ns[i]'(by rw [← pairs_len]; exact h), ns[(i + 1) % ns.length]'(Nat.mod_lt _ (by rw [pairs_len] at h; omega))) := by
  have hl : i < ns.length := by rw [← pairs_len]; exact h
  refine (List.getElem_zip (l := ns) (l' := ns.drop 1 ++ ns.take 1) (h := h)).trans ?_
  refine Prod.ext rfl ?_
  dsimp only
  rw [List.getElem_append]
  by_cases z : i + 1 < ns.length
  · have e : (i + 1) % ns.length = i + 1 := Nat.mod_eq_of_lt z
    rw [dif_pos (by rw [List.length_drop]; omega), List.getElem_drop]
    congr 1
    omega
  · have z' : i + 1 = ns.length := by omega
    rw [dif_neg (by rw [List.length_drop]; omega), List.getElem_take]
    congr 1
    rw [z', Nat.mod_self, List.length_drop]
    omega
theorem pairs_nodup {ns : List Nd} (h : ns.Nodup) : (pairs ns).Nodup := by
  have e : (pairs ns).map Prod.fst = ns := List.map_fst_zip (by rw [List.length_append, List.length_drop, List.length_take]; omega)
  have k : ((pairs ns).map Prod.fst).Nodup := by rw [e]; exact h
  unfold List.Nodup at k ⊢
  rw [List.pairwise_map] at k
  exact k.imp fun z y => z (by rw [y])
theorem fold_zip (c : Nd → Bool) : ∀ (xs ys : List Nd), xs.length = ys.length → xf (xs.zip ys) (fun p => c p.1 ^^ c p.2) = (xf xs c ^^ xf ys c)
  | [], [], _ => rfl
  | x :: xs, y :: ys, h => by
    rw [List.zip_cons_cons, xf_cons, xf_cons, xf_cons, fold_zip c xs ys (by simpa using h)]
    dsimp only
    cases c x <;> cases c y <;> cases xf xs c <;> cases xf ys c <;> rfl
theorem xf_app {α : Type} (f : α → Bool) : ∀ xs ys : List α, xf (xs ++ ys) f = (xf xs f ^^ xf ys f)
  | [], ys => by show _ = (false ^^ _); rw [Bool.false_xor]; rfl
  | x :: xs, ys => by rw [List.cons_append, xf_cons, xf_cons, xf_app f xs ys, Bool.xor_assoc]
theorem xf_map {α β : Type} (g : α → β) (f : β → Bool) : ∀ xs : List α, xf (xs.map g) f = xf xs fun a => f (g a)
  | [] => rfl
  | x :: xs => by rw [List.map_cons, xf_cons, xf_cons, xf_map g f xs]
theorem pairs_fold (c : Nd → Bool) (ns : List Nd) : xf (pairs ns) (fun p => c p.1 ^^ c p.2) = false := by
  unfold pairs
  rw [fold_zip c _ _ (by rw [List.length_append, List.length_drop, List.length_take]; omega), xf_app, Bool.xor_comm (xf (ns.drop 1) c), ← xf_app, List.take_append_drop, Bool.xor_self]
/-- a tie picked for each pair, two never the same -/
theorem ring_no {ts : List Tie} {ns : List Nd} (pick : Nd × Nd → Tie) (hp : 1 ≤ ns.length) (hn : ns.Nodup) (hm : ∀ p ∈ pairs ns, pick p ∈ ts ∧ ∀ c : Nd → Bool, (c (pick p).1 ^^ c (tl (pick p))) = (c p.1 ^^ c p.2)) (hi : ∀ p ∈ pairs ns, ∀ q ∈ pairs ns, pick p = pick q → p = q) : forest [] ts = false := by
  cases hf : forest [] ts with
  | false => rfl
  | true =>
    have nd : ((pairs ns).map pick).Nodup := by
      have k := pairs_nodup hn
      unfold List.Nodup at k ⊢
      rw [List.pairwise_map]
      exact List.Pairwise.imp_of_mem (fun ha hb z y => z (hi _ ha _ hb y)) k
    have all := no_closed ts [] [] gi_nil hf ((pairs ns).map pick) nd (fun e he => by
      obtain ⟨p, h1, rfl⟩ := List.mem_map.mp he
      exact (hm p h1).1) (fun c => by
      rw [xf_map, xf_congr (g := fun p => c p.1 ^^ c p.2) fun p hp => (hm p hp).2 c]
      exact pairs_fold c ns)
    have h0 : 0 < ((pairs ns).map pick).length := by rw [List.length_map, pairs_len]; exact hp
    exact nomatch all _ (List.getElem_mem h0)
theorem pairs_swap {ns : List Nd} (hn : ns.Nodup) (h3 : 3 ≤ ns.length) {a b : Nd} (h1 : (a, b) ∈ pairs ns) (h2 : (b, a) ∈ pairs ns) : False := by
  obtain ⟨i, hi, e1⟩ := List.mem_iff_getElem.mp h1
  obtain ⟨j, hj, e2⟩ := List.mem_iff_getElem.mp h2
  rw [pairs_at] at e1 e2
  rw [pairs_len] at hi hj
  injection e1 with a1 b1
  injection e2 with b2 a2
  have q1 := (List.getElem_inj hn).mp (b1.trans b2.symm)
  have q2 := (List.getElem_inj hn).mp (a2.trans a1.symm)
  have m : ∀ k, k < ns.length → (k + 1) % ns.length = if k + 1 = ns.length then 0 else k + 1 := fun k hk => by
    by_cases z : k + 1 = ns.length
    · rw [if_pos z, z, Nat.mod_self]
    · rw [if_neg z, Nat.mod_eq_of_lt (by omega)]
  rw [m i hi] at q1
  rw [m j hj] at q2
  split at q1 <;> split at q2 <;> omega
theorem isRing_no {ts : List Tie} {ns : List Nd} (h : isRing ts ns) : forest [] ts = false := by
  obtain ⟨h1, _, h2, h3⟩ := h
  unfold ringB at h3
  by_cases z : ns.length < 3
  · rw [if_pos z, List.all_eq_true] at h3
    refine ring_no (fun p => (p.1, p.2.2)) h1 h2 (fun p hp => ?_) fun p hp q hq e => ?_
    · have := h3 p hp
      rw [Bool.and_eq_true, decide_eq_true_iff] at this
      refine ⟨this.2, fun c => ?_⟩
      have e : tl (p.1, p.2.2) = p.2 := Prod.ext this.1.symm rfl
      rw [e]
    · have hp' := h3 p hp
      have hq' := h3 q hq
      rw [Bool.and_eq_true] at hp' hq'
      injection e with e1 e2
      exact Prod.ext e1 (Prod.ext (hp'.1.trans hq'.1.symm) e2)
  · rw [if_neg z, List.all_eq_true] at h3
    refine ring_no (fun p => if p.2.1 = true ∧ (p.1, p.2.2) ∈ ts then (p.1, p.2.2) else (p.2, p.1.2)) h1 h2 (fun p hp => ?_) fun p hp q hq e => ?_
    · have t := h3 p hp
      by_cases y : p.2.1 = true ∧ (p.1, p.2.2) ∈ ts
      · rw [if_pos y]
        refine ⟨y.2, fun c => ?_⟩
        have e : tl (p.1, p.2.2) = p.2 := Prod.ext y.1.symm rfl
        rw [e]
      · rw [if_neg y]
        unfold tied at t
        rw [Bool.or_eq_true, Bool.and_eq_true, Bool.and_eq_true, decide_eq_true_iff, decide_eq_true_iff] at t
        rcases t with t | t
        · exact absurd t y
        · refine ⟨t.2, fun c => ?_⟩
          have e : tl (p.2, p.1.2) = p.1 := Prod.ext t.1.symm rfl
          rw [e, Bool.xor_comm]
    · have key : ∀ p ∈ pairs ns, (if p.2.1 = true ∧ (p.1, p.2.2) ∈ ts then (p.1, p.2.2) else (p.2, p.1.2) : Tie) = (p.1, p.2.2) ∧ tl (p.1, p.2.2) = p.2 ∨ (if p.2.1 = true ∧ (p.1, p.2.2) ∈ ts then (p.1, p.2.2) else (p.2, p.1.2) : Tie) = (p.2, p.1.2) ∧ tl (p.2, p.1.2) = p.1 := fun p hp => by
        have t := h3 p hp
        by_cases y : p.2.1 = true ∧ (p.1, p.2.2) ∈ ts
        · rw [if_pos y]
          exact .inl ⟨rfl, Prod.ext y.1.symm rfl⟩
        · rw [if_neg y]
          unfold tied at t
          rw [Bool.or_eq_true, Bool.and_eq_true, Bool.and_eq_true, decide_eq_true_iff, decide_eq_true_iff] at t
          rcases t with t | t
          · exact absurd t y
          · exact .inr ⟨rfl, Prod.ext t.1.symm rfl⟩
      have no : ∀ {p q : Nd × Nd}, p ∈ pairs ns → q ∈ pairs ns → p.1 = q.2 → p.2 = q.1 → False := fun {p q} hp hq a b => pairs_swap h2 (by omega) (a := p.1) (b := p.2) hp (by rw [a, b]; exact hq)
      rcases key p hp with ⟨p1, p2⟩ | ⟨p1, p2⟩ <;> rcases key q hq with ⟨q1, q2⟩ | ⟨q1, q2⟩ <;> rw [p1, q1] at e
      · exact Prod.ext (congrArg (fun t : Tie => t.1) e) (p2.symm.trans ((congrArg tl e).trans q2))
      · exact (no hp hq (congrArg Prod.fst e) (p2.symm.trans ((congrArg tl e).trans q2))).elim
      · exact (no hp hq (p2.symm.trans ((congrArg tl e).trans q2)) (congrArg Prod.fst e)).elim
      · exact Prod.ext (p2.symm.trans ((congrArg tl e).trans q2)) (congrArg (fun t : Tie => t.1) e)
end Rings

end

section
set_option Elab.async false
set_option linter.all false
set_option maxRecDepth 100000
set_option maxHeartbeats 1000000
/-! RM3: neighbours, leaves taken away; the walk that finds a ring. No program here. -/
namespace Rings
abbrev Dct := List (Nd × List Nd)
def look (D : Dct) (n : Nd) : List Nd := match D.find? fun p => decide (p.1 = n) with
  | some p => p.2
  | none => []
def kept (D : Dct) : List Nd := (D.filter fun p => decide (1 < p.2.length)).map (·.1)
def rnd (D : Dct) : Dct := (kept D).map fun n => (n, (look D n).filter fun x => decide (x ∈ kept D))
def mass : Dct → Nat
  | [] => 0
  | p :: D => 1 + p.2.length + mass D
/-- equal as dicts are -/
def deq (D E : Dct) : Prop := D.length = E.length ∧ ∀ p ∈ D, (p.1, p.2) ∈ E
structure Good (ts : List Tie) (D : Dct) : Prop where
  nd : (D.map (·.1)).Nodup
  ls : ∀ p ∈ D, p.2.Nodup
  ok : ∀ p ∈ D, okN p.1
  ad : ∀ p ∈ D, ∀ x ∈ p.2, tied ts p.1 x = true ∧ x ≠ p.1
theorem look_of {D : Dct} (h : (D.map (·.1)).Nodup) {p : Nd × List Nd} (hp : p ∈ D) : look D p.1 = p.2 := by
  induction D with
  | nil => exact nomatch hp
  | cons q D ih =>
    rw [List.map_cons, List.nodup_cons] at h
    unfold look
    rw [List.find?_cons]
    rcases List.mem_cons.mp hp with rfl | hp
    · rw [decide_eq_true rfl]
    · have : ¬ q.1 = p.1 := fun e => h.1 (e ▸ List.mem_map.mpr ⟨p, hp, rfl⟩)
      rw [decide_eq_false this]
      exact ih h.2 hp
theorem rnd_eq {D : Dct} (h : (D.map (·.1)).Nodup) : rnd D = (D.filter fun p => decide (1 < p.2.length)).map fun p => (p.1, p.2.filter fun x => decide (x ∈ kept D)) := by
  unfold rnd
  rw [show kept D = (D.filter fun p => decide (1 < p.2.length)).map (·.1) from rfl, List.map_map]
  refine List.map_congr_left fun p hp => ?_
  show (p.1, (look D p.1).filter _) = _
  rw [look_of h (List.mem_filter.mp hp).1]
theorem mem_kept {D : Dct} {n : Nd} : n ∈ kept D ↔ ∃ p ∈ D, 1 < p.2.length ∧ p.1 = n := by
  unfold kept
  rw [List.mem_map]
  constructor
  · rintro ⟨p, hp, rfl⟩
    rw [List.mem_filter, decide_eq_true_iff] at hp
    exact ⟨p, hp.1, hp.2, rfl⟩
  · rintro ⟨p, h1, h2, rfl⟩
    exact ⟨p, List.mem_filter.mpr ⟨h1, decide_eq_true h2⟩, rfl⟩
theorem keys_rnd (D : Dct) : (rnd D).map (·.1) = kept D := by
  unfold rnd
  rw [List.map_map]
  exact List.map_id _
theorem kept_nd {D : Dct} (h : (D.map (·.1)).Nodup) : (kept D).Nodup := h.sublist (List.Sublist.map _ List.filter_sublist)
theorem Good.rnd {ts : List Tie} {D : Dct} (G : Good ts D) : Good ts (rnd D) := by
  refine ⟨by rw [keys_rnd]; exact kept_nd G.nd, fun p hp => ?_, fun p hp => ?_, fun p hp x hx => ?_⟩ <;> rw [rnd_eq G.nd] at hp <;> obtain ⟨q, hq, rfl⟩ := List.mem_map.mp hp <;> have hq := (List.mem_filter.mp hq).1
  · exact (G.ls q hq).sublist List.filter_sublist
  · exact G.ok q hq
  · exact G.ad q hq x (List.mem_filter.mp hx).1
/-- the nodes of V stay -/
def Stay (V : Nd → Prop) (D : Dct) : Prop := ∀ n, V n → ∃ p ∈ D, p.1 = n ∧ ∃ x y, x ≠ y ∧ V x ∧ V y ∧ x ∈ p.2 ∧ y ∈ p.2
theorem two_len {l : List Nd} {x y : Nd} (h : x ≠ y) (hx : x ∈ l) (hy : y ∈ l) : 1 < l.length := by
  rcases l with _ | ⟨a, _ | ⟨b, l⟩⟩
  · cases hx
  · exact absurd ((List.mem_singleton.mp hx).trans (List.mem_singleton.mp hy).symm) h
  · simp
theorem Stay.rnd {V : Nd → Prop} {D : Dct} (hd : (D.map (·.1)).Nodup) (h : Stay V D) : Stay V (rnd D) := by
  have kp : ∀ n, V n → n ∈ kept D := fun n hn => by
    obtain ⟨p, hp, e, x, y, ne, _, _, hx, hy⟩ := h n hn
    exact mem_kept.mpr ⟨p, hp, two_len ne hx hy, e⟩
  intro n hn
  obtain ⟨p, hp, e, x, y, ne, vx, vy, hx, hy⟩ := h n hn
  refine ⟨(p.1, p.2.filter fun x => decide (x ∈ kept D)), ?_, e, x, y, ne, vx, vy, List.mem_filter.mpr ⟨hx, decide_eq_true (kp x vx)⟩, List.mem_filter.mpr ⟨hy, decide_eq_true (kp y vy)⟩⟩
  rw [rnd_eq hd]
  exact List.mem_map.mpr ⟨p, List.mem_filter.mpr ⟨hp, decide_eq_true (two_len ne hx hy)⟩, rfl⟩
theorem mass_cut (b : Nd × List Nd → Bool) (q : Nd → Bool) : ∀ D : Dct, mass ((D.filter b).map fun p => (p.1, p.2.filter q)) ≤ mass D ∧ (mass D ≤ mass ((D.filter b).map fun p => (p.1, p.2.filter q)) → ((D.filter b).map fun p => (p.1, p.2.filter q)) = D)
  | [] => ⟨Nat.le_refl _, fun _ => rfl⟩
  | p :: D => by
    obtain ⟨i1, i2⟩ := mass_cut b q D
    rw [List.filter_cons]
    have hl := List.length_filter_le q p.2
    by_cases z : b p = true
    · rw [if_pos z, List.map_cons]
      unfold mass
      dsimp only
      refine ⟨by omega, fun h => ?_⟩
      rw [i2 (by omega)]
      have : (p.2.filter q).length = p.2.length := by omega
      rw [List.filter_eq_self.mpr (List.length_filter_eq_length_iff.mp this)]
    · rw [if_neg z, show mass (p :: D) = 1 + p.2.length + mass D from rfl]
      exact ⟨by omega, fun h => by omega⟩
theorem mass_rnd {D : Dct} (h : (D.map (·.1)).Nodup) (ne : rnd D ≠ D) : mass (rnd D) < mass D := by
  rw [rnd_eq h] at ne ⊢
  obtain ⟨h1, h2⟩ := mass_cut (fun p => decide (1 < p.2.length)) (fun x => decide (x ∈ kept D)) D
  false_or_by_contra
  exact ne (h2 (by omega))
/-- each node has two neighbours and more, all of them here -/
structure Full (D : Dct) : Prop where
  two : ∀ p ∈ D, 1 < p.2.length
  inn : ∀ p ∈ D, ∀ x ∈ p.2, ∃ q ∈ D, q.1 = x
theorem full_of {D : Dct} (h : (D.map (·.1)).Nodup) (e : deq (rnd D) D) : Full (rnd D) := by
  refine ⟨fun p hp => ?_, fun p hp x hx => ?_⟩
  · have k : p.1 ∈ kept D := by rw [← keys_rnd]; exact List.mem_map.mpr ⟨p, hp, rfl⟩
    obtain ⟨q, hq, h1, h2⟩ := mem_kept.mp k
    have := look_of h (e.2 p hp)
    dsimp only at this
    rw [← this, ← h2, look_of h hq]
    exact h1
  · have : x ∈ kept D := by
      rw [rnd_eq h] at hp
      obtain ⟨q, _, rfl⟩ := List.mem_map.mp hp
      exact of_decide_eq_true (List.mem_filter.mp hx).2
    rw [← keys_rnd] at this
    exact List.mem_map.mp this
/-! ### the walk -/
structure Wk (ts : List Tie) (D : Dct) (w : List Nd) : Prop where
  ne : w ≠ []
  nd : w.dropLast.Nodup
  key : ∀ n ∈ w, ∃ p ∈ D, p.1 = n
  nx : ∀ i a b, w[i]? = some a → w[i + 1]? = some b → tied ts a b = true ∧ b ≠ a
  nb : ∀ i a c, w[i]? = some a → w[i + 2]? = some c → c ≠ a
theorem sub_len {α : Type} [DecidableEq α] : ∀ {xs ys : List α}, xs.Nodup → (∀ x ∈ xs, x ∈ ys) → xs.length ≤ ys.length
  | [], _, _, _ => Nat.zero_le _
  | x :: xs, ys, hn, h => by
    rw [List.nodup_cons] at hn
    have hx := h x (by simp)
    have ih := sub_len (xs := xs) (ys := ys.erase x) hn.2 fun z hz => (List.mem_erase_of_ne fun e : z = x => hn.1 (e ▸ hz)).mpr (h z (by simp [hz]))
    rw [List.length_erase_of_mem hx] at ih
    have := List.length_pos_of_mem hx
    rw [List.length_cons]
    omega
theorem Wk.one {ts : List Tie} {D : Dct} {n : Nd} (h : ∃ p ∈ D, p.1 = n) : Wk ts D [n] := ⟨by simp, by simp, fun m hm => List.mem_singleton.mp hm ▸ h, fun i a b h1 h2 => by simp at h2, fun i a b h1 h2 => by simp at h2⟩
theorem Wk.add {ts : List Tie} {D : Dct} {w : List Nd} {l x : Nd} (W : Wk ts D w) (hn : w.Nodup) (hl : w[w.length - 1]? = some l) (hx : tied ts l x = true ∧ x ≠ l) (hk : ∃ p ∈ D, p.1 = x) (hb : ∀ i a, i + 2 = w.length → w[i]? = some a → x ≠ a) : Wk ts D (w ++ [x]) := by
  have pos : 0 < w.length := List.length_pos_iff.mpr W.ne
  refine ⟨by simp, by rw [List.dropLast_concat]; exact hn, fun n hm => ?_, fun i a b h1 h2 => ?_, fun i a c h1 h2 => ?_⟩
  · rcases List.mem_append.mp hm with m | m
    · exact W.key n m
    · exact List.mem_singleton.mp m ▸ hk
  · by_cases z : i + 1 < w.length
    · rw [List.getElem?_append_left (by omega)] at h1
      rw [List.getElem?_append_left z] at h2
      exact W.nx i a b h1 h2
    · have z2 : i + 1 < (w ++ [x]).length := (List.getElem?_eq_some_iff.mp h2).1
      rw [List.length_append, List.length_singleton] at z2
      have z3 : i + 1 = w.length := by omega
      rw [List.getElem?_append_left (by omega), show i = w.length - 1 by omega, hl] at h1
      rw [z3, List.getElem?_concat_length] at h2
      cases h1
      cases h2
      exact hx
  · by_cases z : i + 2 < w.length
    · rw [List.getElem?_append_left (by omega)] at h1
      rw [List.getElem?_append_left z] at h2
      exact W.nb i a c h1 h2
    · have z2 : i + 2 < (w ++ [x]).length := (List.getElem?_eq_some_iff.mp h2).1
      rw [List.length_append, List.length_singleton] at z2
      have z3 : i + 2 = w.length := by omega
      rw [List.getElem?_append_left (by omega)] at h1
      rw [z3, List.getElem?_concat_length] at h2
      cases h2
      exact hb i a z3 h1
/-- the walk, closed: a ring -/
theorem wk_ring {ts : List Tie} {D : Dct} {w : List Nd} (W : Wk ts D w) (ok : ∀ p ∈ D, okN p.1) {j : Nat} {l : Nd} (hl : w[w.length - 1]? = some l) (hj : w[j]? = some l) (jl : j + 1 < w.length) : isRing ts (w.dropLast.drop j) ∧ 3 ≤ (w.dropLast.drop j).length := by
  have L : (w.dropLast.drop j).length = w.length - 1 - j := by rw [List.length_drop, List.length_dropLast]
  have len : 3 ≤ w.length - 1 - j := by
    by_cases h1 : j + 1 = w.length - 1
    · exact absurd rfl (W.nx j l l hj (by rw [h1]; exact hl)).2
    · by_cases h2 : j + 2 = w.length - 1
      · exact absurd rfl (W.nb j l l hj (by rw [h2]; exact hl))
      · omega
  refine ⟨⟨by omega, fun n hn => ?_, W.nd.sublist (List.drop_sublist _ _), ?_⟩, by omega⟩
  · obtain ⟨p, hp, e⟩ := W.key n (List.dropLast_subset _ (List.drop_subset _ _ hn))
    exact e ▸ ok p hp
  · unfold ringB
    rw [if_neg (by omega), List.all_eq_true]
    intro p hp
    obtain ⟨k, hk, rfl⟩ := List.mem_iff_getElem.mp hp
    rw [pairs_at]
    rw [pairs_len, L] at hk
    dsimp only
    have a1 : w[j + k]? = some ((w.dropLast.drop j)[k]'(by omega)) := by
      rw [List.getElem_drop, List.getElem_dropLast, List.getElem?_eq_getElem]
    refine (W.nx (j + k) _ _ a1 ?_).1
    by_cases z : k + 1 = w.length - 1 - j
    · have e0 : j + k + 1 = w.length - 1 := by omega
      have e1 : (k + 1) % (w.dropLast.drop j).length = 0 := by rw [L, z, Nat.mod_self]
      have e2 : (w.dropLast.drop j)[(k + 1) % (w.dropLast.drop j).length]? = some l := by
        rw [e1, List.getElem?_drop, List.getElem?_dropLast, if_pos (by omega)]
        exact hj
      rw [List.getElem?_eq_getElem (Nat.mod_lt _ (by omega))] at e2
      rw [e0, hl, ← e2]
    · have e1 : (k + 1) % (w.dropLast.drop j).length = k + 1 := by rw [L]; exact Nat.mod_eq_of_lt (by omega)
      have e2 : w[j + k + 1]? = (w.dropLast.drop j)[(k + 1) % (w.dropLast.drop j).length]? := by
        rw [e1, List.getElem?_drop, List.getElem?_dropLast, if_pos (by omega)]
        rfl
      rw [e2, List.getElem?_eq_getElem]
end Rings

end

section
set_option Elab.async false
set_option linter.all false
set_option maxRecDepth 100000
set_option maxHeartbeats 1000000
/-! RP6: short_ring. -/
namespace Rings
open PySem PySem.Spec PyProof.Rows L2 EV
theorem eq_nodes {S : Sto} (neg : Bool) (a b : Nd) : oEq neg (nA a) (nA b) S = some (.bl (neg != decide (a = b)), S) := by
  unfold oEq
  rw [rd_n, rd_n]
  dsimp only
  congr 4
  rw [Bool.eq_iff_iff, decide_eq_true_iff]
  exact ⟨fun e => nD_inj (eqv_kd (nD_kd a) e (nD_kd b)), fun e => e ▸ eqv_refl (nD_kd a)⟩
theorem line_one : (1 : Nat) ≤ line := by unfold line; omega
theorem tl_A (i : Nat) : A.tup [.str "talk", .int (i : Int)] = nA (true, i) := rfl
theorem many_nodes {ns : List Nd} (h : ns.Nodup) (ok : ∀ n ∈ ns, okN n) : ns.length ≤ 24 := by
  have := sub_len (ys := (List.range 12).map (fun i => (false, i)) ++ (List.range 12).map (fun i => (true, i))) h fun n hn => by
    have z : n.2 < 12 := Nat.lt_succ_of_le (ok n hn)
    obtain ⟨b, i⟩ := n
    cases b
    · exact List.mem_append.mpr (.inl (List.mem_map.mpr ⟨i, List.mem_range.mpr z, rfl⟩))
    · exact List.mem_append.mpr (.inr (List.mem_map.mpr ⟨i, List.mem_range.mpr z, rfl⟩))
  simpa using this
def shortTo (ts : List Tie) (i : Nat) : Prop := ∀ j t, j < i → ts[j]? = some t → t.1 ≠ tl t ∧ (t.1.1 = true → (tl t, t.1.2) ∉ ts)
theorem shortTo.next {ts : List Tie} {i : Nat} {t : Tie} (h : shortTo ts i) (ht : ts[i]? = some t) (a : t.1 ≠ tl t) (b : t.1.1 = true → (tl t, t.1.2) ∉ ts) : shortTo ts (i + 1) := fun j s hj hs => by
  by_cases e : j = i
  · subst e
    rw [ht] at hs
    cases hs
    exact ⟨a, b⟩
  · exact h j s (by omega) hs
theorem r_short_ring {ts : List Tie} {S : Sto} {P : A → Sto → Prop} {X : Ex → Sto → Prop} (hl : ts.length ≤ 64) (ok : ∀ t ∈ ts, okT t) (h0 : NoShort ts → P .non S) (h1 : ∀ ns : List Nd, isRing ts ns → P (.tup (ns.map nA)) S) : Run (f_short_ring [.tup (ts.map tA)]) S P X := by
  refine fn_run ?_
  simp [b_short_ring]
  refine run_forM ts tA (fun i ε S' => S' = S ∧ (∃ a b, ε = [some (.tup (ts.map tA)), a, b]) ∧ shortTo ts i) (fun i ε S' I => by simp) (fun i t ε S' ht ⟨e1, ⟨a, b, e2⟩, I⟩ => ⟨[(1, nA t.1), (2, .int t.2)], rfl, ?_⟩) (fun ε S' ⟨e1, ⟨a, b, e2⟩, I⟩ => ?_) _ _ _ (by simp) ⟨rfl, ⟨_, _, rfl⟩, fun j t h => by omega⟩
  · subst e1 e2
    have mt : t ∈ ts := List.mem_of_getElem? ht
    have okt := ok t mt
    simp only [sp_seq, sp_sIf, sp_bOf, sp_c2, sp_var, sp_tup, sp_lCons, sp_lNil, sp_c]
    simp [line_two, tl_A, eq_nodes, ix_n0, ix_n1, eq_kind]
    by_cases e : t.1 = (true, t.2)
    · simp [e, line_one]
      rw [← e]
      refine h1 [t.1] ⟨by simp, by simpa using okt.1, by simp, ?_⟩
      simp [ringB, pairs]
      refine ⟨by rw [e], ?_⟩
      have : (t.1, t.1.2) = t := Prod.ext rfl (by rw [e])
      rw [this]
      exact mt
    · simp [e]
      cases hk : t.1.1 with
      | false =>
        simp
        exact I.next ht e fun z => by rw [hk] at z; cases z
      | true =>
        simp [tA_eq, in_ties]
        by_cases m : ((true, t.2), t.1.2) ∈ ts
        · simp [m]
          refine h1 [t.1, (true, t.2)] ⟨by simp, by simpa using okt, by simpa using e, ?_⟩
          have : (t.1, t.2) = t := rfl
          simp [ringB, pairs, hk, m, this, mt]
        · simp [m]
          exact I.next ht e fun _ => m
  · subst e1 e2
    simp
    refine h0 fun t ht => ?_
    obtain ⟨j, e⟩ := List.mem_iff_getElem?.mp ht
    exact I j t (List.getElem?_eq_some_iff.mp e).1 e
end Rings

end

section
set_option Elab.async false
set_option linter.all false
set_option maxRecDepth 100000
set_option maxHeartbeats 1000000
/-! RM4: the dict of neighbours, pair by pair. No program here. -/
namespace Rings
def pushD (D : Dct) (n x : Nd) : Dct := if n ∈ D.map (·.1) then D.map fun p => if p.1 = n then (p.1, p.2 ++ [x]) else p else D ++ [(n, [x])]
structure NI (R : Nd → Nd → Prop) (D : Dct) : Prop where
  nd : (D.map (·.1)).Nodup
  ls : ∀ p ∈ D, p.2.Nodup
  ok : ∀ p ∈ D, okN p.1
  ad : ∀ p ∈ D, ∀ x ∈ p.2, R p.1 x ∧ x ≠ p.1
  has : ∀ n x, R n x → ∃ p ∈ D, p.1 = n ∧ x ∈ p.2
theorem NI.push {R : Nd → Nd → Prop} {D : Dct} (I : NI R D) {n x : Nd} (ok : okN n) (ne : x ≠ n) (no : ¬ R n x) : NI (fun a b => R a b ∨ (a = n ∧ b = x)) (pushD D n x) := by
  unfold pushD
  by_cases h : n ∈ D.map (·.1)
  · rw [if_pos h]
    have keys : (D.map fun p => if p.1 = n then (p.1, p.2 ++ [x]) else p).map (·.1) = D.map (·.1) := by
      rw [List.map_map]
      refine List.map_congr_left fun p _ => ?_
      show (if p.1 = n then (p.1, p.2 ++ [x]) else p).1 = p.1
      split <;> rfl
    refine ⟨by rw [keys]; exact I.nd, fun p hp => ?_, fun p hp => ?_, fun p hp y hy => ?_, fun a b r => ?_⟩
    · obtain ⟨q, hq, rfl⟩ := List.mem_map.mp hp
      split
      · rename_i e
        rw [List.nodup_append]
        refine ⟨I.ls q hq, by simp, fun a ha b hb => ?_⟩
        rw [List.mem_singleton.mp hb]
        intro z
        exact no (e ▸ z ▸ (I.ad q hq a ha).1)
      · exact I.ls q hq
    · obtain ⟨q, hq, rfl⟩ := List.mem_map.mp hp
      split <;> exact I.ok q hq
    · obtain ⟨q, hq, rfl⟩ := List.mem_map.mp hp
      revert hy
      split
      · rename_i e
        intro hy
        rcases List.mem_append.mp hy with m | m
        · exact ⟨.inl (I.ad q hq y m).1, (I.ad q hq y m).2⟩
        · rw [List.mem_singleton.mp m]
          exact ⟨.inr ⟨e, rfl⟩, e ▸ ne⟩
      · intro hy
        exact ⟨.inl (I.ad q hq y hy).1, (I.ad q hq y hy).2⟩
    · rcases r with r | ⟨rfl, rfl⟩
      · obtain ⟨p, hp, e, m⟩ := I.has a b r
        refine ⟨_, List.mem_map.mpr ⟨p, hp, rfl⟩, ?_, ?_⟩
        · split <;> exact e
        · split
          · exact List.mem_append.mpr (.inl m)
          · exact m
      · obtain ⟨p, hp, e⟩ := List.mem_map.mp h
        refine ⟨_, List.mem_map.mpr ⟨p, hp, rfl⟩, ?_, ?_⟩
        · split <;> exact e
        · rw [if_pos e]
          exact List.mem_append.mpr (.inr (by simp))
  · rw [if_neg h]
    refine ⟨?_, fun p hp => ?_, fun p hp => ?_, fun p hp y hy => ?_, fun a b r => ?_⟩
    · rw [List.map_append, List.nodup_append]
      exact ⟨I.nd, by simp, fun a ha b hb z => h ((z.trans (List.mem_singleton.mp hb) : a = n) ▸ ha)⟩
    · rcases List.mem_append.mp hp with m | m
      · exact I.ls p m
      · rw [List.mem_singleton.mp m]; simp
    · rcases List.mem_append.mp hp with m | m
      · exact I.ok p m
      · rw [List.mem_singleton.mp m]; exact ok
    · rcases List.mem_append.mp hp with m | m
      · exact ⟨.inl (I.ad p m y hy).1, (I.ad p m y hy).2⟩
      · rw [List.mem_singleton.mp m] at hy ⊢
        rw [List.mem_singleton.mp hy]
        exact ⟨.inr ⟨rfl, rfl⟩, ne⟩
    · rcases r with r | ⟨rfl, rfl⟩
      · obtain ⟨p, hp, e, m⟩ := I.has a b r
        exact ⟨p, List.mem_append.mpr (.inl hp), e, m⟩
      · exact ⟨_, List.mem_append.mpr (.inr (List.mem_singleton.mpr rfl)), rfl, by simp⟩
theorem NI.cong {R Q : Nd → Nd → Prop} {D : Dct} (I : NI R D) (h : ∀ a b, R a b ↔ Q a b) : NI Q D := ⟨I.nd, I.ls, I.ok, fun p hp x hx => ⟨(h _ _).mp (I.ad p hp x hx).1, (I.ad p hp x hx).2⟩, fun n x q => I.has n x ((h _ _).mpr q)⟩
def nbs : List Tie → Dct → Dct
  | [], D => D
  | t :: ts, D => nbs ts (pushD (pushD D t.1 (tl t)) (tl t) t.1)
theorem nbs_ni {ts : List Tie} (hn : ts.Nodup) (ns : NoShort ts) (ok : ∀ t ∈ ts, okT t) : ∀ (rest done : List Tie) (D : Dct), ts = done ++ rest → NI (fun a b => tied done a b = true) D → NI (fun a b => tied ts a b = true) (nbs rest D)
  | [], done, D, e, I => by rw [e, List.append_nil]; exact I
  | t :: rest, done, D, e, I => by
    have mt : t ∈ ts := by rw [e]; simp
    have nt : t ∉ done := fun h => by
      rw [e, List.nodup_append] at hn
      exact hn.2.2 t h t (by simp) rfl
    have sub : ∀ s ∈ done, s ∈ ts := fun s hs => by rw [e]; exact List.mem_append.mpr (.inl hs)
    have no1 : ¬ tied done t.1 (tl t) = true := fun z => by
      obtain ⟨s, hs, ⟨a, b⟩ | ⟨a, b⟩⟩ := tied_iff.mp z
      · have : s = t := Prod.ext a.symm (by unfold tl at b; injection b with _ b; exact b.symm)
        exact nt (this ▸ hs)
      · refine (ns t mt).2 (by rw [b]; rfl) ?_
        have : (tl t, t.1.2) = s := Prod.ext a (by rw [b]; rfl)
        rw [this]
        exact sub s hs
    have no2 : ¬ (tied done (tl t) t.1 = true ∨ (tl t = t.1 ∧ t.1 = tl t)) := fun z => by
      rcases z with z | z
      · refine no1 (tied_iff.mpr ?_)
        obtain ⟨s, hs, h⟩ := tied_iff.mp z
        exact ⟨s, hs, h.symm⟩
      · exact (ns t mt).1 z.2
    refine nbs_ni hn ns ok rest (done ++ [t]) _ (by rw [List.append_assoc]; exact e) ?_
    refine ((I.push (ok t mt).1 (fun z => (ns t mt).1 z.symm) no1).push (n := tl t) (x := t.1) (ok t mt).2 (ns t mt).1 no2).cong fun a b => ?_
    rw [tied_iff, tied_iff]
    constructor
    · rintro ((⟨s, hs, h⟩ | h) | h)
      · exact ⟨s, List.mem_append.mpr (.inl hs), h⟩
      · exact ⟨t, List.mem_append.mpr (.inr (by simp)), .inl h⟩
      · exact ⟨t, List.mem_append.mpr (.inr (by simp)), .inr ⟨h.2, h.1⟩⟩
    · rintro ⟨s, hs, h⟩
      rcases List.mem_append.mp hs with m | m
      · exact .inl (.inl ⟨s, m, h⟩)
      · rw [List.mem_singleton.mp m] at h
        rcases h with h | h
        · exact .inl (.inr h)
        · exact .inr ⟨h.2, h.1⟩
theorem nbs_all {ts : List Tie} (hn : ts.Nodup) (ns : NoShort ts) (ok : ∀ t ∈ ts, okT t) : NI (fun a b => tied ts a b = true) (nbs ts []) := nbs_ni hn ns ok ts [] [] rfl ⟨by simp, fun p h => (nomatch h), fun p h => (nomatch h), fun p h => (nomatch h), fun a b h => by
  obtain ⟨s, hs, _⟩ := tied_iff.mp h
  exact nomatch hs⟩
theorem NI.good {ts : List Tie} {D : Dct} (I : NI (fun a b => tied ts a b = true) D) : Good ts D := ⟨I.nd, I.ls, I.ok, I.ad⟩
theorem NI.stay {ts : List Tie} {D : Dct} (I : NI (fun a b => tied ts a b = true) D) {V : Nd → Prop} (h : Fat ts V) : Stay V D := fun n hn => by
  obtain ⟨x, y, ne, vx, vy, tx, ty⟩ := h.2 n hn
  obtain ⟨p, hp, e, m⟩ := I.has n x tx
  obtain ⟨q, hq, e2, m2⟩ := I.has n y ty
  have : p = q := by
    have h1 := look_of I.nd hp
    have h2 := look_of I.nd hq
    rw [e] at h1
    rw [e2] at h2
    exact Prod.ext (e.trans e2.symm) (h1.symm.trans h2)
  subst this
  exact ⟨p, hp, e, x, y, ne, vx, vy, m, m2⟩
end Rings

end

section
set_option Elab.async false
set_option linter.all false
set_option maxRecDepth 100000
set_option maxHeartbeats 1000000
/-! RP7: the dict of neighbours in the store; neighbours_in. -/
namespace Rings
open PySem PySem.Spec PyProof.Rows L2 EV
/-- a node, where its list stands, the list -/
abbrev En := Nd × Nat × List Nd
def nK (n : Nd) : Kk := .inr [.inr (kS n.1), .inl (n.2 : Int)]
theorem nK_inj {m n : Nd} (h : nK m = nK n) : m = n := by
  unfold nK at h
  injection h with h
  injection h with h1 h2
  injection h1 with h1
  injection h2 with h2 _
  injection h2 with h2
  exact Prod.ext (kS_inj h1) (by omega)
theorem key_n (n : Nd) : keyOf (nA n) = some (nK n) := rfl
theorem to_n (n : Nd) : keyTo (nK n) = nA n := rfl
def kvE (E : List En) : List (Kk × A) := E.map fun e => (nK e.1, .ref e.2.1)
def dE (E : List En) : Dct := E.map fun e => (e.1, e.2.2)
structure LsE (b : Nat) (S : Sto) (E : List En) : Prop where
  ls : ∀ e ∈ E, S.f e.2.1 = some (.lst (e.2.2.map nA)) ∧ b ≤ e.2.1 ∧ e.2.1 < S.n
  nd : (E.map (·.2.1)).Nodup
  ks : (E.map (·.1)).Nodup
structure RepE (b d : Nat) (S : Sto) (E : List En) : Prop extends LsE b S E where
  at_d : S.f d = some (.dct true (kvE E))
  bd : b ≤ d
  dn : d < S.n
theorem lk_E (n : Nd) : ∀ E : List En, lk (kvE E) (nK n) = (E.find? fun e => decide (e.1 = n)).map fun e => .ref e.2.1
  | [] => rfl
  | e :: E => by
    have ih := lk_E n E
    unfold lk kvE at ih ⊢
    rw [List.map_cons, List.find?_cons, List.find?_cons]
    by_cases z : e.1 = n
    · rw [decide_eq_true z, decide_eq_true (show nK e.1 = nK n by rw [z])]; rfl
    · rw [decide_eq_false z, decide_eq_false (show ¬ nK e.1 = nK n from fun y => z (nK_inj y))]
      exact ih
theorem lk_none {n : Nd} {E : List En} (h : n ∉ E.map (·.1)) : lk (kvE E) (nK n) = none := by
  rw [lk_E, List.find?_eq_none.mpr fun e he => by
    rw [decide_eq_true_iff]
    exact fun z => h (z ▸ List.mem_map.mpr ⟨e, he, rfl⟩)]
  rfl
theorem lk_some {E : List En} (h : (E.map (·.1)).Nodup) {e : En} (he : e ∈ E) : lk (kvE E) (nK e.1) = some (.ref e.2.1) := by
  induction E with
  | nil => exact nomatch he
  | cons q E ih =>
    rw [List.map_cons, List.nodup_cons] at h
    rw [lk_E, List.find?_cons]
    rcases List.mem_cons.mp he with rfl | he
    · rw [decide_eq_true rfl]; rfl
    · have : ¬ q.1 = e.1 := fun z => h.1 (z ▸ List.mem_map.mpr ⟨e, he, rfl⟩)
      rw [decide_eq_false this]
      dsimp only
      rw [← lk_E]
      exact ih h.2 he
theorem keys_E (E : List En) : (dE E).map (·.1) = E.map (·.1) := by unfold dE; rw [List.map_map]; rfl
theorem uniq_k {E : List En} (h : (E.map (·.1)).Nodup) {e q : En} (he : e ∈ E) (hq : q ∈ E) (z : e.1 = q.1) : e = q := by
  induction E with
  | nil => exact nomatch he
  | cons p E ih =>
    rw [List.map_cons, List.nodup_cons] at h
    rcases List.mem_cons.mp he with rfl | m1 <;> rcases List.mem_cons.mp hq with rfl | m2
    · rfl
    · exact absurd (z ▸ List.mem_map.mpr ⟨q, m2, rfl⟩) h.1
    · exact absurd (z ▸ List.mem_map.mpr ⟨e, m1, rfl⟩ : q.1 ∈ _) h.1
    · exact ih h.2 m1 m2
theorem uniq_h {E : List En} (h : (E.map (·.2.1)).Nodup) {e q : En} (he : e ∈ E) (hq : q ∈ E) (z : e.2.1 = q.2.1) : e = q := by
  induction E with
  | nil => exact nomatch he
  | cons p E ih =>
    rw [List.map_cons, List.nodup_cons] at h
    rcases List.mem_cons.mp he with rfl | m1 <;> rcases List.mem_cons.mp hq with rfl | m2
    · rfl
    · exact absurd (z ▸ List.mem_map.mpr ⟨q, m2, rfl⟩) h.1
    · exact absurd (z ▸ List.mem_map.mpr ⟨e, m1, rfl⟩ : q.2.1 ∈ _) h.1
    · exact ih h.2 m1 m2
theorem gr_put {S0 S : Sto} {k : Nat} {o : Ob} (g : Gr S0 S) (h : S0.n ≤ k) : Gr S0 (S.put k o) := ⟨g.n, fun m hm _ => by
  rw [put_ne (by omega)]
  exact g.at hm⟩
theorem set_push {b d m : Nat} {S0 S : Sto} {E : List En} {n x : Nd} (R : RepE b d S E) (g : Gr S0 S) (hb : S0.n ≤ b) (hE : E.length ≤ m) (hl : ∀ e ∈ E, e.2.2.length ≤ m) (hm : m ≤ 1000) :
    ∃ k S5 xs S' E', oSetd (.ref d) (nA n) (.ref S.n) (S.new (.lst [])) = some (.ref k, S5) ∧ S5.f k = some (.lst xs) ∧ mAppend (.ref k) [nA x] S5 = some (.non, S') ∧ RepE b d S' E' ∧ dE E' = pushD (dE E) n x ∧ Gr S0 S' ∧ E'.length ≤ m + 1 ∧ ∀ e ∈ E', e.2.2.length ≤ m + 1 := by
  have hd : (S.new (.lst [])).f d = some (.dct true (kvE E)) := by
    rw [gr_new.at R.dn]; exact R.at_d
  have hlen : (kvE E).length < line := by
    unfold kvE line
    rw [List.length_map]
    omega
  unfold oSetd
  dsimp only
  rw [hd]
  dsimp only
  rw [key_n]
  dsimp only
  rw [if_pos ⟨rfl, hlen⟩]
  unfold pushD
  rw [keys_E]
  by_cases h : n ∈ E.map (·.1)
  · rw [if_pos h]
    obtain ⟨e, he, rfl⟩ := List.mem_map.mp h
    rw [lk_some R.ks he]
    dsimp only
    obtain ⟨e1, e2, e3⟩ := R.ls e he
    have h5 : (S.new (.lst [])).f e.2.1 = some (.lst (e.2.2.map nA)) := by rw [gr_new.at e3]; exact e1
    have ne : d ≠ e.2.1 := fun z => by rw [← z, R.at_d] at e1; cases e1
    have len := hl e he
    refine ⟨_, _, _, (S.new (.lst [])).put e.2.1 (.lst (e.2.2.map nA ++ [nA x])), E.map fun q => if q.1 = e.1 then (q.1, q.2.1, q.2.2 ++ [x]) else q, rfl, h5, ?_, ?_, ?_, gr_put (g.trans gr_new) (by omega), ?_, fun q hq => ?_⟩
    · unfold mAppend
      dsimp only
      rw [h5]
      dsimp only
      rw [if_pos (by rw [List.length_map]; unfold line; omega)]
    · have k1 : (E.map fun q => if q.1 = e.1 then (q.1, q.2.1, q.2.2 ++ [x]) else q).map (·.1) = E.map (·.1) := by
        rw [List.map_map]
        refine List.map_congr_left fun q _ => ?_
        show (if q.1 = e.1 then (q.1, q.2.1, q.2.2 ++ [x]) else q).1 = q.1
        split <;> rfl
      have k2 : (E.map fun q => if q.1 = e.1 then (q.1, q.2.1, q.2.2 ++ [x]) else q).map (·.2.1) = E.map (·.2.1) := by
        rw [List.map_map]
        refine List.map_congr_left fun q _ => ?_
        show (if q.1 = e.1 then (q.1, q.2.1, q.2.2 ++ [x]) else q).2.1 = q.2.1
        split <;> rfl
      have k3 : kvE (E.map fun q => if q.1 = e.1 then (q.1, q.2.1, q.2.2 ++ [x]) else q) = kvE E := by
        unfold kvE
        rw [List.map_map]
        refine List.map_congr_left fun q _ => ?_
        show (nK (if q.1 = e.1 then (q.1, q.2.1, q.2.2 ++ [x]) else q).1, A.ref (if q.1 = e.1 then (q.1, q.2.1, q.2.2 ++ [x]) else q).2.1) = _
        split <;> rfl
      refine ⟨⟨fun q hq => ?_, by rw [k2]; exact R.nd, by rw [k1]; exact R.ks⟩, by rw [put_ne ne, hd, k3], R.bd, Nat.lt_succ_of_lt R.dn⟩
      obtain ⟨q, mq, rfl⟩ := List.mem_map.mp hq
      obtain ⟨q1, q2, q3⟩ := R.ls q mq
      by_cases z : q.1 = e.1
      · have := uniq_k R.ks mq he z
        subst this
        rw [if_pos rfl]
        exact ⟨by rw [put_at, List.map_append]; rfl, q2, Nat.lt_succ_of_lt q3⟩
      · rw [if_neg z]
        have : q.2.1 ≠ e.2.1 := fun y => z (congrArg (·.1) (uniq_h R.nd mq he y))
        exact ⟨by rw [put_ne this, gr_new.at q3]; exact q1, q2, Nat.lt_succ_of_lt q3⟩
    · unfold dE
      rw [List.map_map, List.map_map]
      refine List.map_congr_left fun q _ => ?_
      show ((if q.1 = e.1 then (q.1, q.2.1, q.2.2 ++ [x]) else q : En).1, (if q.1 = e.1 then (q.1, q.2.1, q.2.2 ++ [x]) else q : En).2.2) = if q.1 = e.1 then (q.1, q.2.2 ++ [x]) else (q.1, q.2.2)
      split <;> rfl
    · rw [List.length_map]; omega
    · obtain ⟨q, mq, rfl⟩ := List.mem_map.mp hq
      have := hl q mq
      split
      · dsimp only
        rw [List.length_append, List.length_singleton]
        omega
      · omega
  · rw [if_neg h, lk_none h]
    dsimp only
    have ne : S.n ≠ d := fun z => by have := R.dn; omega
    refine ⟨_, _, [], (((S.new (.lst [])).put d (.dct true (dput (kvE E) (nK n) (.ref S.n)))).put S.n (.lst [nA x])), E ++ [(n, S.n, [x])], rfl, by rw [put_ne ne]; exact new_at, ?_, ?_, by unfold dE; rw [List.map_append]; rfl, gr_put (gr_put (g.trans gr_new) (by have := R.bd; omega)) g.n, by rw [List.length_append, List.length_singleton]; omega, fun q hq => ?_⟩
    · unfold mAppend
      dsimp only
      rw [put_ne ne, new_at]
      dsimp only
      rw [if_pos (by unfold line; decide)]
      rfl
    · have kv : dput (kvE E) (nK n) (.ref S.n) = kvE (E ++ [(n, S.n, [x])]) := by
        unfold dput
        rw [lk_none h]
        unfold kvE
        rw [List.map_append]
        rfl
      refine ⟨⟨fun q hq => ?_, ?_, ?_⟩, by rw [put_ne ne.symm, put_at, kv], R.bd, Nat.lt_succ_of_lt R.dn⟩
      · rcases List.mem_append.mp hq with m | m
        · obtain ⟨q1, q2, q3⟩ := R.ls q m
          have n1 : q.2.1 ≠ S.n := by omega
          have n2 : q.2.1 ≠ d := fun z => by rw [z, R.at_d] at q1; cases q1
          exact ⟨by rw [put_ne n1, put_ne n2, gr_new.at q3]; exact q1, q2, Nat.lt_succ_of_lt q3⟩
        · rw [List.mem_singleton.mp m]
          exact ⟨put_at, by have := R.bd; have := R.dn; show b ≤ S.n; omega, Nat.lt_succ_self _⟩
      · rw [List.map_append, List.nodup_append]
        refine ⟨R.nd, by simp, fun a ha c hc z => ?_⟩
        obtain ⟨q, hq, rfl⟩ := List.mem_map.mp ha
        have : q.2.1 = S.n := z.trans (List.mem_singleton.mp hc)
        have := (R.ls q hq).2.2
        omega
      · rw [List.map_append, List.nodup_append]
        exact ⟨R.ks, by simp, fun a ha c hc z => h ((z.trans (List.mem_singleton.mp hc) : a = n) ▸ ha)⟩
    · rcases List.mem_append.mp hq with z | z
      · have := hl q z; omega
      · rw [List.mem_singleton.mp z]
        show 1 ≤ m + 1
        omega
end Rings

end

section
set_option Elab.async false
set_option linter.all false
set_option maxRecDepth 100000
set_option maxHeartbeats 1000000
/-! RP8: neighbours_in. -/
namespace Rings
open PySem PySem.Spec PyProof.Rows L2 EV
theorem nbs_take (ts : List Tie) (i : Nat) (t : Tie) (D : Dct) (h : ts[i]? = some t) : nbs (ts.take (i + 1)) D = pushD (pushD (nbs (ts.take i) D) t.1 (tl t)) (tl t) t.1 := by
  induction ts generalizing i D with
  | nil => cases h
  | cons s ts ih =>
    cases i with
    | zero =>
      rw [List.getElem?_cons_zero] at h
      cases h
      rfl
    | succ i =>
      rw [List.getElem?_cons_succ] at h
      rw [List.take_succ_cons, List.take_succ_cons]
      exact ih i _ h
theorem aD_run {S : Sto} {d : Nat} {t : Bool} {kvs : List (Kk × A)} {P : Unit → Sto → Prop} {X : Ex → Sto → Prop} (h : S.f d = some (.dct t kvs)) : Run (aDct (.ref d)) S P X = P () S := by
  have e : dctAt S d = some (t, kvs) := by unfold dctAt; rw [h]
  unfold EV.Run aDct
  dsimp only
  rw [e]
def InvN (ts : List Tie) (S0 : Sto) (i : Nat) (ε : EV.Env) (S : Sto) : Prop := Gr S0 S ∧ (∃ a b, ε = [some (.tup (ts.map tA)), some (.ref S0.n), a, b]) ∧ ∃ E, RepE S0.n S0.n S E ∧ dE E = nbs (ts.take i) [] ∧ E.length ≤ 2 * i ∧ ∀ e ∈ E, e.2.2.length ≤ 2 * i
theorem r_neighbours_in {ts : List Tie} {S : Sto} {P : A → Sto → Prop} {X : Ex → Sto → Prop} (hl : ts.length ≤ 64) (h : ∀ S' E, Gr S S' → RepE S.n S.n S' E → dE E = nbs ts [] → E.length ≤ 2 * ts.length → (∀ e ∈ E, e.2.2.length ≤ 2 * ts.length) → P (.ref S.n) S') : Run (f_neighbours_in [.tup (ts.map tA)]) S P X := by
  refine fn_run ?_
  simp [b_neighbours_in]
  refine run_forM ts tA (InvN ts S) (fun i ε S' I => by simp) (fun i t ε S' ht ⟨g, ⟨a, b, e2⟩, E, R, de, l1, l2⟩ => ⟨[(2, nA t.1), (3, .int t.2)], rfl, ?_⟩) (fun ε S' ⟨g, ⟨a, b, e2⟩, E, R, de, l1, l2⟩ => ?_) _ _ _ (by simp) ⟨gr_new, ⟨_, _, rfl⟩, [], ⟨⟨fun e h => (nomatch h), by simp, by simp⟩, new_at, Nat.le_refl _, Nat.lt_succ_self _⟩, rfl, Nat.zero_le _, fun e h => (nomatch h)⟩
  · subst e2
    have hi : i < ts.length := (List.getElem?_eq_some_iff.mp ht).1
    obtain ⟨k, S5, xs, S6, E6, p1, p2, p3, R6, d6, g6, l6, m6⟩ := set_push (n := t.1) (x := tl t) R g (Nat.le_refl _) l1 l2 (by omega)
    obtain ⟨k7, S7, xs7, S8, E8, q1, q2, q3, R8, d8, g8, l8, m8⟩ := set_push (n := tl t) (x := t.1) R6 g6 (Nat.le_refl _) l6 m6 (by omega)
    have tle : (A.tup [.str "talk", .int (t.2 : Int)]) = nA (tl t) := rfl
    have fin : InvN ts S (i + 1) [some (.tup (ts.map tA)), some (.ref S.n), some (nA t.1), some (.int t.2)] S8 := ⟨g8, ⟨_, _, rfl⟩, E8, R8, by rw [d8, d6, de, nbs_take ts i t [] ht], by omega, fun e he => by have := m8 e he; omega⟩
    simp [line_two, tle, aD_run R.at_d, p1, p2, p3, aD_run R6.at_d, q1, q2, q3]

    exact fin
  · subst e2
    simp
    rw [List.take_length] at de
    exact h S' E g R de l1 l2
end Rings

end

section
set_option Elab.async false
set_option linter.all false
set_option maxRecDepth 100000
set_option maxHeartbeats 1000000
/-! RP9: two dicts of neighbours, compared. -/
namespace Rings
open PySem PySem.Spec PyProof.Rows L2 EV
theorem eqv_lists (ns ms : List Nd) : PyData.eqv (.list (ns.map nD)) (.list (ms.map nD)) = decide (ns = ms) := by
  rw [Bool.eq_iff_iff, decide_eq_true_iff]
  unfold PyData.eqv
  constructor
  · exact fun h => maps_inj (fun a b => nD_inj) (eqvs_kd (kds_map nD_kd ns) h (kds_map nD_kd ms))
  · rintro rfl
    exact eqvs_refl (kds_map nD_kd ns)
theorem has_E {b' : Nat} {S : Sto} {F : List En} (M : LsE b' S F) {e : En} (he : S.f e.2.1 = some (.lst (e.2.2.map nA))) : hasP S (kvE F) (nK e.1, .ref e.2.1) = some (decide ((e.1, e.2.2) ∈ dE F)) := by
  unfold hasP
  dsimp only
  by_cases h : e.1 ∈ F.map (·.1)
  · obtain ⟨q, hq, z⟩ := List.mem_map.mp h
    rw [← z, lk_some M.ks hq]
    dsimp only
    rw [rd_nl he, rd_nl (M.ls q hq).1]
    dsimp only
    rw [eqv_lists]
    congr 1
    rw [decide_eq_decide]
    constructor
    · intro y
      exact List.mem_map.mpr ⟨q, hq, by rw [y, z]⟩
    · intro y
      obtain ⟨r, hr, y⟩ := List.mem_map.mp y
      injection y with y1 y2
      rw [← y2, uniq_k M.ks hr hq y1]
  · rw [lk_none h]
    dsimp only
    rw [decide_eq_false fun y => ?_]
    obtain ⟨r, hr, y⟩ := List.mem_map.mp y
    injection y with y1 y2
    exact h (y1 ▸ List.mem_map.mpr ⟨r, hr, rfl⟩)
theorem all_E {b' : Nat} {S : Sto} {F : List En} (M : LsE b' S F) : ∀ (E : List En), (∀ e ∈ E, S.f e.2.1 = some (.lst (e.2.2.map nA))) → allP S (kvE F) (kvE E) = some (decide (∀ p ∈ dE E, (p.1, p.2) ∈ dE F))
  | [], _ => by
    show some true = _
    congr 1
  | e :: E, h => by
    show (match hasP S (kvE F) (nK e.1, .ref e.2.1), allP S (kvE F) (kvE E) with
      | some b, some c => some (b && c)
      | _, _ => none) = _
    rw [has_E M (h e (by simp)), all_E M E fun q hq => h q (by simp [hq])]
    dsimp only
    congr 1
    rw [Bool.eq_iff_iff, Bool.and_eq_true, decide_eq_true_iff, decide_eq_true_iff, decide_eq_true_iff]
    constructor
    · rintro ⟨h1, h2⟩ p hp
      rcases List.mem_cons.mp (show p ∈ (e.1, e.2.2) :: dE E from hp) with rfl | m
      · exact h1
      · exact h2 p m
    · intro h1
      exact ⟨h1 (e.1, e.2.2) (List.mem_cons_self ..), fun p hp => h1 p (List.mem_cons_of_mem _ hp)⟩
theorem ne_E {b b' d d' : Nat} {S : Sto} {E F : List En} (R : RepE b d S E) (Q : RepE b' d' S F) : ∃ c, oNeD (.ref d) (.ref d') S = some (.bl c, S) ∧ (c = false ↔ deq (dE E) (dE F)) := by
  have d1 : dctAt S d = some (true, kvE E) := by unfold dctAt; rw [R.at_d]
  have d2 : dctAt S d' = some (true, kvE F) := by unfold dctAt; rw [Q.at_d]
  unfold oNeD
  dsimp only
  rw [d1, d2]
  dsimp only
  have len : (kvE E).length = (kvE F).length ↔ (dE E).length = (dE F).length := by
    unfold kvE dE
    rw [List.length_map, List.length_map, List.length_map, List.length_map]
  by_cases z : (kvE E).length = (kvE F).length
  · rw [if_pos z, all_E (b' := b') Q.toLsE E fun e he => (R.ls e he).1]
    refine ⟨_, rfl, ?_⟩
    rw [Bool.not_eq_false', decide_eq_true_iff]
    exact ⟨fun h => ⟨len.mp z, h⟩, fun h => h.2⟩
  · rw [if_neg z]
    exact ⟨true, rfl, fun h => (nomatch h), fun h => absurd (len.mpr h.1) z⟩
end Rings

end

section
set_option Elab.async false
set_option linter.all false
set_option maxRecDepth 100000
set_option maxHeartbeats 1000000
/-! RP10: one round of without_leaves. -/
namespace Rings
open PySem PySem.Spec PyProof.Rows L2 EV
def cKept : CE := cLock (cVar 2) (cLc (cKeys (cVar 2)) (gVar 4) (bOf (c2 oGt (cB bLen (lCons (c2 oIx (cVar 2) (cVar 4)) lNil)) (cC (.int 1)))) (cVar 4) [4])
theorem keys_run {S : Sto} {d : Nat} {t : Bool} {kvs : List (Kk × A)} {P : IT → Sto → Prop} {X : Ex → Sto → Prop} (h : S.f d = some (.ldk t kvs)) : EV.Run (keysIT (.ref d)) S P X = P ⟨fun i _ => some (kvs[i]?.map fun p => keyTo p.1), kvs.length⟩ S := by
  unfold EV.Run keysIT
  dsimp only
  rw [h]
theorem ix_L {S : Sto} {d : Nat} {E : List En} {e : En} (h : S.f d = some (.ldk true (kvE E)) ∨ S.f d = some (.dct true (kvE E))) (ks : (E.map (·.1)).Nodup) (he : e ∈ E) : oIx (.ref d) (nA e.1) S = some (.ref e.2.1, S) := by
  unfold oIx
  dsimp only
  rcases h with h | h <;> rw [h] <;> dsimp only <;> rw [key_n] <;> dsimp only <;> rw [if_pos (show kOk true (nK e.1) = true from rfl), lk_some ks he] <;> rfl
theorem kept_E (E : List En) : (E.filter fun e => decide (1 < e.2.2.length)).map (fun e => nA e.1) = (kept (dE E)).map nA := by
  unfold kept dE
  rw [List.filter_map, List.map_map, List.map_map]
  rfl
theorem r_kept {b d : Nat} {S : Sto} {E : List En} (R : RepE b d S E) (hE : E.length ≤ 1000) {x0 x1 x3 x4 x5 : Option A} {P : A → Sto → Prop} {X : Ex → Sto → Prop} (h : ∀ S' k, Gr S S' → S.n ≤ k → k < S'.n → S'.f k = some (.lst ((kept (dE E)).map nA)) → P (.ref k) S') : EV.Run (cKept [x0, x1, some (.ref d), x3, x4, x5]) S P X := by
  refine run_lock rfl R.at_d ?_
  simp [keys_run put_at]
  refine lc_if E (fun e => nA e.1) (fun e => decide (1 < e.2.2.length)) (fun e => nA e.1) (by show (kvE E).length ≤ _; unfold kvE; rw [List.length_map]; omega) (by show _ ≤ (kvE E).length; unfold kvE; rw [List.length_map]; exact Nat.le_refl _) (fun i S1 _ => ?_) (fun e S1 he g => ⟨[(4, nA e.1)], rfl, ?_⟩) fun S1 g => ?_
  · show some ((kvE E)[i]?.map _) = _
    unfold kvE
    rw [List.getElem?_map, Option.map_map]
    rfl
  · have hd : S1.f d = some (.ldk true (kvE E)) := by rw [g.at R.dn]; exact put_at
    obtain ⟨e1, e2, e3⟩ := R.ls e he
    have ne : e.2.1 ≠ d := fun z => by rw [z, R.at_d] at e1; cases e1
    have hl : S1.f e.2.1 = some (.lst (e.2.2.map nA)) := by rw [g.at e3, put_ne ne]; exact e1
    simp [ix_L (.inl hd) R.ks he, ov_lenL hl]
    exact ⟨by omega, Gw.refl, fun _ => Gw.refl⟩
  · rw [kept_E]
    have hd : (S1.new (.lst ((kept (dE E)).map nA))).f d = some (.ldk true (kvE E)) := by
      rw [gr_new.at (Nat.lt_of_lt_of_le R.dn g.n), g.at R.dn]
      exact put_at
    have ne : S1.n ≠ d := by have := g.n; have := R.dn; show S1.n ≠ d; have : S.n ≤ S1.n := g.n; omega
    refine ⟨hd, h _ S1.n ⟨Nat.le_succ_of_le g.n, fun m hm _ => ?_⟩ g.n (Nat.lt_succ_self _) (by rw [put_ne ne]; exact new_at)⟩
    by_cases z : m = d
    · rw [z, put_at, R.at_d]
    · rw [put_ne z, gr_new.at (Nat.lt_of_lt_of_le hm g.n), g.at hm, put_ne z]
def cRnd : CE := cDc (cSeq (cVar 3)) (gVar 4) bYes (cVar 4) (cLc (cSeq (c2 oIx (cVar 2) (cVar 4))) (gVar 5) (bOf (c2 (oIn false) (cVar 5) (cVar 3))) (cVar 5) [5]) [4] true
theorem seq_runL {S : Sto} {k : Nat} {xs : List A} {P : IT → Sto → Prop} {X : Ex → Sto → Prop} (h : S.f k = some (.lst xs)) : EV.Run (seqIT (.ref k)) S P X = P ⟨fun i S => lstAt k i S, xs.length⟩ S := by
  unfold EV.Run seqIT
  dsimp only
  rw [h]
theorem lst_at {S : Sto} {k : Nat} {xs : List A} (h : S.f k = some (.lst xs)) (i : Nat) : lstAt k i S = some xs[i]? := by
  unfold lstAt
  rw [h]
theorem LsE.gr {b : Nat} {S S' : Sto} {E : List En} (L : LsE b S E) (g : Gr S S') : LsE b S' E := ⟨fun e he => by
  obtain ⟨e1, e2, e3⟩ := L.ls e he
  exact ⟨by rw [g.at e3]; exact e1, e2, Nat.lt_of_lt_of_le e3 g.n⟩, L.nd, L.ks⟩
theorem LsE.snoc {b : Nat} {S : Sto} {E : List En} {n : Nd} {l : List Nd} (L : LsE b S E) (hb : b ≤ S.n) (h : n ∉ E.map (·.1)) : LsE b (S.new (.lst (l.map nA))) (E ++ [(n, S.n, l)]) := by
  refine ⟨fun q hq => ?_, ?_, ?_⟩
  · rcases List.mem_append.mp hq with m | m
    · exact (L.gr gr_new).ls q m
    · rw [List.mem_singleton.mp m]
      exact ⟨new_at, hb, Nat.lt_succ_self _⟩
  · rw [List.map_append, List.nodup_append]
    refine ⟨L.nd, by simp, fun a ha c hc z => ?_⟩
    obtain ⟨q, hq, rfl⟩ := List.mem_map.mp ha
    have : q.2.1 = S.n := z.trans (List.mem_singleton.mp hc)
    have := (L.ls q hq).2.2
    omega
  · rw [List.map_append, List.nodup_append]
    exact ⟨L.ks, by simp, fun a ha c hc z => h ((z.trans (List.mem_singleton.mp hc) : a = n) ▸ ha)⟩
theorem not_in_take {α : Type} {l : List α} (hn : l.Nodup) {i : Nat} {a : α} (h : l[i]? = some a) : a ∉ l.take i := fun m => by
  obtain ⟨j, hj, e⟩ := List.mem_take_iff_getElem.mp m
  obtain ⟨hi, e2⟩ := List.getElem?_eq_some_iff.mp h
  have := (List.getElem_inj hn).mp (e.trans e2.symm)
  omega
theorem rnd_len (D : Dct) : (rnd D).length = (kept D).length := by unfold rnd; rw [List.length_map]
theorem r_rnd {b d k : Nat} {S : Sto} {E : List En} (R : RepE b d S E) (hE : E.length ≤ 1000) (hL : ∀ e ∈ E, e.2.2.length ≤ 1000) (hk : S.f k = some (.lst ((kept (dE E)).map nA))) (kn : k < S.n) {x0 x1 x4 x5 : Option A} {P : A → Sto → Prop} {X : Ex → Sto → Prop}
    (h : ∀ S' d' E', Gr S S' → RepE S.n d' S' E' → dE E' = rnd (dE E) → P (.ref d') S') : EV.Run (cRnd [x0, x1, some (.ref d), some (.ref k), x4, x5]) S P X := by
  have kl : (kept (dE E)).length ≤ 1000 := by
    unfold kept dE
    rw [List.length_map]
    exact Nat.le_trans (List.length_filter_le _ _) (by rw [List.length_map]; exact hE)
  unfold cRnd
  simp [seq_runL hk]
  refine (run_dc (kept (dE E)) nA (fun i acc S1 => Gr S S1 ∧ ∃ E', acc = kvE E' ∧ LsE S.n S1 E' ∧ dE E' = (rnd (dE E)).take i) (fun i acc S1 ⟨g, _⟩ => ?_) (fun i n acc S1 hn ⟨g, E', ea, L, dd⟩ => ⟨[(4, nA n)], rfl, ?_⟩) _ 0 [] S (Nat.zero_le _) (by simp) ⟨Gw.refl, [], rfl, ⟨fun e h => (nomatch h), by simp, by simp⟩, rfl⟩).imp fun acc S1 ⟨g, E', ea, L, dd⟩ => ?_
  · show lstAt k i S1 = _
    rw [lst_at (by rw [g.at kn]; exact hk), List.getElem?_map]
  · subst ea
    have mn : n ∈ kept (dE E) := List.mem_of_getElem? hn
    obtain ⟨p, hp, _, e0⟩ := mem_kept.mp mn
    obtain ⟨e, he, rfl⟩ := List.mem_map.mp hp
    dsimp only at e0
    subst e0
    obtain ⟨e1, e2, e3⟩ := R.ls e he
    have hl : S1.f e.2.1 = some (.lst (e.2.2.map nA)) := by rw [g.at e3]; exact e1
    have hd : S1.f d = some (.dct true (kvE E)) := by rw [g.at R.dn]; exact R.at_d
    have hk1 : S1.f k = some (.lst ((kept (dE E)).map nA)) := by rw [g.at kn]; exact hk
    simp [ix_L (.inr hd) R.ks he, seq_runL hl]
    refine lc_if e.2.2 nA (fun x => decide (x ∈ kept (dE E))) nA (by have := hL e he; show e.2.2.length ≤ _; omega) (Nat.le_refl _) (fun j S2 g2 => ?_) (fun x S2 hx g2 => ⟨[(5, nA x)], rfl, ?_⟩) fun S2 g2 => ?_
    · show lstAt e.2.1 j S2 = _
      rw [lst_at (by rw [g2.at (Nat.lt_of_lt_of_le e3 g.n)]; exact hl), List.getElem?_map]
    · have hk2 : S2.f k = some (.lst ((kept (dE E)).map nA)) := by rw [g2.at (Nat.lt_of_lt_of_le kn g.n)]; exact hk1
      simp [in_nodesL hk2]
      exact ⟨Gw.refl, fun _ => Gw.refl⟩
    · have lenE : E'.length ≤ 1000 := by
        have : (dE E').length = ((rnd (dE E)).take i).length := by rw [dd]
        unfold dE at this
        rw [List.length_map, List.length_take] at this
        have := rnd_len (dE E)
        unfold dE at this
        unfold dE at kl
        omega
      have kE : E'.map (·.1) = (kept (dE E)).take i := by rw [← keys_E, dd, List.map_take, keys_rnd]
      have ndk : ((dE E).map (·.1)).Nodup := by rw [keys_E]; exact R.ks
      have no : e.1 ∉ E'.map (·.1) := by rw [kE]; exact not_in_take (kept_nd ndk) hn
      refine ⟨nK e.1, key_n _, rfl, by unfold kvE line; rw [List.length_map]; omega, (g.trans g2).trans gr_new, _, ?_, (L.gr g2).snoc (Nat.le_trans g.n g2.n) no, ?_⟩
      · unfold dput
        rw [lk_none no]
        unfold kvE
        rw [List.map_append]
        rfl
      · have at_i : (rnd (dE E))[i]? = some (e.1, e.2.2.filter fun x => decide (x ∈ kept (dE E))) := by
          unfold rnd
          rw [List.getElem?_map, hn]
          show some (e.1, (look (dE E) e.1).filter _) = _
          rw [look_of ndk hp]
        rw [List.take_add_one, at_i]
        unfold dE at dd ⊢
        rw [List.map_append, dd]
        rfl
  · subst ea
    rw [← rnd_len, List.take_length] at dd
    exact h _ _ E' (g.trans gr_new) ⟨L.gr gr_new, new_at, g.n, Nat.lt_succ_self _⟩ dd
end Rings

end

section
set_option Elab.async false
set_option linter.all false
set_option maxRecDepth 100000
set_option maxHeartbeats 1000000
/-! RP11: without_leaves. -/
namespace Rings
open PySem PySem.Spec PyProof.Rows L2 EV
theorem RepE.gr {b d : Nat} {S S' : Sto} {E : List En} (R : RepE b d S E) (g : Gr S S') : RepE b d S' E := ⟨R.toLsE.gr g, by rw [g.at R.dn]; exact R.at_d, R.bd, Nat.lt_of_lt_of_le R.dn g.n⟩
theorem rnd_small {D : Dct} (h : (D.map (·.1)).Nodup) {m : Nat} (h1 : D.length ≤ m) (h2 : ∀ p ∈ D, p.2.length ≤ m) : (rnd D).length ≤ m ∧ ∀ p ∈ rnd D, p.2.length ≤ m := by
  rw [rnd_eq h, List.length_map]
  refine ⟨Nat.le_trans (List.length_filter_le _ _) h1, fun p hp => ?_⟩
  obtain ⟨q, hq, rfl⟩ := List.mem_map.mp hp
  exact Nat.le_trans (List.length_filter_le _ _) (h2 q (List.mem_filter.mp hq).1)
def small (D : Dct) : Prop := D.length ≤ 1000 ∧ ∀ p ∈ D, p.2.length ≤ 1000
theorem small_E {E : List En} (h : small (dE E)) : E.length ≤ 1000 ∧ ∀ e ∈ E, e.2.2.length ≤ 1000 := by
  refine ⟨by have := h.1; unfold dE at this; rwa [List.length_map] at this, fun e he => h.2 (e.1, e.2.2) (List.mem_map.mpr ⟨e, he, rfl⟩)⟩
structure InvL (ts : List Tie) (d : Nat) (S : Sto) (E : List En) (n : Nat) (ε : EV.Env) (S' : Sto) (b1 d1 : Nat) (E1 : List En) (bf : A) : Prop where
  g : Gr S S'
  ε : ∃ x3 x4 x5, ε = [some (.ref d), some (.ref d1), some bf, x3, x4, x5]
  R : RepE b1 d1 S' E1
  G : Good ts (dE E1)
  st : ∀ V, Stay V (dE E) → Stay V (dE E1)
  sm : small (dE E1)
  bf : (bf = .non ∧ n = mass (dE E1) + 1) ∨ ∃ b0 d0 E0, bf = .ref d0 ∧ RepE b0 d0 S' E0 ∧ ((dE E0).map (·.1)).Nodup ∧ dE E1 = rnd (dE E0) ∧ n = if dE E1 = dE E0 then 0 else mass (dE E1) + 1
theorem r_without_leaves {ts : List Tie} {b d : Nat} {S : Sto} {E : List En} (R : RepE b d S E) (G : Good ts (dE E)) (sm : small (dE E)) (hm : mass (dE E) < 900000) {P : A → Sto → Prop} {X : Ex → Sto → Prop}
    (h : ∀ S' b' d' E', Gr S S' → RepE b' d' S' E' → Good ts (dE E') → Full (dE E') → (∀ V, Stay V (dE E) → Stay V (dE E')) → small (dE E') → P (.ref d') S') : EV.Run (f_without_leaves [.ref d]) S P X := by
  refine fn_run ?_
  simp [b_without_leaves, line_two]
  refine run_while (fun n ε S' => ∃ b1 d1 E1 bf, InvL ts d S E n ε S' b1 d1 E1 bf) (fun n ε S' ⟨b1, d1, E1, bf, I⟩ => ?_) fuel _ _ _ (by show mass (dE E) + 1 < 1000000; omega) ⟨b, d, E, .non, ⟨Gw.refl, ⟨_, _, _, rfl⟩, R, G, fun V v => v, sm, .inl ⟨rfl, rfl⟩⟩⟩
  obtain ⟨g, ⟨x3, x4, x5, rfl⟩, R1, G1, st, sm1, hb⟩ := I
  have go : n = mass (dE E1) + 1 → EV.Run (sSeq (sAsg (cVar 1) (gVar 2)) (sSeq (sAsg cKept (gVar 3)) (sAsg cRnd (gVar 1))) [some (.ref d), some (.ref d1), some bf, x3, x4, x5]) S' (fun fl S2 => match fl with
      | .nx ε' => ∃ n', n' < n ∧ ∃ b1 d1 E1 bf, InvL ts d S E n' ε' S2 b1 d1 E1 bf
      | .ct ε' => ∃ n', n' < n ∧ ∃ b1 d1 E1 bf, InvL ts d S E n' ε' S2 b1 d1 E1 bf
      | _ => False) (fun _ _ => False) := fun hn => by
    simp
    refine r_kept R1 (small_E sm1).1 fun S2 k g2 _ kn hk => ?_
    refine r_rnd (R1.gr g2) (small_E sm1).1 (small_E sm1).2 hk kn fun S3 d3 E3 g3 R3 e3 => ?_
    have nd : ((dE E1).map (·.1)).Nodup := G1.nd
    refine ⟨if dE E3 = dE E1 then 0 else mass (dE E3) + 1, ?_, _, _, E3, .ref d1, ⟨(g.trans g2).trans g3, ⟨_, _, _, rfl⟩, R3, by rw [e3]; exact G1.rnd, fun V v => by rw [e3]; exact (st V v).rnd nd, by rw [e3]; exact rnd_small nd sm1.1 sm1.2, .inr ⟨_, d1, E1, rfl, (R1.gr g2).gr g3, nd, e3, rfl⟩⟩⟩
    by_cases z : dE E3 = dE E1
    · rw [if_pos z]; omega
    · rw [if_neg z]
      rw [e3] at z ⊢
      have := mass_rnd nd z
      omega
  have go2 := fun hn => (go hn)
  rcases hb with ⟨rfl, hn⟩ | ⟨b0, d0, E0, rfl, R0, nd0, e0, hn⟩
  · have d1t : oNeD (.ref d1) .non S' = some (.bl true, S') := by
      have dd : dctAt S' d1 = some (true, kvE E1) := by unfold dctAt; rw [R1.at_d]
      unfold oNeD
      dsimp only
      rw [dd]
    simp only [sp_bOf, sp_c2, sp_var, List.getElem?_cons_zero, List.getElem?_cons_succ, d1t, sp_isB]
    refine (go hn).mono (fun fl S2 z => ?_) fun e S2 z => z
    cases fl <;> first | exact z | exact z.elim
  · obtain ⟨c, ec, hc⟩ := ne_E R1 R0
    simp only [sp_bOf, sp_c2, sp_var, List.getElem?_cons_zero, List.getElem?_cons_succ, ec, sp_isB]
    cases c with
    | false =>
      simp
      exact h S' b1 d1 E1 g R1 G1 (by rw [e0]; exact full_of nd0 (e0 ▸ hc.mp rfl)) st sm1
    | true =>
      have ne : dE E1 ≠ dE E0 := fun z => by
        have := hc.mpr (by rw [z]; exact ⟨rfl, fun p hp => hp⟩)
        cases this
      rw [if_neg ne] at hn
      refine (go hn).mono (fun fl S2 z => ?_) fun e S2 z => z
      cases fl <;> first | exact z | exact z.elim
end Rings

end

section
set_option Elab.async false
set_option linter.all false
set_option maxRecDepth 100000
set_option maxHeartbeats 1000000
/-! RP12: long_ring. -/
namespace Rings
open PySem PySem.Spec PyProof.Rows L2 EV
theorem best_le (bt : Nat → Nat → Bool) : ∀ k, argBest bt k ≤ k
  | 0 => Nat.le_refl _
  | k + 1 => by
    unfold argBest
    split
    · exact Nat.le_refl _
    · exact Nat.le_succ_of_le (best_le bt k)
theorem at_last {α : Type} {xs : List α} {a : α} (h : xs[xs.length - 1]? = some a) : atI xs (-1) = some a := by
  have pos : xs.length - 1 < xs.length := (List.getElem?_eq_some_iff.mp h).1
  unfold atI ixN
  rw [if_neg (by omega), if_pos (by omega)]
  show xs[((-1 : Int) + (xs.length : Int)).toNat]? = _
  rw [show ((-1 : Int) + (xs.length : Int)).toNat = xs.length - 1 by omega]
  exact h
theorem sIx_m1 (n d : Nat) : HT.sIx n d (some (-1)) = n - 1 := by
  show (if (-1 : Int) < 0 then ((-1 : Int) + (n : Int)).toNat else min (-1 : Int).toNat n) = n - 1
  rw [if_pos (by omega)]
  omega
theorem sIx_m2 (n d : Nat) : HT.sIx n d (some (-2)) = n - 2 := by
  show (if (-2 : Int) < 0 then ((-2 : Int) + (n : Int)).toNat else min (-2 : Int).toNat n) = n - 2
  rw [if_pos (by omega)]
  omega
theorem cut_init (xs : List A) : cutA xs none (some (-1)) = xs.dropLast := by
  unfold cutA
  rw [HT.sIx_none, sIx_m1, List.drop_zero, List.dropLast_eq_take, Nat.sub_zero]
theorem cut_mid (xs : List A) (j : Nat) (h : j ≤ xs.length) : cutA xs (some (j : Int)) (some (-1)) = xs.dropLast.drop j := by
  unfold cutA
  rw [HT.sIx_nat, sIx_m1, List.dropLast_eq_take, Nat.min_eq_left h, List.drop_take]
theorem cut_back (xs : List A) : cutA xs (some (-2)) (some (-1)) = (xs.drop (xs.length - 2)).take (xs.length - 1 - (xs.length - 2)) := by
  unfold cutA
  rw [sIx_m1, sIx_m2]
theorem alike_n (m n : Nd) : PySem.W.alike (nD m) (nD n) = true := by
  unfold nD
  simp [PySem.W.alike, PySem.W.alikeAll]
theorem kk_n (n : Nd) : kkD (nK n) = nD n := rfl
theorem r_min {b d : Nat} {S : Sto} {E : List En} (R : RepE b d S E) (h : E ≠ []) : ∃ e ∈ E, oMinD [.ref d] S = some (nA e.1, S) := by
  have dd : dctAt S d = some (true, kvE E) := by unfold dctAt; rw [R.at_d]
  have ks : (kvE E).map (fun p => kkD p.1) = E.map fun e => nD e.1 := by
    unfold kvE
    rw [List.map_map]
    rfl
  have al : alikes (E.map fun e => nD e.1) = true := by
    unfold alikes
    rw [List.all_eq_true]
    intro x hx
    rw [List.all_eq_true]
    intro y hy
    obtain ⟨e, _, rfl⟩ := List.mem_map.mp hx
    obtain ⟨q, _, rfl⟩ := List.mem_map.mp hy
    exact alike_n _ _
  have lt : leastAt (E.map fun e => nD e.1) < E.length := by
    have pos := List.length_pos_iff.mpr h
    have := best_le (fun i j => PySem.W.dataLt ((E.map fun e => nD e.1).getD i .none) ((E.map fun e => nD e.1).getD j .none)) ((E.map fun e => nD e.1).length - 1)
    unfold leastAt
    rw [List.length_map] at this ⊢
    omega
  refine ⟨E[leastAt (E.map fun e => nD e.1)], List.getElem_mem lt, ?_⟩
  unfold oMinD
  dsimp only
  rw [dd]
  dsimp only
  rw [ks, if_pos al]
  unfold kvE
  rw [List.getElem?_map, List.getElem?_eq_getElem lt]
  rfl
theorem idx_n (n : Nd) : ∀ (ns : List Nd) (j0 : Nat), ns[j0]? = some n → ∃ j, j ≤ j0 ∧ idxD (nD n) (ns.map nD) = some j ∧ ns[j]? = some n
  | m :: ns, j0, h => by
    rw [List.map_cons]
    unfold idxD
    by_cases z : m = n
    · rw [z, if_pos (eqv_refl (nD_kd n))]
      exact ⟨0, Nat.zero_le _, rfl, rfl⟩
    · rw [if_neg fun y => z (nD_inj (eqv_kd (nD_kd m) y (nD_kd n)))]
      cases j0 with
      | zero =>
        rw [List.getElem?_cons_zero] at h
        cases h
        exact absurd rfl z
      | succ j0 =>
        rw [List.getElem?_cons_succ] at h
        obtain ⟨j, e0, e1, e2⟩ := idx_n n ns j0 h
        rw [e1]
        exact ⟨j + 1, Nat.succ_le_succ e0, rfl, e2⟩
structure InvW (ts : List Tie) (d : Nat) (S : Sto) (E : List En) (n : Nat) (ε : EV.Env) (S' : Sto) (w : List Nd) : Prop where
  g : Gr S S'
  ε : ∃ x2 x3, ε = [some (.ref d), some (.ref S.n), x2, x3]
  ls : S'.f S.n = some (.lst (w.map nA))
  sn : S.n < S'.n
  W : Wk ts (dE E) w
  n : n = 2000 - w.length
theorem wk_len {ts : List Tie} {E : List En} {w : List Nd} (W : Wk ts (dE E) w) : w.length ≤ E.length + 1 := by
  have := sub_len (ys := E.map (·.1)) W.nd fun x hx => by
    obtain ⟨p, hp, e⟩ := W.key x (List.dropLast_subset _ hx)
    rw [← keys_E]
    exact List.mem_map.mpr ⟨p, hp, e⟩
  rw [List.length_dropLast, List.length_map] at this
  omega
theorem r_long_ring {ts : List Tie} {b d : Nat} {S : Sto} {E : List En} (R : RepE b d S E) (G : Good ts (dE E)) (F : Full (dE E)) (sm : small (dE E)) (ne : E ≠ []) {P : A → Sto → Prop} {X : Ex → Sto → Prop}
    (h : ∀ S' ns, Gr S S' → isRing ts ns → P (.tup (ns.map nA)) S') : EV.Run (f_long_ring [.ref d]) S P X := by
  refine fn_run ?_
  obtain ⟨e0, he0, mn⟩ := r_min R ne
  simp [b_long_ring, mn, line_one]
  refine run_while (fun n ε S' => ∃ w, InvW ts d S E n ε S' w) (fun n ε S' ⟨w, I⟩ => ?_) fuel (2000 - 1) _ _ (by show 1999 < 1000000; omega) ⟨[e0.1], gr_new, ⟨_, _, rfl⟩, new_at, Nat.lt_succ_self _, Wk.one ⟨(e0.1, e0.2.2), List.mem_map.mpr ⟨e0, he0, rfl⟩, rfl⟩, rfl⟩
  obtain ⟨g, ⟨x2, x3, rfl⟩, ls, sn, W, hn⟩ := I
  have pos : 0 < w.length := List.length_pos_iff.mpr W.ne
  obtain ⟨l, hl⟩ : ∃ l, w[w.length - 1]? = some l := ⟨_, List.getElem?_eq_getElem (by omega)⟩
  have wl := wk_len W
  have last : ∀ S2 : Sto, S2.f S.n = some (.lst (w.map nA)) → oIx (.ref S.n) (.int (-1)) S2 = some (nA l, S2) := fun S2 h2 => by
    unfold oIx
    dsimp only
    rw [h2]
    dsimp only
    rw [at_last (a := nA l) (by rw [List.length_map, List.getElem?_map, hl]; rfl)]
    rfl
  have sl0 : oSl (.ref S.n) none (some (-1)) S' = some (.ref S'.n, S'.new (.lst (w.dropLast.map nA))) := by
    unfold oSl
    dsimp only
    rw [ls]
    dsimp only
    rw [cut_init, List.map_dropLast]
  simp only [sp_bOf, sp_c2, sp_c1, sp_c, sp_var, sp_cSl, sp_oNo, sp_oAt, ov_neg, List.getElem?_cons_zero, List.getElem?_cons_succ, last S' ls, sl0, in_nodesL (new_at (S := S') (o := .lst (w.dropLast.map nA))), sp_isB]
  have g1 : Gr S (S'.new (.lst (w.dropLast.map nA))) := g.trans gr_new
  have ls1 : (S'.new (.lst (w.dropLast.map nA))).f S.n = some (.lst (w.map nA)) := by rw [gr_new.at sn]; exact ls
  have sn1 : S.n < (S'.new (.lst (w.dropLast.map nA))).n := Nat.lt_succ_of_lt sn
  generalize S'.new (.lst (w.dropLast.map nA)) = S1 at g1 ls1 sn1 ⊢
  by_cases m : l ∈ w.dropLast
  · rw [decide_eq_true m]
    obtain ⟨j0, hj0, e0⟩ := List.mem_iff_getElem.mp m
    have w0 : w[j0]? = some l := by
      rw [List.getElem_dropLast] at e0
      rw [← e0]
      exact List.getElem?_eq_getElem _
    obtain ⟨j, jl, ix, wj⟩ := idx_n l w j0 w0
    rw [List.length_dropLast] at hj0
    have ring := (wk_ring W G.ok hl wj (by omega)).1
    have mi : mIndex (.ref S.n) [nA l] S1 = some (.int (j : Int), S1) := by
      unfold mIndex
      dsimp only
      rw [rd_nl ls1, rd_n]
      dsimp only
      rw [ix]
      rfl
    have sl : oSl (.ref S.n) (some (j : Int)) (some (-1)) S1 = some (.ref S1.n, S1.new (.lst ((w.dropLast.drop j).map nA))) := by
      unfold oSl
      dsimp only
      rw [ls1]
      dsimp only
      rw [cut_mid _ _ (by rw [List.length_map]; omega), List.map_drop, List.map_dropLast]
    simp [ls1, last S1 ls1, mi, sl]
    rw [ov_tupL new_at]
    rw [← List.map_dropLast, ← List.map_drop]
    exact h _ _ (g1.trans gr_new) ring
  · rw [decide_eq_false m]
    have wn : w.Nodup := by
      rw [← List.dropLast_concat_getLast W.ne]
      have el : w.getLast W.ne = l := by
        rw [List.getLast_eq_getElem]
        exact (List.getElem?_eq_some_iff.mp hl).2
      rw [el, List.nodup_append]
      exact ⟨W.nd, by simp, fun a ha c hc z => m (by rw [← List.mem_singleton.mp hc, ← z]; exact ha)⟩
    obtain ⟨p, hp, pe⟩ := W.key l (List.mem_of_getElem? hl)
    obtain ⟨e, he, rfl⟩ := List.mem_map.mp hp
    dsimp only at pe
    subst pe
    have bk : ∃ bs : List Nd, cutA (w.map nA) (some (-2)) (some (-1)) = bs.map nA ∧ bs.length ≤ 1 ∧ ∀ i a, i + 2 = w.length → w[i]? = some a → bs = [a] := by
      refine ⟨(w.drop (w.length - 2)).take (w.length - 1 - (w.length - 2)), ?_, ?_, fun i a hi ha => ?_⟩
      · rw [cut_back, List.length_map, List.map_take, List.map_drop]
      · rw [List.length_take]; omega
      · have hi' : i < w.length := by omega
        have e1 : w.length - 2 = i := by omega
        have e2 : w.length - 1 - i = 1 := by omega
        rw [e1, e2, List.drop_eq_getElem_cons hi']
        rw [List.getElem?_eq_getElem hi'] at ha
        cases ha
        rfl
    obtain ⟨bs, eb, bl, hb⟩ := bk
    have sl2 : oSl (.ref S.n) (some (-2)) (some (-1)) S1 = some (.ref S1.n, S1.new (.lst (bs.map nA))) := by
      unfold oSl
      dsimp only
      rw [ls1]
      dsimp only
      rw [eb]
    have g2 : Gr S (S1.new (.lst (bs.map nA))) := g1.trans gr_new
    have ls2 : (S1.new (.lst (bs.map nA))).f S.n = some (.lst (w.map nA)) := by rw [gr_new.at sn1]; exact ls1
    have bk2 : (S1.new (.lst (bs.map nA))).f S1.n = some (.lst (bs.map nA)) := new_at
    have sb2 : S1.n < (S1.new (.lst (bs.map nA))).n := Nat.lt_succ_self _
    have sn2 : S.n < (S1.new (.lst (bs.map nA))).n := Nat.lt_succ_of_lt sn1
    simp [sl2]
    generalize S1.new (.lst (bs.map nA)) = S2 at g2 ls2 bk2 sb2 sn2 ⊢
    have dt : S2.f d = some (.dct true (kvE E)) := by rw [g2.at R.dn]; exact R.at_d
    have le : S2.f e.2.1 = some (.lst (e.2.2.map nA)) := by rw [g2.at (R.ls e he).2.2]; exact (R.ls e he).1
    have le_n : e.2.1 < S2.n := Nat.lt_of_lt_of_le (R.ls e he).2.2 g2.n
    simp [ls2, last S2 ls2, ix_L (.inr dt) R.ks he, seq_runL le]
    refine lc_if e.2.2 nA (fun x => decide ([x] ≠ bs)) nA (by have := (small_E sm).2 e he; show e.2.2.length ≤ _; omega) (Nat.le_refl _) (fun i S3 g3 => ?_) (fun x S3 hx g3 => ⟨[(3, nA x)], rfl, ?_⟩) fun S3 g3 => ?_
    · show lstAt e.2.1 i S3 = _
      rw [lst_at (by rw [g3.at le_n]; exact le), List.getElem?_map]
    · have b3 : S3.f S1.n = some (.lst (bs.map nA)) := by rw [g3.at sb2]; exact bk2
      have b4 : (S3.new (.lst [nA x])).f S1.n = some (.lst (bs.map nA)) := by rw [gr_new.at (Nat.lt_of_lt_of_le sb2 g3.n)]; exact b3
      have c4 : (S3.new (.lst [nA x])).f S3.n = some (.lst ([x].map nA)) := new_at
      have ee : oEq true (.ref S3.n) (.ref S1.n) (S3.new (.lst [nA x])) = some (.bl (true != decide ([x] = bs)), S3.new (.lst [nA x])) := by
        unfold oEq
        rw [rd_nl b4, rd_nl c4]
        dsimp only
        rw [eqv_lists]
      simp [line_one, ee]
      exact ⟨gr_new, fun _ => Gw.refl⟩
    · have two := F.two _ hp
      have lsn := G.ls _ hp
      dsimp only at two lsn
      obtain ⟨x, r, ef, hx, xb⟩ : ∃ x r, e.2.2.filter (fun x => decide ([x] ≠ bs)) = x :: r ∧ x ∈ e.2.2 ∧ [x] ≠ bs := by
        cases z : e.2.2.filter (fun x => decide ([x] ≠ bs)) with
        | nil =>
          rw [List.filter_eq_nil_iff] at z
          rcases y : e.2.2 with _ | ⟨x1, _ | ⟨x2, r⟩⟩
          · rw [y] at two; simp at two
          · rw [y] at two; simp at two
          · rw [y] at z lsn
            have z1 := z x1 (by simp)
            have z2 := z x2 (by simp)
            simp at z1 z2
            rw [← z2] at z1
            injection z1 with z1
            rw [z1] at lsn
            simp at lsn
        | cons x r =>
          have : x ∈ e.2.2.filter (fun x => decide ([x] ≠ bs)) := by rw [z]; simp
          rw [List.mem_filter, decide_eq_true_iff] at this
          exact ⟨x, r, rfl, this.1, this.2⟩
      have F4 : (S3.new (.lst ((e.2.2.filter fun x => decide ([x] ≠ bs)).map nA))).f S3.n = some (.lst (nA x :: r.map nA)) := by rw [new_at, ef]; rfl
      have i0 : oIx (.ref S3.n) (.int 0) (S3.new (.lst ((e.2.2.filter fun x => decide ([x] ≠ bs)).map nA))) = some (nA x, (S3.new (.lst ((e.2.2.filter fun x => decide ([x] ≠ bs)).map nA)))) := ov_ixL (k := 0) F4 rfl
      have g4 : Gr S2 (S3.new (.lst ((e.2.2.filter fun x => decide ([x] ≠ bs)).map nA))) := g3.trans gr_new
      rw [i0]
      generalize S3.new (.lst ((e.2.2.filter fun x => decide ([x] ≠ bs)).map nA)) = S4 at g4 ⊢
      have ls4 : S4.f S.n = some (.lst (w.map nA)) := by rw [g4.at sn2]; exact ls2
      have ap : mAppend (.ref S.n) [nA x] S4 = some (.non, S4.put S.n (.lst (w.map nA ++ [nA x]))) := by
        unfold mAppend
        dsimp only
        rw [ls4]
        dsimp only
        rw [if_pos]
        have := (small_E sm).1
        rw [List.length_map]
        unfold line
        omega
      dsimp only
      rw [ap]
      dsimp only
      have ax := G.ad _ hp x hx
      have kx : ∃ p ∈ dE E, p.1 = x := F.inn _ hp x hx
      have sE := (small_E sm).1
      refine ⟨2000 - (w ++ [x]).length, by rw [hn, List.length_append, List.length_singleton]; omega, w ++ [x], gr_put (g2.trans g4) (Nat.le_refl _), ⟨_, _, rfl⟩, by rw [put_at, List.map_append]; rfl, Nat.lt_of_lt_of_le sn2 g4.n, W.add wn hl ax kx (fun i a hi ha z => xb ?_), rfl⟩
      rw [hb i a hi ha, z]
end Rings

end

section
set_option Elab.async false
set_option linter.all false
set_option maxRecDepth 100000
set_option maxHeartbeats 1000000
/-! RP13: found_ring, ring_in, is_ring. -/
namespace Rings
open PySem PySem.Spec PyProof.Rows L2 EV
theorem mass_le {m : Nat} : ∀ {D : Dct}, (∀ p ∈ D, p.2.length ≤ m) → mass D ≤ D.length * (1 + m)
  | [], _ => Nat.zero_le _
  | p :: D, h => by
    have ih := mass_le (m := m) (D := D) fun q hq => h q (List.mem_cons_of_mem _ hq)
    have h1 := h p (List.mem_cons_self ..)
    unfold mass
    rw [List.length_cons, Nat.succ_mul]
    omega
theorem is_non (neg : Bool) {S : Sto} : oIs neg .non .non S = some (.bl (neg != true), S) := rfl
theorem is_tup (neg : Bool) {xs : List A} {S : Sto} : oIs neg (.tup xs) .non S = some (.bl (neg != false), S) := rfl
theorem is_ref (neg : Bool) {n : Nat} {S : Sto} : oIs neg (.ref n) .non S = some (.bl (neg != false), S) := rfl
theorem r_found_ring {ts : List Tie} {S : Sto} {P : A → Sto → Prop} {X : Ex → Sto → Prop} (hl : ts.length ≤ 64) (hn : ts.Nodup) (ok : ∀ t ∈ ts, okT t)
    (h0 : ∀ S', Gr S S' → forest [] ts = true → P .non S') (h1 : ∀ S' ns, Gr S S' → isRing ts ns → P (.tup (ns.map nA)) S') : EV.Run (f_found_ring [.tup (ts.map tA)]) S P X := by
  refine fn_run ?_
  simp [b_found_ring]
  refine r_short_ring hl ok (fun ns => ?_) fun ns r => ?_
  · simp [is_non]
    refine r_neighbours_in hl fun S1 E g R de l1 l2 => ?_
    show EV.Run _ _ _ _
    have I := nbs_all hn ns ok
    rw [← de] at I
    have l3 : ∀ p ∈ dE E, p.2.length ≤ 128 := fun p hp => by
      obtain ⟨e, he, rfl⟩ := List.mem_map.mp hp
      have := l2 e he
      show e.2.2.length ≤ 128
      omega
    have l4 : (dE E).length ≤ 128 := by unfold dE; rw [List.length_map]; omega
    have sm : small (dE E) := ⟨by omega, fun p hp => by have := l3 p hp; omega⟩
    have hm : mass (dE E) < 900000 := by
      have a := mass_le l3
      have b : (dE E).length * (1 + 128) ≤ 128 * (1 + 128) := Nat.mul_le_mul_right _ l4
      omega
    refine r_without_leaves R I.good sm hm fun S2 b' d' E' g2 R2 G2 F2 st sm2 => ?_
    have R3 : RepE b' d' (S2.new (.dct true [])) E' := R2.gr gr_new
    have R0 : RepE S2.n S2.n (S2.new (.dct true [])) [] := ⟨⟨fun e h => (nomatch h), by simp, by simp⟩, new_at, Nat.le_refl _, Nat.lt_succ_self _⟩
    have g3 : Gr S (S2.new (.dct true [])) := (g.trans g2).trans gr_new
    obtain ⟨c, ec, hc⟩ := ne_E R3 R0
    rw [ec]
    simp
    cases c with
    | false =>
      simp
      have nil : dE E' = [] := List.length_eq_zero_iff.mp (hc.mp rfl).1
      refine h0 _ g3 ?_
      cases hf : forest [] ts with
      | true => rfl
      | false =>
        obtain ⟨V, hV⟩ := fat_of hn ns hf
        obtain ⟨n, vn⟩ := hV.1
        obtain ⟨p, hp, _⟩ := st V (I.stay hV) n vn
        rw [nil] at hp
        exact nomatch hp
    | true =>
      simp
      refine r_long_ring R3 G2 F2 sm2 (fun z => ?_) fun S4 ns g4 r => h1 S4 ns (g3.trans g4) r
      have := hc.mpr (by rw [z]; exact ⟨rfl, fun p hp => hp⟩)
      cases this
  · simp [is_tup]
    exact h1 S ns Gw.refl r
/-- a fit tuple of ties -/
theorem ts_ok {ts : List Tie} (ok : ∀ t ∈ ts, okT t) (hn : ts.Nodup) : tiesOk (.tup (ts.map tA)) := ⟨ts, rfl, ok, hn⟩
theorem ts_of {ts : List Tie} (h : tiesOk (.tup (ts.map tA))) : (∀ t ∈ ts, okT t) ∧ ts.Nodup := by
  obtain ⟨us, e, a, b⟩ := h
  injection e with e
  rw [maps_inj (fun a b => tA_inj) e]
  exact ⟨a, b⟩
theorem r_ring_in {ts : List Tie} {S : Sto} {P : A → Sto → Prop} {X : Ex → Sto → Prop} (hl : ts.length < 64) (hn : ts.Nodup) (ok : ∀ t ∈ ts, okT t)
    (h0 : ∀ S', Gr S S' → forest [] ts = true → P .non S') (h1 : ∀ S' ns, Gr S S' → isRing ts ns → P (.tup (ns.map nA)) S') : EV.Run (f_ring_in [.tup (ts.map tA)]) S P X := by
  refine fn_run ?_
  simp [b_ring_in]
  refine (r_need_ties (ts_kn ts) fun xs e => by injection e with e; rw [← e, List.length_map]; exact hl).mono (fun a S1 ⟨_, _, g⟩ => ?_) fun e S1 ⟨_, no, _⟩ => absurd (ts_ok ok hn) no
  show EV.Run _ _ _ _
  exact r_found_ring (by omega) hn ok (fun S2 g2 => h0 S2 (g.trans g2)) fun S2 ns g2 => h1 S2 ns (g.trans g2)
theorem r_ring_bad {v : A} {S : Sto} {P : A → Sto → Prop} {X : Ex → Sto → Prop} (hv : Kn S v) (hl : ∀ xs, v = .tup xs → xs.length < 64) (no : ¬ tiesOk v) (h : ∀ S', Gr S S' → X ⟨"InvalidTies", []⟩ S') : EV.Run (f_ring_in [v]) S P X := by
  refine fn_run ?_
  simp [b_ring_in]
  refine (r_need_ties hv hl).mono (fun a S1 ⟨_, yes, g⟩ => absurd yes no) fun e S1 ⟨ee, _, g⟩ => ?_
  rw [ee]
  exact h S1 g
theorem r_is_bad {v u : A} {S : Sto} {P : A → Sto → Prop} {X : Ex → Sto → Prop} (hv : Kn S v) (hl : ∀ xs, v = .tup xs → xs.length < 64) (no : ¬ tiesOk v) (h : ∀ S', Gr S S' → X ⟨"InvalidTies", []⟩ S') : EV.Run (f_is_ring [v, u]) S P X := by
  refine fn_run ?_
  simp [b_is_ring]
  refine (r_need_ties hv hl).mono (fun a S1 ⟨_, yes, g⟩ => absurd yes no) fun e S1 ⟨ee, _, g⟩ => ?_
  rw [ee]
  exact h S1 g
theorem r_is_ring {ts : List Tie} {v : A} {S : Sto} {P : A → Sto → Prop} {X : Ex → Sto → Prop} (hl : ts.length < 64) (hn : ts.Nodup) (ok : ∀ t ∈ ts, okT t) (hv : Kn S v) (hx : ∀ xs, v = .tup xs → xs.length < 64)
    (h : ∀ (b : Bool) S', Gr S S' → (b = true ↔ ∃ ns : List Nd, v = .tup (ns.map nA) ∧ isRing ts ns) → P (.bl b) S') : EV.Run (f_is_ring [.tup (ts.map tA), v]) S P X := by
  refine fn_run ?_
  simp [b_is_ring]
  refine (r_need_ties (ts_kn ts) fun xs e => by injection e with e; rw [← e, List.length_map]; exact hl).mono (fun a S1 ⟨_, _, g⟩ => ?_) fun e S1 ⟨_, no, _⟩ => absurd (ts_ok ok hn) no
  show EV.Run _ _ _ _
  exact r_fits_ring (kn_gr g hv) hx fun b S2 g2 e => h b S2 (g.trans g2) e
end Rings

end

section
set_option Elab.async false
set_option linter.all false
set_option maxRecDepth 100000
set_option maxHeartbeats 1000000
/-! RP14: what is rolled: the cup, the drawn ties. -/
namespace Rings
open PySem PySem.Spec PyProof.Rows L2 EV
structure CupAt (c : Nat) (S : Sto) : Prop where
  at_c : ∃ a b : Int, S.f c = some (.lst [.int a, .int b]) ∧ 0 ≤ a ∧ 0 ≤ b ∧ b < 2147483497
  lt : c < S.n
abbrev Gc (c : Nat) := Gw fun m => m = c
theorem Gw.of_gr {U : Nat → Prop} {S S' : Sto} (g : Gr S S') : Gw U S S' := g.mono fun _ z => z.elim
theorem CupAt.gr {c : Nat} {S S' : Sto} (C : CupAt c S) (g : Gr S S') : CupAt c S' := by
  obtain ⟨a, b, h, p⟩ := C.at_c
  exact ⟨⟨a, b, by rw [g.at C.lt]; exact h, p⟩, Nat.lt_of_lt_of_le C.lt g.n⟩
theorem Gc.at {c m : Nat} {S S' : Sto} (g : Gc c S S') (h : m < S.n) (ne : m ≠ c) : S'.f m = S.f m := g.k m h ne
@[simp] theorem ov_div {S : Sto} {i j : Int} (h : 0 < j ∧ j < 1073741824) : oDiv (.int i) (.int j) S = some (.int (i / j), S) := if_pos h
theorem ov_mod {S : Sto} {i j : Int} (h : 0 < j) : oMod (.int i) (.int j) S = some (.int (i % j), S) := if_pos h
theorem ov_mul {S : Sto} {i j : Int} (h : (fit64 i || fit64 j) = true) : oMul (.int i) (.int j) S = some (.int (i * j), S) := if_pos h
theorem ov_int {S : Sto} {i : Int} : bInt [.int i] S = some (.int i, S) := rfl
theorem ov_abs {S : Sto} {i : Int} : bAbs [.int i] S = some (.int (if i < 0 then -i else i), S) := rfl
theorem fit_of {i : Int} (h0 : 0 ≤ i) (h1 : i < 18446744073709551616) : fit64 i = true := by
  unfold fit64
  rw [Bool.and_eq_true, decide_eq_true_iff, decide_eq_true_iff]
  omega
theorem cup_put0 {c : Nat} {S : Sto} {a b v : Int} (h : S.f c = some (.lst [.int a, .int b])) : oPut (.ref c) (.int 0) (.int v) S = some (S.put c (.lst [.int v, .int b])) := by
  unfold oPut
  dsimp only
  rw [h]
  rfl
theorem cup_put1 {c : Nat} {S : Sto} {a b v : Int} (h : S.f c = some (.lst [.int a, .int b])) : oPut (.ref c) (.int 1) (.int v) S = some (S.put c (.lst [.int a, .int v])) := by
  unfold oPut
  dsimp only
  rw [h]
  rfl
theorem cup_0 {c : Nat} {S : Sto} {a b : Int} (h : S.f c = some (.lst [.int a, .int b])) : oIx (.ref c) (.int 0) S = some (.int a, S) := ov_ixL (k := 0) h rfl
theorem cup_1 {c : Nat} {S : Sto} {a b : Int} (h : S.f c = some (.lst [.int a, .int b])) : oIx (.ref c) (.int 1) S = some (.int b, S) := ov_ixL (k := 1) h rfl
theorem r_roll {c : Nat} {many : Int} {S : Sto} {P : A → Sto → Prop} {X : Ex → Sto → Prop} (C : CupAt c S) (m0 : 0 < many) (m1 : many < 1073741824) (h : ∀ (i : Int) S', 0 ≤ i → i < many → CupAt c S' → Gc c S S' → P (.int i) S') : EV.Run (f__law_roll [.ref c, .int many]) S P X := by
  refine fn_run ?_
  obtain ⟨a, b, e, a0, b0, b1⟩ := C.at_c
  have p0 : ∀ v : Int, (S.put c (.lst [.int v, .int b])).f c = some (.lst [.int v, .int b]) := fun v => put_at
  have p1 : ∀ v : Int, (S.put c (.lst [.int a, .int v])).f c = some (.lst [.int a, .int v]) := fun v => put_at
  simp [b__law_roll, cup_0 e, cup_1 e]
  by_cases ha : 0 < a
  · simp [ha, cup_0 e, ov_int, ov_mod m0, ov_div ⟨m0, m1⟩, cup_put0 e]
    refine h _ _ (Int.emod_nonneg _ (by omega)) (Int.emod_lt_of_pos _ m0) ⟨⟨a / many, b, put_at, Int.ediv_nonneg a0 (by omega), b0, b1⟩, C.lt⟩ gw_put
  · have k1 : (0 : Int) < 2147483497 := by omega
    have k2 : (0 : Int) < 2147483587 := by omega
    have f1 : (fit64 b || fit64 31063) = true := by rw [fit_of (i := 31063) (by omega) (by omega), Bool.or_true]
    have n0 := Int.emod_nonneg (b * 31063 + 8011) (show (2147483497 : Int) ≠ 0 by omega)
    have n1 := Int.emod_lt_of_pos (b * 31063 + 8011) k1
    simp [ha, cup_1 e, ov_int, ov_mul f1, ov_mod k1, cup_put1 e]
    generalize (b * 31063 + 8011) % 2147483497 = b2 at n0 n1 ⊢
    have f2 : (fit64 b2 || fit64 (b2 + 239)) = true := by rw [fit_of (i := b2) (by omega) (by omega), Bool.true_or]
    simp [cup_1 (p1 b2), ov_mul f2, ov_int, ov_mod k2, ov_mod m0]
    refine h _ _ (Int.emod_nonneg _ (by omega)) (Int.emod_lt_of_pos _ m0) ⟨⟨a, b2, put_at, a0, n0, n1⟩, C.lt⟩ gw_put
theorem r_roll2 {p : Prop} [Decidable p] {c : Nat} {S : Sto} {P : A → Sto → Prop} {X : Ex → Sto → Prop} (C : CupAt c S) (h : ∀ (i : Int) S', 0 ≤ i → i < 12 → CupAt c S' → Gc c S S' → P (.int i) S') : if p then EV.Run (f__law_roll [.ref c, .int 12]) S P X else EV.Run (f__law_roll [.ref c, .int 5]) S P X := by
  split
  · exact r_roll C (by omega) (by omega) h
  · exact r_roll C (by omega) (by omega) fun i S' i0 i1 => h i S' i0 (by omega)
theorem r_some {c n : Nat} {xs : List A} {S : Sto} {P : A → Sto → Prop} {X : Ex → Sto → Prop} (C : CupAt c S) (hn : S.f n = some (.lst xs)) (lt : n < S.n) (ne : n ≠ c) (x0 : xs ≠ []) (x1 : xs.length < 1073741824) (h : ∀ x S', x ∈ xs → CupAt c S' → Gc c S S' → P x S') : EV.Run (f__law_some [.ref c, .ref n]) S P X := by
  refine fn_run ?_
  have pos := List.length_pos_iff.mpr x0
  simp [b__law_some, ov_lenL hn]
  refine r_roll C (by omega) (by omega) fun i S1 i0 i1 C1 g => ?_
  obtain ⟨k, rfl⟩ := Int.eq_ofNat_of_zero_le i0
  have hk : k < xs.length := by omega
  have e : oIx (.ref n) (.int (k : Int)) S1 = some (xs[k], S1) := ov_ixL (by rw [g.at lt ne]; exact hn) (List.getElem?_eq_getElem hk)
  simp [e]
  exact h _ _ (List.getElem_mem hk) C1 g
theorem r_cup {v : A} {ns : List Int} {S : Sto} {P : A → Sto → Prop} {X : Ex → Sto → Prop} (hv : bList [v] S = some (.ref S.n, S.new (.lst (ns.map .int)))) (hl : ns.length ≤ 63) (h : ∀ c S', S.n ≤ c → CupAt c S' → Gr S S' → P (.ref c) S') : EV.Run (f__law_cup [v]) S P X := by
  refine fn_run ?_
  obtain ⟨x, hx⟩ : ∃ x : Int, (ns.map A.int ++ [.int 0])[0]? = some (.int x) := by
    cases ns with
    | nil => exact ⟨0, rfl⟩
    | cons n ns => exact ⟨n, rfl⟩
  have l1 : (S.new (.lst (ns.map .int))).f S.n = some (.lst (ns.map .int)) := new_at
  have g1 : Gr S (S.new (.lst (ns.map .int))) := gr_new
  have s1 : S.n < (S.new (.lst (ns.map .int))).n := Nat.lt_succ_self _
  simp [b__law_cup, hv, line_one]
  generalize S.new (.lst (ns.map .int)) = S1 at l1 g1 s1 ⊢
  have l2 : (S1.new (.lst [.int 0])).f S.n = some (.lst (ns.map .int)) := by rw [gr_new.at s1]; exact l1
  have l3 : (S1.new (.lst [.int 0])).f S1.n = some (.lst [.int 0]) := new_at
  rw [ov_addL l2 l3 (by rw [List.length_map]; show ns.length + 1 ≤ line; unfold line; omega)]
  have g3 : Gr S ((S1.new (.lst [.int 0])).new (.lst (ns.map .int ++ [.int 0]))) := (g1.trans gr_new).trans gr_new
  have l4 : ((S1.new (.lst [.int 0])).new (.lst (ns.map .int ++ [.int 0]))).f (S1.new (.lst [.int 0])).n = some (.lst (ns.map .int ++ [.int 0])) := new_at
  generalize (S1.new (.lst [.int 0])).new (.lst (ns.map .int ++ [.int 0])) = S3 at g3 l4 ⊢
  have e0 : oIx (.ref (S1.new (.lst [.int 0])).n) (.int 0) S3 = some (.int x, S3) := ov_ixL (k := 0) l4 hx
  simp [e0, ov_abs]
  have y0 : (0 : Int) ≤ if x < 0 then -x else x := by split <;> omega
  generalize (if x < 0 then -x else x) = y at y0 ⊢
  have pw : oPow (.int 10) (.int 18) S3 = some (.int 1000000000000000000, S3) := rfl
  have k1 : (0 : Int) < 2077503139 := by omega
  have f1 : (fit64 y || fit64 283) = true := by rw [fit_of (i := 283) (by omega) (by omega), Bool.or_true]
  have n0 := Int.emod_nonneg (y * 283 + 2801) (show (2077503139 : Int) ≠ 0 by omega)
  have n1 := Int.emod_lt_of_pos (y * 283 + 2801) k1
  simp [pw]
  have fin : ∀ a : Int, 0 ≤ a → P (.ref S3.n) (S3.new (.lst [.int a, .int ((y * 283 + 2801) % 2077503139 + 173)])) := fun a a0 => h _ _ g3.n ⟨⟨a, _, new_at, a0, by omega, by omega⟩, Nat.lt_succ_self _⟩ (g3.trans gr_new)
  by_cases hy : 1000000000000000000 ≤ y
  · simp [hy, ov_mul f1, ov_int, ov_mod k1, line_two]
    exact fin _ (Int.ediv_nonneg y0 (by omega))
  · simp [hy, ov_mul f1, ov_int, ov_mod k1, line_two]
    exact fin 0 (Int.le_refl _)
/-! ### over a range; a comprehension whose store changes -/
@[simp] theorem sp_rng1 {l : CL} {ε : EV.Env} {S : Sto} {P : IT → Sto → Prop} {X : Ex → Sto → Prop} : EV.Run (cRng1 l ε) S P X = EV.Run (l ε) S (fun as S1 => match as with | [.int j] => EV.Run (rngIT 0 j) S1 P X | _ => False) X := by
  unfold cRng1
  rw [run_bnd]; congr 1; funext as S1
  rcases as with _ | ⟨a, _ | ⟨b, r⟩⟩
  · rfl
  · cases a <;> rfl
  · cases a <;> rfl
theorem run_rng {j : Int} {S : Sto} {P : IT → Sto → Prop} {X : Ex → Sto → Prop} (h0 : 0 ≤ j) (h1 : j < 1000000) : EV.Run (rngIT 0 j) S P X = P ⟨fun i _ => some (if i < (j - 0).toNat then some (.int (0 + (i : Int))) else none), (j - 0).toNat⟩ S := by
  unfold rngIT
  rw [if_pos (by omega)]
  rfl
theorem rng_at (n : Nat) (i : Nat) : some (if i < ((n : Int) - 0).toNat then some (A.int (0 + (i : Int))) else none) = some ((List.range n)[i]?.map fun (i : Nat) => A.int (i : Int)) := by
  have : ((n : Int) - 0).toNat = n := by omega
  rw [this]
  by_cases h : i < n
  · rw [if_pos h, List.getElem?_range h]
    show some (some (A.int (0 + (i : Int)))) = some (some (A.int (i : Int)))
    rw [Int.zero_add]
  · rw [if_neg h, List.getElem?_eq_none (by rw [List.length_range]; omega)]
    rfl
theorem run_lcI {α : Type} {it : IT} {g : CG} {t : CB} {e : CE} {ε : EV.Env} {X : Ex → Sto → Prop} (us : List α) (f : α → A) (Inv : Nat → List A → Sto → Prop) (hn : ∀ i acc S, Inv i acc S → it.nxt i S = some (us[i]?.map f))
    (step : ∀ i u acc S, us[i]? = some u → Inv i acc S → ∃ l, g (f u) S = some l ∧ EV.Run (t (setE ε l)) S (fun b S1 => if b = true then EV.Run (e (setE ε l)) S1 (fun y S2 => Inv (i + 1) (acc ++ [y]) S2) X else Inv (i + 1) acc S1) X) :
    ∀ (m i : Nat) (acc : List A) (S : Sto), i ≤ us.length → us.length ≤ i + m → Inv i acc S → EV.Run (lcGo it g t e m i ε) S (fun ys S' => Inv us.length (acc ++ ys) S') X
  | 0, i, acc, S, h1, h2, h => by
    have e : i = us.length := by omega
    subst e
    unfold EV.Run lcGo
    rw [hn _ _ _ h, List.getElem?_eq_none (Nat.le_refl _)]
    show Inv us.length (acc ++ []) S
    rw [List.append_nil]
    exact h
  | m + 1, i, acc, S, h1, h2, h => by
    by_cases hi : i < us.length
    · have at_i : it.nxt i S = some (some (f us[i])) := by rw [hn _ _ _ h, List.getElem?_eq_getElem hi]; rfl
      obtain ⟨l, e1, r⟩ := step i us[i] acc S (List.getElem?_eq_getElem hi) h
      have e0 : EV.Run (lcGo it g t e (m + 1) i ε) S (fun ys S' => Inv us.length (acc ++ ys) S') X = EV.Run (bnd (t (setE ε l)) (fun b => match b with
        | true => bnd (e (setE ε l)) fun y => bnd (lcGo it g t e m (i + 1) ε) fun ys => rt (y :: ys)
        | false => lcGo it g t e m (i + 1) ε)) S (fun ys S' => Inv us.length (acc ++ ys) S') X := by
        unfold EV.Run
        rw [lcGo]; dsimp only; rw [at_i]
        dsimp only
        rw [e1]
        all_goals rfl
      rw [e0, run_bnd]
      refine r.imp fun b S1 z => ?_
      cases b with
      | false => exact run_lcI us f Inv hn step m (i + 1) acc S1 hi (by omega) (by simpa using z)
      | true =>
        rw [if_pos rfl] at z
        show EV.Run (bnd _ _) _ _ _
        rw [run_bnd]
        refine Run.imp z fun y S2 I => ?_
        rw [run_bnd]
        refine (run_lcI us f Inv hn step m (i + 1) (acc ++ [y]) S2 hi (by omega) I).imp fun ys S3 q => ?_
        show Inv us.length (acc ++ (y :: ys)) S3
        rw [List.append_assoc] at q
        exact q
    · have e : i = us.length := by omega
      subst e
      unfold EV.Run
      rw [lcGo]; dsimp only; rw [hn _ _ _ h, List.getElem?_eq_none (Nat.le_refl _)]
      show Inv us.length (acc ++ []) S
      rw [List.append_nil]
      exact h
/-! ### the drawn ties -/
theorem rd_tl {S : Sto} {k : Nat} {ts : List Tie} (h : S.f k = some (.lst (ts.map tA))) : rdE S (.ref k) = some (.list (ts.map tD)) := by
  refine rdE_of ?_ (shp_tup tD_lay (k := 2) (fun t => Nat.le_of_eq (tD_dep t)) (by omega) ts).2
  show (match S.f k with
    | some (.lst xs) => (mapO (rdD 63 S) xs).map PyData.list
    | _ => none) = _
  rw [h]
  dsimp only
  rw [mapO_map (fun t => t_rd (k := 60) t)]
  rfl
theorem in_tiesL {S : Sto} {k : Nat} {ts : List Tie} (h : S.f k = some (.lst (ts.map tA))) (neg : Bool) (t : Tie) : oIn neg (tA t) (.ref k) S = some (.bl (neg != decide (t ∈ ts)), S) := by
  have nd : dctAt S k = none := by unfold dctAt; rw [h]
  unfold oIn
  dsimp only
  rw [nd]
  dsimp only
  rw [rd_t, rd_tl h]
  dsimp only
  rw [any_in tD_kd (fun a b => tD_inj)]
structure InvD (c : Nat) (S : Sto) (i : Nat) (ε : EV.Env) (S' : Sto) (ts : List Tie) (k : Nat) : Prop where
  C : CupAt c S'
  g : Gc c S S'
  ε : ∃ x2 x3 x4, ε = [some (.ref c), some (.ref k), x2, x3, x4]
  lk : S'.f k = some (.lst (ts.map tA))
  kn : k < S'.n
  kc : k ≠ c
  len : ts.length ≤ i
  ok : ∀ t ∈ ts, okT t
  nd : ts.Nodup
theorem r_drawn {c : Nat} {S : Sto} {P : A → Sto → Prop} {X : Ex → Sto → Prop} (C : CupAt c S) (h : ∀ (ts : List Tie) S', CupAt c S' → Gc c S S' → ts.length ≤ 14 → (∀ t ∈ ts, okT t) → ts.Nodup → P (.tup (ts.map tA)) S') : EV.Run (f__law_drawn_ties [.ref c]) S P X := by
  refine fn_run ?_
  have g1 : Gr S (S.new (.lst [])) := gr_new
  have l1 : (S.new (.lst [])).f S.n = some (.lst []) := new_at
  have s1 : S.n < (S.new (.lst [])).n := Nat.lt_succ_self _
  have C1 : CupAt c (S.new (.lst [])) := C.gr gr_new
  have nc : S.n ≠ c := by have := C.lt; omega
  have line6 : (6 : Nat) ≤ line := by unfold line; omega
  have line3 : (3 : Nat) ≤ line := by unfold line; omega
  simp [b__law_drawn_ties, line6]
  generalize S.new (.lst []) = S1 at g1 l1 s1 C1 ⊢
  refine r_some (C1.gr gr_new) new_at (Nat.lt_succ_self _) (by have := C1.lt; omega) (by simp) (by simp) fun x S2 hx C2 g2 => ?_
  obtain ⟨n, rfl, hn⟩ : ∃ n : Nat, x = .int (n : Int) ∧ n ≤ 14 := by
    simp at hx
    rcases hx with rfl | rfl | rfl | rfl | rfl | rfl
    · exact ⟨0, rfl, by omega⟩
    · exact ⟨1, rfl, by omega⟩
    · exact ⟨2, rfl, by omega⟩
    · exact ⟨4, rfl, by omega⟩
    · exact ⟨7, rfl, by omega⟩
    · exact ⟨14, rfl, by omega⟩
  have g2' : Gc c S S2 := (Gw.of_gr (g1.trans gr_new)).trans g2
  have l2 : S2.f S.n = some (.lst []) := by rw [g2.at (Nat.lt_succ_of_lt s1) nc, gr_new.at s1]; exact l1
  have s2 : S.n < S2.n := Nat.lt_of_lt_of_le (Nat.lt_succ_of_lt s1) g2.n
  simp
  rw [run_rng (by omega) (by omega)]
  refine run_forM (List.range n) (fun (i : Nat) => A.int (i : Int)) (fun i ε S' => ∃ ts k, InvD c S i ε S' ts k) (fun i ε S' _ => rng_at n i) (fun i u ε S' hu ⟨ts, k, I⟩ => ⟨[(2, .int (u : Int))], rfl, ?_⟩) (fun ε S' ⟨ts, k, I⟩ => ?_) _ _ _ (by rw [List.length_range]; show n ≤ ((n : Int) - 0).toNat; omega) ⟨[], S.n, C2, g2', ⟨_, _, _, rfl⟩, l2, s2, nc, Nat.le_refl _, fun t ht => (nomatch ht), List.nodup_nil⟩
  · obtain ⟨C3, g3, ⟨x2, x3, x4, rfl⟩, lk, kn, kc, len, ok, nd⟩ := I
    have hi : i < n := by have := (List.getElem?_eq_some_iff.mp hu).1; rwa [List.length_range] at this
    simp [line3]
    refine r_some (C3.gr gr_new) new_at (Nat.lt_succ_self _) (by have := C3.lt; omega) (by simp) (by simp) fun x S4 hx C4 g4 => ?_
    obtain ⟨kb, rfl⟩ : ∃ b : Bool, x = .str (kS b) := by
      simp at hx
      rcases hx with rfl | rfl
      · exact ⟨false, rfl⟩
      · exact ⟨true, rfl⟩
    have g4' : Gc c S S4 := (g3.trans (Gw.of_gr gr_new)).trans g4
    have lk4 : S4.f k = some (.lst (ts.map tA)) := by rw [g4.at (Nat.lt_succ_of_lt kn) kc, gr_new.at kn]; exact lk
    have kn4 : k < S4.n := Nat.lt_of_lt_of_le (Nat.lt_succ_of_lt kn) g4.n
    refine r_roll2 C4 fun i1 S5 i1a i1b C5 g5 => ?_
    obtain ⟨h1, rfl⟩ := Int.eq_ofNat_of_zero_le i1a
    simp only [line_two, true_and]
    refine r_roll2 C5 fun i2 S6 i2a i2b C6 g6 => ?_
    obtain ⟨h2, rfl⟩ := Int.eq_ofNat_of_zero_le i2a
    have g6' : Gc c S S6 := (g4'.trans g5).trans g6
    have lk6 : S6.f k = some (.lst (ts.map tA)) := by rw [g6.at (Nat.lt_of_lt_of_le kn4 g5.n) kc, g5.at kn4 kc]; exact lk4
    have kn6 : k < S6.n := Nat.lt_of_lt_of_le kn4 (Nat.le_trans g5.n g6.n)
    have te : (A.tup [.tup [.str (kS kb), .int (h1 : Int)], .int (h2 : Int)]) = tA ((kb, h1), h2) := rfl
    have okt : okT ((kb, h1), h2) := ⟨by show h1 ≤ 11; omega, by show h2 ≤ 11; omega⟩
    simp only [te, in_tiesL lk6, sp_isB, line_one, true_and]
    by_cases m : ((kb, h1), h2) ∈ ts
    · simp [m]
      rw [ov_addL (xs := ts.map tA) (ys := []) (by rw [gr_new.at kn6]; exact lk6) new_at (by rw [List.length_map]; show ts.length + 0 ≤ line; unfold line; omega)]
      simp
      refine ⟨ts, _, C6.gr (gr_new.trans gr_new), g6'.trans (Gw.of_gr (gr_new.trans gr_new)), ⟨_, _, _, rfl⟩, new_at, Nat.lt_succ_self _, ?_, by omega, ok, nd⟩
      have := C6.lt
      show S6.n + 1 ≠ c
      omega
    · simp [m]
      rw [ov_addL (xs := ts.map tA) (ys := [tA ((kb, h1), h2)]) (by rw [gr_new.at kn6]; exact lk6) new_at (by rw [List.length_map]; show ts.length + 1 ≤ line; unfold line; omega)]
      simp
      refine ⟨ts ++ [((kb, h1), h2)], _, C6.gr (gr_new.trans gr_new), g6'.trans (Gw.of_gr (gr_new.trans gr_new)), ⟨_, _, _, rfl⟩, by rw [new_at, List.map_append]; rfl, Nat.lt_succ_self _, ?_, by rw [List.length_append, List.length_singleton]; omega, fun t ht => ?_, ?_⟩
      · have := C6.lt
        show S6.n + 1 ≠ c
        omega
      · rcases List.mem_append.mp ht with z | z
        · exact ok t z
        · rw [List.mem_singleton.mp z]; exact okt
      · rw [List.nodup_append]
        exact ⟨nd, by simp, fun a ha b hb z => m (by rw [← List.mem_singleton.mp hb, ← z]; exact ha)⟩
  · obtain ⟨C3, g3, ⟨x2, x3, x4, rfl⟩, lk, kn, kc, len, ok, nd⟩ := I
    rw [List.length_range] at len
    simp [ov_tupL lk]
    exact h ts S' C3 g3 (by omega) ok nd
end Rings

end

section
set_option Elab.async false
set_option linter.all false
set_option maxRecDepth 100000
set_option maxHeartbeats 1000000
/-! RP15: _law_is_forest. -/
namespace Rings
open PySem PySem.Spec PyProof.Rows L2 EV
/-- where a group stands, the group -/
abbrev Gp := Nat × List Nd
structure GrpAt (S : Sto) (k : Nat) (gl : List Gp) : Prop where
  at_k : S.f k = some (.lst (gl.map fun p => .ref p.1))
  kn : k < S.n
  ls : ∀ p ∈ gl, S.f p.1 = some (.lst (p.2.map nA)) ∧ p.1 < S.n
theorem GrpAt.gr {S S' : Sto} {k : Nat} {gl : List Gp} (G : GrpAt S k gl) (g : Gr S S') : GrpAt S' k gl := ⟨by rw [g.at G.kn]; exact G.at_k, Nat.lt_of_lt_of_le G.kn g.n, fun p hp => by
  obtain ⟨a, b⟩ := G.ls p hp
  exact ⟨by rw [g.at b]; exact a, Nat.lt_of_lt_of_le b g.n⟩⟩
def oneE (ce : CE) : CE := c2 oAdd (cLc (cSeq (cVar 1)) (gVar 6) (bOf (c2 (oIn false) ce (cVar 6))) (cVar 6) [6]) (cLst (lCons (cLst (lCons ce lNil)) lNil))
theorem grp_of (gl : List Gp) (n : Nd) (m : Nat) : ∃ p r, (gl.filter fun p => decide (n ∈ p.2)) ++ [(m, [n])] = p :: r ∧ p.2 = grp (gl.map (·.2)) n ∧ (p ∈ gl ∨ p = (m, [n])) := by
  unfold grp
  rw [List.filter_map]
  cases h : gl.filter fun p => decide (n ∈ p.2) with
  | nil =>
    refine ⟨(m, [n]), [], rfl, ?_, .inr rfl⟩
    have : gl.filter ((fun g => decide (n ∈ g)) ∘ fun (x : Gp) => x.2) = [] := h
    rw [this]
    rfl
  | cons p r =>
    refine ⟨p, r ++ [(m, [n])], rfl, ?_, .inl ?_⟩
    · have : gl.filter ((fun g => decide (n ∈ g)) ∘ fun (x : Gp) => x.2) = p :: r := h
      rw [this]
      rfl
    · have : p ∈ gl.filter fun p => decide (n ∈ p.2) := by rw [h]; simp
      exact (List.mem_filter.mp this).1
theorem r_one {ce : CE} {n : Nd} {e0 e2 e3 e4 e5 e6 : Option A} {k : Nat} {gl : List Gp} {S : Sto} {P : A → Sto → Prop} {X : Ex → Sto → Prop} (G : GrpAt S k gl) (hl : gl.length ≤ 1000) (hc : ∀ (o : Option A) S (Q : A → Sto → Prop) X, EV.Run (ce [e0, some (.ref k), e2, e3, e4, e5, o]) S Q X = Q (nA n) S)
    (h : ∀ S' j p r, Gr S S' → j < S'.n → S'.f j = some (.lst (.ref p :: r)) → p < S'.n → S'.f p = some (.lst ((grp (gl.map (·.2)) n).map nA)) → P (.ref j) S') : EV.Run (oneE ce [e0, some (.ref k), e2, e3, e4, e5, e6]) S P X := by
  unfold oneE
  simp [seq_runL G.at_k]
  refine lc_if gl (fun p => .ref p.1) (fun p => decide (n ∈ p.2)) (fun p => .ref p.1) (by show gl.length ≤ _; omega) (Nat.le_refl _) (fun i S1 g => ?_) (fun p S1 hp g => ⟨[(6, .ref p.1)], rfl, ?_⟩) fun S1 g => ?_
  · show lstAt k i S1 = _
    rw [lst_at (G.gr g).at_k, List.getElem?_map]
  · simp [hc, in_nodesL ((G.gr g).ls p hp).1]
    exact ⟨Gw.refl, fun _ => Gw.refl⟩
  · simp [hc, line_one]
    have F1 : (S1.new (.lst ((gl.filter fun p => decide (n ∈ p.2)).map fun p => A.ref p.1))).f S1.n = some (.lst ((gl.filter fun p => decide (n ∈ p.2)).map fun p => A.ref p.1)) := new_at
    have g2 : Gr S (S1.new (.lst ((gl.filter fun p => decide (n ∈ p.2)).map fun p => A.ref p.1))) := g.trans gr_new
    have s2 : S1.n < (S1.new (.lst ((gl.filter fun p => decide (n ∈ p.2)).map fun p => A.ref p.1))).n := Nat.lt_succ_self _
    generalize S1.new (.lst ((gl.filter fun p => decide (n ∈ p.2)).map fun p => A.ref p.1)) = S2 at F1 g2 s2 ⊢
    have g3 : Gr S2 ((S2.new (.lst [nA n])).new (.lst [.ref S2.n])) := gr_new.trans gr_new
    have F3 : ((S2.new (.lst [nA n])).new (.lst [.ref S2.n])).f (S2.new (.lst [nA n])).n = some (.lst [.ref S2.n]) := new_at
    have F4 : ((S2.new (.lst [nA n])).new (.lst [.ref S2.n])).f S2.n = some (.lst [nA n]) := by rw [gr_new.at (Nat.lt_succ_self _)]; exact new_at
    have s4 : S2.n < ((S2.new (.lst [nA n])).new (.lst [.ref S2.n])).n := by show S2.n < S2.n + 1 + 1; omega
    have len : ((gl.filter fun p => decide (n ∈ p.2)).map fun p => A.ref p.1).length + [A.ref S2.n].length ≤ line := by
      rw [List.length_map]
      have := List.length_filter_le (fun p : Gp => decide (n ∈ p.2)) gl
      show _ + 1 ≤ line
      unfold line
      omega
    rw [ov_addL (by rw [g3.at s2]; exact F1) F3 len]
    generalize (S2.new (.lst [nA n])).n = q at F3 ⊢
    generalize (S2.new (.lst [nA n])).new (.lst [.ref S2.n]) = S4 at g3 F3 F4 s4 ⊢
    dsimp only
    obtain ⟨p, r, e, e2, e3⟩ := grp_of gl n S2.n
    have g4 : Gr S (S4.new (.lst ((gl.filter fun p => decide (n ∈ p.2)).map (fun p => A.ref p.1) ++ [A.ref S2.n]))) := (g2.trans g3).trans gr_new
    refine h _ S4.n p.1 (r.map fun p => .ref p.1) g4 (Nat.lt_succ_self _) ?_ ?_ ?_
    · rw [new_at]
      have : (gl.filter fun p => decide (n ∈ p.2)).map (fun p => A.ref p.1) ++ [A.ref S2.n] = ((gl.filter fun p => decide (n ∈ p.2)) ++ [(S2.n, [n])]).map fun p => A.ref p.1 := by rw [List.map_append]; rfl
      rw [this, e, List.map_cons]
    · rcases e3 with m | rfl
      · exact ((G.gr g4).ls p m).2
      · exact Nat.lt_succ_of_lt s4
    · rcases e3 with m | rfl
      · rw [((G.gr g4).ls p m).1, e2]
      · rw [gr_new.at s4, F4, ← e2]
        rfl
theorem eq_groups {S : Sto} {p q : Nat} {a b : List Nd} (neg : Bool) (hp : S.f p = some (.lst (a.map nA))) (hq : S.f q = some (.lst (b.map nA))) : oEq neg (.ref p) (.ref q) S = some (.bl (neg != decide (a = b)), S) := by
  unfold oEq
  rw [rd_nl hp, rd_nl hq]
  dsimp only
  rw [eqv_lists]
def joinE : CE := c2 oAdd (cLc (cSeq (cVar 1)) (gVar 6) (bAnd (bOf (c2 (oEq true) (cVar 6) (c2 oIx (cVar 4) (cC (.int 0))))) (bOf (c2 (oEq true) (cVar 6) (c2 oIx (cVar 5) (cC (.int 0)))))) (cVar 6) [6]) (cLst (lCons (c2 oAdd (c2 oIx (cVar 4) (cC (.int 0))) (c2 oIx (cVar 5) (cC (.int 0)))) lNil))
theorem r_join {a b : List Nd} {e0 e2 e3 e6 : Option A} {k j4 j5 p4 p5 : Nat} {r4 r5 : List A} {gl : List Gp} {S : Sto} {P : A → Sto → Prop} {X : Ex → Sto → Prop} (G : GrpAt S k gl) (hl : gl.length ≤ 1000) (l4 : j4 < S.n) (f4 : S.f j4 = some (.lst (.ref p4 :: r4))) (l5 : j5 < S.n) (f5 : S.f j5 = some (.lst (.ref p5 :: r5)))
    (q4 : p4 < S.n) (h4 : S.f p4 = some (.lst (a.map nA))) (q5 : p5 < S.n) (h5 : S.f p5 = some (.lst (b.map nA))) (hab : a.length + b.length ≤ 1000000)
    (h : ∀ S' k' gl', Gr S S' → GrpAt S' k' gl' → gl'.map (·.2) = ((gl.map (·.2)).filter fun g => decide (g ≠ a) && decide (g ≠ b)) ++ [a ++ b] → P (.ref k') S') : EV.Run (joinE [e0, some (.ref k), e2, e3, some (.ref j4), some (.ref j5), e6]) S P X := by
  unfold joinE
  have ix4 : ∀ S1, Gr S S1 → oIx (.ref j4) (.int 0) S1 = some (.ref p4, S1) := fun S1 g => ov_ixL (k := 0) (by rw [g.at l4]; exact f4) rfl
  have ix5 : ∀ S1, Gr S S1 → oIx (.ref j5) (.int 0) S1 = some (.ref p5, S1) := fun S1 g => ov_ixL (k := 0) (by rw [g.at l5]; exact f5) rfl
  simp [seq_runL G.at_k]
  refine lc_if gl (fun p => .ref p.1) (fun p => decide (p.2 ≠ a) && decide (p.2 ≠ b)) (fun p => .ref p.1) (by show gl.length ≤ _; omega) (Nat.le_refl _) (fun i S1 g => ?_) (fun p S1 hp g => ⟨[(6, .ref p.1)], rfl, ?_⟩) fun S1 g => ?_
  · show lstAt k i S1 = _
    rw [lst_at (G.gr g).at_k, List.getElem?_map]
  · have ha : S1.f p4 = some (.lst (a.map nA)) := by rw [g.at q4]; exact h4
    have hb : S1.f p5 = some (.lst (b.map nA)) := by rw [g.at q5]; exact h5
    have hp1 := ((G.gr g).ls p hp).1
    simp [ix4 S1 g, ix5 S1 g, eq_groups true hp1 ha, eq_groups true hp1 hb]
    by_cases z : p.2 = a
    · simp [z]; exact Gw.refl
    · by_cases y : p.2 = b
      · simp [z, y]; exact Gw.refl
      · simp [z, y]; exact Gw.refl
  · have g2 : Gr S (S1.new (.lst ((gl.filter fun p => decide (p.2 ≠ a) && decide (p.2 ≠ b)).map fun p => A.ref p.1))) := g.trans gr_new
    have F2 : (S1.new (.lst ((gl.filter fun p => decide (p.2 ≠ a) && decide (p.2 ≠ b)).map fun p => A.ref p.1))).f S1.n = some (.lst ((gl.filter fun p => decide (p.2 ≠ a) && decide (p.2 ≠ b)).map fun p => A.ref p.1)) := new_at
    have s2 : S1.n < (S1.new (.lst ((gl.filter fun p => decide (p.2 ≠ a) && decide (p.2 ≠ b)).map fun p => A.ref p.1))).n := Nat.lt_succ_self _
    generalize S1.new (.lst ((gl.filter fun p => decide (p.2 ≠ a) && decide (p.2 ≠ b)).map fun p => A.ref p.1)) = S2 at g2 F2 s2 ⊢
    have ha : S2.f p4 = some (.lst (a.map nA)) := by rw [g2.at q4]; exact h4
    have hb : S2.f p5 = some (.lst (b.map nA)) := by rw [g2.at q5]; exact h5
    simp [ix4 S2 g2, ix5 S2 g2, ov_addL ha hb (by rw [List.length_map, List.length_map]; unfold line; omega), line_one]
    have g4 : Gr S2 ((S2.new (.lst (a.map nA ++ b.map nA))).new (.lst [.ref S2.n])) := gr_new.trans gr_new
    have F4 : ((S2.new (.lst (a.map nA ++ b.map nA))).new (.lst [.ref S2.n])).f (S2.new (.lst (a.map nA ++ b.map nA))).n = some (.lst [.ref S2.n]) := new_at
    have F5 : ((S2.new (.lst (a.map nA ++ b.map nA))).new (.lst [.ref S2.n])).f S2.n = some (.lst ((a ++ b).map nA)) := by rw [gr_new.at (Nat.lt_succ_self _), List.map_append]; exact new_at
    have s5 : S2.n < ((S2.new (.lst (a.map nA ++ b.map nA))).new (.lst [.ref S2.n])).n := by show S2.n < S2.n + 1 + 1; omega
    have len : ((gl.filter fun p => decide (p.2 ≠ a) && decide (p.2 ≠ b)).map fun p => A.ref p.1).length + [A.ref S2.n].length ≤ line := by
      rw [List.length_map]
      have := List.length_filter_le (fun p : Gp => decide (p.2 ≠ a) && decide (p.2 ≠ b)) gl
      show _ + 1 ≤ line
      unfold line
      omega
    have F2' := F2
    rw [← g4.at s2] at F2'
    have ad := ov_addL F2' F4 len
    simp at ad
    rw [ad]
    generalize (S2.new (.lst (a.map nA ++ b.map nA))).new (.lst [.ref S2.n]) = S4 at g4 F4 F5 s5 ⊢
    refine h _ S4.n ((gl.filter fun p => decide (p.2 ≠ a) && decide (p.2 ≠ b)) ++ [(S2.n, a ++ b)]) ((g2.trans g4).trans gr_new) ⟨?_, Nat.lt_succ_self _, fun p hp => ?_⟩ ?_
    · rw [new_at, List.map_append]
      simp
    · rcases List.mem_append.mp hp with m | m
      · exact ((G.gr ((g2.trans g4).trans gr_new)).ls p (List.mem_filter.mp m).1)
      · rw [List.mem_singleton.mp m]
        exact ⟨by rw [gr_new.at s5]; exact F5, Nat.lt_succ_of_lt s5⟩
    · rw [List.map_append, List.filter_map]
      rfl
theorem forest_cons {gs : List (List Nd)} {t : Tie} {ts : List Tie} : forest gs (t :: ts) = if grp gs t.1 = grp gs (tl t) then false else forest (join gs t) ts := rfl
theorem forest_nil {gs : List (List Nd)} : forest gs [] = true := rfl
structure InvF (ts : List Tie) (S : Sto) (i : Nat) (ε : EV.Env) (S' : Sto) (k : Nat) (gl : List Gp) : Prop where
  g : Gr S S'
  ε : ∃ x2 x3 x4 x5 x6, ε = [some (.tup (ts.map tA)), some (.ref k), x2, x3, x4, x5, x6]
  G : GrpAt S' k gl
  f : forest (gl.map (·.2)) (ts.drop i) = forest [] ts
  len : gl.length ≤ i
  sz : ∀ g ∈ gl.map (·.2), g.length ≤ 2 ^ i
theorem grp_sz {gs : List (List Nd)} {i : Nat} (h : ∀ g ∈ gs, g.length ≤ 2 ^ i) (n : Nd) : (grp gs n).length ≤ 2 ^ i := by
  rcases grp_cases gs n with ⟨m, _⟩ | ⟨e, _⟩
  · exact h _ m
  · rw [e]
    exact Nat.one_le_two_pow
theorem r_forest {ts : List Tie} {S : Sto} {P : A → Sto → Prop} {X : Ex → Sto → Prop} (hl : ts.length ≤ 14) (h : ∀ S', Gr S S' → P (.bl (forest [] ts)) S') : EV.Run (f__law_is_forest [.tup (ts.map tA)]) S P X := by
  refine fn_run ?_
  simp [b__law_is_forest]
  refine run_forM ts tA (fun i ε S' => ∃ k gl, InvF ts S i ε S' k gl) (fun i ε S' I => by simp) (fun i t ε S' ht ⟨k, gl, I⟩ => ⟨[(2, nA t.1), (3, .int t.2)], rfl, ?_⟩) (fun ε S' ⟨k, gl, I⟩ => ?_) _ _ _ (by simp) ⟨S.n, [], gr_new, ⟨_, _, _, _, _, rfl⟩, ⟨new_at, Nat.lt_succ_self _, fun p hp => (nomatch hp)⟩, rfl, Nat.le_refl _, fun g hg => (nomatch hg)⟩
  · obtain ⟨g, ⟨x2, x3, x4, x5, x6, rfl⟩, G, f, len, sz⟩ := I
    have hi : i < ts.length := (List.getElem?_eq_some_iff.mp ht).1
    have dr : ts.drop i = t :: ts.drop (i + 1) := by
      rw [List.drop_eq_getElem_cons hi]
      congr 1
      exact (List.getElem?_eq_some_iff.mp ht).2
    rw [dr] at f
    have p2 : 2 ^ i ≤ 16384 := by
      have : 2 ^ i ≤ 2 ^ 14 := Nat.pow_le_pow_right (by omega) (by omega)
      omega
    rw [sp_seq, sp_asg]
    refine r_one (ce := cVar 2) (n := t.1) G (by omega) (fun o S Q X => rfl) fun S1 j4 p4 r4 g1 l4 f4 q4 h4 => ?_
    simp only [sg_var, se_cons, se_nil, List.set_cons_succ, List.set_cons_zero]
    rw [sp_seq, sp_asg]
    refine r_one (ce := cTup (lCons (cC (.str "talk")) (lCons (cVar 3) lNil))) (n := tl t) (G.gr g1) (by omega) (fun o S Q X => by simp [line_two]; rfl) fun S2 j5 p5 r5 g2 l5 f5 q5 h5 => ?_
    have h4' : S2.f p4 = some (.lst ((grp (gl.map (·.2)) t.1).map nA)) := by rw [g2.at q4]; exact h4
    have f4' : S2.f j4 = some (.lst (.ref p4 :: r4)) := by rw [g2.at l4]; exact f4
    have ix4 : oIx (.ref j4) (.int 0) S2 = some (.ref p4, S2) := ov_ixL (k := 0) f4' rfl
    have ix5 : oIx (.ref j5) (.int 0) S2 = some (.ref p5, S2) := ov_ixL (k := 0) f5 rfl
    have ee := eq_groups false h4' h5
    simp only [sg_var, se_cons, se_nil, List.set_cons_succ, List.set_cons_zero, sp_seq, sp_sIf, sp_bOf, sp_c2, sp_var, sp_c, List.getElem?_cons_succ, List.getElem?_cons_zero, ix4, ix5, ee, sp_isB]
    rw [forest_cons] at f
    by_cases z : grp (gl.map (·.2)) t.1 = grp (gl.map (·.2)) (tl t)
    · rw [if_pos z] at f
      simp [z]
      rw [f]
      exact h _ ((g.trans g1).trans g2)
    · rw [if_neg z] at f
      rw [decide_eq_false z]
      simp only [Bool.false_bne, if_false, sp_next, Bool.false_eq_true]
      rw [sp_asg]
      have s1 := grp_sz sz t.1
      have s2 := grp_sz sz (tl t)
      refine r_join (G.gr (g1.trans g2)) (by omega) (Nat.lt_of_lt_of_le l4 g2.n) f4' l5 f5 (Nat.lt_of_lt_of_le q4 g2.n) h4' q5 h5 (by omega) fun S3 k' gl' g3 G3 e3 => ?_
      have lj := congrArg List.length e3
      rw [List.length_map, List.length_append, List.length_singleton] at lj
      have lf := List.length_filter_le (fun g => decide (g ≠ grp (gl.map (·.2)) t.1) && decide (g ≠ grp (gl.map (·.2)) (tl t))) (gl.map (·.2))
      rw [List.length_map] at lf
      refine ⟨k', gl', ((g.trans g1).trans g2).trans g3, ⟨_, _, _, _, _, rfl⟩, G3, ?_, by omega, fun a ha => ?_⟩
      · rw [← f, e3]
        rfl
      · rw [e3] at ha
        rw [Nat.pow_succ]
        rcases List.mem_append.mp ha with m | m
        · have := sz a (List.mem_filter.mp m).1
          omega
        · rw [List.mem_singleton.mp m, List.length_append]
          omega
  · obtain ⟨g, ⟨x2, x3, x4, x5, x6, rfl⟩, G, f, len, sz⟩ := I
    simp
    rw [List.drop_length, forest_nil] at f
    rw [f]
    exact h _ g
end Rings

end

section
set_option Elab.async false
set_option linter.all false
set_option maxRecDepth 100000
set_option maxHeartbeats 1000000
/-! RP16: _law_tied, _law_is_ring. -/
namespace Rings
open PySem PySem.Spec PyProof.Rows L2 EV
abbrev Pr := Nd × Nd
def pA (p : Pr) : A := .tup [nA p.1, nA p.2]
def pD (p : Pr) : PyData := .tuple [nD p.1, nD p.2]
theorem pD_inj {p q : Pr} (h : pD p = pD q) : p = q := by
  unfold pD at h
  injection h with h
  injection h with h1 h2
  injection h2 with h2 _
  exact Prod.ext (nD_inj h1) (nD_inj h2)
theorem pD_kd (p : Pr) : kd (pD p) = true := rfl
theorem pD_lay (p : Pr) : (pD p).canLay0 = true := by
  have h1 := nD_lay p.1
  have h2 := nD_lay p.2
  unfold pD
  simp only [PyData.canLay0, PyData.canLayAll0] at h1 h2 ⊢
  rw [h1, h2]
  rfl
theorem pD_dep (p : Pr) : (pD p).depth = 2 := by unfold pD; simp [PyData.depth, PyData.depthAll, nD_dep]
theorem p_rd {S : Sto} {k : Nat} (p : Pr) : rdD (k + 3) S (pA p) = some (pD p) := rfl
theorem rd_p {S : Sto} (p : Pr) : rdE S (pA p) = some (pD p) := rdE_of (p_rd p) (by
  unfold SeqAt.shaped
  rw [pD_lay, pD_dep]
  rfl)
theorem rd_pl {S : Sto} {k : Nat} {ps : List Pr} (h : S.f k = some (.lst (ps.map pA))) : rdE S (.ref k) = some (.list (ps.map pD)) := by
  refine rdE_of ?_ (shp_tup pD_lay (k := 2) (fun t => Nat.le_of_eq (pD_dep t)) (by omega) ps).2
  show (match S.f k with
    | some (.lst xs) => (mapO (rdD 63 S) xs).map PyData.list
    | _ => none) = _
  rw [h]
  dsimp only
  rw [mapO_map (fun t => p_rd (k := 60) t)]
  rfl
theorem in_prs {S : Sto} {k : Nat} {ps : List Pr} (h : S.f k = some (.lst (ps.map pA))) (neg : Bool) (p : Pr) : oIn neg (pA p) (.ref k) S = some (.bl (neg != decide (p ∈ ps)), S) := by
  have nd : dctAt S k = none := by unfold dctAt; rw [h]
  unfold oIn
  dsimp only
  rw [nd]
  dsimp only
  rw [rd_p, rd_pl h]
  dsimp only
  rw [any_in pD_kd (fun a b => pD_inj)]
theorem ones_eq {α : Type} {S : Sto} {j k : Nat} {us : List α} (neg : Bool) (h : S.f j = some (.lst (us.map fun _ => A.int 1))) (h2 : S.f k = some (.lst [])) : oEq neg (.ref j) (.ref k) S = some (.bl (neg != decide (us = [])), S) := by
  have e1 : rdE S (.ref j) = some (.list (us.map fun _ => .int 1)) := by
    refine rdE_of ?_ (shp_tup (f := fun _ : α => PyData.int 1) (k := 0) (fun _ => rfl) (fun _ => Nat.le_refl _) (by omega) us).2
    show (match S.f j with
      | some (.lst xs) => (mapO (rdD 63 S) xs).map PyData.list
      | _ => none) = _
    rw [h]
    dsimp only
    rw [mapO_map (h := fun _ => PyData.int 1) (fun t => rfl)]
    rfl
  have e2 : rdE S (.ref k) = some (.list []) := by
    refine rdE_of ?_ (by decide +kernel)
    show (match S.f k with
      | some (.lst xs) => (mapO (rdD 63 S) xs).map PyData.list
      | _ => none) = _
    rw [h2]
    rfl
  unfold oEq
  rw [e1, e2]
  cases us with
  | nil => rfl
  | cons u us => rfl
theorem r_tied {ts : List Tie} {a b : Nd} {S : Sto} {P : A → Sto → Prop} {X : Ex → Sto → Prop} (hl : ts.length ≤ 64) (h : ∀ S', Gr S S' → P (.bl (tied ts a b)) S') : EV.Run (f__law_tied [.tup (ts.map tA), nA a, nA b]) S P X := by
  refine fn_run ?_
  simp [b__law_tied]
  refine lc_if ts tA (fun t => decide ((t.1, tl t) ∈ [(a, b), (b, a)])) (fun _ => .int 1) (by show ts.length ≤ _; omega) (Nat.le_refl _) (fun i S1 g => by simp) (fun t S1 ht g => ⟨[(3, nA t.1), (4, .int t.2)], rfl, ?_⟩) fun S1 g => ?_
  · have tt : (A.tup [nA t.1, .tup [.str "talk", .int (t.2 : Int)]]) = pA (t.1, tl t) := rfl
    have l : (S1.new (.lst [.tup [nA a, nA b], .tup [nA b, nA a]])).f S1.n = some (.lst ([(a, b), (b, a)].map pA)) := new_at
    simp [line_two, tt, in_prs l]
    exact ⟨gr_new, fun _ => Gw.refl⟩
  · have l1 : ((S1.new (.lst ((ts.filter fun t => decide ((t.1, tl t) ∈ [(a, b), (b, a)])).map fun _ => A.int 1))).new (.lst [])).f S1.n = some (.lst ((ts.filter fun t => decide ((t.1, tl t) ∈ [(a, b), (b, a)])).map fun _ => A.int 1)) := by rw [gr_new.at (Nat.lt_succ_self _)]; exact new_at
    have e := ones_eq true l1 new_at
    show match oEq true _ _ _ with | some (x, S1) => P x S1 | none => False
    rw [e]
    dsimp only
    have gg : Gr S ((S1.new (.lst ((ts.filter fun t => decide ((t.1, tl t) ∈ [(a, b), (b, a)])).map fun _ => A.int 1))).new (.lst [])) := (g.trans gr_new).trans gr_new
    have tt : tied ts a b = (true != decide ((ts.filter fun t => decide ((t.1, tl t) ∈ [(a, b), (b, a)])) = [])) := by
      rw [Bool.eq_iff_iff, tied_iff]
      cases z : ts.filter fun t => decide ((t.1, tl t) ∈ [(a, b), (b, a)]) with
      | nil =>
        rw [List.filter_eq_nil_iff] at z
        refine ⟨fun ⟨t, m, hh⟩ => ?_, fun y => by simp at y⟩
        have := z t m
        simp at this
        rcases hh with ⟨h1, h2⟩ | ⟨h1, h2⟩
        · exact absurd h2.symm (this.1 h1.symm)
        · exact absurd h2.symm (this.2 h1.symm)
      | cons t r =>
        have m : t ∈ ts.filter fun t => decide ((t.1, tl t) ∈ [(a, b), (b, a)]) := by rw [z]; simp
        rw [List.mem_filter, decide_eq_true_iff] at m
        refine ⟨fun _ => by simp, fun _ => ⟨t, m.1, ?_⟩⟩
        have := m.2
        simp at this
        rcases this with ⟨h1, h2⟩ | ⟨h1, h2⟩
        · exact .inl ⟨h1.symm, h2.symm⟩
        · exact .inr ⟨h1.symm, h2.symm⟩
    rw [← tt]
    exact h _ gg
theorem lensort_nodes {S : Sto} {ns : List Nd} (h : ns.length < 64) : oLenSort (.tup (ns.map nA)) S = some (.int (nubN (ns.map nD) : Nat), S) := by
  unfold oLenSort
  have e : setIn S (.tup (ns.map nA)) = some (ns.map nD) := by
    unfold setIn
    dsimp only
    rw [mapO_map (fun t => n_rd (k := 8) t)]
    dsimp only
    rw [if_pos]
    refine ⟨List.all_eq_true.mpr fun d hd => ?_, by rw [List.length_map]; exact h⟩
    obtain ⟨t, _, e⟩ := List.mem_map.mp hd
    rw [← e]
    unfold memOk
    rw [nD_kd, nD_lay, nD_dep]
    rfl
  rw [e]
  dsimp only
  rw [if_pos]
  unfold alikes
  rw [List.all_eq_true]
  intro x hx
  rw [List.all_eq_true]
  intro y hy
  obtain ⟨a, _, rfl⟩ := List.mem_map.mp hx
  obtain ⟨b, _, rfl⟩ := List.mem_map.mp hy
  exact alike_n a b
/-- a pair that may stand in a ring of so many -/
def pairOk (ts : List Tie) (n : Nat) (p : Pr) : Bool := if n < 3 then p.2.1 && decide ((p.1, p.2.2) ∈ ts) else tied ts p.1 p.2
theorem ringB_iff {ts : List Tie} {ns : List Nd} : ringB ts ns = true ↔ ∀ p ∈ pairs ns, pairOk ts ns.length p = true := by
  unfold ringB pairOk
  split <;> rw [List.all_eq_true]
theorem ix_nodes {ns : List Nd} {k : Nat} {n : Nd} {S : Sto} (h : ns[k]? = some n) : oIx (.tup (ns.map nA)) (.int (k : Int)) S = some (nA n, S) := ov_ixT (by rw [List.getElem?_map, h]; rfl)
theorem in_kindsL {S : Sto} {j : Nat} {b : Bool} (h : S.f j = some (.lst [.str "process", .str "talk"])) (neg : Bool) : oIn neg (.str (kS b)) (.ref j) S = some (.bl (neg != true), S) := by
  have nd : dctAt S j = none := by unfold dctAt; rw [h]
  have e1 : rdE S (.ref j) = some (.list [.str "process", .str "talk"]) := by
    refine rdE_of ?_ (by decide +kernel)
    show (match S.f j with
      | some (.lst xs) => (mapO (rdD 63 S) xs).map PyData.list
      | _ => none) = _
    rw [h]
    rfl
  unfold oIn
  dsimp only
  rw [nd]
  dsimp only
  rw [rd_str (kS_ok b), e1]
  cases b <;> cases neg <;> rfl
theorem ty_node {S : Sto} (n : Nd) : tyA S (nA n) = some .tuple := rfl
theorem len_node {S : Sto} (n : Nd) : bLen [nA n] S = some (.int 2, S) := rfl
theorem nil_eq {S : Sto} {ns : List Nd} : oEq false (.tup (ns.map nA)) (.tup []) S = some (.bl (decide (ns = [])), S) := by
  unfold oEq
  rw [rd_ns, show rdE S (.tup []) = some (.tuple []) from rdE_of rfl (by decide +kernel)]
  cases ns <;> rfl
def InvR (ts : List Tie) (ns : List Nd) (S : Sto) (i : Nat) (ε : EV.Env) (S' : Sto) : Prop := Gr S S' ∧ (∃ x2 x3 x4 x5, ε = [some (.tup (ts.map tA)), some (.tup (ns.map nA)), x2, x3, x4, x5]) ∧ ∀ j, (hj : j < (pairs ns).length) → j < i → pairOk ts ns.length (pairs ns)[j] = true
theorem r_law_ring {ts : List Tie} {ns : List Nd} {S : Sto} {P : A → Sto → Prop} {X : Ex → Sto → Prop} (hl : ts.length ≤ 64) (hx : ns.length < 64) (ok : ∀ n ∈ ns, okN n)
    (h : ∀ (b : Bool) S', Gr S S' → (b = true ↔ isRing ts ns) → P (.bl b) S') : EV.Run (f__law_is_ring [.tup (ts.map tA), .tup (ns.map nA)]) S P X := by
  refine fn_run ?_
  have tt : tyA S (.tup (ns.map nA)) = some .tuple := rfl
  simp [b__law_is_ring, tt, isTy, nil_eq]
  by_cases e : ns = []
  · simp [e]
    refine h false S Gw.refl ⟨fun z => (nomatch z), fun z => ?_⟩
    have := z.1
    rw [e] at this
    simp at this
  · simp [e]
    refine run_forM ns nA (fun i ε S' => Gr S S' ∧ ∃ x2, ε = [some (.tup (ts.map tA)), some (.tup (ns.map nA)), x2, none, none, none]) (fun i ε S' I => by simp) (fun i n ε S' hn ⟨g, x2, e2⟩ => ⟨[(2, nA n)], rfl, ?_⟩) (fun ε S1 ⟨g, x2, e2⟩ => ?_) _ _ _ (Nat.le_refl _) ⟨Gw.refl, _, rfl⟩
    · subst e2
      have o2 : oEq true (.int 2) (.int 2) S' = some (.bl false, S') := rfl
      have lk : (S'.new (.lst [.str "process", .str "talk"])).f S'.n = some (.lst [.str "process", .str "talk"]) := new_at
      have ti : ∀ S : Sto, tyA S (.int (n.2 : Int)) = some .int := fun S => rfl
      simp [ty_node, isTy, len_node, o2, ix_n0, ix_n1, line_two, in_kindsL lk, ti]
      exact g.trans gr_new
    · subst e2
      simp [lensort_nodes hx]
      have nn := nub_nodup (kds_map nD_kd ns)
      have le := nub_le (ns.map nD)
      rw [List.length_map] at nn le
      rw [nodup_map (fun a b => nD_inj)] at nn
      by_cases nd : ns.Nodup
      · have : ¬ nubN (ns.map nD) < ns.length := by rw [nn.mpr nd]; omega
        simp [this]
        rw [run_rng (by omega) (by omega)]
        have pos : 0 < ns.length := List.length_pos_iff.mpr e
        refine run_forM (List.range ns.length) (fun (i : Nat) => A.int (i : Int)) (InvR ts ns S) (fun i ε S' _ => rng_at ns.length i) (fun i u ε S' hu ⟨g, ⟨x2, x3, x4, x5, e2⟩, I⟩ => ⟨[(3, .int (u : Int))], rfl, ?_⟩) (fun ε S' ⟨g, ⟨x2, x3, x4, x5, e2⟩, I⟩ => ?_) _ _ _ (by rw [List.length_range]; show ns.length ≤ ((ns.length : Int) - 0).toNat; omega) ⟨g, ⟨_, _, _, _, rfl⟩, fun j hj z => by omega⟩
        · subst e2
          obtain ⟨hi, eu⟩ := List.getElem?_eq_some_iff.mp hu
          rw [List.getElem_range] at eu
          subst eu
          rw [List.length_range] at hi
          have hm : (i + 1) % ns.length < ns.length := Nat.mod_lt _ pos
          have ix1 : oIx (.tup (ns.map nA)) (.int (i : Int)) S' = some (nA ns[i], S') := ix_nodes (List.getElem?_eq_getElem hi)
          have em : ((i : Int) + 1) % (ns.length : Int) = (((i + 1) % ns.length : Nat) : Int) := by rw [Int.natCast_emod, Int.natCast_add]; rfl
          have ix2 : oIx (.tup (ns.map nA)) (.int (((i + 1) % ns.length : Nat) : Int)) S' = some (nA ns[(i + 1) % ns.length], S') := ix_nodes (List.getElem?_eq_getElem hm)
          have pa := pairs_at ns i (by rw [pairs_len]; exact hi)
          generalize ns[i] = a at ix1 pa
          generalize ns[(i + 1) % ns.length] = b at ix2 pa
          have hp : i < (pairs ns).length := by rw [pairs_len]; exact hi
          have mp : (a, b) ∈ pairs ns := by rw [← pa]; exact List.getElem_mem hp
          have go : ∀ S1, Gr S S1 → pairOk ts ns.length (a, b) = true → InvR ts ns S (i + 1) [some (A.tup (ts.map tA)), some (.tup (ns.map nA)), x2, some (.int (i : Int)), some (nA a), some (nA b)] S1 := fun S1 g1 z => ⟨g1, ⟨_, _, _, _, rfl⟩, fun j hj y => by
            by_cases q : j = i
            · subst q; rw [pa]; exact z
            · exact I j hj (by omega)⟩
          have no : ∀ S1, Gr S S1 → pairOk ts ns.length (a, b) = false → P (.bl false) S1 := fun S1 g1 z => h false S1 g1 ⟨fun y => (nomatch y), fun y => by
            have := ringB_iff.mp y.2.2.2 (a, b) mp
            rw [z] at this
            cases this⟩
          have k1 : (0 : Int) < (ns.length : Int) := by omega
          simp [ix1, ov_int, ov_mod k1]
          rw [em, ix2]
          simp [eq_kind, ix_n0, ix_n1, line_two, tA_eq, in_ties]
          by_cases h3 : (ns.length : Int) < 3
          · have h3' : ns.length < 3 := by omega
            simp [h3]
            cases hb : b.1 with
            | false =>
              simp
              exact no S' g (by unfold pairOk; rw [if_pos h3', hb]; rfl)
            | true =>
              simp
              by_cases m : (a, b.2) ∈ ts
              · simp [m]
                have td : tied ts a b = true := by unfold tied; rw [hb, decide_eq_true m]; rfl
                refine r_tied hl fun S2 g2 => ?_
                simp [td]
                exact go S2 (g.trans g2) (by unfold pairOk; rw [if_pos h3', hb, decide_eq_true m]; rfl)
              · simp [m]
                exact no S' g (by unfold pairOk; rw [if_pos h3', hb, decide_eq_false m]; rfl)
          · have h3' : ¬ ns.length < 3 := by omega
            simp [h3]
            refine r_tied hl fun S2 g2 => ?_
            cases td : tied ts a b with
            | true =>
              simp
              exact go S2 (g.trans g2) (by unfold pairOk; rw [if_neg h3']; exact td)
            | false =>
              simp
              exact no S2 (g.trans g2) (by unfold pairOk; rw [if_neg h3']; exact td)
        · subst e2
          simp
          rw [List.length_range] at I
          refine h true S' g ⟨fun _ => ⟨List.length_pos_iff.mpr e, ok, nd, ringB_iff.mpr fun p hp => ?_⟩, fun _ => rfl⟩
          obtain ⟨j, hj, rfl⟩ := List.mem_iff_getElem.mp hp
          exact I j hj (by rw [← pairs_len]; exact hj)
      · have : nubN (ns.map nD) < ns.length := by
          have : nubN (ns.map nD) ≠ ns.length := fun z => nd (nn.mp z)
          omega
        simp [this]
        exact h false S1 g ⟨fun z => (nomatch z), fun z => absurd z.2.2.1 nd⟩
end Rings

end

section
set_option Elab.async false
set_option linter.all false
set_option maxRecDepth 100000
set_option maxHeartbeats 1000000
/-! RP17: the law's statements, one by one: what is refused. -/
namespace Rings
open PySem PySem.Spec PyProof.Rows L2 EV
def s0 : CS := sAsg (cCall 1 f__law_cup (lCons (cVar 0) lNil)) (gVar 1)
def s1 : CS := sAsg (cCall 1 f__law_drawn_ties (lCons (cVar 1) lNil)) (gVar 2)
def s2 : CS := sAsg (cCall 1 f_ring_in (lCons (cVar 2) lNil)) (gVar 3)
def s3 : CS := sIf (bOf (c2 (oIs false) (cVar 3) (cC .non))) (sIf (bNot (bOf (cCall 1 f__law_is_forest (lCons (cVar 2) lNil)))) (sRet (cC (.bl false))) sNext) (sIf (bOr (bOf (cCall 1 f__law_is_forest (lCons (cVar 2) lNil))) (bOr (bNot (bOf (cCall 2 f__law_is_ring (lCons (cVar 2) (lCons (cVar 3) lNil))))) (bOf (c2 (oIs true) (cCall 2 f_is_ring (lCons (cVar 2) (lCons (cVar 3) lNil))) (cC (.bl true)))))) (sRet (cC (.bl false))) sNext)
def s4 : CS := sAsg (c2 oAdd (c2 oAdd (cLc (cSeq (cVar 2)) (gUnp 2 (gsCons (gVar 12) (gsCons (gVar 13) gsNil))) bYes (cVar 12) [12, 13]) (cLc (cSeq (cVar 2)) (gUnp 2 (gsCons (gVar 12) (gsCons (gVar 13) gsNil))) bYes (cTup (lCons (cC (.str "talk")) (lCons (cVar 13) lNil))) [12, 13])) (cLst (lCons (cTup (lCons (cC (.str "process")) (lCons (cC (.int 0)) lNil))) lNil))) (gVar 4)
def s5 : CS := sAsg (cB bTuple (lCons (cLc (cRng1 (lCons (cCall 2 f__law_roll (lCons (cVar 1) (lCons (cC (.int 4)) lNil))) lNil)) (gVar 10) bYes (cCall 2 f__law_some (lCons (cVar 1) (lCons (cVar 4) lNil))) [10]) lNil)) (gVar 5)
def s6 : CS := sFor (cSeq (cLst (lCons (cVar 5) (lCons (cSl (cVar 5) oNo (oAt (cC (.int 1)))) (lCons (cB bList (lCons (cVar 5) lNil)) (lCons (cC .non) (lCons (cIf (bOf (c2 (oIs true) (cVar 3) (cC .non))) (c2 oAdd (cVar 3) (cVar 3)) (cTup lNil)) (lCons (cIf (bOf (c2 (oIs true) (cVar 3) (cC .non))) (c1 oBack (cVar 3)) (c1 oBack (cVar 5))) (lCons (cIf (bOf (c2 (oIs true) (cVar 3) (cC .non))) (cSl (cVar 3) (oAt (cC (.int 1))) oNo) (cC (.int 7))) lNil))))))))) (gVar 6) (sIf (bIf (bOf (cCall 2 f__law_is_ring (lCons (cVar 2) (lCons (cVar 6) lNil)))) (bOf (c2 (oIs true) (cCall 2 f_is_ring (lCons (cVar 2) (lCons (cVar 6) lNil))) (cC (.bl true)))) (bOf (c2 (oIs true) (cCall 2 f_is_ring (lCons (cVar 2) (lCons (cVar 6) lNil))) (cC (.bl false))))) (sRet (cC (.bl false))) sNext)
def s7 : CS := sAsg (cLst (lCons (cB bList (lCons (cVar 2) lNil)) (lCons (c2 oAdd (cVar 2) (cTup (lCons (cTup (lCons (cTup (lCons (cC (.str "talk")) (lCons (cC (.int 12)) lNil))) (lCons (cC (.int 0)) lNil))) lNil))) (lCons (c2 oAdd (cVar 2) (cTup (lCons (cTup (lCons (cTup (lCons (cC (.str "house")) (lCons (cC (.int 1)) lNil))) (lCons (cC (.int 0)) lNil))) lNil))) (lCons (c2 oAdd (cVar 2) (cTup (lCons (cTup (lCons (cTup (lCons (cC (.str "talk")) (lCons (cC (.int 1)) lNil))) (lCons (cC (.bl true)) lNil))) lNil))) (lCons (c2 oAdd (c2 oAdd (cVar 2) (cSl (cVar 2) oNo (oAt (cC (.int 1))))) (cTup (lCons (cTup (lCons (cTup (lCons (cC (.str "talk")) lNil)) (lCons (cC (.int 0)) lNil))) lNil))) (lCons (cC .non) (lCons (c2 oAdd (cVar 2) (cTup (lCons (cC (.int 7)) lNil))) lNil)))))))) (gVar 7)
def s8 : CS := sAsg (c2 oAdd (cVar 7) (cLc (cSeq (cTup (lCons (cTup (lCons (cTup (lCons (cC (.str "talk")) (lCons (cC (.int 1)) lNil))) (lCons (cC (.int 12)) lNil))) (lCons (cTup (lCons (cTup (lCons (cC (.str "talk")) (lCons (cC (.int 1)) lNil))) (lCons (c1 oNeg (cC (.int 1))) lNil))) (lCons (cTup (lCons (cTup (lCons (cC (.str "process")) (lCons (cC (.int 12)) lNil))) (lCons (cC (.int 0)) lNil))) (lCons (cTup (lCons (cTup (lCons (cC (.str "talk")) (lCons (c1 oNeg (cC (.int 1))) lNil))) (lCons (cC (.int 0)) lNil))) (lCons (cLst (lCons (cTup (lCons (cC (.str "talk")) (lCons (cC (.int 1)) lNil))) (lCons (cC (.int 0)) lNil))) (lCons (cTup (lCons (cTup (lCons (cC (.str "talk")) (lCons (cC (.int 1)) lNil))) (lCons (cC (.int 0)) (lCons (cC (.int 0)) lNil)))) (lCons (cTup (lCons (cLst (lCons (cC (.str "talk")) (lCons (cC (.int 1)) lNil))) (lCons (cC (.int 0)) lNil))) lNil))))))))) (gVar 11) bYes (c2 oAdd (cVar 2) (cTup (lCons (cVar 11) lNil))) [11])) (gVar 7)
def s9 : CS := sAsg (c2 oAdd (cVar 7) (cIf (bOf (c2 (oEq true) (cVar 2) (cTup lNil))) (cLst (lCons (c2 oAdd (cVar 2) (cSl (cVar 2) oNo (oAt (cC (.int 1))))) (lCons (c2 oMul (cSl (cVar 2) oNo (oAt (cC (.int 1)))) (cC (.int 2))) lNil))) (cLst (lCons (c2 oMul (cTup (lCons (cTup (lCons (cTup (lCons (cC (.str "talk")) (lCons (cC (.int 1)) lNil))) (lCons (cC (.int 0)) lNil))) lNil)) (cC (.int 2))) lNil)))) (gVar 7)
def s10 : CS := sAsg (cLst (lCons (cTup (lCons (cTup (lCons (cC (.str "talk")) (lCons (cC (.bl true)) lNil))) lNil)) (lCons (cTup (lCons (cTup (lCons (cC (.str "talk")) (lCons (cC (.int 12)) lNil))) lNil)) (lCons (cTup (lCons (cLst (lCons (cC (.str "talk")) (lCons (cC (.int 1)) lNil))) lNil)) (lCons (cTup (lCons (cLst (lCons (cC (.int 1)) lNil)) lNil)) (lCons (cTup (lCons (cTup (lCons (cC (.str "talk")) lNil)) lNil)) (lCons (cTup (lCons (cTup (lCons (cC (.str "talk")) (lCons (cC (.str "1")) lNil))) lNil)) (lCons (cTup (lCons (cTup (lCons (cC (.str "house")) (lCons (cC (.int 1)) lNil))) lNil)) (lCons (cTup (lCons (cTup (lCons (cC (.str "talk")) (lCons (cC (.int 1)) (lCons (cC (.int 1)) lNil)))) lNil)) lNil))))))))) (gVar 8)
def s11 : CS := sAsg (cCall 2 f__law_some (lCons (cVar 1) (lCons (c2 oAdd (cVar 8) (cLst (lCons (cTup (lCons (cTup (lCons (cLst (lCons (cC (.str "talk")) lNil)) (lCons (cC (.int 1)) lNil))) lNil)) (lCons (cTup (lCons (cC (.int 7)) lNil)) (lCons (cTup (lCons (cC (.str "ab")) lNil)) (lCons (cTup (lCons (cLst lNil) lNil)) (lCons (cTup (lCons (cC .non) lNil)) (lCons (cTup (lCons (cTup (lCons (cC (.str "process")) (lCons (cC (.int 12)) lNil))) lNil)) (lCons (cTup (lCons (cTup (lCons (cC (.str "talk")) (lCons (c1 oNeg (cC (.int 1))) lNil))) lNil)) lNil))))))))) lNil))) (gVar 9)
def s12 : CS := sIf (bOr (bOf (c2 (oIs true) (cCall 2 f_is_ring (lCons (cTup (lCons (cTup (lCons (cTup (lCons (cC (.str "talk")) (lCons (cC (.int 1)) lNil))) (lCons (cC (.int 1)) lNil))) lNil)) (lCons (cVar 9) lNil))) (cC (.bl false)))) (bOf (c2 (oIs true) (cCall 2 f_is_ring (lCons (cTup (lCons (cTup (lCons (cTup (lCons (cC (.str "talk")) (lCons (cC (.int 1)) lNil))) (lCons (cC (.int 1)) lNil))) lNil)) (lCons (cTup (lCons (cTup (lCons (cC (.str "talk")) (lCons (cC (.int 1)) lNil))) lNil)) lNil))) (cC (.bl true))))) (sRet (cC (.bl false))) sNext
def s13 : CS := sRet (cCall 2 f__law_refused (lCons (cCall 2 f__law_some (lCons (cVar 1) (lCons (cVar 7) lNil))) (lCons (c2 (oEq false) (cCall 2 f__law_roll (lCons (cVar 1) (lCons (cC (.int 2)) lNil))) (cC (.int 0))) lNil)))
theorem b_law_eq : b_law = (sSeq s0 (sSeq s1 (sSeq s2 (sSeq s3 (sSeq s4 (sSeq s5 (sSeq s6 (sSeq s7 (sSeq s8 (sSeq s9 (sSeq s10 (sSeq s11 (sSeq s12 s13))))))))))))) := rfl
theorem Kn.gc {c : Nat} {S S' : Sto} (C : CupAt c S') (g : Gc c S S') {v : A} (k : Kn S v) : Kn S' v := by
  induction k with
  | non => exact .non
  | bl b => exact .bl b
  | int i => exact .int i
  | str h => exact .str h
  | tup _ ih => exact .tup ih
  | @lst n xs l h =>
    by_cases e : n = c
    · subst e
      obtain ⟨a, b, z, _⟩ := C.at_c
      exact .lst C.lt z
    · exact .lst (Nat.lt_of_lt_of_le l g.n) (by rw [g.at l e]; exact h)
def Bad (S : Sto) (v : A) : Prop := Kn S v ∧ (∀ xs, v = .tup xs → xs.length < 64) ∧ ¬ tiesOk v
theorem Bad.gr {S S' : Sto} {v : A} (b : Bad S v) (g : Gr S S') : Bad S' v := ⟨kn_gr g b.1, b.2⟩
theorem Bad.gc {c : Nat} {S S' : Sto} {v : A} (b : Bad S v) (C : CupAt c S') (g : Gc c S S') : Bad S' v := ⟨b.1.gc C g, b.2⟩
theorem bad_tup {S : Sto} {xs : List A} (k : ∀ x ∈ xs, Kn S x) (len : xs.length < 64) {x : A} (hx : x ∈ xs) (hb : tieB x = false) : Bad S (.tup xs) := by
  refine ⟨.tup k, fun ys e => by injection e with e; rw [← e]; exact len, fun ⟨ts, e, ok, _⟩ => ?_⟩
  injection e with e
  rw [e] at hx
  obtain ⟨t, ht, rfl⟩ := List.mem_map.mp hx
  rw [tieB_tA (ok t ht)] at hb
  cases hb
theorem bad_dup {S : Sto} {ts : List Tie} (len : ts.length < 64) (no : ¬ ts.Nodup) : Bad S (.tup (ts.map tA)) := ⟨ts_kn ts, fun xs e => by injection e with e; rw [← e, List.length_map]; exact len, fun h => no (ts_of h).2⟩
theorem bad_non {S : Sto} : Bad S .non := ⟨.non, fun xs e => (nomatch e), fun ⟨ts, e, _⟩ => (nomatch e)⟩
theorem bad_lst {S : Sto} {n : Nat} {xs : List A} (l : n < S.n) (h : S.f n = some (.lst xs)) : Bad S (.ref n) := ⟨.lst l h, fun xs e => (nomatch e), fun ⟨ts, e, _⟩ => (nomatch e)⟩
/-- the ties and one more that is none -/
theorem bad_more {S : Sto} {ts : List Tie} {x : A} (len : ts.length ≤ 14) (k : Kn S x) (hb : tieB x = false) : Bad S (.tup (ts.map tA ++ [x])) := by
  refine bad_tup (fun y hy => ?_) (by rw [List.length_append, List.length_map, List.length_singleton]; omega) (List.mem_append.mpr (.inr (List.mem_singleton.mpr rfl))) hb
  rcases List.mem_append.mp hy with m | m
  · obtain ⟨t, _, rfl⟩ := List.mem_map.mp m
    exact t_kn t
  · rw [List.mem_singleton.mp m]; exact k
theorem sp_tryIsi {b : CS} {t u : List (Str × Bool)} {i : Nat} {ε : EV.Env} {S : Sto} {P : Fl → Sto → Prop} {X : Ex → Sto → Prop} : EV.Run (sTryIsi b t u i ε) S P X = EV.Run (b ε) S (fun fl S' => match fl with
    | .ex x ε' => match subAt t x.cls with
      | some true => match x.fl, subAt u x.cls with
        | [], some k => if i < ε'.length then P (.rt (.bl k)) S' else False
        | _, _ => False
      | some false => P (.ex x ε') S'
      | none => False
    | fl => P fl S') X := by
  unfold sTryIsi
  rw [run_bnd]; congr 1; funext fl S1
  cases fl with
  | ex x ε' =>
    dsimp only
    cases subAt t x.cls with
    | none => rfl
    | some k =>
      cases k with
      | false => rfl
      | true =>
        dsimp only
        cases x.fl with
        | nil =>
          cases subAt u x.cls with
          | none => rfl
          | some k =>
            dsimp only
            split <;> rfl
        | cons p r => rfl
  | _ => rfl
theorem r_refused {v : A} {b : Bool} {S : Sto} {P : A → Sto → Prop} {X : Ex → Sto → Prop} (B : Bad S v) (h : ∀ S', Gr S S' → P (.bl true) S') : EV.Run (f__law_refused [v, .bl b]) S P X := by
  refine fn_run ?_
  obtain ⟨k, l, no⟩ := B
  have s1 : subAt t_InvalidTies ("InvalidTies" : Str) = some true := by decide +kernel
  have s2 : subAt u_InvalidTies_TalkError ("InvalidTies" : Str) = some true := by decide +kernel
  unfold b__law_refused
  rw [sp_seq, sp_tryIsi]
  cases b with
  | true =>
    simp
    refine r_is_bad k l no fun S' g => ?_
    simp [s1, s2]
    exact h S' g
  | false =>
    simp
    refine r_ring_bad k l no fun S' g => ?_
    simp [s1, s2]
    exact h S' g
theorem ln {k : Nat} (h : k ≤ 1000) : (k ≤ line) = True := eq_true (by unfold line; omega)
theorem k_talk {S : Sto} : Kn S (.str "talk") := .str (by decide +kernel)
theorem k_proc {S : Sto} : Kn S (.str "process") := .str (by decide +kernel)
theorem k_house {S : Sto} : Kn S (.str "house") := .str (by decide +kernel)
theorem k1 {S : Sto} {a : A} (h : Kn S a) : Kn S (.tup [a]) := .tup fun x hx => by rw [List.mem_singleton.mp hx]; exact h
theorem k2 {S : Sto} {a b : A} (h : Kn S a) (h2 : Kn S b) : Kn S (.tup [a, b]) := .tup fun x hx => by
  rcases List.mem_cons.mp hx with rfl | hx
  · exact h
  · rw [List.mem_singleton.mp hx]; exact h2
theorem k3 {S : Sto} {a b c : A} (h : Kn S a) (h2 : Kn S b) (h3 : Kn S c) : Kn S (.tup [a, b, c]) := .tup fun x hx => by
  rcases List.mem_cons.mp hx with rfl | hx
  · exact h
  rcases List.mem_cons.mp hx with rfl | hx
  · exact h2
  · rw [List.mem_singleton.mp hx]; exact h3
structure BadsAt (S : Sto) (c k m : Nat) : Prop where
  ex : ∃ xs, S.f k = some (.lst xs) ∧ xs ≠ [] ∧ xs.length ≤ m ∧ ∀ x ∈ xs, Bad S x
  kn : k < S.n
  ck : c < k
theorem addT {ts : List Tie} {xs : List A} {S : Sto} (h : ts.length ≤ 14) (h2 : xs.length ≤ 100) : oAdd (.tup (ts.map tA)) (.tup xs) S = some (.tup (ts.map tA ++ xs), S) := ov_addT (by rw [List.length_map]; unfold line; omega)
variable {c : Nat} {ts : List Tie} {e0 e3 e4 e5 e6 e7 e8 e9 e10 e11 e12 e13 : Option A} {S : Sto} {P : Fl → Sto → Prop} {X : Ex → Sto → Prop}
theorem r_s7 (C : CupAt c S) (hl : ts.length ≤ 14) (h : ∀ S' k, Gr S S' → BadsAt S' c k 7 → P (.nx [e0, some (.ref c), some (.tup (ts.map tA)), e3, e4, e5, e6, some (.ref k), e8, e9, e10, e11, e12, e13]) S') : EV.Run (s7 [e0, some (.ref c), some (.tup (ts.map tA)), e3, e4, e5, e6, e7, e8, e9, e10, e11, e12, e13]) S P X := by
  have bl : bList [.tup (ts.map tA)] S = some (.ref S.n, S.new (.lst (ts.map tA))) := rfl
  have ad : ∀ x (S : Sto), oAdd (.tup (ts.map tA)) (.tup [x]) S = some (.tup (ts.map tA ++ [x]), S) := fun x S => addT hl (by simp)
  have ad2 : ∀ (S : Sto), oAdd (.tup (ts.map tA)) (.tup ((ts.map tA).take 1)) S = some (.tup (ts.map tA ++ (ts.map tA).take 1), S) := fun S => addT hl (by rw [List.length_take]; omega)
  have ad3 : ∀ x (S : Sto), oAdd (.tup (ts.map tA ++ (ts.map tA).take 1)) (.tup [x]) S = some (.tup (ts.map tA ++ (ts.map tA).take 1 ++ [x]), S) := fun x S => ov_addT (by rw [List.length_append, List.length_map, List.length_take]; show _ + 1 ≤ line; unfold line; omega)
  simp [s7, bl, ln, ad, ad2, ad3]
  refine h _ _ (gr_new.trans gr_new) ⟨⟨_, new_at, by simp, by simp, fun x hx => ?_⟩, Nat.lt_succ_self _, by have := C.lt; show c < S.n + 1; omega⟩
  have l1 : ∀ o, ((S.new (.lst (ts.map tA))).new o).f S.n = some (.lst (ts.map tA)) := fun o => by rw [gr_new.at (Nat.lt_succ_self _)]; exact new_at
  simp only [List.mem_cons, List.not_mem_nil, or_false] at hx
  rcases hx with rfl | rfl | rfl | rfl | rfl | rfl | rfl
  · exact bad_lst (by show S.n < S.n + 1 + 1; omega) (l1 _)
  · exact bad_more hl (k2 (k2 k_talk (.int _)) (.int _)) (by decide +kernel)
  · exact bad_more hl (k2 (k2 k_house (.int _)) (.int _)) (by decide +kernel)
  · exact bad_more hl (k2 (k2 k_talk (.int _)) (.bl _)) (by decide +kernel)
  · refine bad_tup (x := .tup [.tup [.str "talk"], .int 0]) (fun y hy => ?_) ?_ ?_ (by decide +kernel)
    · have tk : ∀ y ∈ ts.map tA, ∀ S, Kn S y := fun y m S => by
        obtain ⟨t, _, rfl⟩ := List.mem_map.mp m
        exact t_kn t
      rcases List.mem_append.mp hy with m | m
      · exact tk y m _
      · rcases List.mem_append.mp m with m | m
        · exact tk y (List.mem_of_mem_take m) _
        · rw [List.mem_singleton.mp m]
          exact k2 (k1 k_talk) (.int _)
    · rw [List.length_append, List.length_append, List.length_map, List.length_take, List.length_singleton]
      omega
    · simp
  · exact bad_non
  · exact bad_more hl (.int _) rfl
/-- what is added to the ties, one by one -/
theorem r_s8 {k : Nat} (C : CupAt c S) (hl : ts.length ≤ 14) (B : BadsAt S c k 7) (h : ∀ S' k, Gr S S' → BadsAt S' c k 14 → P (.nx [e0, some (.ref c), some (.tup (ts.map tA)), e3, e4, e5, e6, some (.ref k), e8, e9, e10, e11, e12, e13]) S') : EV.Run (s8 [e0, some (.ref c), some (.tup (ts.map tA)), e3, e4, e5, e6, some (.ref k), e8, e9, e10, e11, e12, e13]) S P X := by
  have ad : ∀ x (S : Sto), oAdd (.tup (ts.map tA)) (.tup [x]) S = some (.tup (ts.map tA ++ [x]), S) := fun x S => addT hl (by simp)
  obtain ⟨⟨xs, fx, x0, xl, bx⟩, kn, ck⟩ := B
  simp [s8, ln]
  have g2 : Gr S ((S.new (.lst [.tup [.str "talk", .int 1], .int 0])).new (.lst [.str "talk", .int 1])) := gr_new.trans gr_new
  have l1 : ((S.new (.lst [.tup [.str "talk", .int 1], .int 0])).new (.lst [.str "talk", .int 1])).f S.n = some (.lst [.tup [.str "talk", .int 1], .int 0]) := by rw [gr_new.at (Nat.lt_succ_self _)]; exact new_at
  have l2 : ((S.new (.lst [.tup [.str "talk", .int 1], .int 0])).new (.lst [.str "talk", .int 1])).f (S.new (.lst [.tup [.str "talk", .int 1], .int 0])).n = some (.lst [.str "talk", .int 1]) := new_at
  have n1 : S.n < ((S.new (.lst [.tup [.str "talk", .int 1], .int 0])).new (.lst [.str "talk", .int 1])).n := by show S.n < S.n + 1 + 1; omega
  have n2 : (S.new (.lst [.tup [.str "talk", .int 1], .int 0])).n < ((S.new (.lst [.tup [.str "talk", .int 1], .int 0])).new (.lst [.str "talk", .int 1])).n := Nat.lt_succ_self _
  generalize (S.new (.lst [.tup [.str "talk", .int 1], .int 0])).n = q at l2 n2 ⊢
  generalize (S.new (.lst [.tup [.str "talk", .int 1], .int 0])).new (.lst [.str "talk", .int 1]) = S2 at g2 l1 l2 n1 n2 ⊢
  refine lc_yes [A.tup [.tup [.str "talk", .int 1], .int 12], .tup [.tup [.str "talk", .int 1], .int (-1)], .tup [.tup [.str "process", .int 12], .int 0], .tup [.tup [.str "talk", .int (-1)], .int 0], .ref S.n, .tup [.tup [.str "talk", .int 1], .int 0, .int 0], .tup [.ref q, .int 0]] id (fun x => .tup (ts.map tA ++ [x])) (by show 7 ≤ _; omega) (Nat.le_refl _) (fun i S1 g => by simp) (fun x S3 hx g3 => ⟨[(11, x)], rfl, ?_⟩) fun S3 g3 => ?_
  · simp [ln, ad]
    exact Gw.refl
  · have fk : (S3.new (.lst ([A.tup [.tup [.str "talk", .int 1], .int 12], .tup [.tup [.str "talk", .int 1], .int (-1)], .tup [.tup [.str "process", .int 12], .int 0], .tup [.tup [.str "talk", .int (-1)], .int 0], .ref S.n, .tup [.tup [.str "talk", .int 1], .int 0, .int 0], .tup [.ref q, .int 0]].map fun x => A.tup (ts.map tA ++ [x])))).f k = some (.lst xs) := by
      rw [Gr.at ((g2.trans g3).trans gr_new) kn]
      exact fx
    rw [ov_addL fk new_at (by rw [List.length_map]; show _ + 7 ≤ line; unfold line; omega)]
    dsimp only
    have g4 := ((g2.trans g3).trans (gr_new (o := .lst ([A.tup [.tup [.str "talk", .int 1], .int 12], .tup [.tup [.str "talk", .int 1], .int (-1)], .tup [.tup [.str "process", .int 12], .int 0], .tup [.tup [.str "talk", .int (-1)], .int 0], .ref S.n, .tup [.tup [.str "talk", .int 1], .int 0, .int 0], .tup [.ref q, .int 0]].map fun x => A.tup (ts.map tA ++ [x]))))).trans (gr_new (o := .lst (xs ++ [A.tup [.tup [.str "talk", .int 1], .int 12], .tup [.tup [.str "talk", .int 1], .int (-1)], .tup [.tup [.str "process", .int 12], .int 0], .tup [.tup [.str "talk", .int (-1)], .int 0], .ref S.n, .tup [.tup [.str "talk", .int 1], .int 0, .int 0], .tup [.ref q, .int 0]].map fun x => A.tup (ts.map tA ++ [x]))))
    refine h _ _ g4 ⟨⟨_, new_at, by simp, by rw [List.length_append, List.length_map]; show _ + 7 ≤ 14; omega, fun x hx => ?_⟩, Nat.lt_succ_self _, by have := C.lt; have := g2.n; have := g3.n; show c < S3.n + 1; omega⟩
    rcases List.mem_append.mp hx with m | m
    · exact (bx x m).gr g4
    · have m1 := g3.trans (gr_new (o := .lst ([A.tup [.tup [.str "talk", .int 1], .int 12], .tup [.tup [.str "talk", .int 1], .int (-1)], .tup [.tup [.str "process", .int 12], .int 0], .tup [.tup [.str "talk", .int (-1)], .int 0], .ref S.n, .tup [.tup [.str "talk", .int 1], .int 0, .int 0], .tup [.ref q, .int 0]].map fun x => A.tup (ts.map tA ++ [x]))))
      have kq : ∀ S', Gr S2 S' → Kn S' (.ref q) := fun S' g => kn_gr g (.lst n2 l2)
      have kn1 : ∀ S', Gr S2 S' → Kn S' (.ref S.n) := fun S' g => kn_gr g (.lst n1 l1)
      have g5 := m1.trans (gr_new (o := .lst (xs ++ [A.tup [.tup [.str "talk", .int 1], .int 12], .tup [.tup [.str "talk", .int 1], .int (-1)], .tup [.tup [.str "process", .int 12], .int 0], .tup [.tup [.str "talk", .int (-1)], .int 0], .ref S.n, .tup [.tup [.str "talk", .int 1], .int 0, .int 0], .tup [.ref q, .int 0]].map fun x => A.tup (ts.map tA ++ [x]))))
      have kq := kq _ g5
      have kn1 := kn1 _ g5
      obtain ⟨y, hy, rfl⟩ := List.mem_map.mp m
      simp only [List.mem_cons, List.not_mem_nil, or_false] at hy
      rcases hy with rfl | rfl | rfl | rfl | rfl | rfl | rfl
      · exact bad_more hl (k2 (k2 k_talk (.int _)) (.int _)) (by decide +kernel)
      · exact bad_more hl (k2 (k2 k_talk (.int _)) (.int _)) (by decide +kernel)
      · exact bad_more hl (k2 (k2 k_proc (.int _)) (.int _)) (by decide +kernel)
      · exact bad_more hl (k2 (k2 k_talk (.int _)) (.int _)) (by decide +kernel)
      · exact bad_more hl kn1 rfl
      · exact bad_more hl (k3 (k2 k_talk (.int _)) (.int _) (.int _)) rfl
      · exact bad_more hl (k2 kq (.int _)) rfl
theorem ties_ne {S : Sto} : oEq true (.tup (ts.map tA)) (.tup []) S = some (.bl (!decide (ts = [])), S) := by
  unfold oEq
  rw [rd_ts, show rdE S (.tup []) = some (.tuple []) from rdE_of rfl (by decide +kernel)]
  cases ts <;> rfl
theorem r_s9 {k : Nat} (C : CupAt c S) (hl : ts.length ≤ 14) (B : BadsAt S c k 14) (h : ∀ S' k, Gr S S' → BadsAt S' c k 16 → P (.nx [e0, some (.ref c), some (.tup (ts.map tA)), e3, e4, e5, e6, some (.ref k), e8, e9, e10, e11, e12, e13]) S') : EV.Run (s9 [e0, some (.ref c), some (.tup (ts.map tA)), e3, e4, e5, e6, some (.ref k), e8, e9, e10, e11, e12, e13]) S P X := by
  obtain ⟨⟨xs, fx, x0, xl, bx⟩, kn, ck⟩ := B
  have two : ∀ x (S : Sto), oMul (.tup [x]) (.int 2) S = some (.tup [x, x], S) := fun x S => rfl
  have fin : ∀ ys : List A, ys.length ≤ 2 → (∀ S' x, x ∈ ys → Bad S' x) → ∃ S' k', oAdd (.ref k) (.ref S.n) (S.new (.lst ys)) = some (.ref k', S') ∧ Gr S S' ∧ BadsAt S' c k' 16 := fun ys hy by' => by
    refine ⟨_, _, ov_addL (by rw [gr_new.at kn]; exact fx) new_at (by unfold line; omega), gr_new.trans gr_new, ⟨_, new_at, by simp [x0], by rw [List.length_append]; omega, fun x hx => ?_⟩, Nat.lt_succ_self _, by have := C.lt; show c < S.n + 1; omega⟩
    rcases List.mem_append.mp hx with m | m
    · exact (bx x m).gr (gr_new.trans gr_new)
    · exact by' _ x m
  cases ts with
  | nil =>
    obtain ⟨S', k', e, g, B⟩ := fin [.tup [.tup [.tup [.str "talk", .int 1], .int 0], .tup [.tup [.str "talk", .int 1], .int 0]]] (by simp) fun S' x hx => by
      rw [List.mem_singleton.mp hx]
      exact bad_dup (ts := [((true, 1), 0), ((true, 1), 0)]) (by simp) (by simp)
    simp [s9, ln, show oEq true (.tup []) (.tup []) S = some (.bl false, S) from ties_ne (ts := []), two]
    rw [e]
    exact h S' k' g B
  | cons t ts =>
    have tn := ties_ne (ts := t :: ts) (S := S)
    rw [List.map_cons] at tn
    have ad : oAdd (.tup (tA t :: ts.map tA)) (.tup [tA t]) S = some (.tup (tA t :: ts.map tA ++ [tA t]), S) := addT (ts := t :: ts) hl (by simp)
    obtain ⟨S', k', e, g, B⟩ := fin [.tup (tA t :: (ts.map tA ++ [tA t])), .tup [tA t, tA t]] (by simp) fun S' x hx => by
      simp only [List.mem_cons, List.not_mem_nil, or_false] at hx
      rcases hx with rfl | rfl
      · have := bad_dup (S := S') (ts := (t :: ts) ++ [t]) (by simp at hl ⊢; omega) (by simp)
        rw [List.map_append] at this
        exact this
      · exact bad_dup (ts := [t, t]) (by simp) (by simp)
    simp [s9, ln, tn, two, ad]
    rw [e]
    exact h S' k' g B
end Rings

end

section
set_option Elab.async false
set_option linter.all false
set_option maxRecDepth 100000
set_option maxHeartbeats 1000000
/-! RP18: the law's statements: odd values; what is left. -/
namespace Rings
open PySem PySem.Spec PyProof.Rows L2 EV
def Odd (S : Sto) (x : A) : Prop := ∃ y, x = .tup [y] ∧ nodeB y = false ∧ Kn S y
theorem Odd.gr {S S' : Sto} {x : A} (o : Odd S x) (g : Gr S S') : Odd S' x := by
  obtain ⟨y, e, b, k⟩ := o
  exact ⟨y, e, b, kn_gr g k⟩
theorem Odd.gc {c : Nat} {S S' : Sto} {x : A} (o : Odd S x) (C : CupAt c S') (g : Gc c S S') : Odd S' x := by
  obtain ⟨y, e, b, k⟩ := o
  exact ⟨y, e, b, k.gc C g⟩
structure OddsAt (S : Sto) (c k m : Nat) : Prop where
  ex : ∃ xs, S.f k = some (.lst xs) ∧ xs ≠ [] ∧ xs.length ≤ m ∧ ∀ x ∈ xs, Odd S x
  kn : k < S.n
  ck : c < k
variable {c : Nat} {ts : List Tie} {e0 e1 e2 e3 e4 e5 e6 e7 e8 e9 e10 e11 e12 e13 : Option A} {S : Sto} {P : Fl → Sto → Prop} {X : Ex → Sto → Prop}
theorem r_s10 (C : CupAt c S) (h : ∀ S' k, Gr S S' → OddsAt S' c k 8 → P (.nx [e0, some (.ref c), e2, e3, e4, e5, e6, e7, some (.ref k), e9, e10, e11, e12, e13]) S') : EV.Run (s10 [e0, some (.ref c), e2, e3, e4, e5, e6, e7, e8, e9, e10, e11, e12, e13]) S P X := by
  simp [s10, ln]
  have g2 : Gr S ((S.new (.lst [.str "talk", .int 1])).new (.lst [.int 1])) := gr_new.trans gr_new
  have l1 : ((S.new (.lst [.str "talk", .int 1])).new (.lst [.int 1])).f S.n = some (.lst [.str "talk", .int 1]) := by rw [gr_new.at (Nat.lt_succ_self _)]; exact new_at
  have l2 : ((S.new (.lst [.str "talk", .int 1])).new (.lst [.int 1])).f (S.new (.lst [.str "talk", .int 1])).n = some (.lst [.int 1]) := new_at
  have n1 : S.n < ((S.new (.lst [.str "talk", .int 1])).new (.lst [.int 1])).n := by show S.n < S.n + 1 + 1; omega
  have n2 : (S.new (.lst [.str "talk", .int 1])).n < ((S.new (.lst [.str "talk", .int 1])).new (.lst [.int 1])).n := Nat.lt_succ_self _
  generalize (S.new (.lst [.str "talk", .int 1])).n = q at l2 n2 ⊢
  generalize (S.new (.lst [.str "talk", .int 1])).new (.lst [.int 1]) = S2 at g2 l1 l2 n1 n2 ⊢
  refine h _ _ (g2.trans gr_new) ⟨⟨_, new_at, by simp, by simp, fun x hx => ?_⟩, Nat.lt_succ_self _, by have := C.lt; have := g2.n; omega⟩
  have ka := kn_gr (gr_new (o := Ob.lst [.tup [.tup [.str "talk", .bl true]], .tup [.tup [.str "talk", .int 12]], .tup [.ref S.n], .tup [.ref q], .tup [.tup [.str "talk"]], .tup [.tup [.str "talk", .str "1"]], .tup [.tup [.str "house", .int 1]], .tup [.tup [.str "talk", .int 1, .int 1]]])) (.lst n1 l1)
  have kb := kn_gr (gr_new (o := Ob.lst [.tup [.tup [.str "talk", .bl true]], .tup [.tup [.str "talk", .int 12]], .tup [.ref S.n], .tup [.ref q], .tup [.tup [.str "talk"]], .tup [.tup [.str "talk", .str "1"]], .tup [.tup [.str "house", .int 1]], .tup [.tup [.str "talk", .int 1, .int 1]]])) (.lst n2 l2)
  simp only [List.mem_cons, List.not_mem_nil, or_false] at hx
  rcases hx with rfl | rfl | rfl | rfl | rfl | rfl | rfl | rfl
  · exact ⟨_, rfl, by decide +kernel, k2 k_talk (.bl _)⟩
  · exact ⟨_, rfl, by decide +kernel, k2 k_talk (.int _)⟩
  · exact ⟨_, rfl, rfl, ka⟩
  · exact ⟨_, rfl, rfl, kb⟩
  · exact ⟨_, rfl, by decide +kernel, k1 k_talk⟩
  · exact ⟨_, rfl, by decide +kernel, k2 k_talk (.str (by decide +kernel))⟩
  · exact ⟨_, rfl, by decide +kernel, k2 k_house (.int _)⟩
  · exact ⟨_, rfl, by decide +kernel, k3 k_talk (.int _) (.int _)⟩
theorem r_s11 {k : Nat} (C : CupAt c S) (O : OddsAt S c k 8) (h : ∀ S' x, Gc c S S' → CupAt c S' → Odd S' x → P (.nx [e0, some (.ref c), e2, e3, e4, e5, e6, e7, some (.ref k), some x, e10, e11, e12, e13]) S') : EV.Run (s11 [e0, some (.ref c), e2, e3, e4, e5, e6, e7, some (.ref k), e9, e10, e11, e12, e13]) S P X := by
  obtain ⟨⟨xs, fx, x0, xl, bx⟩, kn, ck⟩ := O
  simp [s11, ln]
  have g2 : Gr S ((S.new (.lst [.str "talk"])).new (.lst [])) := gr_new.trans gr_new
  have l1 : ((S.new (.lst [.str "talk"])).new (.lst [])).f S.n = some (.lst [.str "talk"]) := by rw [gr_new.at (Nat.lt_succ_self _)]; exact new_at
  have l2 : ((S.new (.lst [.str "talk"])).new (.lst [])).f (S.new (.lst [.str "talk"])).n = some (.lst []) := new_at
  have n1 : S.n < ((S.new (.lst [.str "talk"])).new (.lst [])).n := by show S.n < S.n + 1 + 1; omega
  have n2 : (S.new (.lst [.str "talk"])).n < ((S.new (.lst [.str "talk"])).new (.lst [])).n := Nat.lt_succ_self _
  generalize (S.new (.lst [.str "talk"])).n = q at l2 n2 ⊢
  generalize (S.new (.lst [.str "talk"])).new (.lst []) = S2 at g2 l1 l2 n1 n2 ⊢
  have fk : ∀ o, (S2.new o).f k = some (.lst xs) := fun o => by rw [Gr.at (g2.trans gr_new) kn]; exact fx
  rw [ov_addL (fk _) new_at (by show _ + 7 ≤ line; unfold line; omega)]
  dsimp only
  have g4 := (g2.trans (gr_new (o := Ob.lst [.tup [.tup [.ref S.n, .int 1]], .tup [.int 7], .tup [.str "ab"], .tup [.ref q], .tup [.non], .tup [.tup [.str "process", .int 12]], .tup [.tup [.str "talk", .int (-1)]]]))).trans (gr_new (o := .lst (xs ++ [.tup [.tup [.ref S.n, .int 1]], .tup [.int 7], .tup [.str "ab"], .tup [.ref q], .tup [.non], .tup [.tup [.str "process", .int 12]], .tup [.tup [.str "talk", .int (-1)]]])))
  have g5 := (gr_new (S := S2) (o := Ob.lst [.tup [.tup [.ref S.n, .int 1]], .tup [.int 7], .tup [.str "ab"], .tup [.ref q], .tup [.non], .tup [.tup [.str "process", .int 12]], .tup [.tup [.str "talk", .int (-1)]]])).trans (gr_new (o := .lst (xs ++ [.tup [.tup [.ref S.n, .int 1]], .tup [.int 7], .tup [.str "ab"], .tup [.ref q], .tup [.non], .tup [.tup [.str "process", .int 12]], .tup [.tup [.str "talk", .int (-1)]]])))
  have ka := kn_gr g5 (.lst n1 l1)
  have kb := kn_gr g5 (.lst n2 l2)
  refine r_some (C.gr g4) new_at (Nat.lt_succ_self _) (by have := C.lt; have := g2.n; show S2.n + 1 ≠ c; omega) (by simp [x0]) (by rw [List.length_append]; show _ + 7 < _; omega) fun x S5 hx C5 gc => ?_
  refine h S5 x ((Gw.of_gr g4).trans gc) C5 (Odd.gc ?_ C5 gc)
  rcases List.mem_append.mp hx with m | m
  · exact (bx x m).gr g4
  simp only [List.mem_cons, List.not_mem_nil, or_false] at m
  rcases m with rfl | rfl | rfl | rfl | rfl | rfl | rfl
  · exact ⟨_, rfl, rfl, k2 ka (.int _)⟩
  · exact ⟨_, rfl, rfl, .int _⟩
  · exact ⟨_, rfl, rfl, .str (by decide +kernel)⟩
  · exact ⟨_, rfl, rfl, kb⟩
  · exact ⟨_, rfl, rfl, .non⟩
  · exact ⟨_, rfl, by decide +kernel, k2 k_proc (.int _)⟩
  · exact ⟨_, rfl, by decide +kernel, k2 k_talk (.int _)⟩
theorem is_bl (neg a b : Bool) {S : Sto} : oIs neg (.bl a) (.bl b) S = some (.bl (neg != decide (a = b)), S) := rfl
theorem r_s12 {x : A} (O : Odd S x) (h : ∀ S', Gr S S' → P (.nx [e0, e1, e2, e3, e4, e5, e6, e7, e8, some x, e10, e11, e12, e13]) S') : EV.Run (s12 [e0, e1, e2, e3, e4, e5, e6, e7, e8, some x, e10, e11, e12, e13]) S P X := by
  obtain ⟨y, rfl, no, k⟩ := O
  have te : (A.tup [.tup [.tup [.str "talk", .int 1], .int 1]]) = .tup ([((true, 1), 1)].map tA) := rfl
  have ne : (A.tup [.tup [.str "talk", .int 1]]) = .tup ([(true, 1)].map nA) := rfl
  have ok : ∀ t ∈ ([((true, 1), 1)] : List Tie), okT t := fun t ht => by rw [List.mem_singleton.mp ht]; exact ⟨by decide, by decide⟩
  simp only [s12, sp_sIf, sp_bOr, sp_bOf, sp_c2, sp_call, sp_tup, sp_lCons, sp_lNil, sp_c, sp_var, List.length_cons, List.length_nil, ln (show 0 + 1 ≤ 1000 by omega), ln (show 0 + 1 + 1 ≤ 1000 by omega), if_true, List.getElem?_cons_succ, List.getElem?_cons_zero]
  rw [te]
  refine r_is_ring (by simp) (by simp) ok (k1 k) (fun xs e => by injection e with e; rw [← e]; simp) fun b S1 g1 hb => ?_
  have : b = false := by
    cases b with
    | false => rfl
    | true =>
      obtain ⟨ns, e, _, okn, _⟩ := hb.mp rfl
      injection e with e
      rcases ns with _ | ⟨n, _ | ⟨m, r⟩⟩
      · cases e
      · injection e with e
        rw [e, nodeB_nA, decide_eq_true (okn n (by simp))] at no
        cases no
      · injection e with _ e
        cases e
  subst this
  rw [ne]
  simp only [is_bl, sp_isB, decide_true, Bool.bne_true, Bool.not_true, if_false, Bool.false_eq_true]
  refine r_is_ring (by simp) (by simp) ok (ns_kn _) (fun xs e => by injection e with e; rw [← e]; simp) fun b S2 g2 hb => ?_
  have : b = true := hb.mpr ⟨[(true, 1)], rfl, by simp, by simp, by simp, by decide +kernel⟩
  subst this
  simp only [is_bl, sp_isB, decide_true, Bool.bne_true, Bool.not_true, if_false, Bool.false_eq_true, sp_next]
  exact h S2 (g1.trans g2)
theorem r_s13 {k : Nat} {P : Fl → Sto → Prop} (C : CupAt c S) (B : BadsAt S c k 16) (h : ∀ S', P (.rt (.bl true)) S') : EV.Run (s13 [e0, some (.ref c), e2, e3, e4, e5, e6, some (.ref k), e8, e9, e10, e11, e12, e13]) S P X := by
  obtain ⟨⟨xs, fx, x0, xl, bx⟩, kn, ck⟩ := B
  simp [s13]
  refine r_some C fx kn (by omega) x0 (by omega) fun x S1 hx C1 g1 => ?_
  show EV.Run _ _ _ _
  refine r_roll C1 (by omega) (by omega) fun i S2 i0 i1 C2 g2 => ?_
  have ee : oEq false (.int i) (.int 0) S2 = some (.bl (decide (i = 0)), S2) := by
    show some (A.bl (false != (i == 0)), S2) = _
    rw [Bool.false_bne]
    rfl
  simp [ee]
  refine r_refused (((bx x hx).gc C1 g1).gc C2 g2) fun S3 g3 => ?_
  exact h S3
end Rings

end

section
set_option Elab.async false
set_option linter.all false
set_option maxRecDepth 100000
set_option maxHeartbeats 1000000
/-! RP19: the law's statements: the ring, the drawn nodes, the values asked; the law. -/
namespace Rings
open PySem PySem.Spec PyProof.Rows L2 EV
variable {c : Nat} {ts : List Tie} {e0 e1 e2 e3 e4 e5 e6 e7 e8 e9 e10 e11 e12 e13 : Option A} {S : Sto} {P : Fl → Sto → Prop} {X : Ex → Sto → Prop}
/-- what ring_in tells -/
def RingOr (ts : List Tie) (v : A) : Prop := (v = .non ∧ forest [] ts = true) ∨ ∃ ns : List Nd, v = .tup (ns.map nA) ∧ isRing ts ns
theorem is_x (neg : Bool) (v : A) (h : (∃ xs, v = .tup xs)) {S : Sto} : oIs neg v .non S = some (.bl (neg != false), S) := by
  obtain ⟨xs, rfl⟩ := h
  rfl
theorem r_s3 {v : A} (hl : ts.length ≤ 14) (hn : ts.Nodup) (ok : ∀ t ∈ ts, okT t) (R : RingOr ts v) (h : ∀ S', Gr S S' → P (.nx [e0, e1, some (.tup (ts.map tA)), some v, e4, e5, e6, e7, e8, e9, e10, e11, e12, e13]) S') : EV.Run (s3 [e0, e1, some (.tup (ts.map tA)), some v, e4, e5, e6, e7, e8, e9, e10, e11, e12, e13]) S P X := by
  rcases R with ⟨rfl, f⟩ | ⟨ns, rfl, r⟩
  · simp [s3, is_non]
    refine r_forest hl fun S1 g1 => ?_
    simp [f]
    exact h S1 g1
  · have f := isRing_no r
    have l24 := many_nodes r.2.2.1 r.2.1
    simp [s3, is_tup]
    refine r_forest hl fun S1 g1 => ?_
    simp [f]
    refine r_law_ring (by omega) (by omega) r.2.1 fun b S2 g2 hb => ?_
    rw [hb.mpr r]
    simp
    refine r_is_ring (by omega) hn ok (ns_kn ns) (fun xs e => by injection e with e; rw [← e, List.length_map]; omega) fun b S3 g3 hb => ?_
    rw [hb.mpr ⟨ns, rfl, r⟩]
    simp [is_bl]
    exact h S3 ((g1.trans g2).trans g3)
structure NdsAt (S : Sto) (c k : Nat) : Prop where
  ex : ∃ ns : List Nd, S.f k = some (.lst (ns.map nA)) ∧ ns ≠ [] ∧ ns.length ≤ 29 ∧ ∀ n ∈ ns, okN n
  kn : k < S.n
  ck : c < k
theorem r_s4 (C : CupAt c S) (hl : ts.length ≤ 14) (ok : ∀ t ∈ ts, okT t) (h : ∀ S' k, Gr S S' → NdsAt S' c k → P (.nx [e0, some (.ref c), some (.tup (ts.map tA)), e3, some (.ref k), e5, e6, e7, e8, e9, e10, e11, e12, e13]) S') : EV.Run (s4 [e0, some (.ref c), some (.tup (ts.map tA)), e3, e4, e5, e6, e7, e8, e9, e10, e11, e12, e13]) S P X := by
  simp [s4, ln]
  refine lc_yes ts tA (fun t => nA t.1) (by show ts.length ≤ _; omega) (Nat.le_refl _) (fun i S1 g => by simp) (fun t S1 ht g => ⟨[(12, nA t.1), (13, .int t.2)], rfl, ?_⟩) fun S1 g => ?_
  · simp
    exact Gw.refl
  · have g2 : Gr S (S1.new (.lst (ts.map fun t => nA t.1))) := g.trans gr_new
    have f2 : (S1.new (.lst (ts.map fun t => nA t.1))).f S1.n = some (.lst (ts.map fun t => nA t.1)) := new_at
    have n2 : S1.n < (S1.new (.lst (ts.map fun t => nA t.1))).n := Nat.lt_succ_self _
    generalize S1.new (.lst (ts.map fun t => nA t.1)) = S2 at g2 f2 n2 ⊢
    refine lc_yes ts tA (fun t => nA (tl t)) (by show ts.length ≤ _; omega) (Nat.le_refl _) (fun i S1 g => by simp) (fun t S1 ht g => ⟨[(12, nA t.1), (13, .int t.2)], rfl, ?_⟩) fun S3 g3 => ?_
    · simp [ln]
      exact ⟨rfl, Gw.refl⟩
    · rw [ov_addL (by rw [Gr.at (g3.trans gr_new) n2]; exact f2) new_at (by rw [List.length_map, List.length_map]; unfold line; omega)]
      have g4 : Gr S2 ((S3.new (.lst (ts.map fun t => nA (tl t)))).new (.lst ((ts.map fun t => nA t.1) ++ ts.map fun t => nA (tl t)))) := (g3.trans gr_new).trans gr_new
      have f4 : ((S3.new (.lst (ts.map fun t => nA (tl t)))).new (.lst ((ts.map fun t => nA t.1) ++ ts.map fun t => nA (tl t)))).f (S3.new (.lst (ts.map fun t => nA (tl t)))).n = some (.lst ((ts.map fun t => nA t.1) ++ ts.map fun t => nA (tl t))) := new_at
      have n4 : (S3.new (.lst (ts.map fun t => nA (tl t)))).n < ((S3.new (.lst (ts.map fun t => nA (tl t)))).new (.lst ((ts.map fun t => nA t.1) ++ ts.map fun t => nA (tl t)))).n := Nat.lt_succ_self _
      dsimp only
      generalize (S3.new (.lst (ts.map fun t => nA (tl t)))).n = q at f4 n4 ⊢
      generalize (S3.new (.lst (ts.map fun t => nA (tl t)))).new (.lst ((ts.map fun t => nA t.1) ++ ts.map fun t => nA (tl t))) = S4 at g4 f4 n4 ⊢
      rw [ov_addL (by rw [Gr.at gr_new n4]; exact f4) new_at (by rw [List.length_append, List.length_map, List.length_map]; show _ + 1 ≤ line; unfold line; omega)]
      dsimp only
      refine h _ _ (((g2.trans g4).trans gr_new).trans gr_new) ⟨⟨ts.map (·.1) ++ ts.map tl ++ [(false, 0)], ?_, by simp, by simp; omega, fun n hn => ?_⟩, Nat.lt_succ_self _, ?_⟩
      · rw [new_at, List.map_append, List.map_append, List.map_map, List.map_map]
        rfl
      · rcases List.mem_append.mp hn with m | m
        · rcases List.mem_append.mp m with m | m
          · obtain ⟨t, ht, rfl⟩ := List.mem_map.mp m
            exact (ok t ht).1
          · obtain ⟨t, ht, rfl⟩ := List.mem_map.mp m
            exact (ok t ht).2
        · rw [List.mem_singleton.mp m]
          exact Nat.zero_le _
      · have := C.lt
        have := g2.n
        have := g4.n
        show c < S4.n + 1
        omega
def InvS (c : Nat) (S : Sto) (i : Nat) (acc : List A) (S' : Sto) : Prop := CupAt c S' ∧ Gc c S S' ∧ ∃ ss : List Nd, acc = ss.map nA ∧ (∀ n ∈ ss, okN n) ∧ ss.length = i
theorem r_s5 {k : Nat} (C : CupAt c S) (N : NdsAt S c k) (h : ∀ S' (ss : List Nd), Gc c S S' → CupAt c S' → ss.length ≤ 3 → (∀ n ∈ ss, okN n) → P (.nx [e0, some (.ref c), e2, e3, some (.ref k), some (.tup (ss.map nA)), e6, e7, e8, e9, e10, e11, e12, e13]) S') : EV.Run (s5 [e0, some (.ref c), e2, e3, some (.ref k), e5, e6, e7, e8, e9, e10, e11, e12, e13]) S P X := by
  obtain ⟨⟨ns, fk, n0, nl, ok⟩, kn, ck⟩ := N
  simp [s5]
  refine r_roll C (by omega) (by omega) fun i S1 i0 i1 C1 g1 => ?_
  obtain ⟨n, rfl⟩ := Int.eq_ofNat_of_zero_le i0
  show EV.Run _ _ _ _
  rw [run_rng (by omega) (by omega)]
  unfold lcAll
  rw [if_pos (show ((n : Int) - 0).toNat ≤ 16777216 by omega)]
  refine (run_lcI (List.range n) (fun (i : Nat) => A.int (i : Int)) (InvS c S) (fun i acc S' _ => rng_at n i) (fun i u acc S' hu ⟨C2, g2, ss, ea, oks, el⟩ => ⟨[(10, .int (u : Int))], rfl, ?_⟩) _ 0 [] S1 (Nat.zero_le _) (by rw [List.length_range]; show n ≤ 0 + ((n : Int) - 0).toNat; omega) ⟨C1, g1, [], rfl, fun n hn => (nomatch hn), rfl⟩).imp fun ys S2 ⟨C2, g2, ss, ea, oks, el⟩ => ?_
  · simp
    refine r_some C2 (by rw [g2.at kn (by omega)]; exact fk) (Nat.lt_of_lt_of_le kn g2.n) (by omega) (by simp [n0]) (by rw [List.length_map]; omega) fun x S3 hx C3 g3 => ?_
    obtain ⟨m, hm, rfl⟩ := List.mem_map.mp hx
    refine ⟨C3, g2.trans g3, ss ++ [m], by rw [ea, List.map_append]; rfl, fun a ha => ?_, by rw [List.length_append, List.length_singleton, el]⟩
    rcases List.mem_append.mp ha with z | z
    · exact oks a z
    · rw [List.mem_singleton.mp z]; exact ok m hm
  · rw [List.nil_append] at ea
    subst ea
    rw [List.length_range] at el
    rw [ov_tupL new_at]
    dsimp only
    exact h _ ss (g2.trans (Gw.of_gr gr_new)) (C2.gr gr_new) (by omega) oks
/-- a value that is asked -/
def Val (S : Sto) (v : A) : Prop := (∃ ns : List Nd, v = .tup (ns.map nA) ∧ (∀ n ∈ ns, okN n) ∧ ns.length < 64) ∨ (Kn S v ∧ ∀ xs, v ≠ .tup xs)
theorem Val.gr {S S' : Sto} {v : A} (V : Val S v) (g : Gr S S') : Val S' v := V.imp id fun ⟨a, b⟩ => ⟨kn_gr g a, b⟩
def sBody : CS := sIf (bIf (bOf (cCall 2 f__law_is_ring (lCons (cVar 2) (lCons (cVar 6) lNil)))) (bOf (c2 (oIs true) (cCall 2 f_is_ring (lCons (cVar 2) (lCons (cVar 6) lNil))) (cC (.bl true)))) (bOf (c2 (oIs true) (cCall 2 f_is_ring (lCons (cVar 2) (lCons (cVar 6) lNil))) (cC (.bl false))))) (sRet (cC (.bl false))) sNext
theorem r_body {v : A} (V : Val S v) (hl : ts.length ≤ 14) (hn : ts.Nodup) (ok : ∀ t ∈ ts, okT t) (h : ∀ S', Gr S S' → P (.nx [e0, e1, some (.tup (ts.map tA)), e3, e4, e5, some v, e7, e8, e9, e10, e11, e12, e13]) S') : EV.Run (sBody [e0, e1, some (.tup (ts.map tA)), e3, e4, e5, some v, e7, e8, e9, e10, e11, e12, e13]) S P X := by
  simp [sBody]
  rcases V with ⟨ns, rfl, okn, nl⟩ | ⟨k, no⟩
  · refine r_law_ring (by omega) nl okn fun b S2 g2 hb => ?_
    have uniq : (∃ ms : List Nd, A.tup (ns.map nA) = .tup (ms.map nA) ∧ isRing ts ms) ↔ isRing ts ns := ⟨fun ⟨ms, e, r⟩ => by
      injection e with e
      rw [maps_inj (fun a b => nA_inj) e]
      exact r, fun r => ⟨ns, rfl, r⟩⟩
    cases b with
    | true =>
      simp
      refine r_is_ring (by omega) hn ok (ns_kn ns) (fun xs e => by injection e with e; rw [← e, List.length_map]; omega) fun b S3 g3 hb2 => ?_
      rw [hb2.mpr (uniq.mpr (hb.mp rfl))]
      simp [is_bl]
      exact h S3 (g2.trans g3)
    | false =>
      simp
      refine r_is_ring (by omega) hn ok (ns_kn ns) (fun xs e => by injection e with e; rw [← e, List.length_map]; omega) fun b S3 g3 hb2 => ?_
      have : b = false := by
        cases b with
        | false => rfl
        | true => exact absurd (hb.mpr (uniq.mp (hb2.mp rfl))) (by simp)
      subst this
      simp [is_bl]
      exact h S3 (g2.trans g3)
  · obtain ⟨t, ht, _, _, _, h4⟩ := k.ty
    have h4' : isTy t .tuple = false := by
      cases v with
      | tup xs => exact absurd rfl (no xs)
      | _ => exact h4
    refine fn_run ?_
    simp [b__law_is_ring, ht, h4']
    refine r_is_ring (by omega) hn ok k (fun xs e => absurd e (no xs)) fun b S3 g3 hb2 => ?_
    have : b = false := by
      cases b with
      | false => rfl
      | true =>
        obtain ⟨ms, e, _⟩ := hb2.mp rfl
        exact absurd e (no _)
    subst this
    simp [is_bl]
    exact h S3 g3
def dbl : A → A
  | .tup xs => .tup (xs ++ xs)
  | _ => .tup []
def bck (w : A) : A → A
  | .tup xs => .tup xs.reverse
  | _ => w
def cut1 : A → A
  | .tup xs => .tup (xs.drop 1)
  | _ => .int 7
def seven (ring : A) (ss : List Nd) (j : Nat) : List A := [.tup (ss.map nA), .tup ((ss.map nA).take 1), .ref j, .non, dbl ring, bck (.tup (ss.map nA).reverse) ring, cut1 ring]
theorem back_t {S : Sto} {xs : List A} : oBack (.tup xs) S = some (.tup xs.reverse, S) := rfl
def sevenE : CE := cLst (lCons (cVar 5) (lCons (cSl (cVar 5) oNo (oAt (cC (.int 1)))) (lCons (cB bList (lCons (cVar 5) lNil)) (lCons (cC .non) (lCons (cIf (bOf (c2 (oIs true) (cVar 3) (cC .non))) (c2 oAdd (cVar 3) (cVar 3)) (cTup lNil)) (lCons (cIf (bOf (c2 (oIs true) (cVar 3) (cC .non))) (c1 oBack (cVar 3)) (c1 oBack (cVar 5))) (lCons (cIf (bOf (c2 (oIs true) (cVar 3) (cC .non))) (cSl (cVar 3) (oAt (cC (.int 1))) oNo) (cC (.int 7))) lNil)))))))
theorem s6_eq : s6 = sFor (cSeq sevenE) (gVar 6) sBody := rfl
theorem r_s6 {v : A} {ss : List Nd} (hl : ts.length ≤ 14) (hn : ts.Nodup) (ok : ∀ t ∈ ts, okT t) (R : RingOr ts v) (sl : ss.length ≤ 3) (oks : ∀ n ∈ ss, okN n) (h : ∀ S' u, Gr S S' → P (.nx [e0, e1, some (.tup (ts.map tA)), some v, e4, some (.tup (ss.map nA)), u, e7, e8, e9, e10, e11, e12, e13]) S') : EV.Run (s6 [e0, e1, some (.tup (ts.map tA)), some v, e4, some (.tup (ss.map nA)), e6, e7, e8, e9, e10, e11, e12, e13]) S P X := by
  have bl : bList [.tup (ss.map nA)] S = some (.ref S.n, S.new (.lst (ss.map nA))) := rfl
  have key : ∀ X, EV.Run (sevenE [e0, e1, some (.tup (ts.map tA)), some v, e4, some (.tup (ss.map nA)), e6, e7, e8, e9, e10, e11, e12, e13]) S (fun a S1 => a = .ref (S.n + 1) ∧ S1 = (S.new (.lst (ss.map nA))).new (.lst (seven v ss S.n))) X := fun X => by
    rcases R with ⟨rfl, _⟩ | ⟨ns, rfl, r⟩
    · simp [sevenE, bl, is_non, ln, back_t, seven, dbl, bck, cut1]
      rfl
    · have l24 := many_nodes r.2.2.1 r.2.1
      have ad : ∀ S, oAdd (.tup (ns.map nA)) (.tup (ns.map nA)) S = some (.tup (ns.map nA ++ ns.map nA), S) := fun S => ov_addT (by rw [List.length_map]; unfold line; omega)
      simp [sevenE, bl, is_tup, ln, back_t, seven, dbl, bck, cut1, ad]
      rfl
  have vals : ∀ S', Gr ((S.new (.lst (ss.map nA))).new (.lst (seven v ss S.n))) S' → ∀ x ∈ seven v ss S.n, Val S' x := fun S' g x hx => by
    have kr : Kn S' (.ref S.n) := kn_gr g (.lst (by show S.n < S.n + 1 + 1; omega) (by rw [gr_new.at (Nat.lt_succ_self _)]; exact new_at))
    have tp : ∀ ns : List Nd, (∀ n ∈ ns, okN n) → ns.length < 64 → Val S' (.tup (ns.map nA)) := fun ns a b => .inl ⟨ns, rfl, a, b⟩
    have nil : Val S' (.tup []) := tp [] (fun n h => (nomatch h)) (by decide)
    have c1 : Val S' (.tup (ss.map nA)) := tp ss oks (by omega)
    have c2 : Val S' (.tup ((ss.map nA).take 1)) := by
      rw [← List.map_take]
      exact tp _ (fun n hn => oks n (List.mem_of_mem_take hn)) (by rw [List.length_take]; omega)
    have c3 : Val S' (.tup (ss.map nA).reverse) := by
      rw [← List.map_reverse]
      exact tp _ (fun n hn => oks n (List.mem_reverse.mp hn)) (by rw [List.length_reverse]; omega)
    unfold seven at hx
    rcases R with ⟨rfl, _⟩ | ⟨ns, rfl, r⟩
    · simp only [List.mem_cons, List.not_mem_nil, or_false] at hx
      rcases hx with rfl | rfl | rfl | rfl | rfl | rfl | rfl
      · exact c1
      · exact c2
      · exact .inr ⟨kr, fun xs e => nomatch e⟩
      · exact .inr ⟨.non, fun xs e => nomatch e⟩
      · exact nil
      · exact c3
      · exact .inr ⟨.int _, fun xs e => nomatch e⟩
    · have l24 := many_nodes r.2.2.1 r.2.1
      simp only [List.mem_cons, List.not_mem_nil, or_false] at hx
      rcases hx with rfl | rfl | rfl | rfl | rfl | rfl | rfl
      · exact c1
      · exact c2
      · exact .inr ⟨kr, fun xs e => nomatch e⟩
      · exact .inr ⟨.non, fun xs e => nomatch e⟩
      · show Val S' (.tup (ns.map nA ++ ns.map nA))
        rw [← List.map_append]
        exact tp _ (fun n hn => (List.mem_append.mp hn).elim (r.2.1 n) (r.2.1 n)) (by rw [List.length_append]; omega)
      · show Val S' (.tup (ns.map nA).reverse)
        rw [← List.map_reverse]
        exact tp _ (fun n hn => r.2.1 n (List.mem_reverse.mp hn)) (by rw [List.length_reverse]; omega)
      · show Val S' (.tup ((ns.map nA).drop 1))
        rw [← List.map_drop]
        exact tp _ (fun n hn => r.2.1 n (List.mem_of_mem_drop hn)) (by rw [List.length_drop]; omega)
  rw [s6_eq, sp_for, sp_cSeq]
  refine (key _).imp fun a S1 ⟨ea, eS⟩ => ?_
  subst ea eS
  have f2 : ((S.new (.lst (ss.map nA))).new (.lst (seven v ss S.n))).f (S.n + 1) = some (.lst (seven v ss S.n)) := new_at
  have n2 : S.n + 1 < ((S.new (.lst (ss.map nA))).new (.lst (seven v ss S.n))).n := Nat.lt_succ_self _
  have g2 : Gr S ((S.new (.lst (ss.map nA))).new (.lst (seven v ss S.n))) := gr_new.trans gr_new
  rw [seq_runL f2]
  generalize (S.new (.lst (ss.map nA))).new (.lst (seven v ss S.n)) = S2 at vals f2 n2 g2 ⊢
  refine run_forM (seven v ss S.n) id (fun i ε S' => Gr S2 S' ∧ ∃ u, ε = [e0, e1, some (.tup (ts.map tA)), some v, e4, some (.tup (ss.map nA)), u, e7, e8, e9, e10, e11, e12, e13]) (fun i ε S' I => ?_) (fun i x ε S' hx ⟨g, u, e⟩ => ⟨[(6, x)], rfl, ?_⟩) (fun ε S' ⟨g, u, e⟩ => ?_) _ _ _ (Nat.le_refl _) ⟨Gw.refl, _, rfl⟩
  · show lstAt (S.n + 1) i S' = _
    rw [lst_at (by rw [Gr.at I.1 n2]; exact f2)]
    cases (seven v ss S.n)[i]? <;> rfl
  · subst e
    simp only [se_cons, se_nil, List.set_cons_succ, List.set_cons_zero]
    refine r_body (vals S' g x (List.mem_of_getElem? hx)) hl hn ok fun S3 g3 => ?_
    exact ⟨g.trans g3, _, rfl⟩
  · subst e
    exact h S' u (g2.trans g)
/-- the end of the law -/
def Fin (fl : Fl) (_ : Sto) : Prop := match fl with
    | .nx _ => A.non = .bl true
    | .rt a => a = .bl true
    | _ => False
theorem r_rest {w v : A} (C : CupAt c S) (hl : ts.length ≤ 14) (hn : ts.Nodup) (ok : ∀ t ∈ ts, okT t) (R : RingOr ts v) : EV.Run ((sSeq s3 (sSeq s4 (sSeq s5 (sSeq s6 (sSeq s7 (sSeq s8 (sSeq s9 (sSeq s10 (sSeq s11 (sSeq s12 s13)))))))))) [some w, some (.ref c), some (.tup (ts.map tA)), some v, none, none, none, none, none, none, none, none, none, none]) S Fin (fun _ _ => False) := by
  rw [sp_seq]
  refine r_s3 hl hn ok R fun S3 g3 => ?_
  have C3 := C.gr g3
  show EV.Run ((sSeq s4 _) _) _ _ _
  rw [sp_seq]
  refine r_s4 C3 hl ok fun S4 k4 g4 N4 => ?_
  have C4 := C3.gr g4
  show EV.Run ((sSeq s5 _) _) _ _ _
  rw [sp_seq]
  refine r_s5 C4 N4 fun S5 ss g5 C5 sl oks => ?_
  show EV.Run ((sSeq s6 _) _) _ _ _
  rw [sp_seq]
  refine r_s6 hl hn ok R sl oks fun S6 u g6 => ?_
  have C6 := C5.gr g6
  show EV.Run ((sSeq s7 _) _) _ _ _
  rw [sp_seq]
  refine r_s7 C6 hl fun S7 k7 g7 B7 => ?_
  have C7 := C6.gr g7
  show EV.Run ((sSeq s8 _) _) _ _ _
  rw [sp_seq]
  refine r_s8 C7 hl B7 fun S8 k8 g8 B8 => ?_
  have C8 := C7.gr g8
  show EV.Run ((sSeq s9 _) _) _ _ _
  rw [sp_seq]
  refine r_s9 C8 hl B8 fun S9 k9 g9 B9 => ?_
  have C9 := C8.gr g9
  show EV.Run ((sSeq s10 _) _) _ _ _
  rw [sp_seq]
  refine r_s10 C9 fun S10 k10 g10 O10 => ?_
  have C10 := C9.gr g10
  show EV.Run ((sSeq s11 _) _) _ _ _
  rw [sp_seq]
  refine r_s11 C10 O10 fun S11 x g11 C11 O11 => ?_
  show EV.Run ((sSeq s12 _) _) _ _ _
  rw [sp_seq]
  refine r_s12 O11 fun S12 g12 => ?_
  have C12 := C11.gr g12
  have B12 : BadsAt S12 c k9 16 := by
    obtain ⟨⟨xs, fx, x0, xl, bx⟩, kn, ck⟩ := B9
    have n10 := Nat.lt_of_lt_of_le kn g10.n
    have n11 := Nat.lt_of_lt_of_le n10 g11.n
    refine ⟨⟨xs, ?_, x0, xl, fun x hx => (((bx x hx).gr g10).gc C11 g11).gr g12⟩, Nat.lt_of_lt_of_le n11 g12.n, ck⟩
    rw [Gr.at g12 n11, g11.at n10 (by omega), Gr.at g10 kn]
    exact fx
  exact r_s13 C12 B12 fun S13 => rfl
/-- the law -/
theorem r_law {v : A} {ns : List Int} {S : Sto} (hv : bList [v] S = some (.ref S.n, S.new (.lst (ns.map .int)))) (hl : ns.length ≤ 63) : EV.Run (f_law [v]) S (fun a _ => a = .bl true) (fun _ _ => False) := by
  refine fn_run ?_
  rw [b_law_eq]
  refine Run.imp (P := Fin) ?_ fun fl S' z => by
    unfold Fin at z
    cases fl <;> exact z
  rw [sp_seq]
  unfold s0
  rw [sp_asg, sp_call]
  simp only [List.map_cons, List.map_nil, List.cons_append, List.nil_append, List.replicate, sp_lCons, sp_lNil, sp_var, List.getElem?_cons_zero, List.length_cons, List.length_nil, if_true]
  refine r_cup hv hl fun c S1 _ C1 g1 => ?_
  simp only [sg_var, se_cons, se_nil, List.set_cons_succ, List.set_cons_zero]
  rw [sp_seq]
  unfold s1
  rw [sp_asg, sp_call]
  simp only [sp_lCons, sp_lNil, sp_var, List.getElem?_cons_zero, List.getElem?_cons_succ, List.length_cons, List.length_nil, if_true]
  refine r_drawn C1 fun ts S2 C2 g2 tl14 ok nd => ?_
  simp only [sg_var, se_cons, se_nil, List.set_cons_succ, List.set_cons_zero]
  rw [sp_seq]
  unfold s2
  rw [sp_asg, sp_call]
  simp only [sp_lCons, sp_lNil, sp_var, List.getElem?_cons_zero, List.getElem?_cons_succ, List.length_cons, List.length_nil, if_true]
  refine r_ring_in (by omega) nd ok (fun S3 g3 f => ?_) fun S3 rs g3 r => ?_
  · simp only [sg_var, se_cons, se_nil, List.set_cons_succ, List.set_cons_zero]
    exact r_rest (C2.gr g3) tl14 nd ok (.inl ⟨rfl, f⟩)
  · simp only [sg_var, se_cons, se_nil, List.set_cons_succ, List.set_cons_zero]
    exact r_rest (C2.gr g3) tl14 nd ok (.inr ⟨rs, rfl, r⟩)
theorem yes : EV.Yes 63 f_law := by
  have fin : ∀ {m : M A} {S : Sto}, EV.Run m S (fun a _ => a = .bl true) (fun _ _ => False) → ∃ S', m S = .ok (.bl true) S' := fun {m} {S} h => by
    unfold EV.Run at h
    cases e : m S with
    | ok a S' => rw [e] at h; exact ⟨S', by rw [show a = .bl true from h]⟩
    | exc x S' => rw [e] at h; exact h.elim
    | bad => rw [e] at h; exact h.elim
  exact ⟨fun ns hl => fin (r_law (ns := ns) rfl hl), fun ns hl => fin (r_law (ns := ns) rfl hl)⟩
end Rings

end

section
set_option Elab.async false
set_option linter.all false
set_option maxRecDepth 100000
open PySem PySem.W PyProof.Rows
set_option maxRecDepth 100000 in
set_option maxHeartbeats 0 in
theorem PySem.Challenge.cw_talkwright_k73_rings_holds : PySem.Challenge.rw_talkwright_k73_rings.Holds := by
  w_on; o_law; k_head; (case hw => w_witness2)
  k_fill
  refine L2.walk_of (l := PySem.Challenge.rw_talkwright_k73_rings) (n := 63) (k := 6) (x := "script") (CX := fun w => L2.CX PySem.Challenge.pw_talkwright_k73_rings w) (sp := fun w => EV.spE _ 63) rfl (by decide) rfl ⟨rfl, by decide, by decide⟩ (fun w h Y => PySem.W.kIn_of Y) ?F (fun _ _ a ns hl hO hS => ⟨a, ns, rfl, hl, hO, hS, fun _ => rfl⟩) (fun _ _ _ _ _ h => EV.cx_no h)
  case F =>
    intro w mg fa h KX G hmg
    have B : Rings.Blt mg := by
      refine' ⟨(PySem.W.mg_none_of KX G ?z0), (PySem.W.mg_none_of KX G ?z1), (PySem.W.mg_none_of KX G ?z2), (PySem.W.mg_none_of KX G ?z3), (PySem.W.mg_none_of KX G ?z4), (PySem.W.mg_none_of KX G ?z5), (PySem.W.mg_none_of KX G ?z6), (PySem.W.mg_none_of KX G ?z7), (PySem.W.mg_none_of KX G ?z8), (PySem.W.mg_none_of KX G ?z9), (PySem.W.mg_none_of KX G ?z10), (PySem.W.mg_none_of KX G ?z11), (PySem.W.mg_none_of KX G ?z12), (PySem.W.mg_none_of KX G ?z13), (EV.gi_mk KX G ?z14), (EV.gi_mk KX G ?z15)⟩
      (case z0 => k_is)
      (case z1 => k_is)
      (case z2 => k_is)
      (case z3 => k_is)
      (case z4 => k_is)
      (case z5 => k_is)
      (case z6 => k_is)
      (case z7 => k_is)
      (case z8 => k_is)
      (case z9 => k_is)
      (case z10 => k_is)
      (case z11 => k_is)
      (case z12 => k_is)
      (case z13 => k_is)
      (case z14 => k_is)
      (case z15 => k_is)
    obtain ⟨C_InvalidTies, C_TalkError, X_InvalidTies, X_TalkError, S_InvalidTies, K_InvalidTies_TalkError⟩ : ∃ C_InvalidTies C_TalkError, EV.ExcF (L2.KOf KX) mg "InvalidTies" C_InvalidTies ∧ EV.ExcF (L2.KOf KX) mg "TalkError" C_TalkError ∧ PySem.W.subIn (L2.KOf KX) (.ref C_InvalidTies) (.ref C_InvalidTies) = some true ∧ PySem.W.kitOne (L2.KOf KX) (.ref C_InvalidTies) (.ref C_TalkError) = some true := by
      refine' ⟨_, _, EV.exc_mk KX G PySem.F.excBase_ValueError ?x0a ?x0q ?x0kp ?x0ty ?x0e1 ?x0e2 ?x0e3 ?x0e4 ?x0e5 ?x0e6 ?x0e7 ?x0e8, EV.exc_mk KX G PySem.F.excBase_ValueError ?x1a ?x1q ?x1kp ?x1ty ?x1e1 ?x1e2 ?x1e3 ?x1e4 ?x1e5 ?x1e6 ?x1e7 ?x1e8, ?y0, ?y1⟩
      (case x0a => first | k_is | rfl)
      (case x0q => k_exc)
      (case x0kp => first | k_is | rfl)
      (case x0ty => first | k_is | rfl)
      (case x0e1 => first | k_is | rfl)
      (case x0e2 => first | k_is | rfl)
      (case x0e3 => first | k_is | rfl)
      (case x0e4 => first | k_is | rfl)
      (case x0e5 => first | k_is | rfl)
      (case x0e6 => first | k_is | rfl)
      (case x0e7 => first | k_is | rfl)
      (case x0e8 => first | k_is | rfl)
      (case x1a => first | k_is | rfl)
      (case x1q => k_exc)
      (case x1kp => first | k_is | rfl)
      (case x1ty => first | k_is | rfl)
      (case x1e1 => first | k_is | rfl)
      (case x1e2 => first | k_is | rfl)
      (case x1e3 => first | k_is | rfl)
      (case x1e4 => first | k_is | rfl)
      (case x1e5 => first | k_is | rfl)
      (case x1e6 => first | k_is | rfl)
      (case x1e7 => first | k_is | rfl)
      (case x1e8 => first | k_is | rfl)
      (case y0 => first | k_is | rfl)
      (case y1 => first | k_is | rfl)
    have T_InvalidTies := EV.subs_one X_InvalidTies S_InvalidTies
    have U_InvalidTies_TalkError := EV.isis_one X_InvalidTies K_InvalidTies_TalkError
    have D_is_whole : EV.Df (L2.KOf KX) mg "is_whole" Rings.st_is_whole ["value", "low", "high"] := by
      refine' EV.df_mk KX G ?a ?l ?c ?k (fun _ _ _ _ _ _ us hl => match us, hl with | [_, _, _], _ => rfl)
      (case a => k_is); (case l => k_is); (case c => k_is); (case k => k_is)
    have D_is_tuple_of : EV.Df (L2.KOf KX) mg "is_tuple_of" Rings.st_is_tuple_of ["value", "low", "high"] := by
      refine' EV.df_mk KX G ?a ?l ?c ?k (fun _ _ _ _ _ _ us hl => match us, hl with | [_, _, _], _ => rfl)
      (case a => k_is); (case l => k_is); (case c => k_is); (case k => k_is)
    have D_are_unlike : EV.Df (L2.KOf KX) mg "are_unlike" Rings.st_are_unlike ["items"] := by
      refine' EV.df_mk KX G ?a ?l ?c ?k (fun _ _ _ _ _ _ us hl => match us, hl with | [_], _ => rfl)
      (case a => k_is); (case l => k_is); (case c => k_is); (case k => k_is)
    have D_is_node : EV.Df (L2.KOf KX) mg "is_node" Rings.st_is_node ["value"] := by
      refine' EV.df_mk KX G ?a ?l ?c ?k (fun _ _ _ _ _ _ us hl => match us, hl with | [_], _ => rfl)
      (case a => k_is); (case l => k_is); (case c => k_is); (case k => k_is)
    have D_need_ties : EV.Df (L2.KOf KX) mg "need_ties" Rings.st_need_ties ["value"] := by
      refine' EV.df_mk KX G ?a ?l ?c ?k (fun _ _ _ _ _ _ us hl => match us, hl with | [_], _ => rfl)
      (case a => k_is); (case l => k_is); (case c => k_is); (case k => k_is)
    have D_short_ring : EV.Df (L2.KOf KX) mg "short_ring" Rings.st_short_ring ["ties"] := by
      refine' EV.df_mk KX G ?a ?l ?c ?k (fun _ _ _ _ _ _ us hl => match us, hl with | [_], _ => rfl)
      (case a => k_is); (case l => k_is); (case c => k_is); (case k => k_is)
    have D_neighbours_in : EV.Df (L2.KOf KX) mg "neighbours_in" Rings.st_neighbours_in ["ties"] := by
      refine' EV.df_mk KX G ?a ?l ?c ?k (fun _ _ _ _ _ _ us hl => match us, hl with | [_], _ => rfl)
      (case a => k_is); (case l => k_is); (case c => k_is); (case k => k_is)
    have D_without_leaves : EV.Df (L2.KOf KX) mg "without_leaves" Rings.st_without_leaves ["neighbours"] := by
      refine' EV.df_mk KX G ?a ?l ?c ?k (fun _ _ _ _ _ _ us hl => match us, hl with | [_], _ => rfl)
      (case a => k_is); (case l => k_is); (case c => k_is); (case k => k_is)
    have D_long_ring : EV.Df (L2.KOf KX) mg "long_ring" Rings.st_long_ring ["neighbours"] := by
      refine' EV.df_mk KX G ?a ?l ?c ?k (fun _ _ _ _ _ _ us hl => match us, hl with | [_], _ => rfl)
      (case a => k_is); (case l => k_is); (case c => k_is); (case k => k_is)
    have D_found_ring : EV.Df (L2.KOf KX) mg "found_ring" Rings.st_found_ring ["ties"] := by
      refine' EV.df_mk KX G ?a ?l ?c ?k (fun _ _ _ _ _ _ us hl => match us, hl with | [_], _ => rfl)
      (case a => k_is); (case l => k_is); (case c => k_is); (case k => k_is)
    have D_ring_in : EV.Df (L2.KOf KX) mg "ring_in" Rings.st_ring_in ["ties"] := by
      refine' EV.df_mk KX G ?a ?l ?c ?k (fun _ _ _ _ _ _ us hl => match us, hl with | [_], _ => rfl)
      (case a => k_is); (case l => k_is); (case c => k_is); (case k => k_is)
    have D_are_tied : EV.Df (L2.KOf KX) mg "are_tied" Rings.st_are_tied ["ties", "one", "other"] := by
      refine' EV.df_mk KX G ?a ?l ?c ?k (fun _ _ _ _ _ _ us hl => match us, hl with | [_, _, _], _ => rfl)
      (case a => k_is); (case l => k_is); (case c => k_is); (case k => k_is)
    have D_fits_ring : EV.Df (L2.KOf KX) mg "fits_ring" Rings.st_fits_ring ["ties", "value"] := by
      refine' EV.df_mk KX G ?a ?l ?c ?k (fun _ _ _ _ _ _ us hl => match us, hl with | [_, _], _ => rfl)
      (case a => k_is); (case l => k_is); (case c => k_is); (case k => k_is)
    have D_is_ring : EV.Df (L2.KOf KX) mg "is_ring" Rings.st_is_ring ["ties", "value"] := by
      refine' EV.df_mk KX G ?a ?l ?c ?k (fun _ _ _ _ _ _ us hl => match us, hl with | [_, _], _ => rfl)
      (case a => k_is); (case l => k_is); (case c => k_is); (case k => k_is)
    have D__law_cup : EV.Df (L2.KOf KX) mg "_law_cup" Rings.st__law_cup ["script"] := by
      refine' EV.df_mk KX G ?a ?l ?c ?k (fun _ _ _ _ _ _ us hl => match us, hl with | [_], _ => rfl)
      (case a => k_is); (case l => k_is); (case c => k_is); (case k => k_is)
    have D__law_roll : EV.Df (L2.KOf KX) mg "_law_roll" Rings.st__law_roll ["cup", "many"] := by
      refine' EV.df_mk KX G ?a ?l ?c ?k (fun _ _ _ _ _ _ us hl => match us, hl with | [_, _], _ => rfl)
      (case a => k_is); (case l => k_is); (case c => k_is); (case k => k_is)
    have D__law_some : EV.Df (L2.KOf KX) mg "_law_some" Rings.st__law_some ["cup", "things"] := by
      refine' EV.df_mk KX G ?a ?l ?c ?k (fun _ _ _ _ _ _ us hl => match us, hl with | [_, _], _ => rfl)
      (case a => k_is); (case l => k_is); (case c => k_is); (case k => k_is)
    have D__law_drawn_ties : EV.Df (L2.KOf KX) mg "_law_drawn_ties" Rings.st__law_drawn_ties ["cup"] := by
      refine' EV.df_mk KX G ?a ?l ?c ?k (fun _ _ _ _ _ _ us hl => match us, hl with | [_], _ => rfl)
      (case a => k_is); (case l => k_is); (case c => k_is); (case k => k_is)
    have D__law_is_forest : EV.Df (L2.KOf KX) mg "_law_is_forest" Rings.st__law_is_forest ["ties"] := by
      refine' EV.df_mk KX G ?a ?l ?c ?k (fun _ _ _ _ _ _ us hl => match us, hl with | [_], _ => rfl)
      (case a => k_is); (case l => k_is); (case c => k_is); (case k => k_is)
    have D__law_tied : EV.Df (L2.KOf KX) mg "_law_tied" Rings.st__law_tied ["ties", "one", "other"] := by
      refine' EV.df_mk KX G ?a ?l ?c ?k (fun _ _ _ _ _ _ us hl => match us, hl with | [_, _, _], _ => rfl)
      (case a => k_is); (case l => k_is); (case c => k_is); (case k => k_is)
    have D__law_is_ring : EV.Df (L2.KOf KX) mg "_law_is_ring" Rings.st__law_is_ring ["ties", "value"] := by
      refine' EV.df_mk KX G ?a ?l ?c ?k (fun _ _ _ _ _ _ us hl => match us, hl with | [_, _], _ => rfl)
      (case a => k_is); (case l => k_is); (case c => k_is); (case k => k_is)
    have D__law_refused : EV.Df (L2.KOf KX) mg "_law_refused" Rings.st__law_refused ["value", "by_value"] := by
      refine' EV.df_mk KX G ?a ?l ?c ?k (fun _ _ _ _ _ _ us hl => match us, hl with | [_, _], _ => rfl)
      (case a => k_is); (case l => k_is); (case c => k_is); (case k => k_is)
    have D_law : EV.Df (L2.KOf KX) mg "law" Rings.st_law ["script"] := by
      refine' EV.df_mk KX G ?a ?l ?c ?k (fun _ _ _ _ _ _ us hl => match us, hl with | [_], _ => rfl)
      (case a => k_is); (case l => k_is); (case c => k_is); (case k => k_is)
    refine EV.ok_end (st := Rings.st_law) (f := Rings.f_law) hmg D_law Rings.yes (fun base => ?_) (fun _ _ _ _ _ _ _ _ => .of_eq rfl)
    have O_is_whole := Rings.ok_is_whole (P := PySem.Challenge.pw_talkwright_k73_rings) (w := w) (K := L2.KOf KX) (mg := mg) (base := base) B D_is_whole
    have O_is_tuple_of := Rings.ok_is_tuple_of (P := PySem.Challenge.pw_talkwright_k73_rings) (w := w) (K := L2.KOf KX) (mg := mg) (base := base) B D_is_tuple_of
    have O_are_unlike := Rings.ok_are_unlike (P := PySem.Challenge.pw_talkwright_k73_rings) (w := w) (K := L2.KOf KX) (mg := mg) (base := base) B D_are_unlike
    have O_is_node := Rings.ok_is_node (P := PySem.Challenge.pw_talkwright_k73_rings) (w := w) (K := L2.KOf KX) (mg := mg) (base := base) B D_is_node O_is_whole O_is_tuple_of
    have O_need_ties := Rings.ok_need_ties (P := PySem.Challenge.pw_talkwright_k73_rings) (w := w) (K := L2.KOf KX) (mg := mg) (base := base) B X_InvalidTies D_need_ties O_is_whole O_is_tuple_of O_are_unlike O_is_node
    have O_short_ring := Rings.ok_short_ring (P := PySem.Challenge.pw_talkwright_k73_rings) (w := w) (K := L2.KOf KX) (mg := mg) (base := base) B D_short_ring
    have O_neighbours_in := Rings.ok_neighbours_in (P := PySem.Challenge.pw_talkwright_k73_rings) (w := w) (K := L2.KOf KX) (mg := mg) (base := base) B D_neighbours_in
    have O_without_leaves := Rings.ok_without_leaves (P := PySem.Challenge.pw_talkwright_k73_rings) (w := w) (K := L2.KOf KX) (mg := mg) (base := base) B D_without_leaves
    have O_long_ring := Rings.ok_long_ring (P := PySem.Challenge.pw_talkwright_k73_rings) (w := w) (K := L2.KOf KX) (mg := mg) (base := base) B D_long_ring
    have O_found_ring := Rings.ok_found_ring (P := PySem.Challenge.pw_talkwright_k73_rings) (w := w) (K := L2.KOf KX) (mg := mg) (base := base) B D_found_ring O_short_ring O_neighbours_in O_without_leaves O_long_ring
    have O_ring_in := Rings.ok_ring_in (P := PySem.Challenge.pw_talkwright_k73_rings) (w := w) (K := L2.KOf KX) (mg := mg) (base := base) B D_ring_in O_need_ties O_found_ring
    have O_are_tied := Rings.ok_are_tied (P := PySem.Challenge.pw_talkwright_k73_rings) (w := w) (K := L2.KOf KX) (mg := mg) (base := base) B D_are_tied
    have O_fits_ring := Rings.ok_fits_ring (P := PySem.Challenge.pw_talkwright_k73_rings) (w := w) (K := L2.KOf KX) (mg := mg) (base := base) B D_fits_ring O_is_tuple_of O_are_unlike O_is_node O_are_tied
    have O_is_ring := Rings.ok_is_ring (P := PySem.Challenge.pw_talkwright_k73_rings) (w := w) (K := L2.KOf KX) (mg := mg) (base := base) B D_is_ring O_need_ties O_fits_ring
    have O__law_cup := Rings.ok__law_cup (P := PySem.Challenge.pw_talkwright_k73_rings) (w := w) (K := L2.KOf KX) (mg := mg) (base := base) B D__law_cup
    have O__law_roll := Rings.ok__law_roll (P := PySem.Challenge.pw_talkwright_k73_rings) (w := w) (K := L2.KOf KX) (mg := mg) (base := base) B D__law_roll
    have O__law_some := Rings.ok__law_some (P := PySem.Challenge.pw_talkwright_k73_rings) (w := w) (K := L2.KOf KX) (mg := mg) (base := base) B D__law_some O__law_roll
    have O__law_drawn_ties := Rings.ok__law_drawn_ties (P := PySem.Challenge.pw_talkwright_k73_rings) (w := w) (K := L2.KOf KX) (mg := mg) (base := base) B D__law_drawn_ties O__law_roll O__law_some
    have O__law_is_forest := Rings.ok__law_is_forest (P := PySem.Challenge.pw_talkwright_k73_rings) (w := w) (K := L2.KOf KX) (mg := mg) (base := base) B D__law_is_forest
    have O__law_tied := Rings.ok__law_tied (P := PySem.Challenge.pw_talkwright_k73_rings) (w := w) (K := L2.KOf KX) (mg := mg) (base := base) B D__law_tied
    have O__law_is_ring := Rings.ok__law_is_ring (P := PySem.Challenge.pw_talkwright_k73_rings) (w := w) (K := L2.KOf KX) (mg := mg) (base := base) B D__law_is_ring O__law_tied
    have O__law_refused := Rings.ok__law_refused (P := PySem.Challenge.pw_talkwright_k73_rings) (w := w) (K := L2.KOf KX) (mg := mg) (base := base) B X_InvalidTies X_TalkError T_InvalidTies U_InvalidTies_TalkError D__law_refused O_ring_in O_is_ring
    have O_law := Rings.ok_law (P := PySem.Challenge.pw_talkwright_k73_rings) (w := w) (K := L2.KOf KX) (mg := mg) (base := base) B D_law O_ring_in O_is_ring O__law_cup O__law_roll O__law_some O__law_drawn_ties O__law_is_forest O__law_is_ring O__law_refused
    exact O_law

end
