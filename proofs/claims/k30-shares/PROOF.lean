import PyProof.Rows.All
import Wide.All
import OpenK.AllK
import Wide.FinOn
import HandS.ForMost
import HandS.Exc
import HandS.ExcOwn
import HandS.WordsExc
import HandS.Wide
import HandS.TupAny
import HandS.TupMul
import HandS.Style
import HandS.Deep
import HandS.IsInst
import KE.SortData
import HandS.Zip
import HandS.Iter
import HandS.Comp
import HandS.List
import HandS.SortInts
import HandS.Flow
import PySem.Challenge.RW_spottedsheets_k30_main_shares_kinds_and
set_option Elab.async false
set_option linter.all false
set_option maxRecDepth 100000
/-! DS1: data, states, the relation to values and the abstract heap; readings of semantic functions. -/
namespace DS
open PySem PySem.Spec PyProof.Rows L2

/-! ### data -/
inductive D where
  | non | bl (b : Bool) | int (i : Int) | str (x : Str) | fn (n : Str) | ref (j : Nat)
  | tup (xs : List D) | lst (xs : List D) | scr (xs : List D) | dct (k : Bool) (ks vs : List D)
  deriving Inhabited
/-- what a name holds: nothing, a value, an own list, an own dict -/
inductive Slot where
  | un | v (d : D) | ol (xs : List D) | od (k : Bool) (ks vs : List D)
  deriving Inhabited
abbrev Env := List Slot
/-- an object that is shared -/
inductive Ob where
  | lst (xs : List D)
  deriving Inhabited
structure S where
  env : Env
  hp : List Ob
structure Exn where
  cls : Str
  arg : Option D
inductive R (α : Type) where
  | ok (a : α) (s : S) | exc (x : Exn) (s : S) | bad
namespace R
variable {α β : Type}
def bind (r : R α) (f : α → S → R β) : R β := match r with
  | .ok a s => f a s
  | .exc x s => .exc x s
  | .bad => .bad
def map (f : α → β) (r : R α) : R β := r.bind fun a s => .ok (f a) s
def of (o : Option α) (s : S) : R α := match o with
  | some a => .ok a s
  | none => .bad
@[simp] theorem bind_ok (a : α) (s : S) (f : α → S → R β) : (R.ok a s).bind f = f a s := rfl
@[simp] theorem bind_exc (x : Exn) (s : S) (f : α → S → R β) : (R.exc x s : R α).bind f = .exc x s := rfl
@[simp] theorem bind_bad (f : α → S → R β) : (R.bad : R α).bind f = .bad := rfl
@[simp] theorem map_ok (a : α) (s : S) (f : α → β) : (R.ok a s).map f = .ok (f a) s := rfl
@[simp] theorem of_some (a : α) (s : S) : R.of (some a) s = .ok a s := rfl
@[simp] theorem of_none (s : S) : (R.of none s : R α) = .bad := rfl
end R
abbrev Ex := S → R D
abbrev ExL := S → R (List D)
inductive Fl where
  | nx | rt (d : D) | bk | ct
abbrev Sm := S → R Fl
/-- a function's result -/
inductive RF where
  | ok (d : D) (hp : List Ob) | exc (x : Exn) (hp : List Ob) | bad
abbrev Fn := List D → List Ob → RF

/-! ### the relation -/
def keyD : Key → D
  | .inl i => .int i
  | .inr x => .str x
structure Cn where
  K : PySem.W.Frag
  mg : Str → Option Value
abbrev Am := Addr → Prop
section
variable (c : Cn) (M : Am) (ρ : List Addr) (H : Hp)
mutual
inductive RD : D → V → Prop
  | non : RD .non .non
  | bl (b : Bool) : RD (.bl b) (.bl b)
  | int (i : Int) : RD (.int i) (.int i)
  | str (x : Str) : RD (.str x) (.str x)
  | fn {n : Str} {f : Addr} (h : c.mg n = some (.ref f)) : RD (.fn n) (.ref f)
  | ref {j : Nat} {a : Addr} (h : ρ[j]? = some a) : RD (.ref j) (.ref a)
  | tupH {a : Addr} {xs : List D} {vs : List V} (h : Rd H a (.tup vs)) (m : ¬ M a) (r : RDs xs vs) : RD (.tup xs) (.ref a)
  | tupK {a : Addr} {xs : List D} {vs : List V} (h : ∃ (o : Obj) (its : Array Value) (n : Nat), c.K.lookup a = some o ∧ o.cls = .type "tuple" ∧ o.data = .seq its n ∧ its.size ≤ sizeLine ∧ Vals vs its.toList) (r : RDs xs vs) : RD (.tup xs) (.ref a)
  | lst {a : Addr} {xs : List D} {vs : List V} (h : H a = some (.lst vs)) (m : ¬ M a) (r : RDs xs vs) : RD (.lst xs) (.ref a)
  | dctK {a : Addr} {ks vs : List D} {kvs : List (Key × V)} (h : H a = some (.dK kvs)) (m : ¬ M a) (e : ks = kvs.map (fun p => keyD p.1)) (r : RDs vs (kvs.map (·.2))) : RD (.dct false ks vs) (.ref a)
  | dctT {a : Addr} {ks vs : List D} {kvs : List (List Key × V)} (h : H a = some (.dT kvs)) (m : ¬ M a) (e : ks = kvs.map (fun p => .tup (p.1.map keyD))) (r : RDs vs (kvs.map (·.2))) : RD (.dct true ks vs) (.ref a)
  | scr {a : Addr} {o : Obj} {xs : List D} {vs : List V} (h : H a = some (.frz o (.lst vs))) (m : ¬ M a) (r : RDs xs vs) : RD (.scr xs) (.ref a)
  | scrK {a : Addr} {xs : List D} {vs : List V} (h : ∃ (o : Obj) (its : Array Value) (n : Nat), c.K.lookup a = some o ∧ o.cls = .type "list" ∧ o.dict = none ∧ o.data = .seq its n ∧ its.size ≤ sizeLine ∧ Vals vs its.toList) (r : RDs xs vs) : RD (.scr xs) (.ref a)
inductive RDs : List D → List V → Prop
  | nil : RDs [] []
  | cons {d : D} {v : V} {ds : List D} {vs : List V} (h : RD d v) (t : RDs ds vs) : RDs (d :: ds) (v :: vs)
end
end

/-- the ground: as it was at the def's entry; what is not to be touched for now -/
structure Gr where
  M0 : Am
  ρ0 : List Addr
  H0 : Hp
  P : Am
/-- from M, ρ, H on: what is not mutable stays, the shared ones stay numbered, what is held stays -/
structure Keep (g : Gr) (M : Am) (ρ : List Addr) (H : Hp) (M' : Am) (ρ' : List Addr) (H' : Hp) : Prop where
  st : ∀ a o, H a = some o → ¬ M a → H' a = some o ∧ ¬ M' a
  pre : ∃ l, ρ' = ρ ++ l
  pr : ∀ a, g.P a → H' a = H a
theorem Keep.refl (g : Gr) (M : Am) (ρ : List Addr) (H : Hp) : Keep g M ρ H M ρ H := ⟨fun _ _ h m => ⟨h, m⟩, ⟨[], (List.append_nil _).symm⟩, fun _ _ => rfl⟩
theorem Keep.trans {g : Gr} {M M1 M2 : Am} {ρ ρ1 ρ2 : List Addr} {H H1 H2 : Hp} (a : Keep g M ρ H M1 ρ1 H1) (b : Keep g M1 ρ1 H1 M2 ρ2 H2) : Keep g M ρ H M2 ρ2 H2 :=
  ⟨fun x o h m => let ⟨h1, m1⟩ := a.st x o h m; b.st x o h1 m1, by
    obtain ⟨l, e⟩ := a.pre
    obtain ⟨l', e'⟩ := b.pre
    exact ⟨l ++ l', by rw [e', e, List.append_assoc]⟩, fun x h => (b.pr x h).trans (a.pr x h)⟩
theorem rd_keep {a : Addr} {u : HO} {M M' : Am} {ρ ρ' : List Addr} {H H' : Hp} {g : Gr} (k : Keep g M ρ H M' ρ' H') (m : ¬ M a) (h : Rd H a u) : Rd H' a u ∧ ¬ M' a := by
  rcases h with h | ⟨o, h⟩
  · obtain ⟨h1, m1⟩ := k.st _ _ h m
    exact ⟨.inl h1, m1⟩
  · obtain ⟨h1, m1⟩ := k.st _ _ h m
    exact ⟨.inr ⟨o, h1⟩, m1⟩
section
variable {c : Cn} {g : Gr} {M M' : Am} {ρ ρ' : List Addr} {H H' : Hp}
mutual
theorem RD.keep (k : Keep g M ρ H M' ρ' H') : ∀ {d : D} {v : V}, RD c M ρ H d v → RD c M' ρ' H' d v
  | _, _, .non => .non
  | _, _, .bl b => .bl b
  | _, _, .int i => .int i
  | _, _, .str x => .str x
  | _, _, .fn h => .fn h
  | _, _, .ref h => .ref (by
      obtain ⟨l, e⟩ := k.pre
      rw [e, List.getElem?_append_left (by
        have := (List.getElem?_eq_some_iff.mp h).1
        exact this)]
      exact h)
  | _, _, .tupH h m r => .tupH (rd_keep k m h).1 (rd_keep k m h).2 (RDs.keep k r)
  | _, _, .tupK h r => .tupK h (RDs.keep k r)
  | _, _, .lst h m r => .lst (k.st _ _ h m).1 (k.st _ _ h m).2 (RDs.keep k r)
  | _, _, .scr h m r => .scr (k.st _ _ h m).1 (k.st _ _ h m).2 (RDs.keep k r)
  | _, _, .scrK h r => .scrK h (RDs.keep k r)
  | _, _, .dctK h m e r => .dctK (k.st _ _ h m).1 (k.st _ _ h m).2 e (RDs.keep k r)
  | _, _, .dctT h m e r => .dctT (k.st _ _ h m).1 (k.st _ _ h m).2 e (RDs.keep k r)
theorem RDs.keep (k : Keep g M ρ H M' ρ' H') : ∀ {ds : List D} {vs : List V}, RDs c M ρ H ds vs → RDs c M' ρ' H' ds vs
  | _, _, .nil => .nil
  | _, _, .cons h t => .cons (RD.keep k h) (RDs.keep k t)
end
/-- fewer mutable ones -/
theorem RD.less (l : ∀ a, M' a → M a) {d : D} {v : V} (h : RD c M ρ H d v) : RD c M' ρ H d v := h.keep (g := ⟨M, [], H, fun _ => False⟩) ⟨fun _ _ h m => ⟨h, fun z => m (l _ z)⟩, ⟨[], (List.append_nil _).symm⟩, fun _ z => z.elim⟩
theorem RDs.less (l : ∀ a, M' a → M a) {d : List D} {v : List V} (h : RDs c M ρ H d v) : RDs c M' ρ H d v := h.keep (g := ⟨M, [], H, fun _ => False⟩) ⟨fun _ _ h m => ⟨h, fun z => m (l _ z)⟩, ⟨[], (List.append_nil _).symm⟩, fun _ z => z.elim⟩
theorem RDs.length : ∀ {ds : List D} {vs : List V}, RDs c M ρ H ds vs → ds.length = vs.length
  | _, _, .nil => rfl
  | _, _, .cons _ t => congrArg (· + 1) (RDs.length t)
theorem RDs.get : ∀ {ds : List D} {vs : List V} {i : Nat} {d : D}, RDs c M ρ H ds vs → ds[i]? = some d → ∃ v, vs[i]? = some v ∧ RD c M ρ H d v
  | _, _, _, _, .nil, e => by simp at e
  | _, _, 0, _, .cons r _, e => by simp at e; subst e; exact ⟨_, rfl, r⟩
  | _, _, i + 1, x, .cons _ t, e => by
    obtain ⟨u, h1, h2⟩ := RDs.get (i := i) (d := x) t (by simpa using e)
    exact ⟨u, by simpa using h1, h2⟩
theorem RDs.getV {ds : List D} {vs : List V} {i : Nat} {v : V} (r : RDs c M ρ H ds vs) (e : vs[i]? = some v) : ∃ d, ds[i]? = some d ∧ RD c M ρ H d v := by
  have hi : i < ds.length := by
    rw [r.length]
    exact (List.getElem?_eq_some_iff.mp e).1
  obtain ⟨u, h1, h2⟩ := r.get (List.getElem?_eq_getElem hi)
  rw [e] at h1
  cases h1
  exact ⟨_, List.getElem?_eq_getElem hi, h2⟩
theorem RDs.append : ∀ {xs ys : List D} {us ws : List V}, RDs c M ρ H xs us → RDs c M ρ H ys ws → RDs c M ρ H (xs ++ ys) (us ++ ws)
  | _, _, _, _, .nil, s => s
  | _, _, _, _, .cons r t, s => .cons r (RDs.append t s)
theorem RDs.take : ∀ {xs : List D} {us : List V} (n : Nat), RDs c M ρ H xs us → RDs c M ρ H (xs.take n) (us.take n)
  | _, _, 0, _ => .nil
  | _, _, _ + 1, .nil => .nil
  | _, _, n + 1, .cons r t => .cons r (RDs.take n t)
theorem RDs.drop : ∀ {xs : List D} {us : List V} (n : Nat), RDs c M ρ H xs us → RDs c M ρ H (xs.drop n) (us.drop n)
  | _, _, 0, r => r
  | _, _, _ + 1, .nil => .nil
  | _, _, n + 1, .cons _ t => RDs.drop n t
theorem RDs.set {x : D} {u : V} (r : RD c M ρ H x u) : ∀ {xs : List D} {us : List V} (i : Nat), RDs c M ρ H xs us → RDs c M ρ H (xs.set i x) (us.set i u)
  | _, _, _, .nil => .nil
  | _, _, 0, .cons _ t => .cons r t
  | _, _, i + 1, .cons q t => .cons q (RDs.set r i t)
theorem RDs.eraseIdx : ∀ {xs : List D} {us : List V} (i : Nat), RDs c M ρ H xs us → RDs c M ρ H (xs.eraseIdx i) (us.eraseIdx i)
  | _, _, _, .nil => .nil
  | _, _, 0, .cons _ t => t
  | _, _, i + 1, .cons q t => .cons q (RDs.eraseIdx i t)
theorem RDs.dropLast {xs : List D} {us : List V} (h : RDs c M ρ H xs us) : RDs c M ρ H xs.dropLast us.dropLast := by
  rw [List.dropLast_eq_take, List.dropLast_eq_take, h.length]
  exact h.take _
theorem RDs.reverse {xs : List D} {us : List V} (h : RDs c M ρ H xs us) : RDs c M ρ H xs.reverse us.reverse := by
  induction h using RDs.rec (motive_1 := fun _ _ _ => True) with
  | nil => exact .nil
  | cons h t _ ih =>
    rw [List.reverse_cons, List.reverse_cons]
    exact ih.append (.cons h .nil)
  | _ => trivial
end
end DS
/-! DS2: states against slots and the abstract heap; readings. -/
namespace DS
open PySem PySem.Spec PyProof.Rows L2

def Slot.isOwn : Slot → Bool
  | .ol _ => true
  | .od _ _ _ => true
  | _ => false
section
variable (c : Cn) (M : Am) (ρ : List Addr) (H : Hp)
/-- a dict at a: by flat keys, or by tuples of such -/
def DctOk (k : Bool) (ks vs : List D) (a : Addr) : Prop := match k with
  | false => ∃ kvs : List (Key × V), H a = some (.dK kvs) ∧ ks = kvs.map (fun p => keyD p.1) ∧ RDs c M ρ H vs (kvs.map (·.2))
  | true => ∃ kvs : List (List Key × V), H a = some (.dT kvs) ∧ ks = kvs.map (fun p => .tup (p.1.map keyD)) ∧ RDs c M ρ H vs (kvs.map (·.2))
def OwnOk (sl : Slot) (a : Addr) : Prop := match sl with
  | .ol xs => ∃ vs, H a = some (.lst vs) ∧ RDs c M ρ H xs vs
  | .od k ks vs => DctOk c M ρ H k ks vs a
  | _ => False
def ObOk (o : Ob) (a : Addr) : Prop := match o with
  | .lst xs => ∃ vs, H a = some (.lst vs) ∧ RDs c M ρ H xs vs
end
/-- what may change -/
def mutO : HO → Bool
  | .lst _ => true
  | .dK _ => true
  | .dT _ => true
  | .ins _ _ _ => true
  | _ => false
structure HR (c : Cn) (M : Am) (ρ : List Addr) (hp : List Ob) (H : Hp) : Prop where
  hl : ρ.length = hp.length
  ho : ∀ (j : Nat) (o : Ob) (a : Addr), hp[j]? = some o → ρ[j]? = some a → ObOk c M ρ H o a
  nd : ρ.Nodup
  rm : ∀ a ∈ ρ, M a
  dom : ∀ a, M a → ∃ o, H a = some o ∧ mutO o = true
structure GR (g : Gr) (M : Am) (ρ : List Addr) (H : Hp) : Prop where
  g1 : ∀ a o, g.H0 a = some o → a ∉ g.ρ0 → H a = some o
  g2 : ∀ a o, g.H0 a = some o → ¬ g.M0 a → ¬ M a
  g3 : ∀ a, g.M0 a → M a
  gd : ∀ a, g.M0 a → ∃ o, g.H0 a = some o
  gm : ∀ a ∈ g.ρ0, g.M0 a
  gr : ∃ l, ρ = g.ρ0 ++ l ∧ ∀ a ∈ l, g.H0 a = none
  gp : ∀ a, g.P a → M a ∧ a ∉ ρ
structure ER (c : Cn) (g : Gr) (M : Am) (ρ : List Addr) (env : Env) (σ : L2.St) (H : Hp) : Prop where
  len : env.length = σ.length
  val : ∀ (i : Nat) (d : D), env[i]? = some (.v d) → ∃ v, σ[i]? = some (some v) ∧ RD c M ρ H d v
  own : ∀ (i : Nat) (sl : Slot), env[i]? = some sl → sl.isOwn = true → ∃ a, σ[i]? = some (some (.ref a)) ∧ OwnOk c M ρ H sl a ∧ M a ∧ a ∉ ρ ∧ g.H0 a = none
  pro : ∀ (i : Nat) (sl : Slot) (a : Addr), env[i]? = some sl → sl.isOwn = true → σ[i]? = some (some (.ref a)) → ¬ g.P a
  sep : ∀ (i j : Nat) (sl sl' : Slot) (a : Addr), env[i]? = some sl → sl.isOwn = true → env[j]? = some sl' → sl'.isOwn = true → σ[i]? = some (some (.ref a)) → σ[j]? = some (some (.ref a)) → i = j
structure Rel (c : Cn) (g : Gr) (M : Am) (ρ : List Addr) (s : S) (σ : L2.St) (H : Hp) : Prop where
  h : HR c M ρ s.hp H
  gd : GR g M ρ H
  e : ER c g M ρ s.env σ H

def Ext (H H' : Hp) : Prop := ∀ a o, H a = some o → H' a = some o
theorem Ext.refl (H : Hp) : Ext H H := fun _ _ h => h
theorem Ext.trans {H H1 H2 : Hp} (a : Ext H H1) (b : Ext H1 H2) : Ext H H2 := fun x o h => b x o (a x o h)
theorem Ext.new {H : Hp} {p : Addr} {o : HO} (n : H p = none) : Ext H (upd H p o) := fun a u e => by
  rw [upd_ne (ne_of_none e n)]
  exact e
section
variable {c : Cn} {g : Gr} {M M' : Am} {ρ ρ' : List Addr} {H H' : Hp} {s s' : S} {σ : L2.St}
theorem Keep.ext (e : Ext H H') (d : ∀ a, g.P a → ∃ o, H a = some o) : Keep g M ρ H M ρ H' := ⟨fun a o h m => ⟨e a o h, m⟩, ⟨[], (List.append_nil _).symm⟩, fun a h => by
  obtain ⟨o, ho⟩ := d a h
  rw [ho]
  exact e a o ho⟩
theorem RDs.ext (e : Ext H H') {d : List D} {v : List V} (h : RDs c M ρ H d v) : RDs c M ρ H' d v := h.keep (g := ⟨M, [], H, fun _ => False⟩) ⟨fun a o h m => ⟨e a o h, m⟩, ⟨[], (List.append_nil _).symm⟩, fun _ z => z.elim⟩
theorem RD.ext (e : Ext H H') {d : D} {v : V} (h : RD c M ρ H d v) : RD c M ρ H' d v := h.keep (g := ⟨M, [], H, fun _ => False⟩) ⟨fun a o h m => ⟨e a o h, m⟩, ⟨[], (List.append_nil _).symm⟩, fun _ z => z.elim⟩
theorem Rel.pd (r : Rel c g M ρ s σ H) : ∀ a, g.P a → ∃ o, H a = some o := fun a h => let ⟨o, ho, _⟩ := r.h.dom a (r.gd.gp a h).1; ⟨o, ho⟩
theorem Rel.kext (r : Rel c g M ρ s σ H) (e : Ext H H') : Keep g M ρ H M ρ H' := .ext e r.pd
theorem DctOk.keep (k : Keep g M ρ H M' ρ' H') {b : Bool} {ks vs : List D} {a : Addr} (he : H' a = H a) (h : DctOk c M ρ H b ks vs a) : DctOk c M' ρ' H' b ks vs a := by
  cases b with
  | false =>
    obtain ⟨kvs, h1, h2, h3⟩ := h
    exact ⟨kvs, by rw [he]; exact h1, h2, h3.keep k⟩
  | true =>
    obtain ⟨kvs, h1, h2, h3⟩ := h
    exact ⟨kvs, by rw [he]; exact h1, h2, h3.keep k⟩
theorem OwnOk.keep (k : Keep g M ρ H M' ρ' H') {sl : Slot} {a : Addr} (he : H' a = H a) (h : OwnOk c M ρ H sl a) : OwnOk c M' ρ' H' sl a := by
  cases sl with
  | ol xs =>
    obtain ⟨vs, h1, h2⟩ := h
    exact ⟨vs, by rw [he]; exact h1, h2.keep k⟩
  | od b ks vs => exact DctOk.keep k he h
  | un => exact h
  | v d => exact h
theorem ObOk.keep (k : Keep g M ρ H M' ρ' H') {o : Ob} {a : Addr} (he : H' a = H a) (h : ObOk c M ρ H o a) : ObOk c M' ρ' H' o a := by
  cases o with
  | lst xs =>
    obtain ⟨vs, h1, h2⟩ := h
    exact ⟨vs, by rw [he]; exact h1, h2.keep k⟩
/-- the mutable ones as they are, new untracked things -/
theorem Rel.ext (r : Rel c g M ρ s σ H) (e : Ext H H') : Rel c g M ρ s σ H' := by
  have k : Keep g M ρ H M ρ H' := r.kext e
  have same : ∀ a, M a → H' a = H a := fun a m => by
    obtain ⟨o, ho, _⟩ := r.h.dom a m
    rw [ho]
    exact e a o ho
  refine ⟨⟨r.h.hl, fun j o a h1 h2 => (r.h.ho j o a h1 h2).keep k (same a (r.h.rm a (List.mem_of_getElem? h2))), r.h.nd, r.h.rm, fun a m => ?_⟩,
    ⟨fun a o h n => e a o (r.gd.g1 a o h n), r.gd.g2, r.gd.g3, r.gd.gd, r.gd.gm, r.gd.gr, r.gd.gp⟩,
    ⟨r.e.len, fun i d h => ?_, fun i sl h o => ?_, r.e.pro, r.e.sep⟩⟩
  · obtain ⟨o, ho, q⟩ := r.h.dom a m
    exact ⟨o, e a o ho, q⟩
  · obtain ⟨v, hv, hd⟩ := r.e.val i d h
    exact ⟨v, hv, hd.keep k⟩
  · obtain ⟨a, h1, h2, h3, h4, h5⟩ := r.e.own i sl h o
    exact ⟨a, h1, h2.keep k (same a h3), h3, h4, h5⟩
end

/-! ### readings -/
/-- an exception that lies -/
def XR (c : Cn) (x : Exn) (cls : Value) (dd : Option Addr) (H : Hp) : Prop := x.arg = none ∧ dd = none ∧ ∃ C, cls = .ref C ∧ c.mg x.cls = some (.ref C)
section
variable (c : Cn) (g : Gr) (W : WX)
def OutE (M : Am) (ρ : List Addr) (σ : L2.St) (H : Hp) (r : R D) (Q : VK) : Prop := match r with
  | .ok d s' => ∀ M' ρ' v H', Rel c g M' ρ' s' σ H' → Keep g M ρ H M' ρ' H' → RD c M' ρ' H' d v → Q v H'
  | .exc x s' => ∀ M' ρ' H' cls dd, Rel c g M' ρ' s' σ H' → Keep g M ρ H M' ρ' H' → XR c x cls dd H' → W cls dd σ H'
  | .bad => False
def tE (f : Ex) : TE := fun σ H Q => ∃ g M ρ s, Rel c g M ρ s σ H ∧ OutE c g W M ρ σ H (f s) Q
/-- a value at hand, or a name's own list at its slot -/
inductive Tok where
  | d (x : D) | s (i : Nat)
abbrev Op := S → R DS.Tok
def TokR (M : Am) (ρ : List Addr) (σ : L2.St) (H : Hp) (t : DS.Tok) (v : V) : Prop := match t with
  | .d x => RD c M ρ H x v
  | .s i => σ[i]? = some (some v)
def OutO (M : Am) (ρ : List Addr) (σ : L2.St) (H : Hp) (r : R DS.Tok) (Q : VK) : Prop := match r with
  | .ok t s' => ∀ M' ρ' v H', Rel c g M' ρ' s' σ H' → Keep g M ρ H M' ρ' H' → TokR c M' ρ' σ H' t v → Q v H'
  | .exc x s' => ∀ M' ρ' H' cls dd, Rel c g M' ρ' s' σ H' → Keep g M ρ H M' ρ' H' → XR c x cls dd H' → W cls dd σ H'
  | .bad => False
def tO (f : Op) : TE := fun σ H Q => ∃ g M ρ s, Rel c g M ρ s σ H ∧ OutO c g W M ρ σ H (f s) Q
/-- a new list, no name's and no value's -/
def Free (M : Am) (ρ : List Addr) (env : Env) (σ : L2.St) (a : Addr) : Prop := M a ∧ a ∉ ρ ∧ g.H0 a = none ∧ ¬ g.P a ∧ ∀ (i : Nat) (sl : Slot), env[i]? = some sl → sl.isOwn = true → σ[i]? ≠ some (some (.ref a))
def OutL (M : Am) (ρ : List Addr) (σ : L2.St) (H : Hp) (r : R (List D)) (Q : VK) : Prop := match r with
  | .ok xs s' => ∀ M' ρ' a vs H', Rel c g M' ρ' s' σ H' → Keep g M ρ H M' ρ' H' → H' a = some (.lst vs) → RDs c M' ρ' H' xs vs → Free g M' ρ' s'.env σ a → Q (.ref a) H'
  | .exc x s' => ∀ M' ρ' H' cls dd, Rel c g M' ρ' s' σ H' → Keep g M ρ H M' ρ' H' → XR c x cls dd H' → W cls dd σ H'
  | .bad => False
def tL (f : ExL) : TE := fun σ H Q => ∃ g M ρ s, Rel c g M ρ s σ H ∧ OutL c g W M ρ σ H (f s) Q
def OutS (M : Am) (ρ : List Addr) (H : Hp) (r : R Fl) (D : Ends) : Prop := match r with
  | .ok .nx s' => ∀ M' ρ' σ' H', Rel c g M' ρ' s' σ' H' → Keep g M ρ H M' ρ' H' → D.nx σ' H'
  | .ok (.rt d) s' => ∀ M' ρ' σ' H' v, Rel c g M' ρ' s' σ' H' → Keep g M ρ H M' ρ' H' → RD c M' ρ' H' d v → D.rt v H'
  | .ok .bk s' => ∀ M' ρ' σ' H', Rel c g M' ρ' s' σ' H' → Keep g M ρ H M' ρ' H' → D.bk σ' H'
  | .ok .ct s' => ∀ M' ρ' σ' H', Rel c g M' ρ' s' σ' H' → Keep g M ρ H M' ρ' H' → D.ct σ' H'
  | .exc x s' => ∀ M' ρ' σ' H' cls dd, Rel c g M' ρ' s' σ' H' → Keep g M ρ H M' ρ' H' → XR c x cls dd H' → W cls dd σ' H'
  | .bad => False
def tS (f : Sm) : TS := fun D σ H => ∃ g M ρ s, Rel c g M ρ s σ H ∧ OutS c g W M ρ H (f s) D
end
section
variable {c : Cn} {g : Gr} {W : WX} {M M' M1 : Am} {ρ ρ' ρ1 : List Addr} {H H' H1 : Hp} {s s' : S} {σ : L2.St} {Q : VK}
theorem OutE.keep (k : Keep g M ρ H M1 ρ1 H1) {r : R D} (h : OutE c g W M ρ σ H r Q) : OutE c g W M1 ρ1 σ H1 r Q := by
  cases r with
  | ok d s' => exact fun M' ρ' v H' a b e => h M' ρ' v H' a (k.trans b) e
  | exc x s' => exact fun M' ρ' H' cls dd a b e => h M' ρ' H' cls dd a (k.trans b) e
  | bad => exact h
theorem OutL.keep (k : Keep g M ρ H M1 ρ1 H1) {r : R (List D)} (h : OutL c g W M ρ σ H r Q) : OutL c g W M1 ρ1 σ H1 r Q := by
  cases r with
  | ok d s' => exact fun M' ρ' a vs H' x b => h M' ρ' a vs H' x (k.trans b)
  | exc x s' => exact fun M' ρ' H' cls dd a b e => h M' ρ' H' cls dd a (k.trans b) e
  | bad => exact h
theorem OutS.keep (k : Keep g M ρ H M1 ρ1 H1) {r : R Fl} {D : Ends} (h : OutS c g W M ρ H r D) : OutS c g W M1 ρ1 H1 r D := by
  cases r with
  | ok fl s' =>
    cases fl with
    | nx => exact fun M' ρ' σ' H' a b => h M' ρ' σ' H' a (k.trans b)
    | bk => exact fun M' ρ' σ' H' a b => h M' ρ' σ' H' a (k.trans b)
    | ct => exact fun M' ρ' σ' H' a b => h M' ρ' σ' H' a (k.trans b)
    | rt d => exact fun M' ρ' σ' H' v a b e => h M' ρ' σ' H' v a (k.trans b) e
  | exc x s' => exact fun M' ρ' σ' H' cls dd a b e => h M' ρ' σ' H' cls dd a (k.trans b) e
  | bad => exact h
theorem TokR.keep (k : Keep g M ρ H M1 ρ1 H1) {t : DS.Tok} {v : V} (h : TokR c M ρ σ H t v) : TokR c M1 ρ1 σ H1 t v := by
  cases t with
  | d x => exact RD.keep k h
  | s i => exact h
/-- what leads on: an operand, then the rest -/
theorem tO.bind {β : Type} {f : Op} {k : DS.Tok → S → R β} {out : Am → List Addr → Hp → R β → Prop} (rel : Rel c g M ρ s σ H)
    (hx : ∀ x s', out M ρ H (.exc x s') → ∀ M' ρ' H' cls dd, Rel c g M' ρ' s' σ H' → Keep g M ρ H M' ρ' H' → XR c x cls dd H' → W cls dd σ H') (hb : ¬ out M ρ H .bad)
    (h : out M ρ H ((f s).bind k)) (hq : ∀ t s1 M1 ρ1 v H1, Rel c g M1 ρ1 s1 σ H1 → Keep g M ρ H M1 ρ1 H1 → TokR c M1 ρ1 σ H1 t v → out M ρ H (k t s1) → Q v H1) : tO c W f σ H Q := by
  refine ⟨g, M, ρ, s, rel, ?_⟩
  cases e : f s with
  | ok t s1 =>
    rw [e] at h
    exact fun M1 ρ1 v H1 r1 k1 t1 => hq t s1 M1 ρ1 v H1 r1 k1 t1 h
  | exc x s1 =>
    rw [e] at h
    exact hx x s1 h
  | bad =>
    rw [e] at h
    exact hb h
theorem tE.bind {β : Type} {f : Ex} {k : D → S → R β} {out : Am → List Addr → Hp → R β → Prop} (rel : Rel c g M ρ s σ H)
    (hx : ∀ x s', out M ρ H (.exc x s') → ∀ M' ρ' H' cls dd, Rel c g M' ρ' s' σ H' → Keep g M ρ H M' ρ' H' → XR c x cls dd H' → W cls dd σ H') (hb : ¬ out M ρ H .bad)
    (h : out M ρ H ((f s).bind k)) (hq : ∀ d s1 M1 ρ1 v H1, Rel c g M1 ρ1 s1 σ H1 → Keep g M ρ H M1 ρ1 H1 → RD c M1 ρ1 H1 d v → out M ρ H (k d s1) → Q v H1) : tE c W f σ H Q := by
  refine ⟨g, M, ρ, s, rel, ?_⟩
  cases e : f s with
  | ok t s1 =>
    rw [e] at h
    exact fun M1 ρ1 v H1 r1 k1 t1 => hq t s1 M1 ρ1 v H1 r1 k1 t1 h
  | exc x s1 =>
    rw [e] at h
    exact hx x s1 h
  | bad =>
    rw [e] at h
    exact hb h
theorem tL.bind {β : Type} {f : ExL} {k : List D → S → R β} {out : Am → List Addr → Hp → R β → Prop} (rel : Rel c g M ρ s σ H)
    (hx : ∀ x s', out M ρ H (.exc x s') → ∀ M' ρ' H' cls dd, Rel c g M' ρ' s' σ H' → Keep g M ρ H M' ρ' H' → XR c x cls dd H' → W cls dd σ H') (hb : ¬ out M ρ H .bad)
    (h : out M ρ H ((f s).bind k)) (hq : ∀ xs s1 M1 ρ1 a vs H1, Rel c g M1 ρ1 s1 σ H1 → Keep g M ρ H M1 ρ1 H1 → H1 a = some (.lst vs) → RDs c M1 ρ1 H1 xs vs → Free g M1 ρ1 s1.env σ a → out M ρ H (k xs s1) → Q (.ref a) H1) : tL c W f σ H Q := by
  refine ⟨g, M, ρ, s, rel, ?_⟩
  cases e : f s with
  | ok t s1 =>
    rw [e] at h
    exact fun M1 ρ1 a vs H1 r1 k1 q1 q2 q3 => hq t s1 M1 ρ1 a vs H1 r1 k1 q1 q2 q3 h
  | exc x s1 =>
    rw [e] at h
    exact hx x s1 h
  | bad =>
    rw [e] at h
    exact hb h
/-- another reading of the same code -/
theorem pe_imp {X : Cx} {e : Expr} {t t' : TE} (h : PE X e t) (i : ∀ σ H Q, t' σ H Q → t σ H Q) : PE X e t' := ⟨fun pins s σ H Q I q => h.run pins s σ H Q I (i _ _ _ q)⟩
theorem pt_imp {X : Cx} {e : Expr} {t t' : TT} (h : PT X e t) (i : ∀ σ H Q, t' σ H Q → t σ H Q) : PT X e t' := ⟨fun pins s σ H Q I q => h.run pins s σ H Q I (i _ _ _ q)⟩
theorem pw_imp {X : Cx} {e : Expr} {t t' : TT} (h : PW X e t) (i : ∀ σ H Q, t' σ H Q → t σ H Q) : PW X e t' := ⟨fun wh pins s σ H Q I q => h.run wh pins s σ H Q I (i _ _ _ q)⟩
theorem pa_imp {X : Cx} {e : List Expr} {t t' : TA} (h : PA X e t) (i : ∀ σ H Q, t' σ H Q → t σ H Q) : PA X e t' := ⟨fun pos pins s σ H Q I q => h.run pos pins s σ H Q I (i _ _ _ q)⟩
theorem ps_imp {X : Cx} {e : Stmt} {t t' : TS} (h : PS X e t) (i : ∀ D σ H, t' D σ H → t D σ H) : PS X e t' := ⟨fun pins s σ H D I q => h.run pins s σ H D I (i _ _ _ q)⟩
theorem pss_imp {X : Cx} {e : List Stmt} {t t' : TS} (h : PSs X e t) (i : ∀ D σ H, t' D σ H → t D σ H) : PSs X e t' := ⟨fun pins s σ H D I q => h.run pins s σ H D I (i _ _ _ q)⟩
end

/-! ### a name's own list as it stands -/
def derefD (s : S) : D → Option D
  | .ref j => match s.hp[j]? with
    | some (.lst xs) => some (.lst xs)
    | none => none
  | d => some d
def deref (s : S) : DS.Tok → Option D
  | .d x => derefD s x
  | .s i => match s.env[i]? with
    | some (.v d) => derefD s d
    | some (.ol xs) => some (.lst xs)
    | some (.od k ks vs) => some (.dct k ks vs)
    | _ => none
/-- data that stands for now -/
inductive RW (c : Cn) (M : Am) (ρ : List Addr) (H : Hp) : D → V → Prop
  | v {d : D} {v : V} (h : RD c M ρ H d v) (n : ∀ j, d ≠ .ref j) : RW c M ρ H d v
  | l {xs : List D} {a : Addr} {vs : List V} (h : H a = some (.lst vs)) (r : RDs c M ρ H xs vs) : RW c M ρ H (.lst xs) (.ref a)
  | d {k : Bool} {ks vs : List D} {a : Addr} (h : DctOk c M ρ H k ks vs a) : RW c M ρ H (.dct k ks vs) (.ref a)
section
variable {c : Cn} {g : Gr} {M : Am} {ρ : List Addr} {H : Hp} {s : S} {σ : L2.St}
theorem RW.of_deref (r : Rel c g M ρ s σ H) {x d : D} {v : V} (h : RD c M ρ H x v) (e : derefD s x = some d) : RW c M ρ H d v := by
  cases h with
  | ref h =>
    rename_i j a
    have e : (match s.hp[j]? with | some (Ob.lst xs) => some (D.lst xs) | none => none) = some d := e
    cases q : s.hp[j]? with
    | none => simp only [q] at e; cases e
    | some o =>
      simp only [q] at e
      cases o with
      | lst xs =>
        cases e
        obtain ⟨vs, h1, h2⟩ := r.h.ho j _ a q h
        exact .l h1 h2
  | non => cases e; exact .v .non (fun j z => by cases z)
  | bl b => cases e; exact .v (.bl b) (fun j z => by cases z)
  | int i => cases e; exact .v (.int i) (fun j z => by cases z)
  | str y => cases e; exact .v (.str y) (fun j z => by cases z)
  | fn h => cases e; exact .v (.fn h) (fun j z => by cases z)
  | tupH h m q => cases e; exact .v (.tupH h m q) (fun j z => by cases z)
  | tupK h q => cases e; exact .v (.tupK h q) (fun j z => by cases z)
  | lst h m q => cases e; exact .v (.lst h m q) (fun j z => by cases z)
  | scr h m q => cases e; exact .v (.scr h m q) (fun j z => by cases z)
  | scrK h q => cases e; exact .v (.scrK h q) (fun j z => by cases z)
  | dctK h m q r => cases e; exact .v (.dctK h m q r) (fun j z => by cases z)
  | dctT h m q r => cases e; exact .v (.dctT h m q r) (fun j z => by cases z)
theorem RW.of_tok (r : Rel c g M ρ s σ H) {t : DS.Tok} {d : D} {v : V} (h : TokR c M ρ σ H t v) (e : deref s t = some d) : RW c M ρ H d v := by
  cases t with
  | d x => exact RW.of_deref r h e
  | s i =>
    unfold deref at e
    have h : σ[i]? = some (some v) := h
    cases q : s.env[i]? with
    | none => simp only [q] at e; cases e
    | some sl =>
      simp only [q] at e
      cases sl with
      | un => cases e
      | v x =>
        obtain ⟨u, h1, h2⟩ := r.e.val i x q
        rw [h] at h1
        cases h1
        exact RW.of_deref r h2 e
      | ol xs =>
        cases e
        obtain ⟨a, h1, ⟨vs, h2, h3⟩, _⟩ := r.e.own i _ q rfl
        rw [h] at h1
        cases h1
        exact .l h2 h3
      | od k ks vs =>
        cases e
        obtain ⟨a, h1, h2, _⟩ := r.e.own i _ q rfl
        rw [h] at h1
        cases h1
        exact .d h2
end
end DS
/-! DS3: how states change; names, constants, operators, tests. -/
namespace DS
open PySem PySem.Spec PyProof.Rows L2

theorem set_self {α : Type} : ∀ {l : List α} {i : Nat} {x : α}, l[i]? = some x → l.set i x = l
  | [], _, _, h => by simp at h
  | y :: l, 0, x, h => by simp at h; subst h; rfl
  | y :: l, i + 1, x, h => by
    show y :: l.set i x = y :: l
    rw [set_self (by simpa using h)]
section
variable {c : Cn} {g : Gr} {M : Am} {ρ : List Addr} {env : Env} {hp : List Ob} {σ : L2.St} {H : Hp} {i : Nat} {a : Addr}
theorem get_set_ne {α : Type} {l : List α} {i j : Nat} {x : α} (h : j ≠ i) : (l.set i x)[j]? = l[j]? := List.getElem?_set_ne (Ne.symm h)
theorem get_set_eq {α : Type} {l : List α} {i : Nat} {x : α} (h : i < l.length) : (l.set i x)[i]? = some x := by simp [h]
theorem get_set_some {α : Type} {l : List α} {i j : Nat} {x y : α} (h : (l.set i x)[j]? = some y) : (j = i ∧ y = x ∧ i < l.length) ∨ (j ≠ i ∧ l[j]? = some y) := by
  by_cases e : j = i
  · subst e
    left
    have hl : j < (l.set j x).length := (List.getElem?_eq_some_iff.mp h).1
    rw [List.length_set] at hl
    rw [get_set_eq hl] at h
    exact ⟨rfl, (Option.some.inj h).symm, hl⟩
  · right
    rw [get_set_ne e] at h
    exact ⟨e, h⟩
/-- a slot holds a value -/
theorem Rel.setv (r : Rel c g M ρ ⟨env, hp⟩ σ H) {d : D} {v : V} (hv : RD c M ρ H d v) : Rel c g M ρ ⟨env.set i (.v d), hp⟩ (σ.set i (some v)) H := by
  refine ⟨r.h, r.gd, ⟨by simp [r.e.len], fun j d' h => ?_, fun j sl h o => ?_, fun j sl b h o e => ?_, fun j k sl sl' b h o h' o' e e' => ?_⟩⟩
  · rcases get_set_some h with ⟨rfl, e, hl⟩ | ⟨ne, h⟩
    · cases e
      exact ⟨v, get_set_eq (by rw [← r.e.len]; exact hl), hv⟩
    · obtain ⟨u, h1, h2⟩ := r.e.val j d' h
      exact ⟨u, by rw [get_set_ne ne]; exact h1, h2⟩
  · rcases get_set_some h with ⟨rfl, e, hl⟩ | ⟨ne, h⟩
    · cases e
      cases o
    · obtain ⟨a, h1, h2⟩ := r.e.own j sl h o
      exact ⟨a, by rw [get_set_ne ne]; exact h1, h2⟩
  · rcases get_set_some h with ⟨rfl, q, hl⟩ | ⟨ne, h⟩
    · cases q
      cases o
    · rw [get_set_ne ne] at e
      exact r.e.pro j sl b h o e
  · rcases get_set_some h with ⟨rfl, q, hl⟩ | ⟨ne, h⟩
    · cases q
      cases o
    · rcases get_set_some h' with ⟨rfl, q, hl⟩ | ⟨ne', h'⟩
      · cases q
        cases o'
      · rw [get_set_ne ne] at e
        rw [get_set_ne ne'] at e'
        exact r.e.sep j k sl sl' b h o h' o' e e'
/-- a slot is given up -/
theorem Rel.unslot (r : Rel c g M ρ ⟨env, hp⟩ σ H) (i : Nat) : Rel c g M ρ ⟨env.set i .un, hp⟩ σ H := by
  refine ⟨r.h, r.gd, ⟨by simp [r.e.len], fun j d' h => ?_, fun j sl h o => ?_, fun j sl b h o e => ?_, fun j k sl sl' b h o h' o' e e' => ?_⟩⟩
  · rcases get_set_some h with ⟨rfl, e, hl⟩ | ⟨ne, h⟩
    · cases e
    · exact r.e.val j d' h
  · rcases get_set_some h with ⟨rfl, e, hl⟩ | ⟨ne, h⟩
    · cases e
      cases o
    · exact r.e.own j sl h o
  · rcases get_set_some h with ⟨rfl, q, hl⟩ | ⟨ne, h⟩
    · cases q
      cases o
    · exact r.e.pro j sl b h o e
  · rcases get_set_some h with ⟨rfl, q, hl⟩ | ⟨ne, h⟩
    · cases q
      cases o
    · rcases get_set_some h' with ⟨rfl, q, hl⟩ | ⟨ne', h'⟩
      · cases q
        cases o'
      · exact r.e.sep j k sl sl' b h o h' o' e e'
/-- an own list is no name's any more, nor mutable -/
def less (M : Am) (a : Addr) : Am := fun b => M b ∧ b ≠ a
theorem Rel.lessM {s : S} (r : Rel c g M ρ s σ H) (f : Free g M ρ s.env σ a) : Rel c g (less M a) ρ s σ H := by
  have l : ∀ b, less M a b → M b := fun b h => h.1
  have k : Keep g M ρ H (less M a) ρ H := ⟨fun b o h m => ⟨h, fun z => m z.1⟩, ⟨[], (List.append_nil _).symm⟩, fun _ _ => rfl⟩
  obtain ⟨f1, f2, f3, f5, f4⟩ := f
  refine ⟨⟨r.h.hl, fun j o b h1 h2 => (r.h.ho j o b h1 h2).keep k rfl, r.h.nd, fun b hb => ⟨r.h.rm b hb, fun z => f2 (z ▸ hb)⟩, fun b m => r.h.dom b m.1⟩,
    ⟨r.gd.g1, fun b o h n z => r.gd.g2 b o h n z.1, fun b h => ⟨r.gd.g3 b h, fun z => ?_⟩, r.gd.gd, r.gd.gm, r.gd.gr, fun b h => ⟨⟨(r.gd.gp b h).1, fun z => f5 (z ▸ h)⟩, (r.gd.gp b h).2⟩⟩, ⟨r.e.len, fun j d h => ?_, fun j sl h o => ?_, r.e.pro, r.e.sep⟩⟩
  · subst z
    obtain ⟨o, ho⟩ := r.gd.gd b h
    rw [f3] at ho
    cases ho
  · obtain ⟨v, h1, h2⟩ := r.e.val j d h
    exact ⟨v, h1, h2.keep k⟩
  · obtain ⟨b, h1, h2, h3, h4, h5⟩ := r.e.own j sl h o
    exact ⟨b, h1, h2.keep k rfl, ⟨h3, fun z => f4 j sl h o (z ▸ h1)⟩, h4, h5⟩
theorem keep_less : Keep g M ρ H (less M a) ρ H := ⟨fun b o h m => ⟨h, fun z => m z.1⟩, ⟨[], (List.append_nil _).symm⟩, fun _ _ => rfl⟩
/-- a slot takes a free list -/
theorem Rel.setown (r : Rel c g M ρ ⟨env, hp⟩ σ H) (f : Free g M ρ env σ a) {sl : Slot} (ho : sl.isOwn = true) (h : OwnOk c M ρ H sl a) : Rel c g M ρ ⟨env.set i sl, hp⟩ (σ.set i (some (.ref a))) H := by
  obtain ⟨f1, f2, f3, f5, f4⟩ := f
  refine ⟨r.h, r.gd, ⟨by simp [r.e.len], fun j d' h' => ?_, fun j sl' h' o => ?_, fun j sl' b h' o e => ?_, fun j k sl1 sl2 b h1 o1 h2 o2 e e' => ?_⟩⟩
  · rcases get_set_some h' with ⟨rfl, e, hl⟩ | ⟨ne, h'⟩
    · subst e
      cases ho
    · obtain ⟨u, h1, h2⟩ := r.e.val j d' h'
      exact ⟨u, by rw [get_set_ne ne]; exact h1, h2⟩
  · rcases get_set_some h' with ⟨rfl, e, hl⟩ | ⟨ne, h'⟩
    · subst e
      exact ⟨a, get_set_eq (by rw [← r.e.len]; exact hl), h, f1, f2, f3⟩
    · obtain ⟨b, h1, h2⟩ := r.e.own j sl' h' o
      exact ⟨b, by rw [get_set_ne ne]; exact h1, h2⟩
  · rcases get_set_some h' with ⟨rfl, q, hl⟩ | ⟨ne, h'⟩
    · rw [get_set_eq (by rw [← r.e.len]; exact hl)] at e
      cases e
      exact f5
    · rw [get_set_ne ne] at e
      exact r.e.pro j sl' b h' o e
  · rcases get_set_some h1 with ⟨e1, q, hl⟩ | ⟨ne, p1⟩
    · rcases get_set_some h2 with ⟨e2, q', hl'⟩ | ⟨ne', p2⟩
      · rw [e1, e2]
      · rw [e1, get_set_eq (by rw [← r.e.len]; exact hl)] at e
        rw [get_set_ne ne'] at e'
        cases e
        exact absurd e' (f4 k sl2 p2 o2)
    · rcases get_set_some h2 with ⟨e2, q', hl'⟩ | ⟨ne', p2⟩
      · rw [e2, get_set_eq (by rw [← r.e.len]; exact hl')] at e'
        rw [get_set_ne ne] at e
        cases e'
        exact absurd e (f4 j sl1 p1 o1)
      · rw [get_set_ne ne] at e
        rw [get_set_ne ne'] at e'
        exact r.e.sep j k sl1 sl2 b p1 o1 p2 o2 e e'
/-- a new list is laid -/
def more (M : Am) (a : Addr) : Am := fun b => M b ∨ b = a
theorem keep_more {H' : Hp} (e : Ext H H') (n : H a = none) (d : ∀ a, g.P a → ∃ o, H a = some o) : Keep g M ρ H (more M a) ρ H' := ⟨fun b o h m => ⟨e b o h, fun z => z.elim m fun q => ne_of_none h n q⟩, ⟨[], (List.append_nil _).symm⟩, fun b h => by
  obtain ⟨o, ho⟩ := d b h
  rw [ho]
  exact e b o ho⟩
theorem Rel.newM {s : S} {H' : Hp} (r : Rel c g M ρ s σ H) (e : Ext H H') (n : H a = none) {o : HO} (ha : H' a = some o) (mo : mutO o = true) : Rel c g (more M a) ρ s σ H' ∧ Free g (more M a) ρ s.env σ a := by
  have k : Keep g M ρ H (more M a) ρ H' := keep_more e n r.pd
  have same : ∀ b, M b → H' b = H b := fun b m => by
    obtain ⟨o, ho, _⟩ := r.h.dom b m
    rw [ho]
    exact e b o ho
  have nM : ¬ M a := fun m => by
    obtain ⟨o, ho, _⟩ := r.h.dom a m
    rw [n] at ho
    cases ho
  have n0 : g.H0 a = none := by
    cases q : g.H0 a with
    | none => rfl
    | some o =>
      by_cases hr : a ∈ g.ρ0
      · exact absurd (r.gd.g3 a (r.gd.gm a hr)) nM
      · rw [r.gd.g1 a o q hr] at n
        cases n
  refine ⟨⟨⟨r.h.hl, fun j o b h1 h2 => (r.h.ho j o b h1 h2).keep k (same b (r.h.rm b (List.mem_of_getElem? h2))), r.h.nd, fun b hb => .inl (r.h.rm b hb), fun b m => ?_⟩,
    ⟨fun b o h q => e b o (r.gd.g1 b o h q), fun b o h q z => ?_, fun b h => .inl (r.gd.g3 b h), r.gd.gd, r.gd.gm, r.gd.gr, fun b h => ⟨.inl (r.gd.gp b h).1, (r.gd.gp b h).2⟩⟩, ⟨r.e.len, fun j d h => ?_, fun j sl h o => ?_, r.e.pro, r.e.sep⟩⟩,
    .inr rfl, fun hr => nM (r.h.rm a hr), n0, fun hp => nM (r.gd.gp a hp).1, fun j sl h o z => ?_⟩
  · rcases m with m | rfl
    · obtain ⟨o, ho, q⟩ := r.h.dom b m
      exact ⟨o, e b o ho, q⟩
    · exact ⟨_, ha, mo⟩
  · rcases z with z | z
    · exact r.gd.g2 b o h q z
    · subst z
      rw [n0] at h
      cases h
  · obtain ⟨v, h1, h2⟩ := r.e.val j d h
    exact ⟨v, h1, h2.keep k⟩
  · obtain ⟨b, h1, h2, h3, h4, h5⟩ := r.e.own j sl h o
    exact ⟨b, h1, h2.keep k (same b h3), .inl h3, h4, h5⟩
  · obtain ⟨b, h1, h2, h3, h4, h5⟩ := r.e.own j sl h o
    rw [h1] at z
    cases z
    exact nM h3
/-- a slot's own list is changed -/
theorem Rel.mutown (r : Rel c g M ρ ⟨env, hp⟩ σ H) {sl sl' : Slot} {o : HO} (h : env[i]? = some sl) (ho : sl.isOwn = true) (hs : σ[i]? = some (some (.ref a))) (ho' : sl'.isOwn = true) (mo : mutO o = true)
    (h' : OwnOk c M ρ (upd H a o) sl' a) : Rel c g M ρ ⟨env.set i sl', hp⟩ σ (upd H a o) := by
  obtain ⟨b, h1, h2, h3, h4, h5⟩ := r.e.own i sl h ho
  rw [hs] at h1
  cases h1
  have k : Keep g M ρ H M ρ (upd H a o) := ⟨fun b u q m => ⟨by rw [upd_ne (fun z : b = a => m (by rw [z]; exact h3))]; exact q, m⟩, ⟨[], (List.append_nil _).symm⟩, fun b hb => upd_ne (fun z : b = a => r.e.pro i sl a h ho hs (by rw [← z]; exact hb))⟩
  have same : ∀ b, b ≠ a → upd H a o b = H b := fun b q => upd_ne q
  have hi : i < env.length := (List.getElem?_eq_some_iff.mp h).1
  refine ⟨⟨r.h.hl, fun j ob b q1 q2 => (r.h.ho j ob b q1 q2).keep k (same b (fun z => h4 (z ▸ List.mem_of_getElem? q2))), r.h.nd, r.h.rm, fun b m => ?_⟩,
    ⟨fun b u q n => by rw [same b (fun z => by rw [z] at q; rw [h5] at q; cases q)]; exact r.gd.g1 b u q n, r.gd.g2, r.gd.g3, r.gd.gd, r.gd.gm, r.gd.gr, r.gd.gp⟩, ⟨by simp [r.e.len], fun j d q => ?_, fun j s2 q oq => ?_, fun j s2 b q oq e => ?_, fun j l s1 s2 b q1 o1 q2 o2 e1 e2 => ?_⟩⟩
  · by_cases e : b = a
    · subst e
      exact ⟨o, upd_same, mo⟩
    · obtain ⟨u, q1, q2⟩ := r.h.dom b m
      exact ⟨u, by rw [same b e]; exact q1, q2⟩
  · rcases get_set_some q with ⟨rfl, e, hl⟩ | ⟨ne, q⟩
    · subst e
      cases ho'
    · obtain ⟨v, q1, q2⟩ := r.e.val j d q
      exact ⟨v, q1, q2.keep k⟩
  · rcases get_set_some q with ⟨rfl, e, hl⟩ | ⟨ne, q⟩
    · subst e
      exact ⟨a, hs, h', h3, h4, h5⟩
    · obtain ⟨b, q1, q2, q3, q4, q5⟩ := r.e.own j s2 q oq
      refine ⟨b, q1, q2.keep k (same b fun z => ?_), q3, q4, q5⟩
      subst z
      exact ne (r.e.sep j i s2 sl b q oq h ho q1 hs)
  · rcases get_set_some q with ⟨rfl, e', hl⟩ | ⟨ne, q⟩
    · exact r.e.pro j sl b h ho e
    · exact r.e.pro j s2 b q oq e
  · have up : ∀ {j : Nat} {s1 : Slot}, (env.set i sl')[j]? = some s1 → s1.isOwn = true → ∃ s0, env[j]? = some s0 ∧ s0.isOwn = true := fun {j s1} q o => by
      rcases get_set_some q with ⟨rfl, e, hl⟩ | ⟨ne, q⟩
      · exact ⟨sl, h, ho⟩
      · exact ⟨s1, q, o⟩
    obtain ⟨u1, p1, p2⟩ := up q1 o1
    obtain ⟨u2, p3, p4⟩ := up q2 o2
    exact r.e.sep j l u1 u2 b p1 p2 p3 p4 e1 e2
theorem keep_mut {o : HO} (m : M a) (p : ¬ g.P a) : Keep g M ρ H M ρ (upd H a o) := ⟨fun b u q n => ⟨by rw [upd_ne (fun z : b = a => n (by rw [z]; exact m))]; exact q, n⟩, ⟨[], (List.append_nil _).symm⟩, fun b hb => upd_ne (fun z : b = a => p (by rw [← z]; exact hb))⟩
/-- a shared list is changed -/
theorem Rel.muthp {s : S} (r : Rel c g M ρ s σ H) {j : Nat} {ob : Ob} {o : HO} (hj : ρ[j]? = some a) (mo : mutO o = true) (h' : ObOk c M ρ (upd H a o) ob a) : Rel c g M ρ ⟨s.env, s.hp.set j ob⟩ σ (upd H a o) := by
  have hm : a ∈ ρ := List.mem_of_getElem? hj
  have k : Keep g M ρ H M ρ (upd H a o) := keep_mut (r.h.rm a hm) (fun hp => (r.gd.gp a hp).2 hm)
  have same : ∀ b, b ≠ a → upd H a o b = H b := fun b q => upd_ne q
  refine ⟨⟨by simp [r.h.hl], fun l ob' b q1 q2 => ?_, r.h.nd, r.h.rm, fun b m => ?_⟩, ⟨fun b u q n => ?_, r.gd.g2, r.gd.g3, r.gd.gd, r.gd.gm, r.gd.gr, r.gd.gp⟩, ⟨r.e.len, fun i d q => ?_, fun i s2 q oq => ?_, r.e.pro, r.e.sep⟩⟩
  · rcases get_set_some q1 with ⟨rfl, e, hl⟩ | ⟨ne, q1⟩
    · subst e
      rw [hj] at q2
      cases q2
      exact h'
    · refine (r.h.ho l ob' b q1 q2).keep k (same b fun z => ne ?_)
      subst z
      have n1 : j < ρ.length := (List.getElem?_eq_some_iff.mp hj).1
      have n2 : l < ρ.length := (List.getElem?_eq_some_iff.mp q2).1
      exact (List.getElem_inj r.h.nd).mp (by rw [(List.getElem?_eq_some_iff.mp q2).2, (List.getElem?_eq_some_iff.mp hj).2])
  · by_cases e : b = a
    · subst e
      exact ⟨o, upd_same, mo⟩
    · obtain ⟨u, q1, q2⟩ := r.h.dom b m
      exact ⟨u, by rw [same b e]; exact q1, q2⟩
  · rw [same b (fun z => ?_)]
    · exact r.gd.g1 b u q n
    · subst z
      obtain ⟨l, e, hl⟩ := r.gd.gr
      rw [e] at hm
      rcases List.mem_append.mp hm with hm | hm
      · exact n hm
      · rw [hl b hm] at q
        cases q
  · obtain ⟨v, q1, q2⟩ := r.e.val i d q
    exact ⟨v, q1, q2.keep k⟩
  · obtain ⟨b, q1, q2, q3, q4, q5⟩ := r.e.own i s2 q oq
    exact ⟨b, q1, q2.keep k (same b fun z => q4 (z ▸ hm)), q3, q4, q5⟩
end

/-! ### names and constants -/
def cst (d : D) : Ex := fun s => .ok d s
def var (i : Nat) : Ex := fun s => match s.env[i]? with
  | some (.v d) => .ok d s
  | some (.ol xs) => .ok (.lst xs) ⟨s.env.set i (.v (.lst xs)), s.hp⟩
  | some (.od k ks vs) => .ok (.dct k ks vs) ⟨s.env.set i (.v (.dct k ks vs)), s.hp⟩
  | _ => .bad
def oV (f : Ex) : Op := fun s => (f s).map .d
def oS (i : Nat) : Op := fun s => match s.env[i]? with
  | some .un => .bad
  | none => .bad
  | _ => .ok (.s i) s
/-- a list as a value -/
def ofL (f : ExL) : Ex := fun s => (f s).map .lst
section
variable {X : Cx} {c : Cn} {g : Gr} {W : WX} {pos : Pos}
theorem tE.cst {d : D} {v : V} {σ : L2.St} {H : Hp} {Q : VK} (hv : ∀ M ρ H, RD c M ρ H d v) (h : tE c W (cst d) σ H Q) : Q v H := by
  obtain ⟨g, M, ρ, s, rel, h⟩ := h
  exact h M ρ v H rel (Keep.refl _ _ _ _) (hv _ _ _)
theorem e_int {i : Int} {j} : PE X (.Constant (.int i) j pos) (tE c W (cst (.int i))) := pe_imp pe_int fun _ _ _ h => tE.cst (fun _ _ _ => .int i) h
theorem e_bl {b : Bool} {j} : PE X (.Constant (.bool b) j pos) (tE c W (cst (.bl b))) := pe_imp pe_bl fun _ _ _ h => tE.cst (fun _ _ _ => .bl b) h
theorem e_non {j} : PE X (.Constant .none j pos) (tE c W (cst .non)) := pe_imp pe_non fun _ _ _ h => tE.cst (fun _ _ _ => .non) h
theorem e_str {x : Str} {j} : PE X (.Constant (.str x) j pos) (tE c W (cst (.str x))) := pe_imp pe_str fun _ _ _ h => tE.cst (fun _ _ _ => .str x) h
theorem Free.of_own {M : Am} {ρ : List Addr} {env : Env} {hp : List Ob} {σ : L2.St} {H : Hp} (rel : Rel c g M ρ ⟨env, hp⟩ σ H) {i : Nat} {sl : Slot} {a : Addr} (h : env[i]? = some sl) (ho : sl.isOwn = true)
    (hs : σ[i]? = some (some (.ref a))) : Free g M ρ (env.set i .un) σ a := by
  obtain ⟨b, h1, h2, h3, h4, h5⟩ := rel.e.own i sl h ho
  rw [hs] at h1
  cases h1
  refine ⟨h3, h4, h5, rel.e.pro i sl a h ho hs, fun j s2 q o z => ?_⟩
  rcases get_set_some q with ⟨rfl, e, hl⟩ | ⟨ne, q⟩
  · subst e
    cases o
  · exact ne (rel.e.sep j i s2 sl a q o h ho z hs)
theorem e_var (i : Nat) {x : Str} (hN : X.N[i]? = some x := by rfl) (hv : Vis X.env.scope x := by first | exact Or.inl rfl | exact Or.inr (Or.inl rfl) | exact Or.inr (Or.inr rfl))
    (hd : (x == ("__debug__" : Str)) = false := by decide) (hcd : (x == ("__classdict__" : Str)) = false := by decide) : PE X (.Name x pos) (tE c W (var i)) := by
  refine pe_imp (pe_var hN hv hd hcd) fun σ H Q h => ?_
  obtain ⟨g, M, ρ, ⟨env, hp⟩, rel, h⟩ := h
  unfold var at h
  cases q : env[i]? with
  | none => simp only [q] at h; exact h.elim
  | some sl =>
    simp only [q] at h
    cases sl with
    | un => exact h.elim
    | od k ks ws =>
      obtain ⟨a, h1, h2, h3, h4, h5⟩ := rel.e.own i _ q rfl
      have r1 := rel.unslot i
      have r2 := r1.lessM (Free.of_own rel q rfl h1)
      have hd : RD c (less M a) ρ H (.dct k ks ws) (.ref a) := by
        cases k with
        | false =>
          obtain ⟨kvs, p1, p2, p3⟩ := h2
          exact .dctK p1 (fun z => z.2 rfl) p2 (p3.keep (keep_less (g := g)))
        | true =>
          obtain ⟨kvs, p1, p2, p3⟩ := h2
          exact .dctT p1 (fun z => z.2 rfl) p2 (p3.keep (keep_less (g := g)))
      have r3 := r2.setv (i := i) hd
      rw [set_self h1, List.set_set] at r3
      exact ⟨.ref a, h1, h (less M a) ρ (.ref a) H r3 keep_less hd⟩
    | v d =>
      obtain ⟨v, h1, h2⟩ := rel.e.val i d q
      exact ⟨v, h1, h M ρ v H rel (Keep.refl _ _ _ _) h2⟩
    | ol xs =>
      obtain ⟨a, h1, ⟨vs, h2, h2'⟩, h3, h4, h5⟩ := rel.e.own i _ q rfl
      have r1 := rel.unslot i
      have r2 := r1.lessM (Free.of_own rel q rfl h1)
      have hd : RD c (less M a) ρ H (.lst xs) (.ref a) := .lst h2 (fun z => z.2 rfl) (h2'.keep (keep_less (g := g)))
      have r3 := r2.setv (i := i) hd
      rw [set_self h1, List.set_set] at r3
      exact ⟨.ref a, h1, h (less M a) ρ (.ref a) H r3 keep_less hd⟩
theorem o_val {e : Expr} {f : Ex} (h : PE X e (tE c W f)) : PE X e (tO c W (oV f)) := pe_imp h fun σ H Q h => by
  obtain ⟨g, M, ρ, s, rel, h⟩ := h
  refine ⟨g, M, ρ, s, rel, ?_⟩
  unfold oV at h
  cases q : f s with
  | ok d s' =>
    rw [q] at h
    exact h
  | exc x s' =>
    rw [q] at h
    exact h
  | bad =>
    rw [q] at h
    exact h
theorem o_slot (i : Nat) {x : Str} (hN : X.N[i]? = some x := by rfl) (hv : Vis X.env.scope x := by first | exact Or.inl rfl | exact Or.inr (Or.inl rfl) | exact Or.inr (Or.inr rfl))
    (hd : (x == ("__debug__" : Str)) = false := by decide) (hcd : (x == ("__classdict__" : Str)) = false := by decide) : PE X (.Name x pos) (tO c W (oS i)) := by
  refine pe_imp (pe_var hN hv hd hcd) fun σ H Q h => ?_
  obtain ⟨g, M, ρ, s, rel, h⟩ := h
  unfold oS at h
  have fin : ∀ v, σ[i]? = some (some v) → OutO c g W M ρ σ H (.ok (.s i) s) Q → ∃ v, σ[i]? = some (some v) ∧ Q v H := fun v hv h => ⟨v, hv, h M ρ v H rel (Keep.refl _ _ _ _) hv⟩
  cases q : s.env[i]? with
  | none => simp only [q] at h; exact h.elim
  | some sl =>
    simp only [q] at h
    cases sl with
    | un => exact h.elim
    | v d =>
      obtain ⟨v, h1, h2⟩ := rel.e.val i d q
      exact fin v h1 h
    | ol xs =>
      obtain ⟨a, h1, _⟩ := rel.e.own i _ q rfl
      exact fin _ h1 h
    | od k ks vs =>
      obtain ⟨a, h1, _⟩ := rel.e.own i _ q rfl
      exact fin _ h1 h
/-- a list as a value -/
theorem tL.val {f : ExL} {σ : L2.St} {H : Hp} {Q : VK} (h : tE c W (ofL f) σ H Q) : tL c W f σ H Q := by
  obtain ⟨g, M, ρ, s, rel, h⟩ := h
  refine ⟨g, M, ρ, s, rel, ?_⟩
  unfold ofL at h
  cases q : f s with
  | bad =>
    rw [q] at h
    exact h
  | exc x s' =>
    rw [q] at h
    exact h
  | ok xs s' =>
    rw [q] at h
    intro M' ρ' a vs H' r k ha hx f
    exact h (less M' a) ρ' (.ref a) H' (r.lessM f) (k.trans keep_less) (.lst ha (fun z => z.2 rfl) (hx.keep (keep_less (g := g))))
theorem e_ofL {e : Expr} {f : ExL} (h : PE X e (tL c W f)) : PE X e (tE c W (ofL f)) := pe_imp h fun _ _ _ h => tL.val h
end
end DS
/-! DS4: operators on data. -/
namespace DS
open PySem PySem.Spec PyProof.Rows L2

/-! ### one, two operands -/
def op1 (F : D → Option D) (o : Op) : Ex := fun s => (o s).bind fun t s1 => R.of ((deref s1 t).bind F) s1
def op2 (F : D → D → Option D) (o1 o2 : Op) : Ex := fun s => (o1 s).bind fun t1 s1 => (o2 s1).bind fun t2 s2 => R.of ((deref s2 t1).bind fun x => (deref s2 t2).bind fun y => F x y) s2
def op3 (F : D → D → D → Option D) (o1 o2 o3 : Op) : Ex := fun s => (o1 s).bind fun t1 s1 => (o2 s1).bind fun t2 s2 => (o3 s2).bind fun t3 s3 => R.of ((deref s3 t1).bind fun x => (deref s3 t2).bind fun y => (deref s3 t3).bind fun z => F x y z) s3
/-- .. that make a new list -/
def op1L (F : D → Option (List D)) (o : Op) : ExL := fun s => (o s).bind fun t s1 => R.of ((deref s1 t).bind F) s1
def op2L (F : D → D → Option (List D)) (o1 o2 : Op) : ExL := fun s => (o1 s).bind fun t1 s1 => (o2 s1).bind fun t2 s2 => R.of ((deref s2 t1).bind fun x => (deref s2 t2).bind fun y => F x y) s2
def Dm (M : Am) (H : Hp) : Prop := ∀ a, M a → ∃ o, H a = some o ∧ mutO o = true
/-- what a rule by values asks is shown by data -/
def V1 (c : Cn) (r : V → Hp → VK → Prop) (F : D → Option D) : Prop := ∀ (M : Am) (ρ : List Addr) (H : Hp) (x e : D) (v : V) (Q : VK), Dm M H → RW c M ρ H x v → F x = some e → (∀ u H', Ext H H' → RD c M ρ H' e u → Q u H') → r v H Q
def V2 (c : Cn) (r : R2) (F : D → D → Option D) : Prop := ∀ (M : Am) (ρ : List Addr) (H : Hp) (x y e : D) (v u : V) (Q : VK), Dm M H → RW c M ρ H x v → RW c M ρ H y u → F x y = some e → (∀ w H', Ext H H' → RD c M ρ H' e w → Q w H') → r v u H Q
def V1L (c : Cn) (r : V → Hp → VK → Prop) (F : D → Option (List D)) : Prop := ∀ (M : Am) (ρ : List Addr) (H : Hp) (x : D) (v : V) (xs : List D) (Q : VK), Dm M H → RW c M ρ H x v → F x = some xs →
  (∀ a vs H', H a = none → Ext H H' → H' a = some (.lst vs) → RDs c M ρ H xs vs → Q (.ref a) H') → r v H Q
def V2L (c : Cn) (r : R2) (F : D → D → Option (List D)) : Prop := ∀ (M : Am) (ρ : List Addr) (H : Hp) (x y : D) (v u : V) (xs : List D) (Q : VK), Dm M H → RW c M ρ H x v → RW c M ρ H y u → F x y = some xs →
  (∀ a vs H', H a = none → Ext H H' → H' a = some (.lst vs) → RDs c M ρ H xs vs → Q (.ref a) H') → r v u H Q
section
variable {c : Cn} {g : Gr} {W : WX} {σ : L2.St} {H : Hp} {Q : VK} {o1 o2 : Op}
theorem t_op1 {r : V → Hp → VK → Prop} {F : D → Option D} (hr : V1 c r F) (h : tE c W (op1 F o1) σ H Q) : tUn r (tO c W o1) σ H Q := by
  obtain ⟨g, M, ρ, s, rel, h⟩ := h
  refine tO.bind (out := fun M ρ H r => OutE c g W M ρ σ H r Q) rel (fun _ _ z => z) (fun z => z) h fun t s1 M1 ρ1 v H1 r1 k1 t1 h1 => ?_
  cases q : (deref s1 t).bind F with
  | none =>
    rw [q] at h1
    exact h1.elim
  | some e =>
    rw [q] at h1
    obtain ⟨x, hx, hF⟩ := Option.bind_eq_some_iff.mp q
    exact hr M1 ρ1 H1 x e v Q r1.h.dom (RW.of_tok r1 t1 hx) hF fun u H2 e2 hd => h1 M1 ρ1 u H2 (r1.ext e2) (k1.trans (r1.kext e2)) hd
theorem t_op2 {r : R2} {F : D → D → Option D} (hr : V2 c r F) (h : tE c W (op2 F o1 o2) σ H Q) : tOp r (tO c W o1) (tO c W o2) σ H Q := by
  obtain ⟨g, M, ρ, s, rel, h⟩ := h
  refine tO.bind (out := fun M ρ H r => OutE c g W M ρ σ H r Q) rel (fun _ _ z => z) (fun z => z) h fun t s1 M1 ρ1 v H1 r1 k1 t1 h1 => ?_
  refine tO.bind (out := fun M ρ H r => OutE c g W M ρ σ H r Q) r1 (fun _ _ z => z) (fun z => z) (OutE.keep k1 h1) fun t' s2 M2 ρ2 v' H2 r2 k2 t2 h2 => ?_
  have h2 := OutE.keep k2 h2
  cases q : (deref s2 t).bind fun x => (deref s2 t').bind fun y => F x y with
  | none =>
    rw [q] at h2
    exact h2.elim
  | some e =>
    rw [q] at h2
    obtain ⟨x, hx, q⟩ := Option.bind_eq_some_iff.mp q
    obtain ⟨y, hy, hF⟩ := Option.bind_eq_some_iff.mp q
    exact hr M2 ρ2 H2 x y e v v' Q r2.h.dom (RW.of_tok r2 (t1.keep k2) hx) (RW.of_tok r2 t2 hy) hF fun u H3 e3 hd => h2 M2 ρ2 u H3 (r2.ext e3) (r2.kext e3) hd
theorem out_new {M : Am} {ρ : List Addr} {s : S} {a : Addr} {vs : List V} {xs : List D} {H' : Hp} (r : Rel c g M ρ s σ H) (h : OutL c g W M ρ σ H (.ok xs s) Q) (n : H a = none) (e : Ext H H') (ha : H' a = some (.lst vs)) (rd : RDs c M ρ H xs vs) : Q (.ref a) H' := by
  obtain ⟨r', f'⟩ := r.newM e n ha rfl
  exact h (more M a) ρ a vs H' r' (keep_more e n r.pd) ha (rd.keep (keep_more e n r.pd)) f'
theorem t_op1L {r : V → Hp → VK → Prop} {F : D → Option (List D)} (hr : V1L c r F) (h : tL c W (op1L F o1) σ H Q) : tUn r (tO c W o1) σ H Q := by
  obtain ⟨g, M, ρ, s, rel, h⟩ := h
  refine tO.bind (out := fun M ρ H r => OutL c g W M ρ σ H r Q) rel (fun _ _ z => z) (fun z => z) h fun t s1 M1 ρ1 v H1 r1 k1 t1 h1 => ?_
  have h1 := OutL.keep k1 h1
  cases q : (deref s1 t).bind F with
  | none =>
    rw [q] at h1
    exact h1.elim
  | some xs =>
    rw [q] at h1
    obtain ⟨x, hx, hF⟩ := Option.bind_eq_some_iff.mp q
    exact hr M1 ρ1 H1 x v xs Q r1.h.dom (RW.of_tok r1 t1 hx) hF fun a vs H' n e ha rd => out_new r1 h1 n e ha rd
theorem t_op2L {r : R2} {F : D → D → Option (List D)} (hr : V2L c r F) (h : tL c W (op2L F o1 o2) σ H Q) : tOp r (tO c W o1) (tO c W o2) σ H Q := by
  obtain ⟨g, M, ρ, s, rel, h⟩ := h
  refine tO.bind (out := fun M ρ H r => OutL c g W M ρ σ H r Q) rel (fun _ _ z => z) (fun z => z) h fun t s1 M1 ρ1 v H1 r1 k1 t1 h1 => ?_
  refine tO.bind (out := fun M ρ H r => OutL c g W M ρ σ H r Q) r1 (fun _ _ z => z) (fun z => z) (OutL.keep k1 h1) fun t' s2 M2 ρ2 v' H2 r2 k2 t2 h2 => ?_
  have h2 := OutL.keep k2 h2
  cases q : (deref s2 t).bind fun x => (deref s2 t').bind fun y => F x y with
  | none =>
    rw [q] at h2
    exact h2.elim
  | some xs =>
    rw [q] at h2
    obtain ⟨x, hx, q⟩ := Option.bind_eq_some_iff.mp q
    obtain ⟨y, hy, hF⟩ := Option.bind_eq_some_iff.mp q
    exact hr M2 ρ2 H2 x y v v' xs Q r2.h.dom (RW.of_tok r2 (t1.keep k2) hx) (RW.of_tok r2 t2 hy) hF fun a vs H' n e ha rd => out_new r2 h2 n e ha rd
end

/-! ### what stands behind data -/
section
variable {c : Cn} {M : Am} {ρ : List Addr} {H : Hp} {v : V}
theorem RW.int {i : Int} (h : RW c M ρ H (.int i) v) : v = .int i := by
  cases h with
  | v h _ => cases h; rfl
theorem RW.bl {i : Bool} (h : RW c M ρ H (.bl i) v) : v = .bl i := by
  cases h with
  | v h _ => cases h; rfl
theorem RW.str {i : Str} (h : RW c M ρ H (.str i) v) : v = .str i := by
  cases h with
  | v h _ => cases h; rfl
theorem RW.non (h : RW c M ρ H .non v) : v = .non := by
  cases h with
  | v h _ => cases h; rfl
theorem RW.tup {xs : List D} (h : RW c M ρ H (.tup xs) v) : ∃ a vs, v = .ref a ∧ SqT c.K H a vs ∧ RDs c M ρ H xs vs := by
  cases h with
  | v h _ =>
    cases h with
    | tupH h m r => exact ⟨_, _, rfl, .inl h, r⟩
    | tupK h r => exact ⟨_, _, rfl, .inr h, r⟩
theorem RW.rdt {xs : List D} (h : RW c M ρ H (.tup xs) v) : RD c M ρ H (.tup xs) v := by
  cases h with
  | v h _ => exact h
theorem RD.tup {xs : List D} (h : RD c M ρ H (.tup xs) v) : ∃ a vs, v = .ref a ∧ SqT c.K H a vs ∧ RDs c M ρ H xs vs := by
  cases h with
  | tupH h m r => exact ⟨_, _, rfl, .inl h, r⟩
  | tupK h r => exact ⟨_, _, rfl, .inr h, r⟩
theorem RW.lst {xs : List D} (h : RW c M ρ H (.lst xs) v) : ∃ a vs, v = .ref a ∧ H a = some (.lst vs) ∧ RDs c M ρ H xs vs := by
  cases h with
  | v h _ =>
    cases h with
    | lst h m r => exact ⟨_, _, rfl, h, r⟩
  | l h r => exact ⟨_, _, rfl, h, r⟩
theorem RW.scr {xs : List D} (h : RW c M ρ H (.scr xs) v) : ∃ a vs, v = .ref a ∧ SqL c.K H a vs ∧ RDs c M ρ H xs vs := by
  cases h with
  | v h _ =>
    cases h with
    | scr h m r => exact ⟨_, _, rfl, .inl (.inr ⟨_, h⟩), r⟩
    | scrK h r => exact ⟨_, _, rfl, .inr h, r⟩
/-- a list or a tuple -/
theorem RW.seq {x : D} {xs : List D} (h : RW c M ρ H x v) (e : x = .tup xs ∨ x = .lst xs ∨ x = .scr xs) : ∃ a vs, v = .ref a ∧ (SqL c.K H a vs ∨ SqT c.K H a vs) ∧ RDs c M ρ H xs vs := by
  rcases e with rfl | rfl | rfl
  · obtain ⟨a, vs, e, h1, h2⟩ := h.tup
    exact ⟨a, vs, e, .inr h1, h2⟩
  · obtain ⟨a, vs, e, h1, h2⟩ := h.lst
    exact ⟨a, vs, e, .inl (.inl (.inl h1)), h2⟩
  · obtain ⟨a, vs, e, h1, h2⟩ := h.scr
    exact ⟨a, vs, e, .inl h1, h2⟩
theorem RW.dct {k : Bool} {ks vs : List D} (h : RW c M ρ H (.dct k ks vs) v) : ∃ a, v = .ref a ∧ DctOk c M ρ H k ks vs a := by
  cases h with
  | v h _ =>
    cases h with
    | dctK h m e r => exact ⟨_, rfl, _, h, e, r⟩
    | dctT h m e r => exact ⟨_, rfl, _, h, e, r⟩
  | d h => exact ⟨_, rfl, h⟩
theorem Dm.new (d : Dm M H) {p : Addr} (n : H p = none) : ¬ M p := fun m => by
  obtain ⟨o, ho, _⟩ := d p m
  rw [n] at ho
  cases ho
theorem RD.newT {H' : Hp} (d : Dm M H) {p : Addr} {xs : List D} {vs : List V} (n : H p = none) (r : RDs c M ρ H xs vs) : RD c M ρ (upd H p (.tup vs)) (.tup xs) (.ref p) :=
  .tupH (.inl upd_same) (d.new n) (r.ext (Ext.new n))
theorem RD.newL (d : Dm M H) {p : Addr} {xs : List D} {vs : List V} (n : H p = none) (r : RDs c M ρ H xs vs) : RD c M ρ (upd H p (.lst vs)) (.lst xs) (.ref p) :=
  .lst upd_same (d.new n) (r.ext (Ext.new n))
end
/-- two rules for one operator -/
theorem OpR.or {X : Cx} {f : Value → Value → Sem Value} {r r' : R2} (h : OpR X f r) (h' : OpR X f r') : OpR X f (fun x y H Q => r x y H Q ∨ r' x y H Q) := by
  intro pins s σ H x y v u Q I rx ry q
  rcases q with q | q
  · exact h pins s σ H x y v u Q I rx ry q
  · exact h' pins s σ H x y v u Q I rx ry q

/-! ### + - * // % ** -/
def LIM : Nat := 16777216
def addD : D → D → Option D
  | .int i, .int j => some (.int (i + j))
  | .str x, .str y => if x.length + y.length ≤ LIM then some (.str (x ++ y)) else none
  | .tup xs, .tup ys => if xs.length + ys.length ≤ LIM then some (.tup (xs ++ ys)) else none
  | .lst xs, .lst ys => if xs.length + ys.length ≤ LIM then some (.lst (xs ++ ys)) else none
  | _, _ => none
def addL : D → D → Option (List D)
  | .lst xs, .lst ys => if xs.length + ys.length ≤ LIM then some (xs ++ ys) else none
  | _, _ => none
def subD : D → D → Option D
  | .int i, .int j => some (.int (i - j))
  | _, _ => none
def small64 (i : Int) : Bool := decide (i.natAbs < 18446744073709551616)
def repD (k : Int) (xs : List D) : List D := (List.replicate k.toNat xs).flatten
def mulD : D → D → Option D
  | .int i, .int j => if small64 i || small64 j then some (.int (i * j)) else none
  | .lst xs, .int k => if decide (-(2 ^ 63) ≤ k) && decide (k < 2 ^ 63) && decide (xs.length * k.toNat ≤ LIM) then some (.lst (repD k xs)) else none
  | .tup xs, .int k => if decide (xs ≠ []) && decide (2 ≤ k) && decide (k ≤ 1000) && decide (xs.length ≤ 1000) then some (.tup (repD k xs)) else none
  | _, _ => none
def mulL : D → D → Option (List D)
  | .lst xs, .int k => if decide (-(2 ^ 63) ≤ k) && decide (k < 2 ^ 63) && decide (xs.length * k.toNat ≤ LIM) then some (repD k xs) else none
  | _, _ => none
def divD : D → D → Option D
  | .int i, .int j => if decide (j ≠ 0) && decide (j.natAbs < 1073741824) then some (.int (i.fdiv j)) else none
  | _, _ => none
def modD : D → D → Option D
  | .int i, .int j => if decide (j ≠ 0) then some (.int (i.fmod j)) else none
  | _, _ => none
def powD : D → D → Option D
  | .int i, .int j => if decide (0 ≤ j) && decide (j ≤ 1000000) && small64 i then some (.int (i ^ j.toNat)) else none
  | _, _ => none
def negD : D → Option D
  | .int i => some (.int (-i))
  | _ => none
theorem RDs.rep {c : Cn} {M : Am} {ρ : List Addr} {H : Hp} {xs : List D} {vs : List V} (r : RDs c M ρ H xs vs) : ∀ k : Nat, RDs c M ρ H (List.replicate k xs).flatten (List.replicate k vs).flatten
  | 0 => .nil
  | k + 1 => by
    rw [List.replicate_succ, List.replicate_succ, List.flatten_cons, List.flatten_cons]
    exact r.append (RDs.rep r k)
theorem RDs.nil_iff {c : Cn} {M : Am} {ρ : List Addr} {H : Hp} {xs : List D} {vs : List V} (r : RDs c M ρ H xs vs) : vs = [] ↔ xs = [] := by
  cases r <;> simp
section
variable {X : Cx} {c : Cn}
abbrev rStrA : R2 := fun x y H Q => ∃ i j, x = .str i ∧ y = .str j ∧ i.length + j.length ≤ sizeLine ∧ Q (.str (i ++ j)) H
theorem r_add : OpR X (binaryOp .Add) (fun x y H Q => rI0 (fun i j => .int (i + j)) x y H Q ∨ rStrA x y H Q ∨ rCatA X.K x y H Q ∨ rCat x y H Q) := OpR.or op_add (OpR.or op_add_str (OpR.or op_catA op_cat))
theorem v_add (hK : X.K = c.K) : V2 c (fun x y H Q => rI0 (fun i j => .int (i + j)) x y H Q ∨ rStrA x y H Q ∨ rCatA X.K x y H Q ∨ rCat x y H Q) addD := by
  intro M ρ H x y e v u Q d hx hy hF q
  unfold addD at hF
  split at hF
  · cases hF
    rename_i i j
    exact .inl ⟨i, j, hx.int, hy.int, q _ H (Ext.refl H) (.int _)⟩
  · rename_i x y
    split at hF
    · cases hF
      exact .inr (.inl ⟨x, y, hx.str, hy.str, by assumption, q _ H (Ext.refl H) (.str _)⟩)
    · cases hF
  · rename_i xs ys
    split at hF
    · cases hF
      rename_i hl
      obtain ⟨a, vs, e1, h1, h2⟩ := hx.tup
      obtain ⟨b, us, e2, h3, h4⟩ := hy.tup
      refine .inr (.inr (.inl ⟨a, b, vs, us, e1, e2, hK ▸ h1, hK ▸ h3, ?_, ?_⟩))
      · rw [← h2.length, ← h4.length]
        exact hl
      · refine ⟨fun e => ?_, fun n e => ?_, fun n n' p hp => ?_⟩
        · have e' := h2.nil_iff.mp e
          subst e' e2
          exact q _ H (Ext.refl H) hy.rdt
        · have e' := h4.nil_iff.mp e
          subst e' e1
          rw [List.append_nil] at q
          exact q _ H (Ext.refl H) hx.rdt
        · exact q _ _ (Ext.new hp) (RD.newT (H' := H) d hp (h2.append h4))
    · cases hF
  · rename_i xs ys
    split at hF
    · cases hF
      rename_i hl
      obtain ⟨a, vs, e1, h1, h2⟩ := hx.lst
      obtain ⟨b, us, e2, h3, h4⟩ := hy.lst
      refine .inr (.inr (.inr ⟨a, b, vs, us, e1, e2, h1, h3, ?_, fun p hp => ?_⟩))
      · rw [← h2.length, ← h4.length]
        exact hl
      · exact q _ _ (Ext.new hp) (RD.newL d hp (h2.append h4))
    · cases hF
  · cases hF
theorem v_addL : V2L c rCat addL := by
  intro M ρ H x y v u xs Q d hx hy hF q
  unfold addL at hF
  split at hF
  · rename_i xs ys
    split at hF
    · cases hF
      rename_i hl
      obtain ⟨a, vs, e1, h1, h2⟩ := hx.lst
      obtain ⟨b, us, e2, h3, h4⟩ := hy.lst
      refine ⟨a, b, vs, us, e1, e2, h1, h3, ?_, fun p hp => q p _ _ hp (Ext.new hp) upd_same (h2.append h4)⟩
      rw [← h2.length, ← h4.length]
      exact hl
    · cases hF
  · cases hF
theorem v_sub : V2 c (rI0 fun i j => .int (i - j)) subD := by
  intro M ρ H x y e v u Q d hx hy hF q
  unfold subD at hF
  split at hF
  · cases hF
    exact ⟨_, _, hx.int, hy.int, q _ H (Ext.refl H) (.int _)⟩
  · cases hF
theorem cmul_of {i j : Int} (h : (small64 i || small64 j) = true) : CMul i j := by
  rcases Bool.or_eq_true_iff.mp h with h | h
  · have h := of_decide_eq_true h
    exact .inl ⟨by omega, by omega⟩
  · have h := of_decide_eq_true h
    exact .inr ⟨by omega, by omega⟩
theorem r_mul : OpR X (binaryOp .Mult) (fun x y H Q => rI CMul (fun i j => .int (i * j)) x y H Q ∨ rRep x y H Q ∨ rRepT X.K x y H Q) := OpR.or op_mul (OpR.or op_rep op_repT)
theorem v_mul (hK : X.K = c.K) : V2 c (fun x y H Q => rI CMul (fun i j => .int (i * j)) x y H Q ∨ rRep x y H Q ∨ rRepT X.K x y H Q) mulD := by
  intro M ρ H x y e v u Q d hx hy hF q
  unfold mulD at hF
  split at hF
  · split at hF
    · cases hF
      exact .inl ⟨_, _, hx.int, hy.int, cmul_of (by assumption), q _ H (Ext.refl H) (.int _)⟩
    · cases hF
  · rename_i xs k
    split at hF
    · cases hF
      rename_i hl
      simp only [Bool.and_eq_true, decide_eq_true_eq] at hl
      obtain ⟨a, vs, e1, h1, h2⟩ := hx.lst
      refine .inr (.inl ⟨a, k, vs, e1, hy.int, h1, hl.1.1, hl.1.2, by rw [← h2.length]; exact hl.2, fun p hp => ?_⟩)
      exact q _ _ (Ext.new hp) (RD.newL d hp (h2.rep _))
    · cases hF
  · rename_i xs k
    split at hF
    · cases hF
      rename_i hl
      simp only [Bool.and_eq_true, decide_eq_true_eq] at hl
      obtain ⟨a, vs, e1, h1, h2⟩ := hx.tup
      refine .inr (.inr ⟨a, k, vs, e1, hy.int, hK ▸ h1, fun z => hl.1.1.1 (h2.nil_iff.mp z), hl.1.1.2, hl.1.2, by rw [← h2.length]; exact hl.2, fun p hp => ?_⟩)
      exact q _ _ (Ext.new hp) (RD.newT (H' := H) d hp (h2.rep _))
    · cases hF
  · cases hF
theorem v_mulL : V2L c rRep mulL := by
  intro M ρ H x y v u xs Q d hx hy hF q
  unfold mulL at hF
  split at hF
  · rename_i xs k
    split at hF
    · cases hF
      rename_i hl
      simp only [Bool.and_eq_true, decide_eq_true_eq] at hl
      obtain ⟨a, vs, e1, h1, h2⟩ := hx.lst
      exact ⟨a, k, vs, e1, hy.int, h1, hl.1.1, hl.1.2, by rw [← h2.length]; exact hl.2, fun p hp => q p _ _ hp (Ext.new hp) upd_same (h2.rep _)⟩
    · cases hF
  · cases hF
theorem v_div : V2 c (rI CDivN fun i j => .int (i.fdiv j)) divD := by
  intro M ρ H x y e v u Q d hx hy hF q
  unfold divD at hF
  split at hF
  · split at hF
    · cases hF
      rename_i hl
      simp only [Bool.and_eq_true, decide_eq_true_eq] at hl
      exact ⟨_, _, hx.int, hy.int, ⟨hl.1, hl.2⟩, q _ H (Ext.refl H) (.int _)⟩
    · cases hF
  · cases hF
theorem v_mod : V2 c (rI (fun _ j => j ≠ 0) fun i j => .int (i.fmod j)) modD := by
  intro M ρ H x y e v u Q d hx hy hF q
  unfold modD at hF
  split at hF
  · split at hF
    · cases hF
      rename_i hl
      exact ⟨_, _, hx.int, hy.int, of_decide_eq_true hl, q _ H (Ext.refl H) (.int _)⟩
    · cases hF
  · cases hF
theorem v_pow : V2 c (rI CPow fun i j => .int (i ^ j.toNat)) powD := by
  intro M ρ H x y e v u Q d hx hy hF q
  unfold powD at hF
  split at hF
  · split at hF
    · cases hF
      rename_i hl
      simp only [Bool.and_eq_true, decide_eq_true_eq, small64] at hl
      exact ⟨_, _, hx.int, hy.int, ⟨hl.1.1, hl.1.2, hl.2⟩, q _ H (Ext.refl H) (.int _)⟩
    · cases hF
  · cases hF
theorem v_neg : V1 c (rU fun i => .int (-i)) negD := by
  intro M ρ H x e v Q d hx hF q
  unfold negD at hF
  split at hF
  · cases hF
    exact ⟨_, hx.int, q _ H (Ext.refl H) (.int _)⟩
  · cases hF
end

/-! ### comparisons -/
mutual
def toPy : D → Option PyData
  | .non => some .none
  | .bl b => some (.bool b)
  | .int i => some (.int i)
  | .str x => some (.str x)
  | .tup xs => (toPys xs).map .tuple
  | .lst xs => (toPys xs).map .list
  | _ => none
def toPys : List D → Option (List PyData)
  | [] => some []
  | d :: ds => (toPy d).bind fun p => (toPys ds).map fun ps => p :: ps
end
section
variable {c : Cn} {M : Am} {ρ : List Addr} {H : Hp}
mutual
theorem RD.dp : ∀ {d : D} {v : V} {p : PyData}, RD c M ρ H d v → toPy d = some p → Dp c.K H v p
  | _, _, _, .non, e => by unfold toPy at e; cases e; exact .non
  | _, _, _, .bl b, e => by unfold toPy at e; cases e; exact .bl b
  | _, _, _, .int i, e => by unfold toPy at e; cases e; exact .int i
  | _, _, _, .str x, e => by unfold toPy at e; cases e; exact .str x
  | _, _, _, .fn h, e => by unfold toPy at e; cases e
  | _, _, _, .ref h, e => by unfold toPy at e; cases e
  | _, _, _, .scr h m r, e => by unfold toPy at e; cases e
  | _, _, _, .scrK h r, e => by unfold toPy at e; cases e
  | _, _, _, .dctK h m q r, e => by unfold toPy at e; cases e
  | _, _, _, .dctT h m q r, e => by unfold toPy at e; cases e
  | _, _, _, .tupH h m r, e => by
    unfold toPy at e
    obtain ⟨ps, e1, e2⟩ := Option.map_eq_some_iff.mp e
    subst e2
    exact .tup (.inl h) (RDs.dp r e1)
  | _, _, _, .tupK h r, e => by
    unfold toPy at e
    obtain ⟨ps, e1, e2⟩ := Option.map_eq_some_iff.mp e
    subst e2
    exact .tup (.inr h) (RDs.dp r e1)
  | _, _, _, .lst h m r, e => by
    unfold toPy at e
    obtain ⟨ps, e1, e2⟩ := Option.map_eq_some_iff.mp e
    subst e2
    exact .lst (.inl (.inl h)) (RDs.dp r e1)
theorem RDs.dp : ∀ {ds : List D} {vs : List V} {ps : List PyData}, RDs c M ρ H ds vs → toPys ds = some ps → DpAll c.K H vs ps
  | _, _, _, .nil, e => by unfold toPys at e; cases e; exact .nil
  | _, _, _, .cons h t, e => by
    unfold toPys at e
    obtain ⟨p, e1, e⟩ := Option.bind_eq_some_iff.mp e
    obtain ⟨ps, e2, e⟩ := Option.map_eq_some_iff.mp e
    subst e
    exact .cons (RD.dp h e1) (RDs.dp t e2)
end
theorem RW.dp {d : D} {v : V} {p : PyData} (h : RW c M ρ H d v) (e : toPy d = some p) : Dp c.K H v p := by
  cases h with
  | v h _ => exact h.dp e
  | l h r =>
    unfold toPy at e
    obtain ⟨ps, e1, e2⟩ := Option.map_eq_some_iff.mp e
    subst e2
    exact .lst (.inl (.inl h)) (r.dp e1)
  | d h => unfold toPy at e; cases e
end
/-- == of data -/
def pyEq (x y : D) : Option Bool := (toPy x).bind fun p => (toPy y).bind fun q => if SeqAt.shaped p && SeqAt.shaped q then some (PyData.eqv p q) else none
def eqD (x y : D) : Option D := (pyEq x y).map .bl
def neD (x y : D) : Option D := (pyEq x y).map fun b => .bl (!b)
def ltD : D → D → Option D
  | .int i, .int j => some (.bl (decide (i < j)))
  | _, _ => none
def leD : D → D → Option D
  | .int i, .int j => some (.bl (decide (i ≤ j)))
  | _, _ => none
def gtD : D → D → Option D
  | .int i, .int j => some (.bl (decide (j < i)))
  | _, _ => none
def geD : D → D → Option D
  | .int i, .int j => some (.bl (decide (j ≤ i)))
  | _, _ => none
def isN : D → D → Option D
  | .non, .non => some (.bl true)
  | .bl a, .bl b => some (.bl (decide (a = b)))
  | .bl _, .non => some (.bl false)
  | .int _, .non => some (.bl false)
  | .str _, .non => some (.bl false)
  | .tup _, .non => some (.bl false)
  | .lst _, .non => some (.bl false)
  | _, _ => none
def notD : D → Option D
  | .bl b => some (.bl (!b))
  | _ => none
def isntN (x y : D) : Option D := (isN x y).bind notD
/-- x in a list, a tuple -/
def inB (x : D) (ys : D) : Option Bool := match ys with
  | .str z => match x with
    | .str y => some (!(Builtin.Str.occurrences z y 0 z.length 1).isEmpty)
    | _ => none
  | .tup ys => (toPy x).bind fun p => (toPys ys).bind fun ps => if SeqAt.shaped p && SeqAt.shaped (.list ps) then some (ps.any fun z => PyData.eqv z p) else none
  | .lst ys => (toPy x).bind fun p => (toPys ys).bind fun ps => if SeqAt.shaped p && SeqAt.shaped (.list ps) then some (ps.any fun z => PyData.eqv z p) else none
  | _ => none
def inD (x ys : D) : Option D := (inB x ys).map .bl
def ninD (x ys : D) : Option D := (inB x ys).map fun b => .bl (!b)
section
variable {X : Cx} {c : Cn}
theorem v_eq (hK : X.K = c.K) : V2 c (rEqD X.K) eqD := by
  intro M ρ H x y e v u Q d hx hy hF q
  obtain ⟨b, hb, rfl⟩ := Option.map_eq_some_iff.mp hF
  obtain ⟨p, hp, hb⟩ := Option.bind_eq_some_iff.mp hb
  obtain ⟨p', hp', hb⟩ := Option.bind_eq_some_iff.mp hb
  by_cases hs : (SeqAt.shaped p && SeqAt.shaped p') = true
  · rw [if_pos hs] at hb
    cases hb
    obtain ⟨s1, s2⟩ := Bool.and_eq_true_iff.mp hs
    exact ⟨p, p', hK ▸ hx.dp hp, hK ▸ hy.dp hp', s1, s2, q _ H (Ext.refl H) (.bl _)⟩
  · rw [if_neg hs] at hb
    cases hb
theorem v_ne (hK : X.K = c.K) : V2 c (rNeD X.K) neD := by
  intro M ρ H x y e v u Q d hx hy hF q
  obtain ⟨b, hb, rfl⟩ := Option.map_eq_some_iff.mp hF
  obtain ⟨p, hp, hb⟩ := Option.bind_eq_some_iff.mp hb
  obtain ⟨p', hp', hb⟩ := Option.bind_eq_some_iff.mp hb
  by_cases hs : (SeqAt.shaped p && SeqAt.shaped p') = true
  · rw [if_pos hs] at hb
    cases hb
    obtain ⟨s1, s2⟩ := Bool.and_eq_true_iff.mp hs
    exact ⟨p, p', hK ▸ hx.dp hp, hK ▸ hy.dp hp', s1, s2, q _ H (Ext.refl H) (.bl _)⟩
  · rw [if_neg hs] at hb
    cases hb
theorem v_lt : V2 c (rI0 fun i j => .bl (decide (i < j))) ltD := by
  intro M ρ H x y e v u Q d hx hy hF q
  unfold ltD at hF
  split at hF
  · cases hF
    exact ⟨_, _, hx.int, hy.int, q _ H (Ext.refl H) (.bl _)⟩
  · cases hF
theorem v_le : V2 c (rI0 fun i j => .bl (decide (i ≤ j))) leD := by
  intro M ρ H x y e v u Q d hx hy hF q
  unfold leD at hF
  split at hF
  · cases hF
    exact ⟨_, _, hx.int, hy.int, q _ H (Ext.refl H) (.bl _)⟩
  · cases hF
theorem v_gt : V2 c (rI0 fun i j => .bl (decide (j < i))) gtD := by
  intro M ρ H x y e v u Q d hx hy hF q
  unfold gtD at hF
  split at hF
  · cases hF
    exact ⟨_, _, hx.int, hy.int, q _ H (Ext.refl H) (.bl _)⟩
  · cases hF
theorem v_ge : V2 c (rI0 fun i j => .bl (decide (j ≤ i))) geD := by
  intro M ρ H x y e v u Q d hx hy hF q
  unfold geD at hF
  split at hF
  · cases hF
    exact ⟨_, _, hx.int, hy.int, q _ H (Ext.refl H) (.bl _)⟩
  · cases hF
abbrev rIsN : R2 := fun x y H Q => y = .non ∧ Q (.bl (decide (x = .non))) H
abbrev rNotN : R2 := fun x y H Q => y = .non ∧ Q (.bl (!decide (x = .non))) H
theorem r_is : OpR X (compareOp .Is) (fun x y H Q => rIsN x y H Q ∨ rIsB x y H Q) := OpR.or op_isN op_isBl
theorem r_isnt : OpR X (compareOp .IsNot) (fun x y H Q => rNotN x y H Q ∨ rNotB x y H Q) := OpR.or op_notN op_notBl
theorem v_is : V2 c (fun x y H Q => rIsN x y H Q ∨ rIsB x y H Q) isN := by
  intro M ρ H x y e v u Q d hx hy hF q
  unfold isN at hF
  split at hF <;> first | cases hF | skip
  · exact .inl ⟨hy.non, by rw [hx.non]; exact q _ H (Ext.refl H) (.bl _)⟩
  · exact .inr ⟨_, _, hx.bl, hy.bl, q _ H (Ext.refl H) (.bl _)⟩
  · exact .inl ⟨hy.non, by rw [hx.bl]; exact q _ H (Ext.refl H) (.bl _)⟩
  · exact .inl ⟨hy.non, by rw [hx.int]; exact q _ H (Ext.refl H) (.bl _)⟩
  · exact .inl ⟨hy.non, by rw [hx.str]; exact q _ H (Ext.refl H) (.bl _)⟩
  · obtain ⟨a, vs, e1, _⟩ := hx.tup
    exact .inl ⟨hy.non, by rw [e1]; exact q _ H (Ext.refl H) (.bl _)⟩
  · obtain ⟨a, vs, e1, _⟩ := hx.lst
    exact .inl ⟨hy.non, by rw [e1]; exact q _ H (Ext.refl H) (.bl _)⟩
theorem v_isnt : V2 c (fun x y H Q => rNotN x y H Q ∨ rNotB x y H Q) isntN := by
  intro M ρ H x y e v u Q d hx hy hF q
  obtain ⟨b, hb, hF⟩ := Option.bind_eq_some_iff.mp hF
  unfold isN at hb
  split at hb <;> first | cases hb | skip
  all_goals (unfold notD at hF; cases hF)
  · exact .inl ⟨hy.non, by rw [hx.non]; exact q _ H (Ext.refl H) (.bl _)⟩
  · exact .inr ⟨_, _, hx.bl, hy.bl, q _ H (Ext.refl H) (.bl _)⟩
  · exact .inl ⟨hy.non, by rw [hx.bl]; exact q _ H (Ext.refl H) (.bl _)⟩
  · exact .inl ⟨hy.non, by rw [hx.int]; exact q _ H (Ext.refl H) (.bl _)⟩
  · exact .inl ⟨hy.non, by rw [hx.str]; exact q _ H (Ext.refl H) (.bl _)⟩
  · obtain ⟨a, vs, e1, _⟩ := hx.tup
    exact .inl ⟨hy.non, by rw [e1]; exact q _ H (Ext.refl H) (.bl _)⟩
  · obtain ⟨a, vs, e1, _⟩ := hx.lst
    exact .inl ⟨hy.non, by rw [e1]; exact q _ H (Ext.refl H) (.bl _)⟩
end

/-! ### membership -/
def rInT (K : PySem.W.Frag) : R2 := fun x y H Q => ∃ d ds, Dp K H x d ∧ Dp K H y (.tuple ds) ∧ SeqAt.shaped d = true ∧ SeqAt.shaped (.list ds) = true ∧ Q (.bl (ds.any fun z => PyData.eqv z d)) H
def rNinT (K : PySem.W.Frag) : R2 := fun x y H Q => ∃ d ds, Dp K H x d ∧ Dp K H y (.tuple ds) ∧ SeqAt.shaped d = true ∧ SeqAt.shaped (.list ds) = true ∧ Q (.bl (!ds.any fun z => PyData.eqv z d)) H
theorem sh_tup {ds : List PyData} (h : SeqAt.shaped (.list ds) = true) : SeqAt.shaped (.tuple ds) = true := by
  unfold SeqAt.shaped PyData.canLay0 PyData.depth at h ⊢
  exact h
section
variable {X : Cx} {c : Cn}
theorem op_inT (hu : X.A.units + 65 < cLine) : OpR X (compareOp .In) (rInT X.K) := by
  intro pins s σ H x y v u Q I rx ry h
  obtain ⟨d, ds, hd, he, sd, se, q⟩ := h
  obtain ⟨as, r1⟩ := Dp.reads I d x v hd rx
  obtain ⟨bs, r2⟩ := Dp.reads I (.tuple ds) y u he ry
  exact SeqAt.in_tuple_reads r2 r1 (SeqAt.canLay_of_shaped (sh_tup se)) (SeqAt.canLay_of_shaped sd) (room_in_shaped sd hu) ⟨.bl _, H, I, rfl, q⟩
theorem op_ninT (hu : X.A.units + 65 < cLine) : OpR X (compareOp .NotIn) (rNinT X.K) := by
  intro pins s σ H x y v u Q I rx ry h
  obtain ⟨d, ds, hd, he, sd, se, q⟩ := h
  obtain ⟨as, r1⟩ := Dp.reads I d x v hd rx
  obtain ⟨bs, r2⟩ := Dp.reads I (.tuple ds) y u he ry
  exact SeqAt.notIn_tuple_reads r2 r1 (SeqAt.canLay_of_shaped (sh_tup se)) (SeqAt.canLay_of_shaped sd) (room_in_shaped sd hu) ⟨.bl _, H, I, rfl, q⟩
abbrev rInS : R2 := fun x y H Q => ∃ i j, x = .str i ∧ y = .str j ∧ Q (.bl (!(Builtin.Str.occurrences j i 0 j.length 1).isEmpty)) H
abbrev rNinS : R2 := fun x y H Q => ∃ i j, x = .str i ∧ y = .str j ∧ Q (.bl (!(!(Builtin.Str.occurrences j i 0 j.length 1).isEmpty))) H
theorem r_in (hu : X.A.units + 65 < cLine) : OpR X (compareOp .In) (fun x y H Q => rInS x y H Q ∨ rInT X.K x y H Q ∨ rInD X.K x y H Q) := OpR.or op_in_str (OpR.or (op_inT hu) (op_inD hu))
theorem r_nin (hu : X.A.units + 65 < cLine) : OpR X (compareOp .NotIn) (fun x y H Q => rNinS x y H Q ∨ rNinT X.K x y H Q ∨ rNotInD X.K x y H Q) := OpR.or op_notin_str (OpR.or (op_ninT hu) (op_notInD hu))
theorem inB_str {x : D} {z : Str} {b : Bool} (h : inB x (.str z) = some b) : ∃ y, x = .str y ∧ b = !(Builtin.Str.occurrences z y 0 z.length 1).isEmpty := by
  cases x <;> first | cases h | skip
  rename_i y
  exact ⟨y, rfl, rfl⟩
theorem inB_seq {x : D} {ys : List D} {b : Bool} (h : inB x (.tup ys) = some b ∨ inB x (.lst ys) = some b) : ∃ p ps, toPy x = some p ∧ toPys ys = some ps ∧ SeqAt.shaped p = true ∧ SeqAt.shaped (.list ps) = true ∧ b = ps.any fun z => PyData.eqv z p := by
  have h : ((toPy x).bind fun p => (toPys ys).bind fun ps => if SeqAt.shaped p && SeqAt.shaped (.list ps) then some (ps.any fun z => PyData.eqv z p) else none) = some b := h.elim (fun z => z) (fun z => z)
  obtain ⟨p, hp, h⟩ := Option.bind_eq_some_iff.mp h
  obtain ⟨ps, hps, h⟩ := Option.bind_eq_some_iff.mp h
  by_cases hs : (SeqAt.shaped p && SeqAt.shaped (.list ps)) = true
  · rw [if_pos hs] at h
    cases h
    obtain ⟨s1, s2⟩ := Bool.and_eq_true_iff.mp hs
    exact ⟨p, ps, hp, hps, s1, s2, rfl⟩
  · rw [if_neg hs] at h
    cases h
theorem dp_tup {M : Am} {ρ : List Addr} {H : Hp} {y : List D} {u : V} {ps : List PyData} (h : RW c M ρ H (.tup y) u) (e : toPys y = some ps) : Dp c.K H u (.tuple ps) := h.dp (by unfold toPy; rw [e]; rfl)
theorem dp_lst {M : Am} {ρ : List Addr} {H : Hp} {y : List D} {u : V} {ps : List PyData} (h : RW c M ρ H (.lst y) u) (e : toPys y = some ps) : Dp c.K H u (.list ps) := h.dp (by unfold toPy; rw [e]; rfl)
theorem v_in (hK : X.K = c.K) : V2 c (fun x y H Q => rInS x y H Q ∨ rInT X.K x y H Q ∨ rInD X.K x y H Q) inD := by
  intro M ρ H x y e v u Q d hx hy hF q
  obtain ⟨b, hb, rfl⟩ := Option.map_eq_some_iff.mp hF
  cases y <;> first | (unfold inB at hb; cases hb) | skip
  · rename_i z
    obtain ⟨y, rfl, rfl⟩ := inB_str hb
    exact .inl ⟨y, z, hx.str, hy.str, q _ H (Ext.refl H) (.bl _)⟩
  · obtain ⟨p, ps, h1, h2, h3, h4, rfl⟩ := inB_seq (.inl hb)
    exact .inr (.inl ⟨p, ps, hK ▸ hx.dp h1, hK ▸ dp_tup hy h2, h3, h4, q _ H (Ext.refl H) (.bl _)⟩)
  · obtain ⟨p, ps, h1, h2, h3, h4, rfl⟩ := inB_seq (.inr hb)
    exact .inr (.inr ⟨p, ps, hK ▸ hx.dp h1, hK ▸ dp_lst hy h2, h3, h4, q _ H (Ext.refl H) (.bl _)⟩)
theorem v_nin (hK : X.K = c.K) : V2 c (fun x y H Q => rNinS x y H Q ∨ rNinT X.K x y H Q ∨ rNotInD X.K x y H Q) ninD := by
  intro M ρ H x y e v u Q d hx hy hF q
  obtain ⟨b, hb, rfl⟩ := Option.map_eq_some_iff.mp hF
  cases y <;> first | (unfold inB at hb; cases hb) | skip
  · rename_i z
    obtain ⟨y, rfl, rfl⟩ := inB_str hb
    exact .inl ⟨y, z, hx.str, hy.str, q _ H (Ext.refl H) (.bl _)⟩
  · obtain ⟨p, ps, h1, h2, h3, h4, rfl⟩ := inB_seq (.inl hb)
    exact .inr (.inl ⟨p, ps, hK ▸ hx.dp h1, hK ▸ dp_tup hy h2, h3, h4, q _ H (Ext.refl H) (.bl _)⟩)
  · obtain ⟨p, ps, h1, h2, h3, h4, rfl⟩ := inB_seq (.inr hb)
    exact .inr (.inr ⟨p, ps, hK ▸ hx.dp h1, hK ▸ dp_lst hy h2, h3, h4, q _ H (Ext.refl H) (.bl _)⟩)
end

/-! ### as expressions -/
section
variable {X : Cx} {c : Cn} {g : Gr} {W : WX} {a b : Expr} {o1 o2 : Op} {pos : Pos}
theorem e_add (hK : X.K = c.K) (ha : PE X a (tO c W o1)) (hb : PE X b (tO c W o2)) : PE X (.BinOp a .Add b pos) (tE c W (op2 addD o1 o2)) := pe_imp (pe_op r_add ha hb) fun _ _ _ h => t_op2 (v_add hK) h
theorem l_add (ha : PE X a (tO c W o1)) (hb : PE X b (tO c W o2)) : PE X (.BinOp a .Add b pos) (tL c W (op2L addL o1 o2)) := pe_imp (pe_op op_cat ha hb) fun _ _ _ h => t_op2L v_addL h
theorem e_sub (ha : PE X a (tO c W o1)) (hb : PE X b (tO c W o2)) : PE X (.BinOp a .Sub b pos) (tE c W (op2 subD o1 o2)) := pe_imp (pe_op op_sub ha hb) fun _ _ _ h => t_op2 v_sub h
theorem e_mul (hK : X.K = c.K) (ha : PE X a (tO c W o1)) (hb : PE X b (tO c W o2)) : PE X (.BinOp a .Mult b pos) (tE c W (op2 mulD o1 o2)) := pe_imp (pe_op r_mul ha hb) fun _ _ _ h => t_op2 (v_mul hK) h
theorem l_mul (ha : PE X a (tO c W o1)) (hb : PE X b (tO c W o2)) : PE X (.BinOp a .Mult b pos) (tL c W (op2L mulL o1 o2)) := pe_imp (pe_op op_rep ha hb) fun _ _ _ h => t_op2L v_mulL h
theorem e_div (ha : PE X a (tO c W o1)) (hb : PE X b (tO c W o2)) : PE X (.BinOp a .FloorDiv b pos) (tE c W (op2 divD o1 o2)) := pe_imp (pe_op op_fdivN ha hb) fun _ _ _ h => t_op2 v_div h
theorem e_mod (ha : PE X a (tO c W o1)) (hb : PE X b (tO c W o2)) : PE X (.BinOp a .Mod b pos) (tE c W (op2 modD o1 o2)) := pe_imp (pe_op op_modN ha hb) fun _ _ _ h => t_op2 v_mod h
theorem e_pow (ha : PE X a (tO c W o1)) (hb : PE X b (tO c W o2)) : PE X (.BinOp a .Pow b pos) (tE c W (op2 powD o1 o2)) := pe_imp (pe_op op_pow ha hb) fun _ _ _ h => t_op2 v_pow h
theorem e_neg (ha : PE X a (tO c W o1)) : PE X (.UnaryOp .USub a pos) (tE c W (op1 negD o1)) := pe_imp (pe_un un_neg ha) fun _ _ _ h => t_op1 v_neg h
/-- a comparison: as a value, as a test -/
def asB (f : Ex) : S → R Bool := fun s => (f s).bind fun d s1 => match d with
  | .bl b => .ok b s1
  | _ => .bad
def OutT (c : Cn) (g : Gr) (W : WX) (M : Am) (ρ : List Addr) (σ : L2.St) (H : Hp) (r : R Bool) (Q : Bool → Hp → Prop) : Prop := match r with
  | .ok b s' => ∀ M' ρ' H', Rel c g M' ρ' s' σ H' → Keep g M ρ H M' ρ' H' → Q b H'
  | .exc x s' => ∀ M' ρ' H' cls dd, Rel c g M' ρ' s' σ H' → Keep g M ρ H M' ρ' H' → XR c x cls dd H' → W cls dd σ H'
  | .bad => False
def tT (c : Cn) (W : WX) (f : S → R Bool) : TT := fun σ H Q => ∃ g M ρ s, Rel c g M ρ s σ H ∧ OutT c g W M ρ σ H (f s) Q
theorem OutT.keep {M M1 : Am} {ρ ρ1 : List Addr} {σ : L2.St} {H H1 : Hp} {Q : Bool → Hp → Prop} (k : Keep g M ρ H M1 ρ1 H1) {r : R Bool} (h : OutT c g W M ρ σ H r Q) : OutT c g W M1 ρ1 σ H1 r Q := by
  cases r with
  | ok d s' => exact fun M' ρ' H' a b => h M' ρ' H' a (k.trans b)
  | exc x s' => exact fun M' ρ' H' cls dd a b e => h M' ρ' H' cls dd a (k.trans b) e
  | bad => exact h
theorem t_asB {f : Ex} {σ : L2.St} {H : Hp} {Q : Bool → Hp → Prop} (h : tT c W (asB f) σ H Q) : tE c W f σ H fun x H' => ∃ k, x = .bl k ∧ Q k H' := by
  obtain ⟨g, M, ρ, s, rel, h⟩ := h
  refine tE.bind (out := fun M ρ H r => OutT c g W M ρ σ H r Q) rel (fun _ _ z => z) (fun z => z) h fun d s1 M1 ρ1 v H1 r1 k1 hd h1 => ?_
  cases d <;> first | exact h1.elim | skip
  cases hd
  exact ⟨_, rfl, h1 M1 ρ1 H1 r1 k1⟩
theorem e_cmp {op : CmpOp} {r : R2} {F : D → D → Option D} (ho : OpR X (compareOp op) r) (hv : V2 c r F) (ha : PE X a (tO c W o1)) (hb : PE X b (tO c W o2)) (hm : behindInMarks op b = false := by first | exact nobehind _ (by decide) (by decide) | rfl) :
    PE X (.Compare a [op] [b] pos) (tE c W (op2 F o1 o2)) := pe_imp (pe_cmpR ho ha hb hm) fun _ _ _ h => t_op2 hv h
theorem b_cmp {op : CmpOp} {r : R2} {F : D → D → Option D} (ho : OpR X (compareOp op) r) (hv : V2 c r F) (ha : PE X a (tO c W o1)) (hb : PE X b (tO c W o2)) (hm : behindInMarks op b = false := by first | exact nobehind _ (by decide) (by decide) | rfl) :
    PT X (.Compare a [op] [b] pos) (tT c W (asB (op2 F o1 o2))) := pt_imp (pt_cmpR ho ha hb hm) fun _ _ _ h => (by
  obtain ⟨g, M, ρ, s, rel, h⟩ := h
  exact t_op2 hv (t_asB ⟨g, M, ρ, s, rel, h⟩))
/-- an expression as a test -/
theorem b_val {e : Expr} {f : Ex} (h : PE X e (tE c W f)) (he : ∀ whole, isTrue e X.env whole = (do let v ← whole; standAt e.pos; holding [v] (truthy v)) := by intro _; rfl) : PT X e (tT c W (asB f)) := pt_imp (pt_val h he) fun _ _ _ h => t_asB h
def andT (f g : S → R Bool) : S → R Bool := fun s => (f s).bind fun b s1 => if b = true then g s1 else .ok false s1
def orT (f g : S → R Bool) : S → R Bool := fun s => (f s).bind fun b s1 => if b = true then .ok true s1 else g s1
def notT (f : S → R Bool) : S → R Bool := fun s => (f s).bind fun b s1 => .ok (!b) s1
theorem tT.bind {β : Type} {M : Am} {ρ : List Addr} {s : S} {σ : L2.St} {H : Hp} {Q : Bool → Hp → Prop} {f : S → R Bool} {k : Bool → S → R β} {out : Am → List Addr → Hp → R β → Prop} (rel : Rel c g M ρ s σ H)
    (hx : ∀ x s', out M ρ H (.exc x s') → ∀ M' ρ' H' cls dd, Rel c g M' ρ' s' σ H' → Keep g M ρ H M' ρ' H' → XR c x cls dd H' → W cls dd σ H') (hb : ¬ out M ρ H .bad)
    (h : out M ρ H ((f s).bind k)) (hq : ∀ b s1 M1 ρ1 H1, Rel c g M1 ρ1 s1 σ H1 → Keep g M ρ H M1 ρ1 H1 → out M ρ H (k b s1) → Q b H1) : tT c W f σ H Q := by
  refine ⟨g, M, ρ, s, rel, ?_⟩
  cases e : f s with
  | ok t s1 =>
    rw [e] at h
    exact fun M1 ρ1 H1 r1 k1 => hq t s1 M1 ρ1 H1 r1 k1 h
  | exc x s1 =>
    rw [e] at h
    exact hx x s1 h
  | bad =>
    rw [e] at h
    exact hb h
theorem t_and {f k : S → R Bool} {σ : L2.St} {H : Hp} {Q : Bool → Hp → Prop} (h : tT c W (andT f k) σ H Q) : tAnd (tT c W f) (tT c W k) σ H Q := by
  obtain ⟨g, M, ρ, s, rel, h⟩ := h
  refine tT.bind (out := fun M ρ H r => OutT c g W M ρ σ H r Q) rel (fun _ _ z => z) (fun z => z) h fun b s1 M1 ρ1 H1 r1 k1 h1 => ?_
  cases b with
  | true => exact ⟨g, M1, ρ1, s1, r1, OutT.keep k1 h1⟩
  | false => exact h1 M1 ρ1 H1 r1 k1
theorem t_or {f k : S → R Bool} {σ : L2.St} {H : Hp} {Q : Bool → Hp → Prop} (h : tT c W (orT f k) σ H Q) : tOr (tT c W f) (tT c W k) σ H Q := by
  obtain ⟨g, M, ρ, s, rel, h⟩ := h
  refine tT.bind (out := fun M ρ H r => OutT c g W M ρ σ H r Q) rel (fun _ _ z => z) (fun z => z) h fun b s1 M1 ρ1 H1 r1 k1 h1 => ?_
  cases b with
  | false => exact ⟨g, M1, ρ1, s1, r1, OutT.keep k1 h1⟩
  | true => exact h1 M1 ρ1 H1 r1 k1
theorem t_not {f : S → R Bool} {σ : L2.St} {H : Hp} {Q : Bool → Hp → Prop} (h : tT c W (notT f) σ H Q) : tNot (tT c W f) σ H Q := by
  obtain ⟨g, M, ρ, s, rel, h⟩ := h
  exact tT.bind (out := fun M ρ H r => OutT c g W M ρ σ H r Q) rel (fun _ _ z => z) (fun z => z) h fun b s1 M1 ρ1 H1 r1 k1 h1 => h1 M1 ρ1 H1 r1 k1
variable {f k : S → R Bool} {rest : List Expr}
theorem w_and (ha : PT X a (tT c W f)) (hb : PW X (.BoolOp .And (b :: rest) pos) (tT c W k)) : PW X (.BoolOp .And (a :: b :: rest) pos) (tT c W (andT f k)) := pw_imp (pw_and ha hb) fun _ _ _ h => t_and h
theorem w_or (ha : PT X a (tT c W f)) (hb : PW X (.BoolOp .Or (b :: rest) pos) (tT c W k)) : PW X (.BoolOp .Or (a :: b :: rest) pos) (tT c W (orT f k)) := pw_imp (pw_or ha hb) fun _ _ _ h => t_or h
theorem b_not (ha : PT X a (tT c W f)) : PT X (.UnaryOp .Not a pos) (tT c W (notT f)) := pt_imp (pt_not ha) fun _ _ _ h => t_not h
/-- and, or, not as values -/
def andE (f k : Ex) : Ex := fun s => (asB f s).bind fun b s1 => if b = true then k s1 else .ok (.bl false) s1
def orE (f k : Ex) : Ex := fun s => (asB f s).bind fun b s1 => if b = true then .ok (.bl true) s1 else k s1
def notE (f : Ex) : Ex := fun s => (asB f s).bind fun b s1 => .ok (.bl (!b)) s1
def ifE (t : S → R Bool) (f k : Ex) : Ex := fun s => (t s).bind fun b s1 => if b = true then f s1 else k s1
variable {fa fb : Ex}
theorem t_andE {σ : L2.St} {H : Hp} {Q : VK} (h : tE c W (andE fa fb) σ H Q) : tAndV (tE c W fa) (tE c W fb) σ H Q := by
  obtain ⟨g, M, ρ, s, rel, h⟩ := h
  refine t_asB (tT.bind (out := fun M ρ H r => OutE c g W M ρ σ H r Q) rel (fun _ _ z => z) (fun z => z) h fun b s1 M1 ρ1 H1 r1 k1 h1 => ?_)
  cases b with
  | true => exact ⟨g, M1, ρ1, s1, r1, OutE.keep k1 h1⟩
  | false => exact h1 M1 ρ1 _ H1 r1 k1 (.bl _)
theorem t_orE {σ : L2.St} {H : Hp} {Q : VK} (h : tE c W (orE fa fb) σ H Q) : tOrV (tE c W fa) (tE c W fb) σ H Q := by
  obtain ⟨g, M, ρ, s, rel, h⟩ := h
  refine t_asB (tT.bind (out := fun M ρ H r => OutE c g W M ρ σ H r Q) rel (fun _ _ z => z) (fun z => z) h fun b s1 M1 ρ1 H1 r1 k1 h1 => ?_)
  cases b with
  | false => exact ⟨g, M1, ρ1, s1, r1, OutE.keep k1 h1⟩
  | true => exact h1 M1 ρ1 _ H1 r1 k1 (.bl _)
theorem t_notE {σ : L2.St} {H : Hp} {Q : VK} (h : tE c W (notE fa) σ H Q) : tNotV (tE c W fa) σ H Q := by
  obtain ⟨g, M, ρ, s, rel, h⟩ := h
  exact t_asB (tT.bind (out := fun M ρ H r => OutE c g W M ρ σ H r Q) rel (fun _ _ z => z) (fun z => z) h fun b s1 M1 ρ1 H1 r1 k1 h1 => h1 M1 ρ1 _ H1 r1 k1 (.bl _))
theorem e_and (ha : PE X a (tE c W fa)) (hb : PE X (.BoolOp .And (b :: rest) pos) (tE c W fb)) : PE X (.BoolOp .And (a :: b :: rest) pos) (tE c W (andE fa fb)) := pe_imp (pe_and ha hb) fun _ _ _ h => t_andE h
theorem e_or (ha : PE X a (tE c W fa)) (hb : PE X (.BoolOp .Or (b :: rest) pos) (tE c W fb)) : PE X (.BoolOp .Or (a :: b :: rest) pos) (tE c W (orE fa fb)) := pe_imp (pe_or ha hb) fun _ _ _ h => t_orE h
theorem e_not (ha : PE X a (tE c W fa)) : PE X (.UnaryOp .Not a pos) (tE c W (notE fa)) := pe_imp (pe_not ha) fun _ _ _ h => t_notE h
theorem e_if {t : Expr} {ft : S → R Bool} (ht : PT X t (tT c W ft)) (ha : PE X a (tE c W fa)) (hb : PE X b (tE c W fb)) : PE X (.IfExp t a b pos) (tE c W (ifE ft fa fb)) := pe_imp (pe_ifExp ht ha hb) fun σ H Q h => by
  obtain ⟨g, M, ρ, s, rel, h⟩ := h
  refine tT.bind (out := fun M ρ H r => OutE c g W M ρ σ H r Q) rel (fun _ _ z => z) (fun z => z) h fun b s1 M1 ρ1 H1 r1 k1 h1 => ?_
  cases b with
  | false => exact ⟨g, M1, ρ1, s1, r1, OutE.keep k1 h1⟩
  | true => exact ⟨g, M1, ρ1, s1, r1, OutE.keep k1 h1⟩
/-- a < b < c -/
def chn (F F' : D → D → Option D) (o1 o2 o3 : Op) : Ex := fun s => (o1 s).bind fun t1 s1 => (o2 s1).bind fun t2 s2 => match (deref s2 t1).bind fun x => (deref s2 t2).bind fun y => F x y with
  | some (.bl true) => (o3 s2).bind fun t3 s3 => R.of ((deref s3 t2).bind fun y => (deref s3 t3).bind fun z => F' y z) s3
  | some (.bl false) => .ok (.bl false) s2
  | _ => .bad
theorem t_chn {r r' : R2} {F F' : D → D → Option D} {o3 : Op} (hr : V2 c r F) (hr' : V2 c r' F') {σ : L2.St} {H : Hp} {Q : VK} (h : tE c W (chn F F' o1 o2 o3) σ H Q) : tChain r r' (tO c W o1) (tO c W o2) (tO c W o3) σ H Q := by
  obtain ⟨g, M, ρ, s, rel, h⟩ := h
  refine tO.bind (out := fun M ρ H r => OutE c g W M ρ σ H r Q) rel (fun _ _ z => z) (fun z => z) h fun t s1 M1 ρ1 v H1 r1 k1 t1 h1 => ?_
  refine tO.bind (out := fun M ρ H r => OutE c g W M ρ σ H r Q) r1 (fun _ _ z => z) (fun z => z) (OutE.keep k1 h1) fun t' s2 M2 ρ2 v' H2 r2 k2 t2 h2 => ?_
  have h2 := OutE.keep k2 h2
  cases q : (deref s2 t).bind fun x => (deref s2 t').bind fun y => F x y with
  | none =>
    simp only [q] at h2
    exact h2.elim
  | some e =>
    simp only [q] at h2
    obtain ⟨x, hx, q⟩ := Option.bind_eq_some_iff.mp q
    obtain ⟨y, hy, hF⟩ := Option.bind_eq_some_iff.mp q
    refine hr M2 ρ2 H2 x y e v v' _ r2.h.dom (RW.of_tok r2 (t1.keep k2) hx) (RW.of_tok r2 t2 hy) hF fun u H3 e3 hd => ?_
    have he : ∃ b, e = .bl b := by
      cases e with
      | bl b => exact ⟨b, rfl⟩
      | _ => exact h2.elim
    obtain ⟨b, rfl⟩ := he
    cases hd
    refine ⟨b, rfl, ?_⟩
    cases b with
    | false => exact h2 M2 ρ2 _ H3 (r2.ext e3) (r2.kext e3) (.bl _)
    | true =>
      have r3 := r2.ext e3
      have k3 : Keep g M2 ρ2 H2 M2 ρ2 H3 := r2.kext e3
      refine tO.bind (out := fun M ρ H r => OutE c g W M ρ σ H r Q) r3 (fun _ _ z => z) (fun z => z) (OutE.keep k3 h2) fun t'' s4 M4 ρ4 v'' H4 r4 k4 t4 h4 => ?_
      have h4 := OutE.keep k4 h4
      cases q' : (deref s4 t').bind fun y => (deref s4 t'').bind fun z => F' y z with
      | none =>
        rw [q'] at h4
        exact h4.elim
      | some e' =>
        rw [q'] at h4
        obtain ⟨y', hy', q'⟩ := Option.bind_eq_some_iff.mp q'
        obtain ⟨z, hz, hF'⟩ := Option.bind_eq_some_iff.mp q'
        exact hr' M4 ρ4 H4 y' z e' v' v'' Q r4.h.dom (RW.of_tok r4 ((t2.keep k3).keep k4) hy') (RW.of_tok r4 t4 hz) hF' fun u H5 e5 hd => h4 M4 ρ4 u H5 (r4.ext e5) (r4.kext e5) hd
theorem e_chn {op op' : CmpOp} {r r' : R2} {F F' : D → D → Option D} {d : Expr} {o3 : Op} (ho : OpR X (compareOp op) r) (hr : V2 c r F) (ho' : OpR X (compareOp op') r') (hr' : V2 c r' F') (ha : PE X a (tO c W o1)) (hb : PE X b (tO c W o2)) (hc : PE X d (tO c W o3))
    (hm : lastMarks [op, op'] [b, d] = false := by with_unfolding_all rfl) : PE X (.Compare a [op, op'] [b, d] pos) (tE c W (chn F F' o1 o2 o3)) := pe_imp (pe_chain ho ho' ha hb hc hm) fun _ _ _ h => t_chn hr hr' h
theorem b_chn {op op' : CmpOp} {r r' : R2} {F F' : D → D → Option D} {d : Expr} {o3 : Op} (ho : OpR X (compareOp op) r) (hr : V2 c r F) (ho' : OpR X (compareOp op') r') (hr' : V2 c r' F') (ha : PE X a (tO c W o1)) (hb : PE X b (tO c W o2)) (hc : PE X d (tO c W o3))
    (hm : lastMarks [op, op'] [b, d] = false := by with_unfolding_all rfl) : PT X (.Compare a [op, op'] [b, d] pos) (tT c W (asB (chn F F' o1 o2 o3))) := pt_imp (pt_chain ho ho' ha hb hc hm) fun _ _ _ h => (by
  obtain ⟨g, M, ρ, s, rel, h⟩ := h
  exact t_chn hr hr' (t_asB ⟨g, M, ρ, s, rel, h⟩))
end
end DS
/-! DS5: items, slices, displays, built-ins. -/
namespace DS
open PySem PySem.Spec PyProof.Rows L2

/-! ### items -/
def ixD : D → D → Option D
  | .tup xs, .int i => atI xs i
  | .lst xs, .int i => atI xs i
  | .scr xs, .int i => atI xs i
  | .str z, .int i => if z.length ≤ LIM then (atI z.cps.toList i).map fun k => .str ⟨#[k]⟩ else none
  | _, _ => none
section
variable {c : Cn} {M : Am} {ρ : List Addr} {H : Hp}
theorem RDs.at {xs : List D} {vs : List V} {i : Int} {d : D} (r : RDs c M ρ H xs vs) (h : atI xs i = some d) : ∃ v, atI vs i = some v ∧ RD c M ρ H d v := by
  unfold atI at h ⊢
  obtain ⟨j, hj, h⟩ := Option.bind_eq_some_iff.mp h
  obtain ⟨v, h1, h2⟩ := r.get h
  refine ⟨v, ?_, h2⟩
  rw [← r.length, hj]
  exact h1
end
section
variable {X : Cx} {c : Cn} {g : Gr} {W : WX} {a b : Expr} {o1 o2 : Op} {pos : Pos}
theorem v_ix (hK : X.K = c.K) : V2 c (rIx X.K) ixD := by
  intro M ρ H x y e v u Q d hx hy hF q
  unfold ixD at hF
  split at hF
  · obtain ⟨a, vs, e1, h1, h2⟩ := hx.tup
    obtain ⟨w, h3, h4⟩ := h2.at hF
    exact .inr (.inl ⟨a, vs, _, w, e1, hy.int, hK ▸ h1, h3, q w H (Ext.refl H) h4⟩)
  · obtain ⟨a, vs, e1, h1, h2⟩ := hx.lst
    obtain ⟨w, h3, h4⟩ := h2.at hF
    exact .inl ⟨a, vs, _, w, e1, hy.int, .inl (.inl h1), h3, q w H (Ext.refl H) h4⟩
  · obtain ⟨a, vs, e1, h1, h2⟩ := hx.scr
    obtain ⟨w, h3, h4⟩ := h2.at hF
    exact .inl ⟨a, vs, _, w, e1, hy.int, hK ▸ h1, h3, q w H (Ext.refl H) h4⟩
  · split at hF
    · obtain ⟨k, h1, rfl⟩ := Option.map_eq_some_iff.mp hF
      exact .inr (.inr ⟨_, _, k, hx.str, hy.int, by assumption, h1, q _ H (Ext.refl H) (.str _)⟩)
    · cases hF
  · cases hF
theorem e_ix (hK : X.K = c.K) (ha : PE X a (tO c W o1)) (hb : PE X b (tO c W o2)) (hs : PlainIx b := by intro _ _; rfl) : PE X (.Subscript a b pos) (tE c W (op2 ixD o1 o2)) := pe_imp (pe_ix ix_seq ha hb hs) fun _ _ _ h => t_op2 (v_ix hK) h
end

/-! ### slices -/
def cutL {α : Type} (xs : List α) (lo hi : Option Int) : List α := (xs.drop (HT.sIx xs.length 0 lo)).take (HT.sIx xs.length xs.length hi - HT.sIx xs.length 0 lo)
def slD (x : D) (lo hi : Option Int) : Option D := match x with
  | .tup xs => some (.tup (cutL xs lo hi))
  | .lst xs => some (.lst (cutL xs lo hi))
  | .scr xs => some (.lst (cutL xs lo hi))
  | .str z => if z.length ≤ LIM then some (.str (cutS z lo hi)) else none
  | _ => none
def slLs (x : D) (lo hi : Option Int) : Option (List D) := match x with
  | .lst xs => some (cutL xs lo hi)
  | .scr xs => some (cutL xs lo hi)
  | _ => none
def part : Option Ex → S → R (Option Int)
  | none, s => .ok none s
  | some f, s => (f s).bind fun d s1 => match d with
    | .int i => .ok (some i) s1
    | _ => .bad
def sl (o : Op) (lo hi : Option Ex) : Ex := fun s => (o s).bind fun t s1 => (part lo s1).bind fun l s2 => (part hi s2).bind fun u s3 => R.of ((deref s3 t).bind fun x => slD x l u) s3
def slL (o : Op) (lo hi : Option Ex) : ExL := fun s => (o s).bind fun t s1 => (part lo s1).bind fun l s2 => (part hi s2).bind fun u s3 => R.of ((deref s3 t).bind fun x => slLs x l u) s3
section
variable {X : Cx} {c : Cn} {g : Gr} {W : WX} {a b : Expr} {o1 o2 : Op} {pos : Pos}
def OutP (c : Cn) (g : Gr) (W : WX) (M : Am) (ρ : List Addr) (σ : L2.St) (H : Hp) (r : R (Option Int)) (Q : Option Int → Hp → Prop) : Prop := match r with
  | .ok i s' => ∀ M' ρ' H', Rel c g M' ρ' s' σ H' → Keep g M ρ H M' ρ' H' → Q i H'
  | .exc x s' => ∀ M' ρ' H' cls dd, Rel c g M' ρ' s' σ H' → Keep g M ρ H M' ρ' H' → XR c x cls dd H' → W cls dd σ H'
  | .bad => False
def tP (c : Cn) (W : WX) (p : Option Ex) : TO := fun σ H Q => ∃ g M ρ s, Rel c g M ρ s σ H ∧ OutP c g W M ρ σ H (part p s) Q
theorem po_imp {e : Option Expr} {t t' : TO} (h : PO X e t) (i : ∀ σ H Q, t' σ H Q → t σ H Q) : PO X e t' := ⟨fun pins s σ H Q I q => h.run pins s σ H Q I (i _ _ _ q)⟩
theorem p_none : PO X none (tP c W none) := po_imp po_none fun σ H Q h => by
  obtain ⟨g, M, ρ, s, rel, h⟩ := h
  exact h M ρ H rel (Keep.refl _ _ _ _)
theorem p_some {e : Expr} {f : Ex} (h : PE X e (tE c W f)) : PO X (some e) (tP c W (some f)) := po_imp (po_some h) fun σ H Q h => by
  obtain ⟨g, M, ρ, s, rel, h⟩ := h
  refine tE.bind (out := fun M ρ H r => OutP c g W M ρ σ H r Q) rel (fun _ _ z => z) (fun z => z) h fun d s1 M1 ρ1 v H1 r1 k1 hd h1 => ?_
  have he : ∃ i, d = .int i := by
    cases d with
    | int i => exact ⟨i, rfl⟩
    | _ => exact h1.elim
  obtain ⟨i, rfl⟩ := he
  cases hd
  exact ⟨i, rfl, h1 M1 ρ1 H1 r1 k1⟩
theorem tP.bind {β : Type} {M : Am} {ρ : List Addr} {s : S} {σ : L2.St} {H : Hp} {Q : Option Int → Hp → Prop} {f : Option Ex} {k : Option Int → S → R β} {out : Am → List Addr → Hp → R β → Prop} (rel : Rel c g M ρ s σ H)
    (hx : ∀ x s', out M ρ H (.exc x s') → ∀ M' ρ' H' cls dd, Rel c g M' ρ' s' σ H' → Keep g M ρ H M' ρ' H' → XR c x cls dd H' → W cls dd σ H') (hb : ¬ out M ρ H .bad)
    (h : out M ρ H ((part f s).bind k)) (hq : ∀ b s1 M1 ρ1 H1, Rel c g M1 ρ1 s1 σ H1 → Keep g M ρ H M1 ρ1 H1 → out M ρ H (k b s1) → Q b H1) : tP c W f σ H Q := by
  refine ⟨g, M, ρ, s, rel, ?_⟩
  cases e : part f s with
  | ok t s1 =>
    rw [e] at h
    exact fun M1 ρ1 H1 r1 k1 => hq t s1 M1 ρ1 H1 r1 k1 h
  | exc x s1 =>
    rw [e] at h
    exact hx x s1 h
  | bad =>
    rw [e] at h
    exact hb h
theorem RDs.cut {M : Am} {ρ : List Addr} {H : Hp} {xs : List D} {vs : List V} (r : RDs c M ρ H xs vs) (lo hi : Option Int) : RDs c M ρ H (cutL xs lo hi) (cutV vs lo hi) := by
  unfold cutL cutV
  rw [r.length]
  exact (r.drop _).take _
abbrev rSl (K : PySem.W.Frag) : V → Option Int → Option Int → Hp → VK → Prop := fun x lo hi H Q => rSlA K x lo hi H Q ∨ rSlL K x lo hi H Q ∨ rSlS x lo hi H Q
theorem r_sl : SlR X (rSl X.K) := SlR.or sl_tupA (SlR.or sl_list sl_str)
theorem cutL_all {α : Type} {xs : List α} {lo hi : Option Int} (h : HT.sIx xs.length 0 lo = 0 ∧ HT.sIx xs.length xs.length hi = xs.length) : cutL xs lo hi = xs := by
  unfold cutL
  rw [h.1, h.2]
  simp
theorem e_sl (hK : X.K = c.K) {lo hi : Option Expr} {fl fh : Option Ex} {p2 : Pos} (ha : PE X a (tO c W o1)) (hl : PO X lo (tP c W fl)) (hh : PO X hi (tP c W fh)) : PE X (.Subscript a (.Slice lo hi none p2) pos) (tE c W (sl o1 fl fh)) :=
  pe_imp (pe_slice r_sl ha hl hh) fun σ H Q h => by
    obtain ⟨g, M, ρ, s, rel, h⟩ := h
    refine tO.bind (out := fun M ρ H r => OutE c g W M ρ σ H r Q) rel (fun _ _ z => z) (fun z => z) h fun t s1 M1 ρ1 v H1 r1 k1 t1 h1 => ?_
    refine tP.bind (out := fun M ρ H r => OutE c g W M ρ σ H r Q) r1 (fun _ _ z => z) (fun z => z) (OutE.keep k1 h1) fun l s2 M2 ρ2 H2 r2 k2 h2 => ?_
    refine tP.bind (out := fun M ρ H r => OutE c g W M ρ σ H r Q) r2 (fun _ _ z => z) (fun z => z) (OutE.keep k2 h2) fun u s3 M3 ρ3 H3 r3 k3 h3 => ?_
    have h3 := OutE.keep k3 h3
    cases q : (deref s3 t).bind fun x => slD x l u with
    | none =>
      rw [q] at h3
      exact h3.elim
    | some e =>
      rw [q] at h3
      obtain ⟨x, hx, q⟩ := Option.bind_eq_some_iff.mp q
      have rw3 := RW.of_tok r3 ((t1.keep k2).keep k3) hx
      cases x <;> first | cases q | skip
      · rename_i z
        have q2 : (if z.length ≤ LIM then some (D.str (cutS z l u)) else none) = some e := q
        by_cases hz : z.length ≤ LIM
        · rw [if_pos hz] at q2
          cases q2
          exact .inr (.inr ⟨z, rw3.str, hz, h3 M3 ρ3 _ H3 r3 (Keep.refl _ _ _ _) (.str _)⟩)
        · rw [if_neg hz] at q2
          cases q2
      · rename_i xs
        obtain ⟨a, vs, e1, h4, h5⟩ := rw3.tup
        refine .inl ⟨a, vs, e1, hK ▸ h4, fun hw => ?_, fun _ p hp => ?_⟩
        · subst e1
          rw [← h5.length] at hw
          rw [cutL_all hw] at h3
          exact h3 M3 ρ3 _ H3 r3 (Keep.refl _ _ _ _) rw3.rdt
        · exact h3 M3 ρ3 _ _ (r3.ext (Ext.new hp)) (r3.kext (Ext.new hp)) (RD.newT (H' := H3) r3.h.dom hp (h5.cut l u))
      · rename_i xs
        obtain ⟨a, vs, e1, h4, h5⟩ := rw3.lst
        exact .inr (.inl ⟨a, vs, e1, .inl (.inl h4), fun p hp => h3 M3 ρ3 _ _ (r3.ext (Ext.new hp)) (r3.kext (Ext.new hp)) (RD.newL r3.h.dom hp (h5.cut l u))⟩)
      · rename_i xs
        obtain ⟨a, vs, e1, h4, h5⟩ := rw3.scr
        exact .inr (.inl ⟨a, vs, e1, hK ▸ h4, fun p hp => h3 M3 ρ3 _ _ (r3.ext (Ext.new hp)) (r3.kext (Ext.new hp)) (RD.newL r3.h.dom hp (h5.cut l u))⟩)
theorem l_sl (hK : X.K = c.K) {lo hi : Option Expr} {fl fh : Option Ex} {p2 : Pos} (ha : PE X a (tO c W o1)) (hl : PO X lo (tP c W fl)) (hh : PO X hi (tP c W fh)) : PE X (.Subscript a (.Slice lo hi none p2) pos) (tL c W (slL o1 fl fh)) :=
  pe_imp (pe_slice sl_list ha hl hh) fun σ H Q h => by
    obtain ⟨g, M, ρ, s, rel, h⟩ := h
    refine tO.bind (out := fun M ρ H r => OutL c g W M ρ σ H r Q) rel (fun _ _ z => z) (fun z => z) h fun t s1 M1 ρ1 v H1 r1 k1 t1 h1 => ?_
    refine tP.bind (out := fun M ρ H r => OutL c g W M ρ σ H r Q) r1 (fun _ _ z => z) (fun z => z) (OutL.keep k1 h1) fun l s2 M2 ρ2 H2 r2 k2 h2 => ?_
    refine tP.bind (out := fun M ρ H r => OutL c g W M ρ σ H r Q) r2 (fun _ _ z => z) (fun z => z) (OutL.keep k2 h2) fun u s3 M3 ρ3 H3 r3 k3 h3 => ?_
    have h3 := OutL.keep k3 h3
    cases q : (deref s3 t).bind fun x => slLs x l u with
    | none =>
      rw [q] at h3
      exact h3.elim
    | some e =>
      rw [q] at h3
      obtain ⟨x, hx, q⟩ := Option.bind_eq_some_iff.mp q
      have rw3 := RW.of_tok r3 ((t1.keep k2).keep k3) hx
      cases x <;> first | cases q | skip
      · rename_i xs
        obtain ⟨a, vs, e1, h4, h5⟩ := rw3.lst
        exact ⟨a, vs, e1, .inl (.inl h4), fun p hp => out_new r3 h3 hp (Ext.new hp) upd_same (h5.cut l u)⟩
      · rename_i xs
        obtain ⟨a, vs, e1, h4, h5⟩ := rw3.scr
        exact ⟨a, vs, e1, hK ▸ h4, fun p hp => out_new r3 h3 hp (Ext.new hp) upd_same (h5.cut l u)⟩
end

/-! ### argument lists, displays -/
def evA : List Ex → S → R (List D)
  | [], s => .ok [] s
  | f :: fs, s => (f s).bind fun d s1 => (evA fs s1).bind fun ds s2 => .ok (d :: ds) s2
def tupE (fs : List Ex) : Ex := fun s => (evA fs s).bind fun ds s1 => .ok (.tup ds) s1
def lstE (fs : List Ex) : ExL := evA fs
section
variable {X : Cx} {c : Cn} {g : Gr} {W : WX} {a b : Expr} {o1 o2 : Op} {pos : Pos}
def OutA (c : Cn) (g : Gr) (W : WX) (M : Am) (ρ : List Addr) (σ : L2.St) (H : Hp) (r : R (List D)) (Q : List V → Hp → Prop) : Prop := match r with
  | .ok ds s' => ∀ M' ρ' vs H', Rel c g M' ρ' s' σ H' → Keep g M ρ H M' ρ' H' → RDs c M' ρ' H' ds vs → Q vs H'
  | .exc x s' => ∀ M' ρ' H' cls dd, Rel c g M' ρ' s' σ H' → Keep g M ρ H M' ρ' H' → XR c x cls dd H' → W cls dd σ H'
  | .bad => False
def tA (c : Cn) (W : WX) (fs : List Ex) : TA := fun σ H Q => ∃ g M ρ s, Rel c g M ρ s σ H ∧ OutA c g W M ρ σ H (evA fs s) Q
theorem OutA.keep {M M1 : Am} {ρ ρ1 : List Addr} {σ : L2.St} {H H1 : Hp} {Q : List V → Hp → Prop} (k : Keep g M ρ H M1 ρ1 H1) {r : R (List D)} (h : OutA c g W M ρ σ H r Q) : OutA c g W M1 ρ1 σ H1 r Q := by
  cases r with
  | ok d s' => exact fun M' ρ' v H' a b e => h M' ρ' v H' a (k.trans b) e
  | exc x s' => exact fun M' ρ' H' cls dd a b e => h M' ρ' H' cls dd a (k.trans b) e
  | bad => exact h
theorem tA.bind {β : Type} {M : Am} {ρ : List Addr} {s : S} {σ : L2.St} {H : Hp} {Q : List V → Hp → Prop} {f : List Ex} {k : List D → S → R β} {out : Am → List Addr → Hp → R β → Prop} (rel : Rel c g M ρ s σ H)
    (hx : ∀ x s', out M ρ H (.exc x s') → ∀ M' ρ' H' cls dd, Rel c g M' ρ' s' σ H' → Keep g M ρ H M' ρ' H' → XR c x cls dd H' → W cls dd σ H') (hb : ¬ out M ρ H .bad)
    (h : out M ρ H ((evA f s).bind k)) (hq : ∀ ds s1 M1 ρ1 vs H1, Rel c g M1 ρ1 s1 σ H1 → Keep g M ρ H M1 ρ1 H1 → RDs c M1 ρ1 H1 ds vs → out M ρ H (k ds s1) → Q vs H1) : tA c W f σ H Q := by
  refine ⟨g, M, ρ, s, rel, ?_⟩
  cases e : evA f s with
  | ok t s1 =>
    rw [e] at h
    exact fun M1 ρ1 vs H1 r1 k1 rd => hq t s1 M1 ρ1 vs H1 r1 k1 rd h
  | exc x s1 =>
    rw [e] at h
    exact hx x s1 h
  | bad =>
    rw [e] at h
    exact hb h
theorem a_nil : PA X [] (tA c W []) := pa_imp pa_nil fun σ H Q h => by
  obtain ⟨g, M, ρ, s, rel, h⟩ := h
  exact h M ρ [] H rel (Keep.refl _ _ _ _) .nil
theorem a_cons {e : Expr} {es : List Expr} {f : Ex} {fs : List Ex} (ha : PE X e (tE c W f)) (hr : PA X es (tA c W fs)) (hs : starEach (e :: es) X.env = (false, eval e X.env) :: starEach es X.env := by rfl) : PA X (e :: es) (tA c W (f :: fs)) :=
  pa_imp (pa_cons ha hr hs) fun σ H Q h => by
    obtain ⟨g, M, ρ, s, rel, h⟩ := h
    refine tE.bind (out := fun M ρ H r => OutA c g W M ρ σ H r Q) rel (fun _ _ z => z) (fun z => z) h fun d s1 M1 ρ1 v H1 r1 k1 hd h1 => ?_
    refine tA.bind (out := fun M ρ H r => OutA c g W M ρ σ H r Q) r1 (fun _ _ z => z) (fun z => z) (OutA.keep k1 h1) fun ds s2 M2 ρ2 vs H2 r2 k2 hds h2 => ?_
    exact OutA.keep k2 h2 M2 ρ2 (v :: vs) H2 r2 (Keep.refl _ _ _ _) (.cons (hd.keep k2) hds)
theorem evA_len : ∀ {fs : List Ex} {s s' : S} {ds : List D}, evA fs s = .ok ds s' → ds.length = fs.length
  | [], s, s', ds, h => by cases h; rfl
  | f :: fs, s, s', ds, h => by
    unfold evA at h
    cases e : f s with
    | exc x s1 => rw [e] at h; cases h
    | bad => rw [e] at h; cases h
    | ok d s1 =>
      rw [e] at h
      simp only [R.bind_ok] at h
      cases e2 : evA fs s1 with
      | exc x s1 => rw [e2] at h; cases h
      | bad => rw [e2] at h; cases h
      | ok ds2 s2 =>
        rw [e2] at h
        cases h
        show ds2.length + 1 = fs.length + 1
        rw [evA_len e2]
theorem e_tup {es : List Expr} {fs : List Ex} {k : Nat} (h : PA X es (tA c W fs)) (hl : fs.length ≤ LIM := by decide) : PE X (.Tuple es k pos) (tE c W (tupE fs)) := pe_imp (pe_tup h) fun σ H Q h => by
  obtain ⟨g, M, ρ, s, rel, h⟩ := h
  refine ⟨g, M, ρ, s, rel, ?_⟩
  unfold tupE at h
  cases e : evA fs s with
  | exc x s1 => rw [e] at h; exact h
  | bad => rw [e] at h; exact h
  | ok ds s1 =>
    rw [e] at h
    intro M' ρ' vs H' r k rd
    refine ⟨?_, fun p hp => h M' ρ' (.ref p) _ (r.ext (Ext.new hp)) (k.trans (r.kext (Ext.new hp))) (RD.newT (H' := H') r.h.dom hp rd)⟩
    rw [← rd.length, evA_len e]
    exact hl
theorem l_lst {es : List Expr} {fs : List Ex} (h : PA X es (tA c W fs)) (hl : fs.length ≤ LIM := by decide) : PE X (.List es pos) (tL c W (lstE fs)) := pe_imp (pe_lst h) fun σ H Q h => by
  obtain ⟨g, M, ρ, s, rel, h⟩ := h
  refine ⟨g, M, ρ, s, rel, ?_⟩
  unfold lstE at h
  cases e : evA fs s with
  | exc x s1 => rw [e] at h; exact h
  | bad => rw [e] at h; exact h
  | ok ds s1 =>
    rw [e] at h
    intro M' ρ' vs H' r k rd
    refine ⟨?_, fun p hp => ?_⟩
    · rw [← rd.length, evA_len e]
      exact hl
    · obtain ⟨r', f'⟩ := r.newM (Ext.new hp) hp (upd_same (o := .lst vs)) rfl
      exact h (more M' p) ρ' p vs _ r' (k.trans (keep_more (Ext.new hp) hp r.pd)) upd_same (rd.keep (keep_more (Ext.new hp) hp r.pd)) f'
end

/-! ### built-ins of one argument -/
section
variable {X : Cx} {c : Cn} {g : Gr} {W : WX} {a b : Expr} {o1 o2 : Op} {p pos : Pos} {x : Str} {id T : String}
theorem CallR.or3 {f : Value} {r r' : List V → Hp → VK → Prop} (h : CallR X f r) (h' : CallR X f r') : CallR X f (fun xs H Q => r xs H Q ∨ r' xs H Q) := CallR.or h h'
theorem e_B1 {r : List V → Hp → VK → Prop} {F : D → Option D} (hc : CallR X (.builtin id) r) (hv : V1 c (fun v H Q => r [v] H Q) F) (hg : Gl X x) (hm : X.mg x = none) (hb : bootBuiltins x = some (.builtin id)) (ha : PE X a (tO c W o1))
    (hn : x ≠ "__name__" := by decide) (hdb : (x == ("__debug__" : Str)) = false := by decide) (hs : starEach [a] X.env = (false, eval a X.env) :: starEach [] X.env := by rfl) (he : starEach [a] X.env = (false, eval a X.env) :: starEach [] X.env := by rfl) (hpl : (backTo pos (starEach [] X.env)).any (·.1) = false := by rfl) :
    PE X (.Call (.Name x p) [a] [] pos) (tE c W (op1 F o1)) := pe_imp (pe_callB hc hg hm hb (pa_cons ha pa_nil hs) hn hdb he hpl) fun _ _ _ h => t_op1 hv h
theorem e_T1 {r : List V → Hp → VK → Prop} {F : D → Option D} (hc : CallR X (.type T) r) (hv : V1 c (fun v H Q => r [v] H Q) F) (hg : Gl X x) (hm : X.mg x = none) (hb : bootBuiltins x = some (.type T)) (ha : PE X a (tO c W o1))
    (hn : x ≠ "__name__" := by decide) (hdb : (x == ("__debug__" : Str)) = false := by decide) (hs : starEach [a] X.env = (false, eval a X.env) :: starEach [] X.env := by rfl) (he : starEach [a] X.env = (false, eval a X.env) :: starEach [] X.env := by rfl) (hpl : (backTo pos (starEach [] X.env)).any (·.1) = false := by rfl) :
    PE X (.Call (.Name x p) [a] [] pos) (tE c W (op1 F o1)) := pe_imp (pe_callTy hc hg hm hb (pa_cons ha pa_nil hs) hn hdb he hpl) fun _ _ _ h => t_op1 hv h
theorem l_B1 {r : List V → Hp → VK → Prop} {F : D → Option (List D)} (hc : CallR X (.builtin id) r) (hv : V1L c (fun v H Q => r [v] H Q) F) (hg : Gl X x) (hm : X.mg x = none) (hb : bootBuiltins x = some (.builtin id)) (ha : PE X a (tO c W o1))
    (hn : x ≠ "__name__" := by decide) (hdb : (x == ("__debug__" : Str)) = false := by decide) (hs : starEach [a] X.env = (false, eval a X.env) :: starEach [] X.env := by rfl) (he : starEach [a] X.env = (false, eval a X.env) :: starEach [] X.env := by rfl) (hpl : (backTo pos (starEach [] X.env)).any (·.1) = false := by rfl) :
    PE X (.Call (.Name x p) [a] [] pos) (tL c W (op1L F o1)) := pe_imp (pe_callB hc hg hm hb (pa_cons ha pa_nil hs) hn hdb he hpl) fun _ _ _ h => t_op1L hv h
theorem l_T1 {r : List V → Hp → VK → Prop} {F : D → Option (List D)} (hc : CallR X (.type T) r) (hv : V1L c (fun v H Q => r [v] H Q) F) (hg : Gl X x) (hm : X.mg x = none) (hb : bootBuiltins x = some (.type T)) (ha : PE X a (tO c W o1))
    (hn : x ≠ "__name__" := by decide) (hdb : (x == ("__debug__" : Str)) = false := by decide) (hs : starEach [a] X.env = (false, eval a X.env) :: starEach [] X.env := by rfl) (he : starEach [a] X.env = (false, eval a X.env) :: starEach [] X.env := by rfl) (hpl : (backTo pos (starEach [] X.env)).any (·.1) = false := by rfl) :
    PE X (.Call (.Name x p) [a] [] pos) (tL c W (op1L F o1)) := pe_imp (pe_callTy hc hg hm hb (pa_cons ha pa_nil hs) hn hdb he hpl) fun _ _ _ h => t_op1L hv h
end
def lenD : D → Option D
  | .tup xs => some (.int xs.length)
  | .lst xs => some (.int xs.length)
  | .scr xs => some (.int xs.length)
  | .str z => if z.length ≤ LIM then some (.int z.length) else none
  | _ => none
def absD : D → Option D
  | .int i => some (.int (if i < 0 then -i else i))
  | _ => none
def intD : D → Option D
  | .int i => some (.int i)
  | .bl b => some (.int (if b then 1 else 0))
  | _ => none
def tupleD : D → Option D
  | .tup xs => some (.tup xs)
  | .lst xs => some (.tup xs)
  | .scr xs => some (.tup xs)
  | _ => none
def listL : D → Option (List D)
  | .tup xs => some xs
  | .lst xs => some xs
  | .scr xs => some xs
  | _ => none
def toBls : List D → Option (List Bool)
  | [] => some []
  | .bl b :: ds => (toBls ds).map fun bs => b :: bs
  | _ => none
def toInts : List D → Option (List Int)
  | [] => some []
  | .int b :: ds => (toInts ds).map fun bs => b :: bs
  | _ => none
def allD : D → Option D
  | .lst xs => (toBls xs).map fun bs => .bl (bs.all id)
  | _ => none
def anyD : D → Option D
  | .lst xs => (toBls xs).map fun bs => .bl (bs.any id)
  | _ => none
def sumD : D → Option D
  | .lst xs => (toInts xs).map fun bs => .int bs.sum
  | _ => none
section
variable {c : Cn} {M : Am} {ρ : List Addr} {H : Hp}
theorem RDs.bls : ∀ {xs : List D} {vs : List V} {bs : List Bool}, RDs c M ρ H xs vs → toBls xs = some bs → vs = bs.map V.bl
  | _, _, _, .nil, e => by cases e; rfl
  | _, _, _, .cons (d := d) h t, e => by
    cases d <;> first | cases e | skip
    obtain ⟨bs, e1, rfl⟩ := Option.map_eq_some_iff.mp e
    cases h
    rw [RDs.bls t e1]
    rfl
theorem RDs.ints : ∀ {xs : List D} {vs : List V} {bs : List Int}, RDs c M ρ H xs vs → toInts xs = some bs → vs = bs.map V.int
  | _, _, _, .nil, e => by cases e; rfl
  | _, _, _, .cons (d := d) h t, e => by
    cases d <;> first | cases e | skip
    obtain ⟨bs, e1, rfl⟩ := Option.map_eq_some_iff.mp e
    cases h
    rw [RDs.ints t e1]
    rfl
end
section
variable {X : Cx} {c : Cn}
theorem r_len : CallR X (.builtin "len") (fun xs H Q => (∃ p ys, xs = [.ref p] ∧ (SqL X.K H p ys ∨ SqT X.K H p ys) ∧ Q (.int ys.length) H) ∨ (∃ z, xs = [.str z] ∧ z.length ≤ sizeLine ∧ Q (.int z.length) H)) := CallR.or call_len_seq call_len_str
theorem v_len (hK : X.K = c.K) : V1 c (fun v H Q => (∃ p ys, [v] = [.ref p] ∧ (SqL X.K H p ys ∨ SqT X.K H p ys) ∧ Q (.int ys.length) H) ∨ (∃ z, [v] = [.str z] ∧ z.length ≤ sizeLine ∧ Q (.int z.length) H)) lenD := by
  intro M ρ H x e v Q d hx hF q
  unfold lenD at hF
  split at hF
  · cases hF
    obtain ⟨a, vs, e1, h1, h2⟩ := hx.tup
    exact .inl ⟨a, vs, by rw [e1], .inr (hK ▸ h1), by rw [← h2.length]; exact q _ H (Ext.refl H) (.int _)⟩
  · cases hF
    obtain ⟨a, vs, e1, h1, h2⟩ := hx.lst
    exact .inl ⟨a, vs, by rw [e1], .inl (.inl (.inl h1)), by rw [← h2.length]; exact q _ H (Ext.refl H) (.int _)⟩
  · cases hF
    obtain ⟨a, vs, e1, h1, h2⟩ := hx.scr
    exact .inl ⟨a, vs, by rw [e1], .inl (hK ▸ h1), by rw [← h2.length]; exact q _ H (Ext.refl H) (.int _)⟩
  · split at hF
    · cases hF
      exact .inr ⟨_, by rw [hx.str], by assumption, q _ H (Ext.refl H) (.int _)⟩
    · cases hF
  · cases hF
theorem v_abs : V1 c (fun v H Q => ∃ i, [v] = [.int i] ∧ Q (.int (if i < 0 then -i else i)) H) absD := by
  intro M ρ H x e v Q d hx hF q
  unfold absD at hF
  split at hF
  · cases hF
    exact ⟨_, by rw [hx.int], q _ H (Ext.refl H) (.int _)⟩
  · cases hF
theorem v_int : V1 c (fun v H Q => (∃ i, [v] = [.int i] ∧ Q (.int i) H) ∨ ∃ k, [v] = [.bl k] ∧ Q (.int (if k then 1 else 0)) H) intD := by
  intro M ρ H x e v Q d hx hF q
  unfold intD at hF
  split at hF
  · cases hF
    exact .inl ⟨_, by rw [hx.int], q _ H (Ext.refl H) (.int _)⟩
  · cases hF
    exact .inr ⟨_, by rw [hx.bl], q _ H (Ext.refl H) (.int _)⟩
  · cases hF
theorem v_tuple (hK : X.K = c.K) : V1 c (fun v H Q => ∃ p ys, [v] = [.ref p] ∧ ((SqL X.K H p ys ∧ ∀ l, H l = none → Q (.ref l) (upd H l (.tup ys))) ∨ (SqT X.K H p ys ∧ Q (.ref p) H))) tupleD := by
  intro M ρ H x e v Q d hx hF q
  unfold tupleD at hF
  split at hF
  · cases hF
    obtain ⟨a, vs, e1, h1, h2⟩ := hx.tup
    subst e1
    exact ⟨a, vs, rfl, .inr ⟨hK ▸ h1, q _ H (Ext.refl H) hx.rdt⟩⟩
  · cases hF
    obtain ⟨a, vs, e1, h1, h2⟩ := hx.lst
    exact ⟨a, vs, by rw [e1], .inl ⟨.inl (.inl h1), fun l hl => q _ _ (Ext.new hl) (RD.newT (H' := H) d hl h2)⟩⟩
  · cases hF
    obtain ⟨a, vs, e1, h1, h2⟩ := hx.scr
    exact ⟨a, vs, by rw [e1], .inl ⟨hK ▸ h1, fun l hl => q _ _ (Ext.new hl) (RD.newT (H' := H) d hl h2)⟩⟩
  · cases hF
theorem v_list (hK : X.K = c.K) : V1L c (fun v H Q => ∃ p ys, [v] = [.ref p] ∧ (SqL X.K H p ys ∨ SqT X.K H p ys) ∧ ∀ l, H l = none → Q (.ref l) (upd H l (.lst ys))) listL := by
  intro M ρ H x v xs Q d hx hF q
  unfold listL at hF
  split at hF
  · cases hF
    obtain ⟨a, vs, e1, h1, h2⟩ := hx.tup
    exact ⟨a, vs, by rw [e1], .inr (hK ▸ h1), fun l hl => q l _ _ hl (Ext.new hl) upd_same h2⟩
  · cases hF
    obtain ⟨a, vs, e1, h1, h2⟩ := hx.lst
    exact ⟨a, vs, by rw [e1], .inl (.inl (.inl h1)), fun l hl => q l _ _ hl (Ext.new hl) upd_same h2⟩
  · cases hF
    obtain ⟨a, vs, e1, h1, h2⟩ := hx.scr
    exact ⟨a, vs, by rw [e1], .inl (hK ▸ h1), fun l hl => q l _ _ hl (Ext.new hl) upd_same h2⟩
  · cases hF
theorem v_all : V1 c (fun v H Q => rAll X.K [v] H Q) allD := by
  intro M ρ H x e v Q d hx hF q
  unfold allD at hF
  split at hF
  · obtain ⟨bs, h, rfl⟩ := Option.map_eq_some_iff.mp hF
    obtain ⟨a, vs, e1, h1, h2⟩ := hx.lst
    exact ⟨a, bs, by rw [e1], .inl (.inl (by rw [← h2.bls h]; exact h1)), q _ H (Ext.refl H) (.bl _)⟩
  · cases hF
theorem v_any : V1 c (fun v H Q => rAny X.K [v] H Q) anyD := by
  intro M ρ H x e v Q d hx hF q
  unfold anyD at hF
  split at hF
  · obtain ⟨bs, h, rfl⟩ := Option.map_eq_some_iff.mp hF
    obtain ⟨a, vs, e1, h1, h2⟩ := hx.lst
    exact ⟨a, bs, by rw [e1], .inl (.inl (by rw [← h2.bls h]; exact h1)), q _ H (Ext.refl H) (.bl _)⟩
  · cases hF
theorem v_sum : V1 c (fun v H Q => rSum X.K [v] H Q) sumD := by
  intro M ρ H x e v Q d hx hF q
  unfold sumD at hF
  split at hF
  · obtain ⟨bs, h, rfl⟩ := Option.map_eq_some_iff.mp hF
    obtain ⟨a, vs, e1, h1, h2⟩ := hx.lst
    exact ⟨a, bs, by rw [e1], .inl (.inl (by rw [← h2.ints h]; exact h1)), q _ H (Ext.refl H) (.int _)⟩
  · cases hF
end
end DS
/-! DS6: defs: their promise by data, calls. -/
namespace DS
open PySem PySem.Spec PyProof.Rows L2

/-! ### what a def does -/
def fnOf (n : Nat) (body : Sm) : Fn := fun as hp => match body ⟨as.map .v ++ List.replicate (n - as.length) .un, hp⟩ with
  | .ok .nx s => .ok .non s.hp
  | .ok (.rt d) s => .ok d s.hp
  | .exc x s => .exc x s.hp
  | _ => .bad
/-- from M, ρ, H on, a call's heap -/
structure KeepF (M : Am) (ρ : List Addr) (H : Hp) (M' : Am) (ρ' : List Addr) (H' : Hp) : Prop where
  k1 : ∀ a o, H a = some o → a ∉ ρ → H' a = some o
  k2 : ∀ a o, H a = some o → ¬ M a → ¬ M' a
  k3 : ∀ a, M a → M' a
  pre : ∃ l, ρ' = ρ ++ l ∧ ∀ a ∈ l, H a = none
def OutF (c : Cn) (M : Am) (ρ : List Addr) (H : Hp) (r : RF) (Q : VK) (E : XK) : Prop := match r with
  | .ok d hp => ∀ M' ρ' v H', HR c M' ρ' hp H' → KeepF M ρ H M' ρ' H' → RD c M' ρ' H' d v → Q v H'
  | .exc x hp => ∀ M' ρ' H' cls dd, HR c M' ρ' hp H' → KeepF M ρ H M' ρ' H' → XR c x cls dd H' → E cls dd H'
  | .bad => False
def spF (c : Cn) (n : Nat) (F : Fn) : Sp := fun vs H Q E => vs.length = n ∧ ∃ M ρ hp as, HR c M ρ hp H ∧ RDs c M ρ H as vs ∧ OutF c M ρ H (F as hp) Q E
section
variable {c : Cn} {g : Gr} {M M' : Am} {ρ ρ' : List Addr} {H H' : Hp} {s : S} {hp hp' : List Ob} {σ : L2.St}
theorem KeepF.of (G : GR ⟨M, ρ, H, fun _ => False⟩ M' ρ' H') : KeepF M ρ H M' ρ' H' := ⟨G.g1, G.g2, G.g3, G.gr⟩
theorem GR.start (h : HR c M ρ hp H) : GR ⟨M, ρ, H, fun _ => False⟩ M ρ H := ⟨fun _ _ h _ => h, fun _ _ _ m => m, fun _ m => m, fun a m => let ⟨o, e, _⟩ := h.dom a m; ⟨o, e⟩, h.rm, ⟨[], (List.append_nil _).symm, fun a z => by simp at z⟩, fun _ z => z.elim⟩
theorem start_get {as : List D} {n i : Nat} {sl : Slot} (h : (as.map Slot.v ++ List.replicate n .un)[i]? = some sl) : (∃ d, as[i]? = some d ∧ sl = .v d) ∨ sl = .un := by
  by_cases hi : i < as.length
  · left
    rw [List.getElem?_append_left (by simpa using hi), List.getElem?_map] at h
    cases e : as[i]? with
    | none => rw [e] at h; cases h
    | some d => rw [e] at h; cases h; exact ⟨d, rfl, rfl⟩
  · right
    rw [List.getElem?_append_right (by simpa using hi), List.getElem?_replicate] at h
    split at h
    · cases h; rfl
    · cases h
theorem Rel.start {N : List Str} {vs : List V} {as : List D} (h : HR c M ρ hp H) (r : RDs c M ρ H as vs) (hl : as.length ≤ N.length) : Rel c ⟨M, ρ, H, fun _ => False⟩ M ρ ⟨as.map .v ++ List.replicate (N.length - as.length) .un, hp⟩ (L2.start N vs) H := by
  refine ⟨h, .start h, ⟨?_, fun i d e => ?_, fun i sl e o => ?_, fun i sl a e o => ?_, fun i j sl sl' a e o => ?_⟩⟩
  · unfold L2.start
    simp [r.length]
  · rcases start_get e with ⟨d', e', q⟩ | q
    · cases q
      obtain ⟨v, h1, h2⟩ := r.get e'
      refine ⟨v, ?_, h2⟩
      unfold L2.start
      rw [List.getElem?_append_left (by
        have := (List.getElem?_eq_some_iff.mp h1).1
        simpa using this), List.getElem?_map, h1]
      rfl
    · cases q
  · rcases start_get e with ⟨d', e', q⟩ | q <;> (subst q; cases o)
  · rcases start_get e with ⟨d', e', q⟩ | q <;> (subst q; cases o)
  · rcases start_get e with ⟨d', e', q⟩ | q <;> (subst q; cases o)
/-- behind a call -/
theorem Rel.call (r : Rel c g M ρ s σ H) (h : HR c M' ρ' hp' H') (k : KeepF M ρ H M' ρ' H') : Rel c g M' ρ' ⟨s.env, hp'⟩ σ H' ∧ Keep g M ρ H M' ρ' H' := by
  obtain ⟨l', e', n'⟩ := k.pre
  have out : ∀ a, M a → a ∉ ρ → a ∉ ρ' := fun a m n z => by
    rw [e'] at z
    rcases List.mem_append.mp z with z | z
    · exact n z
    · obtain ⟨o, ho, _⟩ := r.h.dom a m
      rw [n' a z] at ho
      cases ho
  have same : ∀ a, M a → a ∉ ρ → H' a = H a := fun a m n => by
    obtain ⟨o, ho, _⟩ := r.h.dom a m
    rw [ho]
    exact k.k1 a o ho n
  have K : Keep g M ρ H M' ρ' H' := ⟨fun a o e m => ⟨k.k1 a o e (fun z => m (r.h.rm a z)), k.k2 a o e m⟩, ⟨l', e'⟩, fun a p => same a (r.gd.gp a p).1 (r.gd.gp a p).2⟩
  obtain ⟨l, e, n⟩ := r.gd.gr
  have old : ∀ a o, g.H0 a = some o → a ∉ g.ρ0 → a ∉ ρ := fun a o q m z => by
    rw [e] at z
    rcases List.mem_append.mp z with z | z
    · exact m z
    · rw [n a z] at q
      cases q
  refine ⟨⟨h, ⟨fun a o q m => k.k1 a o (r.gd.g1 a o q m) (old a o q m), fun a o q m => ?_, fun a m => k.k3 a (r.gd.g3 a m), r.gd.gd, r.gd.gm, ⟨l ++ l', by rw [e', e, List.append_assoc], fun a z => ?_⟩, fun a p => ⟨k.k3 a (r.gd.gp a p).1, out a (r.gd.gp a p).1 (r.gd.gp a p).2⟩⟩,
    ⟨r.e.len, fun i d q => ?_, fun i sl q o => ?_, r.e.pro, r.e.sep⟩⟩, K⟩
  · have m' : a ∉ g.ρ0 := fun z => m (r.gd.gm a z)
    exact k.k2 a o (r.gd.g1 a o q m') (r.gd.g2 a o q m)
  · rcases List.mem_append.mp z with z | z
    · exact n a z
    · cases q : g.H0 a with
      | none => rfl
      | some o =>
        by_cases m : a ∈ g.ρ0
        · obtain ⟨u, hu, _⟩ := r.h.dom a (r.gd.g3 a (r.gd.gm a m))
          rw [n' a z] at hu
          cases hu
        · have := r.gd.g1 a o q m
          rw [n' a z] at this
          cases this
  · obtain ⟨v, h1, h2⟩ := r.e.val i d q
    exact ⟨v, h1, h2.keep K⟩
  · obtain ⟨a, h1, h2, h3, h4, h5⟩ := r.e.own i sl q o
    exact ⟨a, h1, h2.keep K (same a h3 h4), k.k3 a h3, out a h3 h4, h5⟩
end

/-! ### a def is proved -/
section
variable {P : Program} {w : World} {K : PySem.W.Frag} {mg : Str → Option Value} {base : Heap}
/-- the wish of a def's body -/
abbrev wE (E : XK) : WX := fun cls dd _ H => E cls dd H
theorem fn_ok {x qual : Str} {st : Stmt} {f : Addr} {fd : FuncData} {N ps : List Str} {k : Nat} {body : Sm} (F : L2.Fun K x qual st f fd) (Sc : FnScope N ps (defScope st))
    (hb : ∀ (cdv : Value) (A : Around) (outer : List PySem.Env) (s : Shared) (H : Hp) (E : XK), Room k (A.deeper (envOfC qual (defScope st) s.heap.objs.size f cdv)) → Takes (cxOf (L2.CX P w) P w K mg base N qual (defScope st) f cdv A outer s H E) (wE E) →
      PSs (cxOf (L2.CX P w) P w K mg base N qual (defScope st) f cdv A outer s H E) (defBody st) (tS ⟨K, mg⟩ (wE E) body)) : FnOk P w K mg base (L2.CX P w) (k + 1) f fd ps (spF ⟨K, mg⟩ ps.length (fnOf N.length body)) := by
  refine Fun.okX F Sc (fun vs H Q E h => h.1) fun cdv A outer s H vs Q E hr h => ?_
  obtain ⟨hl, M, ρ, hp, as, h1, h2, h3⟩ := h
  refine ⟨_, hb cdv A outer s H E hr (takes_of rfl rfl rfl rfl), ?_⟩
  have hpl : as.length ≤ N.length := by
    rw [h2.length, hl]
    have := congrArg List.length Sc.pre
    rw [List.length_take] at this
    omega
  refine ⟨_, M, ρ, _, Rel.start (N := N) h1 h2 hpl, ?_⟩
  unfold fnOf at h3
  cases q : body ⟨as.map .v ++ List.replicate (N.length - as.length) .un, hp⟩ with
  | ok fl s' =>
    simp only [q] at h3
    cases fl with
    | nx => exact fun M' ρ' σ' H' r _ => h3 M' ρ' .non H' r.h (.of r.gd) .non
    | rt d => exact fun M' ρ' σ' H' v r _ hv => h3 M' ρ' v H' r.h (.of r.gd) hv
    | bk => exact h3.elim
    | ct => exact h3.elim
  | exc x s' =>
    simp only [q] at h3
    exact fun M' ρ' σ' H' cls dd r _ hx => h3 M' ρ' H' cls dd r.h (.of r.gd) hx
  | bad =>
    simp only [q] at h3
    exact h3.elim
end

/-! ### a def as the others know it -/
structure FnR (c : Cn) (P : Program) (w : World) (base : Heap) (n : Str) (st : Stmt) (k : Nat) (ps : List Str) (F : Fn) : Prop where
  ex : ∃ f fd, c.mg n = some (.ref f) ∧ L2.Fun c.K n n st f fd ∧ FnOk P w c.K c.mg base (L2.CX P w) k f fd ps (spF c ps.length F) ∧ Binds c.K fd ps []
/-- what a context has -/
structure Cc (X : Cx) (c : Cn) (W : WX) (k : Nat) : Prop where
  hK : X.K = c.K
  hm : X.mg = c.mg
  tk : Takes X W
  rm : Room k X.A
  hc : X.calm = true
  nd : X.N.Nodup
/-- a call -/
def runFn (F : Fn) (as : List D) (s : S) : R D := match F as s.hp with
  | .ok d hp => .ok d ⟨s.env, hp⟩
  | .exc x hp => .exc x ⟨s.env, hp⟩
  | .bad => .bad
def callE (F : Fn) (fs : List Ex) : Ex := fun s => (evA fs s).bind fun as s1 => runFn F as s1
section
variable {X : Cx} {c : Cn} {g : Gr} {W : WX} {k k' : Nat} {n : Str} {st : Stmt} {ps : List Str} {F : Fn} {fs : List Ex} {e : Expr} {es : List Expr} {p pos : Pos} {M : Am} {ρ : List Addr} {σ : L2.St} {H : Hp} {Q : VK}
theorem out_call {s : S} {as : List D} {vs : List V} {N : Nat} (rel : Rel c g M ρ s σ H) (hv : RDs c M ρ H as vs) (hl : vs.length = N) (h : OutE c g W M ρ σ H (runFn F as s) Q) : spF c N F vs H Q (WE W σ) := by
  refine ⟨hl, M, ρ, s.hp, as, rel.h, hv, ?_⟩
  unfold runFn at h
  cases q : F as s.hp with
  | ok d hp =>
    simp only [q] at h
    intro M' ρ' v H' h1 h2 h3
    obtain ⟨r', k'⟩ := rel.call h1 h2
    exact h M' ρ' v H' r' k' h3
  | exc x hp =>
    simp only [q] at h
    intro M' ρ' H' cls dd h1 h2 h3
    obtain ⟨r', k'⟩ := rel.call h1 h2
    exact h M' ρ' H' cls dd r' k' h3
  | bad =>
    simp only [q] at h
    exact h.elim
theorem t_call {N : Nat} (hn : fs.length = N) (h : tE c W (callE F fs) σ H Q) : tA c W fs σ H fun vs H1 => spF c N F vs H1 Q (WE W σ) := by
  obtain ⟨g, M, ρ, s, rel, h⟩ := h
  refine ⟨g, M, ρ, s, rel, ?_⟩
  unfold callE at h
  cases e : evA fs s with
  | exc x s1 => rw [e] at h; exact h
  | bad => rw [e] at h; exact h
  | ok as s1 =>
    rw [e] at h
    intro M1 ρ1 vs H1 r1 k1 rd
    exact out_call r1 rd (by rw [← rd.length, evA_len e, hn]) (OutE.keep k1 h)
/-- f(e, ..) -/
theorem e_call (C : Cc X c W k') (R : FnR c X.prog X.w X.base n st k ps F) (ha : PA X (e :: es) (tA c W fs)) (hk : k ≤ k' := by decide) (hn : fs.length = ps.length := by rfl) (hg : Gl X n := by rfl) (hdb : (n == ("__debug__" : Str)) = false := by decide)
    (he : starEach (e :: es) X.env = (false, eval e X.env) :: starEach es X.env := by rfl) (hpl : (backTo pos (starEach es X.env)).any (·.1) = false := by rfl) : PE X (.Call (.Name n p) (e :: es) [] pos) (tE c W (callE F fs)) := by
  obtain ⟨f, fd, h1, h2, h3, h4⟩ := R.ex
  have hK := C.hK
  have hm := C.hm
  refine pe_imp (pe_callS (E := WE W) (hK ▸ hm ▸ h3) (C.rm.mono hk) hg (by rw [hm]; exact h1) (by rw [hK]; exact h2.kp) (hK ▸ h4) (fun σ => passAt C.tk σ) ha hdb he hpl) fun σ H Q h => ?_
  exact t_call hn h
/-- f() -/
theorem e_call0 (C : Cc X c W k') (R : FnR c X.prog X.w X.base n st k [] F) (hk : k ≤ k' := by decide) (hg : Gl X n := by rfl) (hdb : (n == ("__debug__" : Str)) = false := by decide) : PE X (.Call (.Name n p) [] [] pos) (tE c W (callE F [])) := by
  obtain ⟨f, fd, h1, h2, h3, h4⟩ := R.ex
  have hK := C.hK
  have hm := C.hm
  refine ⟨fun pins s σ H Q I h => ?_⟩
  refine wpAny_Call_Name_kw (ld_glob I hg (by rw [hm]; exact h1) ?_ hdb)
  refine PySem.W.callWith_K0 I.kIn (by rw [hK]; exact h2.kp) (run_fnS (us := []) (E := WE W) (hK ▸ hm ▸ h3) (C.rm.mono hk) (hK ▸ h4) (passAt C.tk σ) I .nil ?_)
  obtain ⟨g, M, ρ, s, rel, h⟩ := h
  exact out_call rel .nil rfl h
/-! ### with keywords -/
/-- the values from the left, then in the parameters' order -/
def callKE (F : Fn) (gD : List D → List D → List D) (fs ks : List Ex) : Ex := fun s => (evA fs s).bind fun as s1 => (evA ks s1).bind fun bs s2 => runFn F (gD as bs) s2
/-- how to put in order: natural in what is put -/
structure Ord (gD : List D → List D → List D) (gV : List V → List V → List V) (gU : List Value → List Value → List Value) : Prop where
  d : ∀ {c : Cn} {M : Am} {ρ : List Addr} {H : Hp} {as bs : List D} {us vs : List V}, RDs c M ρ H as us → RDs c M ρ H bs vs → RDs c M ρ H (gD as bs) (gV us vs)
  v : ∀ {vs : List V} {us : List Value} {zs : List V} {ws : List Value}, Vals vs us → Vals zs ws → Vals (gV vs zs) (gU us ws)
theorem k_nil : PK X [] (tA c W []) := ⟨fun pos pins s σ H Q I h => (pk_nil (X := X)).run pos pins s σ H Q I (by
  obtain ⟨g, M, ρ, s, rel, h⟩ := h
  exact h M ρ [] H rel (Keep.refl _ _ _ _) .nil)⟩
theorem k_cons {e : Expr} {kws : List Keyword} {nm : Option Str} {kpos : Pos} {f : Ex} {fs : List Ex} (ha : PE X e (tE c W f)) (hr : PK X kws (tA c W fs)) : PK X (⟨nm, e, kpos⟩ :: kws) (tA c W (f :: fs)) :=
  ⟨fun pos pins s σ H Q I h => (pk_cons ha hr).run pos pins s σ H Q I (by
    obtain ⟨g, M, ρ, s, rel, h⟩ := h
    refine tE.bind (out := fun M ρ H r => OutA c g W M ρ σ H r Q) rel (fun _ _ z => z) (fun z => z) h fun d s1 M1 ρ1 v H1 r1 k1 hd h1 => ?_
    refine tA.bind (out := fun M ρ H r => OutA c g W M ρ σ H r Q) r1 (fun _ _ z => z) (fun z => z) (OutA.keep k1 h1) fun ds s2 M2 ρ2 vs H2 r2 k2 hds h2 => ?_
    exact OutA.keep k2 h2 M2 ρ2 (v :: vs) H2 r2 (Keep.refl _ _ _ _) (.cons (hd.keep k2) hds))⟩
theorem run_fnkS {pins : List (Addr × Obj)} {s : Shared} {us ws : List Value} {vs zs : List V} {CX : CXT} {f : Addr} {fd : FuncData} {ks : List Str} {sp : Sp} {E : L2.St → XK} {gU : List Value → List Value → List Value} {gV : List V → List V → List V}
    (F : FnOk X.prog X.w X.K X.mg X.base CX k f fd ps sp) (hr : Room k X.A) (hb : KBinds X.K fd ps ks gU gV) (hx : PassesAt CX X σ (E σ))
    (I : Inv X pins σ H s) (r : Vals vs us) (rz : Vals zs ws) (h : sp (gV vs zs) H Q (E σ)) : wpAny (model X.prog X.w) X.A (call (.ref f) us (ks.zip ws)) (EP X pins σ Q) X.xe s := by
  have r2 := hb.rel r rz
  have hl : (gU us ws).length = ps.length := by rw [← r2.length]; exact F.len _ _ _ _ h
  refine wpAny_call (codeAny_mono (F.run X.A X.stack s H ⟨us, ks.zip ws⟩ (gU us ws) (gV vs zs) Q (E σ) hr I.env0 (hb.to s us ws I.kIn hl) r2 h) fun r s' hq => ?_)
  cases r with
  | error e => exact hx pins H s e s' I hq
  | ok fl =>
    cases fl with
    | ret u => exact I.after hq
    | next => exact False.elim hq
    | brk => exact False.elim hq
    | cont => exact False.elim hq
theorem t_callK {N : Nat} {gD : List D → List D → List D} {gV : List V → List V → List V} {gU : List Value → List Value → List Value} (O : Ord gD gV gU) {ks : List Ex} (hn : ∀ as bs : List D, as.length = fs.length → bs.length = ks.length → (gD as bs).length = N)
    (h : tE c W (callKE F gD fs ks) σ H Q) : tA c W fs σ H fun vs H1 => tA c W ks σ H1 fun zs H2 => spF c N F (gV vs zs) H2 Q (WE W σ) := by
  obtain ⟨g, M, ρ, s, rel, h⟩ := h
  refine ⟨g, M, ρ, s, rel, ?_⟩
  unfold callKE at h
  cases e : evA fs s with
  | exc x s1 => rw [e] at h; exact h
  | bad => rw [e] at h; exact h
  | ok as s1 =>
    rw [e] at h
    intro M1 ρ1 vs H1 r1 k1 rd
    have h := OutE.keep k1 h
    refine ⟨g, M1, ρ1, s1, r1, ?_⟩
    simp only [R.bind_ok] at h
    cases e2 : evA ks s1 with
    | exc x s2 => rw [e2] at h; exact h
    | bad => rw [e2] at h; exact h
    | ok bs s2 =>
      rw [e2] at h
      intro M2 ρ2 zs H2 r2 k2 rd2
      have q := O.d (rd.keep k2) rd2
      exact out_call r2 q (by rw [← q.length, hn as bs (evA_len e) (evA_len e2)]) (OutE.keep k2 h)
/-- f(e, .., k = v, ..) -/
theorem e_callK (C : Cc X c W k') (R : FnR c X.prog X.w X.base n st k ps F) {gD : List D → List D → List D} {gV : List V → List V → List V} {gU : List Value → List Value → List Value} {kws : List Keyword} {ks : List Ex} {kn : List Str} (O : Ord gD gV gU) (ha : PA X (e :: es) (tA c W fs)) (hkw : PK X kws (tA c W ks))
    (hb : ∀ (kV doc pm : Value) (an : Option Addr) (cdv ct : Value) (us ws : List Value), (gU us ws).length = ps.length → bindArgs (PySem.W.fnOf n n (defArgs st) (defBody st) (defScope st) .none kV doc pm an cdv ct) ⟨us, kn.zip ws⟩ = pure (ps.zip (gU us ws)))
    (hn : ∀ as bs : List D, as.length = fs.length → bs.length = ks.length → (gD as bs).length = ps.length) (hk : k ≤ k' := by decide) (hall : (backToKw pos (keywordEach kws X.env)).all (·.1.isSome) = true := by rfl) (hks : (backToKw pos (keywordEach kws X.env)).filterMap (·.1) = kn := by rfl) (hg : Gl X n := by rfl)
    (hdb : (n == ("__debug__" : Str)) = false := by decide) (he : starEach (e :: es) X.env = (false, eval e X.env) :: starEach es X.env := by rfl)
    (hpl : ((backTo pos (starEach (e :: es) X.env)).any (·.1) || (backToKw pos (keywordEach kws X.env)).any (·.1.isNone)) = false := by rfl) : PE X (.Call (.Name n p) (e :: es) kws pos) (tE c W (callKE F gD fs ks)) := by
  obtain ⟨f, fd, h1, h2, h3, h4⟩ := R.ex
  have hK := C.hK
  have hm := C.hm
  have kb : KBinds X.K fd ps kn gU gV := ⟨fun s us ws _ hl => by
    obtain ⟨oc, od, kV, doc, pm, an, cdv, ct, osl, rfl, lk, hcd⟩ := h2.ex
    exact .of_eq (hb kV doc pm an cdv ct us ws hl), O.v⟩
  refine ⟨fun pins s σ H Q I h => ?_⟩
  refine wpAny_Call_Name_kw (ld_glob I hg (by rw [hm]; exact h1) ?_ hdb)
  refine PySem.W.callWith_KW (h₀ := X.base) I.ok.mod.kin (by rw [hK]; exact h2.kp) hall (thn (ha.run pos pins s σ H _ I (t_callK O hn h)) fun us s1 ⟨vs, H1, I1, r, q⟩ => ?_) hpl he
  refine thn (hkw.run pos pins s1 σ H1 _ I1 q) fun ws s2 ⟨zs, H2, I2, rz, q2⟩ => ⟨I2.kIn, ?_⟩
  rw [hks]
  exact run_fnkS (E := WE W) (hK ▸ hm ▸ h3) (C.rm.mono hk) kb (passAt C.tk σ) I2 r rz q2
/-- f(k = v, ..) -/
theorem e_callK0 (C : Cc X c W k') (R : FnR c X.prog X.w X.base n st k ps F) {gD : List D → List D → List D} {gV : List V → List V → List V} {gU : List Value → List Value → List Value} {kws : List Keyword} {ks : List Ex} {kn : List Str} (O : Ord gD gV gU) (hkw : PK X kws (tA c W ks))
    (hb : ∀ (kV doc pm : Value) (an : Option Addr) (cdv ct : Value) (us ws : List Value), (gU us ws).length = ps.length → bindArgs (PySem.W.fnOf n n (defArgs st) (defBody st) (defScope st) .none kV doc pm an cdv ct) ⟨us, kn.zip ws⟩ = pure (ps.zip (gU us ws)))
    (hn : ∀ as bs : List D, as.length = 0 → bs.length = ks.length → (gD as bs).length = ps.length) (hk : k ≤ k' := by decide) (hall : (backToKw pos (keywordEach kws X.env)).all (·.1.isSome) = true := by rfl) (hks : (backToKw pos (keywordEach kws X.env)).filterMap (·.1) = kn := by rfl) (hg : Gl X n := by rfl)
    (hdb : (n == ("__debug__" : Str)) = false := by decide)
    (hpl : ((backTo pos (starEach [] X.env)).any (·.1) || (backToKw pos (keywordEach kws X.env)).any (·.1.isNone)) = false := by rfl) : PE X (.Call (.Name n p) [] kws pos) (tE c W (callKE F gD [] ks)) := by
  obtain ⟨f, fd, h1, h2, h3, h4⟩ := R.ex
  have hK := C.hK
  have hm := C.hm
  have kb : KBinds X.K fd ps kn gU gV := ⟨fun s us ws _ hl => by
    obtain ⟨oc, od, kV, doc, pm, an, cdv, ct, osl, rfl, lk, hcd⟩ := h2.ex
    exact .of_eq (hb kV doc pm an cdv ct us ws hl), O.v⟩
  refine ⟨fun pins s σ H Q I h => ?_⟩
  refine wpAny_Call_Name_kw (ld_glob I hg (by rw [hm]; exact h1) ?_ hdb)
  obtain ⟨vs0, H0, I0, r0, q0⟩ : ∃ vs H1, Inv X pins σ H1 s ∧ Vals vs ([] : List Value) ∧ tA c W ks σ H1 fun zs H2 => spF c ps.length F (gV vs zs) H2 Q (WE W σ) := by
    have t := t_callK (fs := []) O hn h
    obtain ⟨g, M, ρ, s', rel, t⟩ := t
    exact ⟨[], H, I, .nil, t M ρ [] H rel (Keep.refl _ _ _ _) .nil⟩
  cases r0
  refine PySem.W.callWith_KW0 (h₀ := X.base) I.ok.mod.kin (by rw [hK]; exact h2.kp) hall ?_ hpl
  refine thn (hkw.run pos pins s σ H0 _ I0 q0) fun ws s2 ⟨zs, H2, I2, rz, q2⟩ => ⟨I2.kIn, ?_⟩
  rw [hks]
  exact run_fnkS (E := WE W) (us := []) (vs := []) (hK ▸ hm ▸ h3) (C.rm.mono hk) kb (passAt C.tk σ) I2 .nil rz q2
end
end DS
/-! DS7: statements, targets, loops, comprehensions. -/
namespace DS
open PySem PySem.Spec PyProof.Rows L2

/-! ### blocks -/
def sqS (a b : Sm) : Sm := fun s => (a s).bind fun fl s1 => match fl with
  | .nx => b s1
  | fl => .ok fl s1
def nxS : Sm := fun s => .ok .nx s
def bkS : Sm := fun s => .ok .bk s
def ctS : Sm := fun s => .ok .ct s
def badS : Sm := fun _ => .bad
def retS (f : Ex) : Sm := fun s => (f s).bind fun d s1 => .ok (.rt d) s1
def retN : Sm := fun s => .ok (.rt .non) s
def exprS (f : Ex) : Sm := fun s => (f s).bind fun _ s1 => .ok .nx s1
def ifS (t : S → R Bool) (a b : Sm) : Sm := fun s => (t s).bind fun c s1 => if c = true then a s1 else b s1
def setS (i : Nat) (f : Ex) : Sm := fun s => (f s).bind fun d s1 => .ok .nx ⟨s1.env.set i (.v d), s1.hp⟩
/-- a name takes a new list for its own -/
def setL (i : Nat) (f : ExL) : Sm := fun s => (f s).bind fun xs s1 => .ok .nx ⟨s1.env.set i (.ol xs), s1.hp⟩
section
variable {X : Cx} {c : Cn} {g : Gr} {W : WX} {st : Stmt} {rest : List Stmt} {a b : Sm} {f : Ex} {fl : ExL} {e : Expr} {pos : Pos} {M : Am} {ρ : List Addr} {σ : L2.St} {H : Hp} {D : Ends} {s : S}
theorem s_nil : PSs X [] (tS c W nxS) := pss_imp pss_nil fun D σ H h => by
  obtain ⟨g, M, ρ, s, rel, h⟩ := h
  exact h M ρ σ H rel (Keep.refl _ _ _ _)
theorem t_sq (h : tS c W (sqS a b) D σ H) : tSeq (tS c W a) (tS c W b) D σ H := by
  obtain ⟨g, M, ρ, s, rel, h⟩ := h
  refine ⟨g, M, ρ, s, rel, ?_⟩
  unfold sqS at h
  cases e : a s with
  | exc x s1 => rw [e] at h; exact h
  | bad => rw [e] at h; exact h
  | ok fl s1 =>
    rw [e] at h
    cases fl with
    | nx => exact fun M' ρ' σ' H' r k => ⟨g, M', ρ', s1, r, OutS.keep k h⟩
    | rt d => exact h
    | bk => exact h
    | ct => exact h
theorem s_cons (h1 : PS X st (tS c W a)) (h2 : PSs X rest (tS c W b)) : PSs X (st :: rest) (tS c W (sqS a b)) := pss_imp (pss_cons h1 h2) fun D σ H h => t_sq h
theorem s_one (h1 : PS X st (tS c W a)) : PSs X [st] (tS c W a) := pss_one h1
theorem s_pass : PS X (.Pass pos) (tS c W nxS) := ps_imp ps_pass fun D σ H h => by
  obtain ⟨g, M, ρ, s, rel, h⟩ := h
  exact h M ρ σ H rel (Keep.refl _ _ _ _)
theorem s_doc {x j pos'} : PS X (.Expr (.Constant (.str x) j pos) pos') (tS c W nxS) := ps_imp ps_doc fun D σ H h => by
  obtain ⟨g, M, ρ, s, rel, h⟩ := h
  exact h M ρ σ H rel (Keep.refl _ _ _ _)
theorem s_bk : PS X (.Break pos) (tS c W bkS) := ps_imp ps_break fun D σ H h => by
  obtain ⟨g, M, ρ, s, rel, h⟩ := h
  exact h M ρ σ H rel (Keep.refl _ _ _ _)
theorem s_ct : PS X (.Continue pos) (tS c W ctS) := ps_imp ps_continue fun D σ H h => by
  obtain ⟨g, M, ρ, s, rel, h⟩ := h
  exact h M ρ σ H rel (Keep.refl _ _ _ _)
theorem s_bad : PS X st (tS c W badS) := ps_imp ps_never fun D σ H h => by
  obtain ⟨g, M, ρ, s, rel, h⟩ := h
  exact h
theorem s_ret (he : PE X e (tE c W f)) : PS X (.Return (some e) pos) (tS c W (retS f)) := ps_imp (ps_ret he) fun D σ H h => by
  obtain ⟨g, M, ρ, s, rel, h⟩ := h
  exact tE.bind (out := fun M ρ H r => OutS c g W M ρ H r D) rel (fun _ _ z M' ρ' H' cls dd r k x => z M' ρ' σ H' cls dd r k x) (fun z => z) h fun d s1 M1 ρ1 v H1 r1 k1 hd h1 => h1 M1 ρ1 σ H1 v r1 k1 hd
theorem s_retN : PS X (.Return none pos) (tS c W retN) := ps_imp ps_retN fun D σ H h => by
  obtain ⟨g, M, ρ, s, rel, h⟩ := h
  exact h M ρ σ H .non rel (Keep.refl _ _ _ _) .non
theorem s_expr (he : PE X e (tE c W f)) (hs : swapsWith e none pos.line X.env = pure false := by rfl) : PS X (.Expr e pos) (tS c W (exprS f)) := ps_imp (ps_expr he hs) fun D σ H h => by
  obtain ⟨g, M, ρ, s, rel, h⟩ := h
  exact tE.bind (out := fun M ρ H r => OutS c g W M ρ H r D) rel (fun _ _ z M' ρ' H' cls dd r k x => z M' ρ' σ H' cls dd r k x) (fun z => z) h fun d s1 M1 ρ1 v H1 r1 k1 hd h1 => h1 M1 ρ1 σ H1 r1 k1
theorem s_if {t : Expr} {ft : S → R Bool} {x y : List Stmt} (ht : PT X t (tT c W ft)) (ha : PSs X x (tS c W a)) (hb : PSs X y (tS c W b)) : PS X (.If t x y pos) (tS c W (ifS ft a b)) := ps_imp (ps_if ht ha hb) fun D σ H h => by
  obtain ⟨g, M, ρ, s, rel, h⟩ := h
  refine tT.bind (out := fun M ρ H r => OutS c g W M ρ H r D) rel (fun _ _ z M' ρ' H' cls dd r k x => z M' ρ' σ H' cls dd r k x) (fun z => z) h fun b s1 M1 ρ1 H1 r1 k1 h1 => ?_
  cases b with
  | true => exact ⟨g, M1, ρ1, s1, r1, OutS.keep k1 h1⟩
  | false => exact ⟨g, M1, ρ1, s1, r1, OutS.keep k1 h1⟩
/-- a place of a def's names -/
theorem s_set {k : Nat} (C : Cc X c W k) (i : Nat) {x : Str} {pos' : Pos} (he : PE X e (tE c W f)) (hi : X.N[i]? = some x := by rfl) (hx : Loc X.env.scope x := by first | exact Or.inl rfl | exact Or.inr rfl) (hs : swapsWith e (some (.Name x pos')) pos.line X.env = pure false := by rfl)
    (hf : X.fn x = true ∨ X.env.scope.names.lookup x = some .local := by first | exact .inl rfl | exact .inr rfl) : PS X (.Assign [.Name x pos'] e pos) (tS c W (setS i f)) := ps_imp (ps_set C.nd hi hx he hs hf) fun D σ H h => by
  obtain ⟨g, M, ρ, s, rel, h⟩ := h
  exact tE.bind (out := fun M ρ H r => OutS c g W M ρ H r D) rel (fun _ _ z M' ρ' H' cls dd r k x => z M' ρ' σ H' cls dd r k x) (fun z => z) h fun d s1 M1 ρ1 v H1 r1 k1 hd h1 => h1 M1 ρ1 _ H1 (r1.setv hd) k1
theorem t_setL {i : Nat} (h : tS c W (setL i fl) D σ H) : tL c W fl σ H fun v H1 => D.nx (σ.set i (some v)) H1 := by
  obtain ⟨g, M, ρ, s, rel, h⟩ := h
  exact tL.bind (out := fun M ρ H r => OutS c g W M ρ H r D) rel (fun _ _ z M' ρ' H' cls dd r k x => z M' ρ' σ H' cls dd r k x) (fun z => z) h fun xs s1 M1 ρ1 a vs H1 r1 k1 ha hd hf h1 => h1 M1 ρ1 _ H1 (r1.setown hf (sl := .ol xs) rfl ⟨vs, ha, hd⟩) k1
theorem s_setL {k : Nat} (C : Cc X c W k) (i : Nat) {x : Str} {pos' : Pos} (he : PE X e (tL c W fl)) (hi : X.N[i]? = some x := by rfl) (hx : Loc X.env.scope x := by first | exact Or.inl rfl | exact Or.inr rfl) (hs : swapsWith e (some (.Name x pos')) pos.line X.env = pure false := by rfl)
    (hf : X.fn x = true ∨ X.env.scope.names.lookup x = some .local := by first | exact .inl rfl | exact .inr rfl) : PS X (.Assign [.Name x pos'] e pos) (tS c W (setL i fl)) := ps_imp (ps_set C.nd hi hx he hs hf) fun D σ H h => t_setL h
end

/-! ### targets -/
abbrev Tg := D → S → Option S
def tG (c : Cn) (W : WX) (vs : List Nat) (f : Tg) : TG := fun v σ H Q => ∃ g M ρ s d s', Rel c g M ρ s σ H ∧ RD c M ρ H d v ∧ f d s = some s' ∧ ∀ M' ρ' σ' H', Rel c g M' ρ' s' σ' H' → Keep g M ρ H M' ρ' H' → wipe σ' vs = wipe σ vs → Q σ' H'
def tGs (c : Cn) (W : WX) (vs : List Nat) (f : List D → S → Option S) : TGs := fun us σ H Q => ∃ g M ρ s ds s', Rel c g M ρ s σ H ∧ RDs c M ρ H ds us ∧ f ds s = some s' ∧ ∀ M' ρ' σ' H', Rel c g M' ρ' s' σ' H' → Keep g M ρ H M' ρ' H' → wipe σ' vs = wipe σ vs → Q σ' H'
def gN (i : Nat) : Tg := fun d s => some ⟨s.env.set i (.v d), s.hp⟩
def gT (n : Nat) (f : List D → S → Option S) : Tg := fun d s => match d with
  | .tup ds => if ds.length = n then f ds s else none
  | _ => none
def gsN : List D → S → Option S := fun ds s => match ds with
  | [] => some s
  | _ => none
def gsC (f : Tg) (k : List D → S → Option S) : List D → S → Option S := fun ds s => match ds with
  | d :: ds => (f d s).bind fun s1 => k ds s1
  | [] => none
theorem wipe_set_in {σ : L2.St} {x : Option V} : ∀ {vs : List Nat} {i : Nat}, i ∈ vs → wipe (σ.set i x) vs = wipe σ vs
  | v :: vs, i, h => by
    unfold wipe
    by_cases e : i ∈ vs
    · rw [wipe_set_in e]
    · have e' : i = v := by
        rcases List.mem_cons.mp h with h | h
        · exact h
        · exact absurd h e
      subst e'
      have : ∀ (ws : List Nat), i ∉ ws → (wipe (σ.set i x) ws) = (wipe σ ws).set i x := by
        intro ws
        induction ws with
        | nil => intro _; rfl
        | cons w ws ih =>
          intro hn
          have h1 : i ≠ w := fun z => hn (z ▸ List.mem_cons_self)
          have h2 : i ∉ ws := fun z => hn (List.mem_cons_of_mem _ z)
          unfold wipe
          rw [ih h2, List.set_comm _ _ h1]
      rw [this vs e, List.set_set]
section
variable {X : Cx} {c : Cn} {g : Gr} {W : WX} {pos : Pos} {vs : List Nat} {f : Tg} {fs : List D → S → Option S} {e : Expr} {es : List Expr}
theorem pg_imp {t t' : TG} (h : PG X e t) (i : ∀ v σ H Q, t' v σ H Q → t v σ H Q) : PG X e t' := ⟨fun pins s σ H v u Q I r q => h.run pins s σ H v u Q I r (i _ _ _ _ q)⟩
theorem pgs_imp {t t' : TGs} (h : PGs X es t) (i : ∀ v σ H Q, t' v σ H Q → t v σ H Q) : PGs X es t' := ⟨fun pins s σ H v u Q I r q => h.run pins s σ H v u Q I r (i _ _ _ _ q)⟩
theorem g_name (i : Nat) {x : Str} (hN : X.N.Nodup) (hi : X.N[i]? = some x := by rfl) (hx : Loc X.env.scope x := by first | exact Or.inl rfl | exact Or.inr rfl) (hf : X.fn x = true ∨ X.env.scope.names.lookup x = some .local := by first | exact .inl rfl | exact .inr rfl)
    (hv : i ∈ vs := by decide) : PG X (.Name x pos) (tG c W vs (gN i)) := pg_imp (pg_name hN hi hx hf) fun v σ H Q h => by
  obtain ⟨g, M, ρ, s, d, s', rel, hd, e, h⟩ := h
  cases e
  exact h M ρ _ H (rel.setv hd) (Keep.refl _ _ _ _) (wipe_set_in hv)
theorem gs_nil : PGs X [] (tGs c W vs gsN) := pgs_imp pgs_nil fun us σ H Q h => by
  obtain ⟨g, M, ρ, s, ds, s', rel, hd, e, h⟩ := h
  cases hd with
  | nil => cases e; exact ⟨rfl, h M ρ σ H rel (Keep.refl _ _ _ _) rfl⟩
  | cons r t => cases e
theorem gs_cons (h1 : PG X e (tG c W vs f)) (h2 : PGs X es (tGs c W vs fs)) (hs : (assignEach (e :: es) X.env).map (·.2) = assign e X.env :: (assignEach es X.env).map (·.2) := by rfl) : PGs X (e :: es) (tGs c W vs (gsC f fs)) := pgs_imp (pgs_cons h1 h2 hs) fun us σ H Q h => by
  obtain ⟨g, M, ρ, s, ds, s', rel, hd, q, h⟩ := h
  cases hd with
  | nil => cases q
  | @cons d v ds' us' r t =>
    obtain ⟨s1, q1, q2⟩ := Option.bind_eq_some_iff.mp q
    exact ⟨v, us', rfl, g, M, ρ, s, d, s1, rel, r, q1, fun M1 ρ1 σ1 H1 r1 k1 w1 => ⟨g, M1, ρ1, s1, ds', s', r1, t.keep k1, q2, fun M2 ρ2 σ2 H2 r2 k2 w2 => h M2 ρ2 σ2 H2 r2 (k1.trans k2) (w2.trans w1)⟩⟩
theorem g_tup {n : Nat} {k : Nat} (hc : X.calm = true) (hK : X.K = c.K) (h : PGs X es (tGs c W vs fs)) (hn : (assignEach es X.env).length = n := by rfl) (hst : (assignEach es X.env).findIdx? (·.1) = none := by rfl) : PG X (.Tuple es k pos) (tG c W vs (gT n fs)) := pg_imp (pg_tup hc h hn hst) fun v σ H Q h => by
  obtain ⟨g, M, ρ, s, d, s', rel, hd, q, h⟩ := h
  cases d <;> first | cases q | skip
  rename_i ds
  obtain ⟨a, us, rfl, h1, h2⟩ := hd.tup
  by_cases hl : ds.length = n
  · exact ⟨a, us, rfl, hK ▸ h1, by rw [← h2.length]; exact hl, g, M, ρ, s, ds, s', rel, h2, by simpa only [gT, if_pos hl] using q, h⟩
  · simp only [gT, if_neg hl] at q
    cases q
end
/-- target = value -/
def asgS (f : Ex) (t : Tg) : Sm := fun s => (f s).bind fun d s1 => match t d s1 with
  | some s2 => .ok .nx s2
  | none => .bad
section
variable {X : Cx} {c : Cn} {g : Gr} {W : WX} {pos : Pos} {vs : List Nat} {f : Ex} {t : Tg} {e tg : Expr} {σ : L2.St} {H : Hp} {D : Ends}
theorem t_asg (h : tS c W (asgS f t) D σ H) : tAsg (tE c W f) (tG c W vs t) D σ H := by
  obtain ⟨g, M, ρ, s, rel, h⟩ := h
  refine tE.bind (out := fun M ρ H r => OutS c g W M ρ H r D) rel (fun _ _ z M' ρ' H' cls dd r k x => z M' ρ' σ H' cls dd r k x) (fun z => z) h fun d s1 M1 ρ1 v H1 r1 k1 hd h1 => ?_
  have h1 := OutS.keep k1 h1
  cases q : t d s1 with
  | none => rw [q] at h1; exact h1.elim
  | some s2 =>
    rw [q] at h1
    exact ⟨g, M1, ρ1, s1, d, s2, r1, hd, q, fun M2 ρ2 σ2 H2 r2 k2 w2 => h1 M2 ρ2 σ2 H2 r2 k2⟩
theorem s_asg (he : PE X e (tE c W f)) (hg : PG X tg (tG c W vs t)) (hs : swapsWithSole [tg] e pos.line X.env = pure false := by rfl) (hw : swappedStores [tg] e X.env = pure none := by rfl)
    (h1 : (assignEach [tg] X.env).map (·.2) = [assign tg X.env] := by rfl) : PS X (.Assign [tg] e pos) (tS c W (asgS f t)) := ps_imp (ps_asg he hg hs hw h1) fun D σ H h => t_asg h
end

/-! ### a list held while more is worked out -/
def Gr.hold (g : Gr) (a : Addr) : Gr := { g with P := fun b => g.P b ∨ b = a }
section
variable {c : Cn} {g : Gr} {M M' : Am} {ρ ρ' : List Addr} {H H' : Hp} {s : S} {σ : L2.St} {a : Addr}
theorem Rel.hold (r : Rel c g M ρ s σ H) (f : Free g M ρ s.env σ a) : Rel c (g.hold a) M ρ s σ H :=
  ⟨r.h, ⟨r.gd.g1, r.gd.g2, r.gd.g3, r.gd.gd, r.gd.gm, r.gd.gr, fun b h => h.elim (r.gd.gp b) fun z => by rw [z]; exact ⟨f.1, f.2.1⟩⟩,
    ⟨r.e.len, r.e.val, r.e.own, fun i sl b h o e z => z.elim (r.e.pro i sl b h o e) fun z => f.2.2.2.2 i sl h o (by rw [← z]; exact e), r.e.sep⟩⟩
theorem Rel.unhold (r : Rel c (g.hold a) M ρ s σ H) : Rel c g M ρ s σ H :=
  ⟨r.h, ⟨r.gd.g1, r.gd.g2, r.gd.g3, r.gd.gd, r.gd.gm, r.gd.gr, fun b h => r.gd.gp b (.inl h)⟩, ⟨r.e.len, r.e.val, r.e.own, fun i sl b h o e z => r.e.pro i sl b h o e (.inl z), r.e.sep⟩⟩
theorem Rel.free (r : Rel c (g.hold a) M ρ s σ H) (n : g.H0 a = none) (p : ¬ g.P a) : Free g M ρ s.env σ a :=
  ⟨(r.gd.gp a (.inr rfl)).1, (r.gd.gp a (.inr rfl)).2, n, p, fun i sl h o e => r.e.pro i sl a h o e (.inr rfl)⟩
theorem Keep.unhold (k : Keep (g.hold a) M ρ H M' ρ' H') : Keep g M ρ H M' ρ' H' := ⟨k.st, k.pre, fun b h => k.pr b (.inl h)⟩
/-- the list held is put anew -/
theorem Rel.put {o : HO} (r : Rel c (g.hold a) M ρ s σ H) (mo : mutO o = true) (n : g.H0 a = none) (p : ¬ g.P a) : Rel c (g.hold a) M ρ s σ (upd H a o) ∧ Keep g M ρ H M ρ (upd H a o) := by
  have hm := (r.gd.gp a (.inr rfl)).1
  have hr := (r.gd.gp a (.inr rfl)).2
  have k : Keep g M ρ H M ρ (upd H a o) := keep_mut hm p
  have same : ∀ b, b ≠ a → upd H a o b = H b := fun b q => upd_ne q
  refine ⟨⟨⟨r.h.hl, fun j ob b q1 q2 => (r.h.ho j ob b q1 q2).keep k (same b (fun z => hr (z ▸ List.mem_of_getElem? q2))), r.h.nd, r.h.rm, fun b m => ?_⟩,
    ⟨fun b u q n' => by rw [same b (fun z => by rw [z] at q; exact absurd (q.symm.trans n) (by simp))]; exact r.gd.g1 b u q n', r.gd.g2, r.gd.g3, r.gd.gd, r.gd.gm, r.gd.gr, r.gd.gp⟩, ⟨r.e.len, fun j d q => ?_, fun j s2 q oq => ?_, r.e.pro, r.e.sep⟩⟩, k⟩
  · by_cases e : b = a
    · subst e
      exact ⟨o, upd_same, mo⟩
    · obtain ⟨u, q1, q2⟩ := r.h.dom b m
      exact ⟨u, by rw [same b e]; exact q1, q2⟩
  · obtain ⟨v, q1, q2⟩ := r.e.val j d q
    exact ⟨v, q1, q2.keep k⟩
  · obtain ⟨b, q1, q2, q3, q4, q5⟩ := r.e.own j s2 q oq
    exact ⟨b, q1, q2.keep k (same b fun z => r.e.pro j s2 b q oq q1 (.inr z)), q3, q4, q5⟩
end

/-! ### what is walked -/
/-- J walks ds, as long as what stands stays -/
def Walk (c : Cn) (M : Am) (ρ : List Addr) (H : Hp) (J : It) (ds : List D) : Prop := ∀ (g : Gr) (M1 : Am) (ρ1 : List Addr) (H1 : Hp), Keep g M ρ H M1 ρ1 H1 → Dm M1 H1 →
  (J.stop ds.length H1) ∧ ∀ i d, ds[i]? = some d → J.go i H1 ∧ ∀ x H2, J.yld i H1 x H2 → Ext H1 H2 ∧ RD c M1 ρ1 H2 d x
abbrev Itr := S → R (List D)
def OutI (c : Cn) (g : Gr) (W : WX) (M : Am) (ρ : List Addr) (σ : L2.St) (H : Hp) (r : R (List D)) (Rk : It → Hp → Prop) : Prop := match r with
  | .ok ds s' => ∀ M' ρ' J H', Rel c g M' ρ' s' σ H' → Keep g M ρ H M' ρ' H' → Walk c M' ρ' H' J ds → Rk J H'
  | .exc x s' => ∀ M' ρ' H' cls dd, Rel c g M' ρ' s' σ H' → Keep g M ρ H M' ρ' H' → XR c x cls dd H' → W cls dd σ H'
  | .bad => False
def tI (c : Cn) (W : WX) (f : DS.Itr) : TI := fun σ H Rk => ∃ g M ρ s, Rel c g M ρ s σ H ∧ OutI c g W M ρ σ H (f s) Rk
theorem pi_imp {X : Cx} {tg e : Expr} {t t' : TI} (h : PI X tg e t) (i : ∀ σ H R, t' σ H R → t σ H R) : PI X tg e t' := ⟨fun pins s σ H R I q => h.run pins s σ H R I (i _ _ _ q)⟩
/-! ### for -/
def forL (t : Tg) (b : Sm) : List D → Sm
  | [], s => .ok .nx s
  | d :: ds, s => match t d s with
    | none => .bad
    | some s1 => (b s1).bind fun fl s2 => match fl with
      | .nx => forL t b ds s2
      | .ct => forL t b ds s2
      | .bk => .ok .nx s2
      | .rt d => .ok (.rt d) s2
def forS (it : DS.Itr) (t : Tg) (b : Sm) : Sm := fun s => (it s).bind fun ds s1 => forL t b ds s1
section
variable {X : Cx} {c : Cn} {g : Gr} {W : WX} {pos : Pos} {vs : List Nat} {t : Tg} {it : DS.Itr} {b : Sm} {e tg : Expr} {σ : L2.St} {H : Hp} {D : Ends}
theorem tI.bind {β : Type} {M : Am} {ρ : List Addr} {s : S} {Rk : It → Hp → Prop} {f : DS.Itr} {k : List DS.D → S → R β} {out : Am → List Addr → Hp → R β → Prop} (rel : Rel c g M ρ s σ H)
    (hx : ∀ x s', out M ρ H (.exc x s') → ∀ M' ρ' H' cls dd, Rel c g M' ρ' s' σ H' → Keep g M ρ H M' ρ' H' → XR c x cls dd H' → W cls dd σ H') (hb : ¬ out M ρ H .bad)
    (h : out M ρ H ((f s).bind k)) (hq : ∀ ds s1 M1 ρ1 J H1, Rel c g M1 ρ1 s1 σ H1 → Keep g M ρ H M1 ρ1 H1 → Walk c M1 ρ1 H1 J ds → out M ρ H (k ds s1) → Rk J H1) : tI c W f σ H Rk := by
  refine ⟨g, M, ρ, s, rel, ?_⟩
  cases e : f s with
  | ok t s1 =>
    rw [e] at h
    exact fun M1 ρ1 J H1 r1 k1 w1 => hq t s1 M1 ρ1 J H1 r1 k1 w1 h
  | exc x s1 =>
    rw [e] at h
    exact hx x s1 h
  | bad =>
    rw [e] at h
    exact hb h
theorem t_for (h : tS c W (forS it t b) D σ H) : tFor (tI c W it) (tG c W vs t) (tS c W b) D σ H := by
  obtain ⟨g, M, ρ, s, rel, h⟩ := h
  refine tI.bind (out := fun M ρ H r => OutS c g W M ρ H r D) rel (fun _ _ z M' ρ' H' cls dd r k x => z M' ρ' σ H' cls dd r k x) (fun z => z) h fun ds s1 M1 ρ1 J H1 r1 k1 wk h1 => ?_
  have h1 := OutS.keep k1 h1
  refine ⟨fun i m σ H => m = ds.length - i ∧ i ≤ ds.length ∧ ∃ M ρ s, Rel c g M ρ s σ H ∧ Keep g M1 ρ1 H1 M ρ H ∧ OutS c g W M ρ H (forL t b (ds.drop i) s) D, ⟨ds.length, by simp, Nat.zero_le _, M1, ρ1, s1, r1, Keep.refl _ _ _ _, h1⟩, ?_⟩
  rintro i m σ H ⟨rfl, hi, M, ρ, s, r, k, h⟩
  obtain ⟨w1, w2⟩ := wk g M ρ H k r.h.dom
  by_cases hlt : i < ds.length
  · obtain ⟨go, yl⟩ := w2 i ds[i] (List.getElem?_eq_getElem hlt)
    rw [List.drop_eq_getElem_cons hlt] at h
    refine .inr ⟨go, fun σ' H' => ∃ M ρ s, Rel c g M ρ s σ' H' ∧ Keep g M1 ρ1 H1 M ρ H' ∧ OutS c g W M ρ H' (forL t b (ds.drop (i + 1)) s) D, fun σ' H' hN => ⟨_, by omega, rfl, hlt, hN⟩, fun x H2 y => ?_⟩
    obtain ⟨e2, hd⟩ := yl x H2 y
    have r2 := r.ext e2
    have k2 : Keep g M ρ H M ρ H2 := r.kext e2
    have h := OutS.keep k2 h
    unfold forL at h
    cases q : t ds[i] s with
    | none => simp only [q] at h; exact h.elim
    | some s3 =>
      simp only [q] at h
      refine ⟨g, M, ρ, s, ds[i], s3, r2, hd, q, fun M3 ρ3 σ3 H3 r3 k3 _ => ⟨g, M3, ρ3, s3, r3, ?_⟩⟩
      have h := OutS.keep k3 h
      cases q4 : b s3 with
      | bad => rw [q4] at h; exact h.elim
      | exc x s4 => rw [q4] at h; exact h
      | ok fl s4 =>
        rw [q4] at h
        cases fl with
        | nx => exact fun M4 ρ4 σ4 H4 r4 k4 => ⟨M4, ρ4, s4, r4, ((k.trans k2).trans k3).trans k4, OutS.keep k4 h⟩
        | ct => exact fun M4 ρ4 σ4 H4 r4 k4 => ⟨M4, ρ4, s4, r4, ((k.trans k2).trans k3).trans k4, OutS.keep k4 h⟩
        | bk => exact h
        | rt d => exact h
  · have e : i = ds.length := by omega
    subst e
    rw [List.drop_length] at h
    exact .inl ⟨w1, h M ρ σ H r (Keep.refl _ _ _ _)⟩
/-- a loop's body passes its own exceptions -/
theorem s_for {k : Nat} {body : List Stmt} (C : Cc X c W k) (hp : PassesOwn (model X.prog X.w) X.A X.env X.xe) (hi : PI X tg e (tI c W it)) (hg : PG X tg (tG c W vs t)) (hb : PSs X body (tS c W b)) (hs : ∀ x, foldedSetIterable e X.env x = pure x := by intro _; rfl) :
    PS X (.For tg e body [] pos) (tS c W (forS it t b)) := ps_imp (ps_for hp C.hc hi hg hb hs) fun D σ H h => t_for h
end

/-! ### while -/
def whlN (t : S → R Bool) (b : Sm) : Nat → Sm
  | 0, _ => .bad
  | n + 1, s => (t s).bind fun c s1 => if c = true then (b s1).bind fun fl s2 => match fl with
      | .nx => whlN t b n s2
      | .ct => whlN t b n s2
      | .bk => .ok .nx s2
      | .rt d => .ok (.rt d) s2
    else .ok .nx s1
section
variable {X : Cx} {c : Cn} {g : Gr} {W : WX} {pos : Pos} {t : S → R Bool} {b : Sm} {e : Expr} {σ : L2.St} {H : Hp} {D : Ends}
theorem t_whl {n : Nat} (h : tS c W (whlN t b n) D σ H) : tWhile (tT c W t) (tS c W b) D σ H := by
  obtain ⟨g, M, ρ, s, rel, h⟩ := h
  refine ⟨fun m σ H => ∃ g M ρ s, Rel c g M ρ s σ H ∧ OutS c g W M ρ H (whlN t b m s) D, ⟨n, g, M, ρ, s, rel, h⟩, ?_⟩
  rintro m σ H ⟨g, M, ρ, s, r, h⟩
  cases m with
  | zero => exact h.elim
  | succ m =>
    refine tT.bind (out := fun M ρ H r => OutS c g W M ρ H r D) r (fun _ _ z M' ρ' H' cls dd r k x => z M' ρ' σ H' cls dd r k x) (fun z => z) h fun c' s1 M1 ρ1 H1 r1 k1 h1 => ?_
    have h1 := OutS.keep k1 h1
    cases c' with
    | false => exact h1 M1 ρ1 σ H1 r1 (Keep.refl _ _ _ _)
    | true =>
      refine ⟨fun σ' H' => ∃ g M ρ s, Rel c g M ρ s σ' H' ∧ OutS c g W M ρ H' (whlN t b m s) D, fun σ' H' hN => ⟨m, Nat.lt_succ_self m, hN⟩, ?_⟩
      refine ⟨g, M1, ρ1, s1, r1, ?_⟩
      simp only [if_true] at h1
      cases q4 : b s1 with
      | bad => rw [q4] at h1; exact h1.elim
      | exc x s4 => rw [q4] at h1; exact h1
      | ok fl s4 =>
        rw [q4] at h1
        cases fl with
        | nx => exact fun M4 ρ4 σ4 H4 r4 k4 => ⟨g, M4, ρ4, s4, r4, OutS.keep k4 h1⟩
        | ct => exact fun M4 ρ4 σ4 H4 r4 k4 => ⟨g, M4, ρ4, s4, r4, OutS.keep k4 h1⟩
        | bk => exact h1
        | rt d => exact h1
open Classical in
/-- as often as it takes -/
noncomputable def whlS (t : S → R Bool) (b : Sm) : Sm := fun s => if h : ∃ n, whlN t b n s ≠ .bad then whlN t b (Classical.choose h) s else .bad
theorem whlN_mono {n m : Nat} {s : S} (hn : n ≤ m) (h : whlN t b n s ≠ .bad) : whlN t b m s = whlN t b n s := by
  induction n generalizing m s with
  | zero => exact absurd rfl h
  | succ n ih =>
    obtain ⟨m, rfl⟩ : ∃ k, m = k + 1 := ⟨m - 1, by omega⟩
    unfold whlN at h ⊢
    cases q : t s with
    | bad => rfl
    | exc x s1 => rfl
    | ok c s1 =>
      rw [q] at h
      simp only [R.bind_ok] at h ⊢
      cases c with
      | false => rfl
      | true =>
        simp only [if_true] at h ⊢
        cases q2 : b s1 with
        | bad => rfl
        | exc x s2 => rfl
        | ok fl s2 =>
          rw [q2] at h
          cases fl with
          | nx => exact ih (by omega) h
          | ct => exact ih (by omega) h
          | bk => rfl
          | rt d => rfl
theorem whlS_of {n : Nat} {s : S} {r : R Fl} (h : whlN t b n s = r) (hr : r ≠ .bad) : whlS t b s = r := by
  unfold whlS
  have hx : ∃ n, whlN t b n s ≠ .bad := ⟨n, by rw [h]; exact hr⟩
  rw [dif_pos hx]
  have h2 := Classical.choose_spec hx
  rcases Nat.le_total n (Classical.choose hx) with q | q
  · rw [whlN_mono q (by rw [h]; exact hr), h]
  · rw [← whlN_mono q h2, h]
theorem s_whl {k : Nat} {body : List Stmt} (C : Cc X c W k) (hp : PassesOwn (model X.prog X.w) X.A X.env X.xe) (hc : PT X e (tT c W t)) (hb : PSs X body (tS c W b)) : PS X (.While e body [] pos) (tS c W (whlS t b)) := ps_imp (ps_while hp hc hb) fun D σ H h => by
  obtain ⟨g, M, ρ, s, rel, h⟩ := h
  unfold whlS at h
  split at h
  · exact t_whl ⟨g, M, ρ, s, rel, h⟩
  · exact h.elim
end
end DS
/-! DS8: lists that change, parallel stores, comprehensions, what is walked. -/
namespace DS
open PySem PySem.Spec PyProof.Rows L2

/-! ### lists that change -/
def lstTok (s : S) : DS.Tok → Option (List D)
  | .s i => match s.env[i]? with
    | some (.ol xs) => some xs
    | some (.v (.ref j)) => match s.hp[j]? with
      | some (.lst xs) => some xs
      | none => none
    | _ => none
  | .d (.ref j) => match s.hp[j]? with
      | some (.lst xs) => some xs
      | none => none
  | .d _ => none
def updTok (s : S) (ys : List D) : DS.Tok → S
  | .s i => match s.env[i]? with
    | some (.ol _) => ⟨s.env.set i (.ol ys), s.hp⟩
    | some (.v (.ref j)) => ⟨s.env, s.hp.set j (.lst ys)⟩
    | _ => s
  | .d (.ref j) => ⟨s.env, s.hp.set j (.lst ys)⟩
  | .d _ => s
section
variable {c : Cn} {g : Gr} {M : Am} {ρ : List Addr} {σ : L2.St} {H : Hp} {s : S}
theorem put_ref (r : Rel c g M ρ s σ H) {j : Nat} {v : V} {xs : List D} (h : RD c M ρ H (.ref j) v) (e : s.hp[j]? = some (.lst xs)) : ∃ a vs, v = .ref a ∧ H a = some (.lst vs) ∧ RDs c M ρ H xs vs ∧ ∀ ys ws, RDs c M ρ H ys ws →
    Rel c g M ρ ⟨s.env, s.hp.set j (.lst ys)⟩ σ (upd H a (.lst ws)) ∧ Keep g M ρ H M ρ (upd H a (.lst ws)) := by
  cases h with
  | ref h =>
    rename_i a
    obtain ⟨vs, h1, h2⟩ := r.h.ho j _ a e h
    refine ⟨a, vs, rfl, h1, h2, fun ys ws hy => ?_⟩
    have hm : a ∈ ρ := List.mem_of_getElem? h
    have k : Keep g M ρ H M ρ (upd H a (.lst ws)) := keep_mut (r.h.rm a hm) (fun hp => (r.gd.gp a hp).2 hm)
    exact ⟨r.muthp h rfl ⟨ws, upd_same, hy.keep k⟩, k⟩
theorem put_tok (r : Rel c g M ρ s σ H) {t : DS.Tok} {v : V} {xs : List D} (h : TokR c M ρ σ H t v) (e : lstTok s t = some xs) : ∃ a vs, v = .ref a ∧ H a = some (.lst vs) ∧ RDs c M ρ H xs vs ∧ ∀ ys ws, RDs c M ρ H ys ws →
    Rel c g M ρ (updTok s ys t) σ (upd H a (.lst ws)) ∧ Keep g M ρ H M ρ (upd H a (.lst ws)) := by
  cases t with
  | d x =>
    cases x <;> first | cases e | skip
    rename_i j
    have e : (match s.hp[j]? with | some (Ob.lst xs) => some xs | none => none) = some xs := e
    cases q : s.hp[j]? with
    | none => simp only [q] at e; cases e
    | some o =>
      cases o with
      | lst zs =>
        simp only [q] at e
        cases e
        exact put_ref r h q
  | s i =>
    have h : σ[i]? = some (some v) := h
    unfold lstTok at e
    unfold updTok
    cases q : s.env[i]? with
    | none => simp only [q] at e; cases e
    | some sl =>
      simp only [q] at e ⊢
      cases sl with
      | un => cases e
      | od k ks vs => cases e
      | ol zs =>
        cases e
        obtain ⟨a, h1, ⟨vs, h2, h3⟩, h4, h5, h6⟩ := r.e.own i _ q rfl
        rw [h] at h1
        cases h1
        refine ⟨a, vs, rfl, h2, h3, fun ys ws hy => ?_⟩
        have k : Keep g M ρ H M ρ (upd H a (.lst ws)) := keep_mut h4 (r.e.pro i _ a q rfl h)
        exact ⟨r.mutown q rfl h (sl' := .ol ys) rfl rfl ⟨ws, upd_same, hy.keep k⟩, k⟩
      | v x =>
        cases x <;> first | cases e | skip
        rename_i j
        simp only at e ⊢
        obtain ⟨u, h1, h2⟩ := r.e.val i _ q
        rw [h] at h1
        cases h1
        cases q2 : s.hp[j]? with
        | none => simp only [q2] at e; cases e
        | some o =>
          cases o with
          | lst zs =>
            simp only [q2] at e
            cases e
            exact put_ref r h2 q2
end
/-- a method that changes its list -/
def mutE (o : Op) (fs : List Ex) (F : List D → List D → Option (D × List D)) : Ex := fun s => (o s).bind fun t s1 => match lstTok s1 t with
  | none => .bad
  | some _ => (evA fs s1).bind fun as s2 => match (lstTok s2 t).bind fun xs => F xs as with
    | none => .bad
    | some (d, ys) => .ok d (updTok s2 ys t)
/-- by values -/
def VM (c : Cn) (r : V → List V → Hp → VK → Prop) (F : List D → List D → Option (D × List D)) : Prop := ∀ (M : Am) (ρ : List Addr) (H : Hp) (a : Addr) (xs as ys : List D) (d : D) (vs us : List V) (Q : VK), H a = some (.lst vs) → RDs c M ρ H xs vs → RDs c M ρ H as us → M a → F xs as = some (d, ys) →
  (∀ ws v, RDs c M ρ H ys ws → (∀ H', Keep ⟨M, [], H, fun _ => False⟩ M ρ H M ρ H' → RD c M ρ H' d v) → Q v (upd H a (.lst ws))) → r (.ref a) us H Q
def appF (xs as : List D) : Option (D × List D) := match as with
  | [d] => if xs.length < LIM then some (.non, xs ++ [d]) else none
  | _ => none
def extF (xs as : List D) : Option (D × List D) := match as with
  | [.lst zs] => if xs.length + zs.length ≤ LIM then some (.non, xs ++ zs) else none
  | _ => none
def popF (xs as : List D) : Option (D × List D) := match as with
  | [] => (xs[xs.length - 1]?).map fun d => (d, xs.dropLast)
  | _ => none
def popAtF (xs as : List D) : Option (D × List D) := match as with
  | [.int i] => if decide (-(2 ^ 63) ≤ i) && decide (i < 2 ^ 63) then (seqIndex? i xs.length).bind fun k => (xs[k]?).map fun d => (d, xs.eraseIdx k) else none
  | _ => none
section
variable {X : Cx} {c : Cn} {g : Gr} {W : WX} {a e : Expr} {es : List Expr} {o : Op} {fs : List Ex} {name : Str} {apos cpos : Pos} {id : String} {r : V → List V → Hp → VK → Prop} {F : List D → List D → Option (D × List D)} {σ : L2.St} {H : Hp} {Q : VK}
theorem vm_app : VM c rAppend appF := by
  intro M ρ H a xs as ys d vs us Q h1 h2 h3 hm hF q
  unfold appF at hF
  split at hF
  · split at hF
    · cases hF
      rename_i hl
      cases h3 with
      | cons r t =>
        cases t
        exact ⟨a, vs, _, rfl, rfl, h1, by rw [← h2.length]; exact hl, q _ .non (h2.append (.cons r .nil)) fun _ _ => .non⟩
    · cases hF
  · cases hF
theorem vm_ext : VM c rExtend extF := by
  intro M ρ H a xs as ys d vs us Q h1 h2 h3 hm hF q
  unfold extF at hF
  split at hF
  · split at hF
    · cases hF
      rename_i hl
      cases h3 with
      | cons r t =>
        cases t
        cases r with
        | lst hb m rb => exact ⟨a, _, vs, _, rfl, rfl, h1, hb, by rw [← h2.length, ← rb.length]; exact hl, q _ .non (h2.append rb) fun _ _ => .non⟩
    · cases hF
  · cases hF
theorem vm_pop : VM c rPop popF := by
  intro M ρ H a xs as ys d vs us Q h1 h2 h3 hm hF q
  unfold popF at hF
  split at hF
  · obtain ⟨x, hx, e⟩ := Option.map_eq_some_iff.mp hF
    cases e
    cases h3
    obtain ⟨v, h4, h5⟩ := h2.get hx
    exact ⟨a, vs, v, rfl, rfl, h1, by rw [← h2.length]; exact h4, q _ v h2.dropLast fun H' k => h5.keep k⟩
  · cases hF
theorem vm_popAt : VM c rPopAt popAtF := by
  intro M ρ H a xs as ys d vs us Q h1 h2 h3 hm hF q
  unfold popAtF at hF
  split at hF
  · rename_i i
    split at hF
    · rename_i hi
      simp only [Bool.and_eq_true, decide_eq_true_eq] at hi
      obtain ⟨k, hk, hF⟩ := Option.bind_eq_some_iff.mp hF
      obtain ⟨x, hx, e⟩ := Option.map_eq_some_iff.mp hF
      cases e
      cases h3 with
      | cons r t =>
        cases t
        cases r
        obtain ⟨v, h4, h5⟩ := h2.get hx
        exact ⟨a, vs, i, k, v, rfl, rfl, h1, hi.1, hi.2, by rw [← h2.length]; exact hk, h4, q _ v (h2.eraseIdx k) fun H' k => h5.keep k⟩
    · cases hF
  · cases hF
theorem mt_or {id : String} {r r' : V → List V → Hp → VK → Prop} (h : MtM X id r) (h' : MtM X id r') : MtM X id (fun x xs H Q => r x xs H Q ∨ r' x xs H Q) := by
  intro pins s σ H x xs v us Q I rx rv q
  rcases q with q | q
  · exact h pins s σ H x xs v us Q I rx rv q
  · exact h' pins s σ H x xs v us Q I rx rv q
theorem t_mut_fin {M : Am} {ρ : List Addr} {s2 : S} {t : DS.Tok} {as : List D} {us : List V} {v : V} (r2 : Rel c g M ρ s2 σ H) (t2 : TokR c M ρ σ H t v) (hv : VM c r F) (rd : RDs c M ρ H as us)
    (h : OutE c g W M ρ σ H (match (lstTok s2 t).bind fun xs => F xs as with | none => R.bad | some (d, ys) => R.ok d (updTok s2 ys t)) Q) : r v us H Q := by
  cases q : (lstTok s2 t).bind fun xs => F xs as with
  | none => rw [q] at h; exact h.elim
  | some p =>
    rw [q] at h
    obtain ⟨d, ys⟩ := p
    obtain ⟨xs, h1, h2⟩ := Option.bind_eq_some_iff.mp q
    obtain ⟨a, vs, rfl, h3, h4, h5⟩ := put_tok r2 t2 h1
    have hm : M a := by
      have k := (h5 xs vs h4).2
      have z := (h5 xs vs h4).1
      cases t with
      | d x =>
        cases x <;> first | cases h1 | skip
        cases t2 with
        | ref t2 => exact r2.h.rm _ (List.mem_of_getElem? t2)
      | s i =>
        unfold lstTok at h1
        cases q3 : s2.env[i]? with
        | none => simp only [q3] at h1; cases h1
        | some sl =>
          simp only [q3] at h1
          cases sl with
          | un => cases h1
          | od k ks vs => cases h1
          | ol zs =>
            obtain ⟨b, g1, _, g4, _⟩ := r2.e.own i _ q3 rfl
            rw [show σ[i]? = some (some (.ref a)) from t2] at g1
            cases g1
            exact g4
          | v x =>
            cases x <;> first | cases h1 | skip
            obtain ⟨u, g1, g2⟩ := r2.e.val i _ q3
            rw [show σ[i]? = some (some (.ref a)) from t2] at g1
            cases g1
            cases g2 with
            | ref g2 => exact r2.h.rm _ (List.mem_of_getElem? g2)
    refine hv M ρ H a xs as ys d vs us Q h3 h4 rd hm h2 fun ws v hw hd => ?_
    obtain ⟨r3, k3⟩ := h5 ys ws hw
    exact h M ρ v _ r3 k3 (hd _ ⟨k3.st, k3.pre, fun _ z => z.elim⟩)
theorem tok_ty {M : Am} {ρ : List Addr} {s1 : S} {t : DS.Tok} {v : V} {xs : List D} (r1 : Rel c g M ρ s1 σ H) (t1 : TokR c M ρ σ H t v) (h : lstTok s1 t = some xs) {K : PySem.W.Frag} : tyV K "list" v H := by
  obtain ⟨a, vs, rfl, h3, h4, h5⟩ := put_tok r1 t1 h
  exact .inl ⟨rfl, vs, .inl (.inl h3)⟩
/-- o.m(e, ..) -/
theorem e_mut (slot : PySem.Slot "list" name id) (hty : typeOf (.builtin id) = pure (.type "method_descriptor")) (hm : MtM X id r) (hv : VM c r F) (ho : PE X a (tO c W o)) (ha : PA X (e :: es) (tA c W fs))
    (hbase : attributeBase a name X.env (eval a X.env) = eval a X.env := by rfl)
    (hfew : ((backTo cpos (starEach (e :: es) X.env)).all (fun x => !x.1) && (backToKw cpos (keywordEach [] X.env)).all (fun x => x.1.isSome)
      && decide ((e :: es).length + ([] : List Keyword).length + (if ([] : List Keyword).isEmpty then 0 else 1) < 30)) = true := by rfl)
    (hline : (apos.endLine == cpos.line) = true := by rfl) (hs : starEach (e :: es) X.env = (false, eval e X.env) :: starEach es X.env := by rfl) (hplain : (backTo cpos (starEach es X.env)).any (·.1) = false := by rfl) :
    PE X (.Call (.Attribute a name apos) (e :: es) [] cpos) (tE c W (mutE o fs F)) := pe_imp (pe_bm PySem.F.plainAttrs_list slot hty hm ho ha hbase hfew hline hs hplain) fun σ H Q h => by
  obtain ⟨g, M, ρ, s, rel, h⟩ := h
  refine tO.bind (out := fun M ρ H r => OutE c g W M ρ σ H r Q) rel (fun _ _ z => z) (fun z => z) h fun t s1 M1 ρ1 v H1 r1 k1 t1 h1 => ?_
  have h1 := OutE.keep k1 h1
  cases q : lstTok s1 t with
  | none => rw [q] at h1; exact h1.elim
  | some xs =>
    rw [q] at h1
    refine ⟨tok_ty r1 t1 q, ?_⟩
    exact tA.bind (out := fun M ρ H r => OutE c g W M ρ σ H r Q) r1 (fun _ _ z => z) (fun z => z) h1 fun as s2 M2 ρ2 us H2 r2 k2 rd h2 => t_mut_fin r2 (t1.keep k2) hv rd (OutE.keep k2 h2)
theorem e_mut0 (slot : PySem.Slot "list" name id) (hty : typeOf (.builtin id) = pure (.type "method_descriptor")) (hm : MtM X id r) (hv : VM c r F) (ho : PE X a (tO c W o))
    (hbase : attributeBase a name X.env (eval a X.env) = eval a X.env := by rfl) (hline : (apos.endLine == cpos.line) = true := by rfl) :
    PE X (.Call (.Attribute a name apos) [] [] cpos) (tE c W (mutE o [] F)) := pe_imp (pe_bm0 PySem.F.plainAttrs_list slot hty hm ho hbase hline) fun σ H Q h => by
  obtain ⟨g, M, ρ, s, rel, h⟩ := h
  refine tO.bind (out := fun M ρ H r => OutE c g W M ρ σ H r Q) rel (fun _ _ z => z) (fun z => z) h fun t s1 M1 ρ1 v H1 r1 k1 t1 h1 => ?_
  have h1 := OutE.keep k1 h1
  cases q : lstTok s1 t with
  | none => rw [q] at h1; exact h1.elim
  | some xs =>
    rw [q] at h1
    exact ⟨tok_ty r1 t1 q, t_mut_fin r1 t1 hv .nil h1⟩
theorem e_app (ho : PE X a (tO c W o)) {f : Ex} (hf : PE X e (tE c W f)) (hbase : attributeBase a "append" X.env (eval a X.env) = eval a X.env := by rfl)
    (hline : (apos.endLine == cpos.line) = true := by rfl) (hs : starEach [e] X.env = (false, eval e X.env) :: starEach [] X.env := by rfl)
    (hfew : ((backTo cpos (starEach [e] X.env)).all (fun x => !x.1) && (backToKw cpos (keywordEach [] X.env)).all (fun x => x.1.isSome)
      && decide ([e].length + ([] : List Keyword).length + (if ([] : List Keyword).isEmpty then 0 else 1) < 30)) = true := by rfl) :
    PE X (.Call (.Attribute a "append" apos) [e] [] cpos) (tE c W (mutE o [f] appF)) := e_mut PySem.F.slot_list_append PySem.F.type_list_append mt_append vm_app ho (a_cons hf a_nil hs) hbase hfew hline hs
theorem e_ext (ho : PE X a (tO c W o)) {f : Ex} (hf : PE X e (tE c W f)) (hbase : attributeBase a "extend" X.env (eval a X.env) = eval a X.env := by rfl)
    (hline : (apos.endLine == cpos.line) = true := by rfl) (hs : starEach [e] X.env = (false, eval e X.env) :: starEach [] X.env := by rfl)
    (hfew : ((backTo cpos (starEach [e] X.env)).all (fun x => !x.1) && (backToKw cpos (keywordEach [] X.env)).all (fun x => x.1.isSome)
      && decide ([e].length + ([] : List Keyword).length + (if ([] : List Keyword).isEmpty then 0 else 1) < 30)) = true := by rfl) :
    PE X (.Call (.Attribute a "extend" apos) [e] [] cpos) (tE c W (mutE o [f] extF)) := e_mut PySem.F.slot_list_extend PySem.F.type_list_extend mt_extend vm_ext ho (a_cons hf a_nil hs) hbase hfew hline hs
theorem e_pop (ho : PE X a (tO c W o)) (hbase : attributeBase a "pop" X.env (eval a X.env) = eval a X.env := by rfl)
    (hline : (apos.endLine == cpos.line) = true := by rfl) : PE X (.Call (.Attribute a "pop" apos) [] [] cpos) (tE c W (mutE o [] popF)) := e_mut0 PySem.F.slot_list_pop PySem.F.type_list_pop mt_pop vm_pop ho hbase hline
theorem e_popAt (ho : PE X a (tO c W o)) {f : Ex} (hf : PE X e (tE c W f)) (hbase : attributeBase a "pop" X.env (eval a X.env) = eval a X.env := by rfl)
    (hline : (apos.endLine == cpos.line) = true := by rfl) (hs : starEach [e] X.env = (false, eval e X.env) :: starEach [] X.env := by rfl)
    (hfew : ((backTo cpos (starEach [e] X.env)).all (fun x => !x.1) && (backToKw cpos (keywordEach [] X.env)).all (fun x => x.1.isSome)
      && decide ([e].length + ([] : List Keyword).length + (if ([] : List Keyword).isEmpty then 0 else 1) < 30)) = true := by rfl) :
    PE X (.Call (.Attribute a "pop" apos) [e] [] cpos) (tE c W (mutE o [f] popAtF)) := e_mut PySem.F.slot_list_pop PySem.F.type_list_pop mt_popAt vm_popAt ho (a_cons hf a_nil hs) hbase hfew hline hs
end
/-- xs[i] = e -/
def setIx (f : Ex) (o : Op) (i : Ex) : Sm := fun s => (f s).bind fun d s1 => (o s1).bind fun t s2 => (i s2).bind fun k s3 => match k with
  | .int k => match lstTok s3 t with
    | some xs => match ixN xs.length k with
      | some j => .ok .nx (updTok s3 (xs.set j d) t)
      | none => .bad
    | none => .bad
  | _ => .bad
section
variable {X : Cx} {c : Cn} {g : Gr} {W : WX} {f fi : Ex} {o : Op} {e a i : Expr} {pos p2 : Pos}
theorem s_setIx (he : PE X e (tE c W f)) (ho : PE X a (tO c W o)) (hi : PE X i (tE c W fi)) (hs : swapsWithSole [.Subscript a i p2] e pos.line X.env = pure false := by rfl) (hw : swappedStores [.Subscript a i p2] e X.env = pure none := by rfl)
    (h1 : (assignEach [.Subscript a i p2] X.env).map (·.2) = [assign (.Subscript a i p2) X.env] := by rfl)
    (ha : ∀ v, assign (.Subscript a i p2) X.env v = (do
      let ov ← holding [v] (eval a X.env)
      let iv ← holding [v, ov] (eval i X.env)
      standAt p2
      holding [v, ov, iv] (setItem ov iv v)
      release [v, ov, iv] []) := by intro _; rfl) : PS X (.Assign [.Subscript a i p2] e pos) (tS c W (setIx f o fi)) := ps_imp (ps_asg he (pg_sub ho hi set_list ha) hs hw h1) fun D σ H h => by
  obtain ⟨g, M, ρ, s, rel, h⟩ := h
  refine tE.bind (out := fun M ρ H r => OutS c g W M ρ H r D) rel (fun _ _ z M' ρ' H' cls dd r k x => z M' ρ' σ H' cls dd r k x) (fun z => z) h fun d s1 M1 ρ1 v H1 r1 k1 hd h1 => ?_
  refine tO.bind (out := fun M ρ H r => OutS c g W M ρ H r D) r1 (fun _ _ z M' ρ' H' cls dd r k x => z M' ρ' σ H' cls dd r k x) (fun z => z) (OutS.keep k1 h1) fun t s2 M2 ρ2 u H2 r2 k2 t2 h2 => ?_
  refine tE.bind (out := fun M ρ H r => OutS c g W M ρ H r D) r2 (fun _ _ z M' ρ' H' cls dd r k x => z M' ρ' σ H' cls dd r k x) (fun z => z) (OutS.keep k2 h2) fun kd s3 M3 ρ3 w H3 r3 k3 hk h3' => ?_
  have h3 := OutS.keep k3 h3'
  clear h3'
  have hkd : ∃ k, kd = .int k := by
    cases kd with
    | int k => exact ⟨k, rfl⟩
    | _ => exact h3.elim
  obtain ⟨k, rfl⟩ := hkd
  cases hk
  cases q : lstTok s3 t with
  | none => simp only [q] at h3; exact h3.elim
  | some xs =>
    simp only [q] at h3
    obtain ⟨a, vs, rfl, h4, h5, h6⟩ := put_tok r3 (t2.keep k3) q
    cases q2 : ixN xs.length k with
    | none => simp only [q2] at h3; exact h3.elim
    | some j =>
      simp only [q2] at h3
      refine ⟨a, vs, k, j, rfl, rfl, h4, by rw [← h5.length]; exact q2, ?_⟩
      obtain ⟨r4, k4⟩ := h6 (xs.set j d) (vs.set j v) (RDs.set ((hd.keep k2).keep k3) j h5)
      exact h3 M3 ρ3 σ _ r4 k4
end
end DS
/-! DS9: comprehensions, what is walked, parallel stores. -/
namespace DS
open PySem PySem.Spec PyProof.Rows L2

/-! ### a block's own names -/
def wipeE (env : Env) : List Nat → Env
  | [] => env
  | v :: vs => (wipeE env vs).set v .un
def restE (env0 env : Env) : List Nat → Env
  | [] => env
  | v :: vs => (restE env0 env vs).set v (env0[v]?.getD .un)
theorem restE_len (env0 env : Env) : ∀ vs, (restE env0 env vs).length = env.length
  | [] => rfl
  | v :: vs => by
    unfold restE
    rw [List.length_set, restE_len env0 env vs]
theorem restE_out {env0 env : Env} {i : Nat} : ∀ {vs}, i ∉ vs → (restE env0 env vs)[i]? = env[i]?
  | [], _ => rfl
  | v :: vs, h => by
    unfold restE
    rw [get_set_ne (fun z => h (by rw [z]; exact List.mem_cons_self)), restE_out (fun z => h (List.mem_cons_of_mem _ z))]
theorem restE_in {env0 env : Env} {i : Nat} {sl : Slot} (hl : env0.length = env.length) : ∀ {vs}, i ∈ vs → (restE env0 env vs)[i]? = some sl → env0[i]? = some sl
  | v :: vs, h, e => by
    unfold restE at e
    rcases get_set_some e with ⟨rfl, e, hi⟩ | ⟨ne, e⟩
    · rw [restE_len, ← hl] at hi
      rw [e, List.getElem?_eq_getElem hi]
      rfl
    · exact restE_in hl (by
        rcases List.mem_cons.mp h with h | h
        · exact absurd h ne
        · exact h) e
theorem wipe_out {σ : L2.St} {i : Nat} : ∀ {vs}, i ∉ vs → (wipe σ vs)[i]? = σ[i]?
  | [], _ => rfl
  | v :: vs, h => by
    unfold wipe
    rw [get_set_ne (fun z => h (by rw [z]; exact List.mem_cons_self)), wipe_out (fun z => h (List.mem_cons_of_mem _ z))]
theorem wipe_set_out {σ : L2.St} {i : Nat} {x : Option V} : ∀ {ws : List Nat}, i ∉ ws → wipe (σ.set i x) ws = (wipe σ ws).set i x
  | [], _ => rfl
  | w :: ws, hn => by
    unfold wipe
    rw [wipe_set_out (fun z => hn (List.mem_cons_of_mem _ z)), List.set_comm _ _ (fun z => hn (by rw [z]; exact List.mem_cons_self))]
theorem wipe_wipe {σ : L2.St} : ∀ {vs ws : List Nat}, (∀ v ∈ vs, v ∈ ws) → wipe (wipe σ vs) ws = wipe σ ws
  | [], _, _ => rfl
  | v :: vs, ws, h => by
    show wipe ((wipe σ vs).set v none) ws = _
    rw [wipe_set_in (h v List.mem_cons_self), wipe_wipe fun u hu => h u (List.mem_cons_of_mem _ hu)]
section
variable {c : Cn} {g : Gr} {M M' : Am} {ρ ρ' : List Addr} {H H' : Hp} {env env0 : Env} {hp hp' : List Ob} {σ : L2.St}
theorem Rel.wipe1 (r : Rel c g M ρ ⟨env, hp⟩ σ H) (i : Nat) : Rel c g M ρ ⟨env.set i .un, hp⟩ (σ.set i none) H := by
  refine ⟨r.h, r.gd, ⟨by simp [r.e.len], fun j d' h => ?_, fun j sl h o => ?_, fun j sl b h o e => ?_, fun j k sl sl' b h o h' o' e e' => ?_⟩⟩
  · rcases get_set_some h with ⟨rfl, e, hl⟩ | ⟨ne, h⟩
    · cases e
    · rw [get_set_ne ne]
      exact r.e.val j d' h
  · rcases get_set_some h with ⟨rfl, e, hl⟩ | ⟨ne, h⟩
    · cases e
      cases o
    · rw [get_set_ne ne]
      exact r.e.own j sl h o
  · rcases get_set_some h with ⟨rfl, q, hl⟩ | ⟨ne, h⟩
    · cases q
      cases o
    · rw [get_set_ne ne] at e
      exact r.e.pro j sl b h o e
  · rcases get_set_some h with ⟨rfl, q, hl⟩ | ⟨ne, h⟩
    · cases q
      cases o
    · rcases get_set_some h' with ⟨rfl, q, hl⟩ | ⟨ne', h'⟩
      · cases q
        cases o'
      · rw [get_set_ne ne] at e
        rw [get_set_ne ne'] at e'
        exact r.e.sep j k sl sl' b h o h' o' e e'
theorem Rel.wipe (r : Rel c g M ρ ⟨env, hp⟩ σ H) : ∀ vs : List Nat, Rel c g M ρ ⟨wipeE env vs, hp⟩ (L2.wipe σ vs) H
  | [] => r
  | v :: vs => (Rel.wipe r vs).wipe1 v
theorem Rel.rest {vs : List Nat} (r0 : Rel c g M ρ ⟨env0, hp⟩ σ H) (k : Keep g M ρ H M' ρ' H') (r : Rel c g M' ρ' ⟨env, hp'⟩ (L2.wipe σ vs) H') (hn : ∀ v ∈ vs, ∀ sl, env0[v]? = some sl → sl.isOwn = false) : Rel c g M' ρ' ⟨restE env0 env vs, hp'⟩ σ H' := by
  have hl : env0.length = env.length := by
    have a : env0.length = σ.length := r0.e.len
    have b : env.length = (L2.wipe σ vs).length := r.e.len
    rw [a, b, wipe_length]
  have up : ∀ {i : Nat} {sl : Slot}, (restE env0 env vs)[i]? = some sl → sl.isOwn = true → i ∉ vs ∧ env[i]? = some sl := fun {i sl} h o => by
    by_cases hi : i ∈ vs
    · have := hn i hi sl (restE_in hl hi h)
      rw [o] at this
      cases this
    · rw [restE_out hi] at h
      exact ⟨hi, h⟩
  refine ⟨r.h, r.gd, ⟨?_, fun i d h => ?_, fun i sl h o => ?_, fun i sl b h o e => ?_, fun i j sl sl' b h o h' o' e e' => ?_⟩⟩
  · show (restE env0 env vs).length = σ.length
    rw [restE_len, ← hl]
    exact r0.e.len
  · by_cases hi : i ∈ vs
    · obtain ⟨v, h1, h2⟩ := r0.e.val i d (restE_in hl hi h)
      exact ⟨v, h1, h2.keep k⟩
    · have h : (restE env0 env vs)[i]? = some (.v d) := h
      rw [restE_out hi] at h
      obtain ⟨v, h1, h2⟩ := r.e.val i d h
      rw [wipe_out hi] at h1
      exact ⟨v, h1, h2⟩
  · obtain ⟨hi, h⟩ := up h o
    obtain ⟨a, h1, h2⟩ := r.e.own i sl h o
    rw [wipe_out hi] at h1
    exact ⟨a, h1, h2⟩
  · obtain ⟨hi, h⟩ := up h o
    exact r.e.pro i sl b h o (by rw [wipe_out hi]; exact e)
  · obtain ⟨hi, h⟩ := up h o
    obtain ⟨hj, h'⟩ := up h' o'
    exact r.e.sep i j sl sl' b h o h' o' (by rw [wipe_out hi]; exact e) (by rw [wipe_out hj]; exact e')
end

/-! ### [f for t in it if tt] -/
def yesT : S → R Bool := fun s => .ok true s
def lcL (t : Tg) (vs : List Nat) (tt : S → R Bool) (f : Ex) : List D → List D → S → R (List D)
  | [], acc, s => .ok acc s
  | d :: ds, acc, s => match t d s with
    | none => .bad
    | some s1 => match tt s1 with
      | .ok true s2 => match f s2 with
        | .ok y s3 => if acc.length < LIM then lcL t vs tt f ds (acc ++ [y]) ⟨wipeE s3.env vs, s3.hp⟩ else .bad
        | _ => .bad
      | .ok false s2 => lcL t vs tt f ds acc ⟨wipeE s2.env vs, s2.hp⟩
      | _ => .bad
def noOwn (env : Env) (vs : List Nat) : Bool := vs.all fun v => match env[v]? with
  | some sl => !sl.isOwn
  | none => true
def lcE (it : DS.Itr) (t : Tg) (vs : List Nat) (tt : S → R Bool) (f : Ex) : ExL := fun s => (it s).bind fun ds s1 => if noOwn s1.env vs = true then match lcL t vs tt f ds [] ⟨wipeE s1.env vs, s1.hp⟩ with
    | .ok acc s2 => .ok acc ⟨restE s1.env s2.env vs, s2.hp⟩
    | _ => .bad
  else .bad
abbrev W0 : WX := fun _ _ _ _ => False
section
variable {X : Cx} {c : Cn} {g : Gr} {W : WX} {pos : Pos} {vs : List Nat} {t : Tg} {it : DS.Itr} {tt : S → R Bool} {f : Ex} {e tg iter : Expr} {σ : L2.St} {H : Hp} {Q : VK}
theorem t_lc (h : tL c W (lcE it t vs tt f) σ H Q) : tLc (tI c W it) (tG c W0 vs t) (tT c W0 tt) (tE c W0 f) vs σ H Q := by
  obtain ⟨g, M, ρ, s, rel, h⟩ := h
  refine tI.bind (out := fun M ρ H r => OutL c g W M ρ σ H r Q) rel (fun _ _ z => z) (fun z => z) h fun ds s1 M1 ρ1 J H1 r1 k1 wk h1 => ?_
  have h1 := OutL.keep k1 h1
  by_cases hn : noOwn s1.env vs = true
  · rw [if_pos hn] at h1
    have hno : ∀ v ∈ vs, ∀ sl, s1.env[v]? = some sl → sl.isOwn = false := fun v hv sl e => by
      have := List.all_eq_true.mp hn v hv
      simp only [e] at this
      simpa using this
    generalize hF : lcL t vs tt f ds [] ⟨wipeE s1.env vs, s1.hp⟩ = fin at h1
    intro Da hD
    obtain ⟨r2, f2⟩ := r1.newM (Ext.new hD) hD (upd_same (o := .lst [])) rfl
    have k2 : Keep g M1 ρ1 H1 (more M1 Da) ρ1 (upd H1 Da (.lst [])) := keep_more (Ext.new hD) hD r1.pd
    have r2h := r2.hold f2
    refine ⟨fun i m H => m = ds.length - i ∧ i ≤ ds.length ∧ ∃ M ρ s acc us, Rel c (g.hold Da) M ρ s (wipe σ vs) H ∧ Keep g (more M1 Da) ρ1 (upd H1 Da (.lst [])) M ρ H ∧ H Da = some (.lst us) ∧ RDs c M ρ H acc us ∧
      (match lcL t vs tt f (ds.drop i) acc s with
        | .ok acc' s' => fin = .ok acc' s'
        | _ => False), ⟨ds.length, by simp, Nat.zero_le _, more M1 Da, ρ1, ⟨wipeE s1.env vs, s1.hp⟩, [], [], Rel.wipe r2h vs, Keep.refl _ _ _ _, upd_same, .nil, ?_⟩, ?_⟩
    · rw [List.drop_zero, hF]
      cases fin with
      | ok acc s2 => rfl
      | exc x s2 => exact h1.elim
      | bad => exact h1.elim
    rintro i m H ⟨rfl, hi, M, ρ, s, acc, us, r, k, hu, hr, hq⟩
    obtain ⟨w1, w2⟩ := wk g M ρ H (k2.trans k) r.h.dom
    by_cases hlt : i < ds.length
    · right
      obtain ⟨go, yl⟩ := w2 i ds[i] (List.getElem?_eq_getElem hlt)
      rw [List.drop_eq_getElem_cons hlt] at hq
      refine ⟨go, fun H' => ∃ M ρ s acc us, Rel c (g.hold Da) M ρ s (wipe σ vs) H' ∧ Keep g (more M1 Da) ρ1 (upd H1 Da (.lst [])) M ρ H' ∧ H' Da = some (.lst us) ∧ RDs c M ρ H' acc us ∧
        (match lcL t vs tt f (ds.drop (i + 1)) acc s with
        | .ok acc' s' => fin = .ok acc' s'
        | _ => False), fun H' hN => ⟨_, by omega, rfl, hlt, hN⟩, fun x H2 y => ?_⟩
      obtain ⟨e2, hd⟩ := yl x H2 y
      have r3 := r.ext e2
      have k3 : Keep (g.hold Da) M ρ H M ρ H2 := r.kext e2
      unfold lcL at hq
      cases qt : t ds[i] s with
      | none => simp only [qt] at hq
      | some s3 =>
        simp only [qt] at hq
        refine ⟨g.hold Da, M, ρ, s, ds[i], s3, r3, hd, qt, fun M4 ρ4 σ4 H4 r4 k4 w4 => ?_⟩
        have w4 : wipe σ4 vs = wipe σ vs := w4.trans (wipe_wipe fun _ h => h)
        refine ⟨w4, g.hold Da, M4, ρ4, s3, r4, ?_⟩
        cases q5 : tt s3 with
        | bad => simp only [q5] at hq
        | exc x s5 => simp only [q5] at hq
        | ok b s5 =>
          simp only [q5] at hq
          intro M5 ρ5 H5 r5 k5
          have k45 := (k3.trans k4).trans k5
          cases b with
          | false =>
            simp only at hq
            have r6 := Rel.wipe (env := s5.env) (hp := s5.hp) r5 vs
            rw [w4] at r6
            exact ⟨M5, ρ5, _, acc, us, r6, k.trans k45.unhold, by rw [k45.pr Da (.inr rfl)]; exact hu, hr.keep k45, hq⟩
          | true =>
            simp only at hq
            refine ⟨g.hold Da, M5, ρ5, s5, r5, ?_⟩
            cases q6 : f s5 with
            | bad => simp only [q6] at hq
            | exc x s6 => simp only [q6] at hq
            | ok yd s6 =>
              simp only [q6] at hq
              intro M6 ρ6 y H6 r6 k6 hy
              have k46 := k45.trans k6
              by_cases hlen : acc.length < LIM
              · rw [if_pos hlen] at hq
                refine ⟨us, by rw [k46.pr Da (.inr rfl)]; exact hu, by rw [← hr.length]; exact hlen, ?_⟩
                have hyk := hr.keep k46
                obtain ⟨r7, k7⟩ := r6.put (o := .lst (us ++ [y])) rfl f2.2.2.1 f2.2.2.2.1
                have r8 := Rel.wipe (env := s6.env) (hp := s6.hp) r7 vs
                rw [w4] at r8
                exact ⟨M6, ρ6, _, acc ++ [yd], us ++ [y], r8, (k.trans k46.unhold).trans k7, upd_same, (hyk.keep k7).append (.cons (hy.keep k7) .nil), hq⟩
              · rw [if_neg hlen] at hq
                exact hq.elim
    · have e : i = ds.length := by omega
      subst e
      left
      rw [List.drop_length] at hq
      simp only [lcL] at hq
      rw [hq] at h1
      refine ⟨w1, ?_⟩
      have kk : Keep (g.hold Da) (more M1 Da) ρ1 (upd H1 Da (.lst [])) (more M1 Da) ρ1 (upd H1 Da (.lst [])) := Keep.refl _ _ _ _
      have r9 : Rel c g M ρ ⟨restE s1.env s.env vs, s.hp⟩ σ H := Rel.rest (env0 := s1.env) (hp := s1.hp) r2 k r.unhold hno
      refine h1 M ρ Da us H r9 (k2.trans k) hu hr ⟨(r.gd.gp Da (.inr rfl)).1, (r.gd.gp Da (.inr rfl)).2, f2.2.2.1, f2.2.2.2.1, fun j sl hj ho z => ?_⟩
      have hl : s1.env.length = s.env.length := by
        have a := r2.e.len
        have b : s.env.length = (wipe σ vs).length := r.e.len
        rw [a, b, wipe_length]
      by_cases hjv : j ∈ vs
      · have := hno j hjv sl (restE_in hl hjv hj)
        rw [ho] at this
        cases this
      · have hj : (restE s1.env s.env vs)[j]? = some sl := hj
        rw [restE_out hjv] at hj
        exact r.e.pro j sl Da hj ho (by rw [wipe_out hjv]; exact z) (.inr rfl)
  · rw [if_neg hn] at h1
    exact h1.elim
theorem Cc.blk {k : Nat} (C : Cc X c W k) {s : Shared} {H : Hp} {scope : Scope} {cenv : PySem.Env} {fp : List Addr} : Cc (X.blk s H scope cenv fp) c W0 k := ⟨C.hK, C.hm, takes0, C.rm, C.hc, C.nd⟩
theorem ts_nil : PTs X [] (tT c W yesT) := ⟨fun pins s σ H Q I h => pts_nil.run pins s σ H Q I (by
  obtain ⟨g, M, ρ, s, rel, h⟩ := h
  exact h M ρ H rel (Keep.refl _ _ _ _))⟩
theorem ts_one {x : Expr} (h : PT X x (tT c W tt)) : PTs X [x] (tT c W tt) := pts_one h
theorem l_lc {k : Nat} {scope : Scope} {own : List (Str × Nat)} {ifs : List Expr} (C : Cc X c W k) (hv : own.map (·.2) = vs) (hi : PI X tg iter (tI c W it)) (ok : BlkOk X.N X.env.scope scope own)
    (hg : ∀ (s : Shared) (H : Hp) (A : Addr) (cl : List (Str × Addr)) (fp : List Addr), PG (X.blk s H scope (compEnvC scope cl A X.env) fp) tg (tG c W0 vs t))
    (ht : ∀ (s : Shared) (H : Hp) (A : Addr) (cl : List (Str × Addr)) (fp : List Addr), Cc (X.blk s H scope (compEnvC scope cl A X.env) fp) c W0 k → PTs (X.blk s H scope (compEnvC scope cl A X.env) fp) ifs (tT c W0 tt))
    (he : ∀ (s : Shared) (H : Hp) (A : Addr) (cl : List (Str × Addr)) (fp : List Addr), Cc (X.blk s H scope (compEnvC scope cl A X.env) fp) c W0 k → PE (X.blk s H scope (compEnvC scope cl A X.env) fp) e (tE c W0 f)) (hs : ∀ x, foldedSetIterable iter X.env x = pure x := by intro _; rfl) :
    PE X (.ListComp e [⟨tg, iter, ifs, 0⟩] scope pos) (tL c W (lcE it t vs tt f)) := by
  subst hv
  exact pe_imp (pe_lc C.hc C.nd hi ok hg (fun s H A cl fp => ht s H A cl fp C.blk) (fun s H A cl fp => he s H A cl fp C.blk) hs) fun σ H Q h => t_lc h
end

/-! ### what is walked -/
def itD (o : Ex) : DS.Itr := fun s => (o s).bind fun d s1 => match d with
  | .lst xs => .ok xs s1
  | .scr xs => .ok xs s1
  | _ => .bad
def itT (o : Ex) : DS.Itr := fun s => (o s).bind fun d s1 => match d with
  | .tup xs => .ok xs s1
  | _ => .bad
/-- lo, lo + 1, .. -/
def upTo (lo : Int) (n : Nat) : List D := (List.range n).map fun i => .int (lo + (i : Nat))
def itR1 (a : Ex) : DS.Itr := fun s => (a s).bind fun d s1 => match d with
  | .int j => if decide (-(2 ^ 62) ≤ j) && decide (j < 2 ^ 62) then .ok (upTo 0 j.toNat) s1 else .bad
  | _ => .bad
def itR2 (a b : Ex) : DS.Itr := fun s => (a s).bind fun x s1 => (b s1).bind fun y s2 => match x, y with
  | .int i, .int j => if decide (-(2 ^ 62) ≤ i) && decide (i < 2 ^ 62) && decide (-(2 ^ 62) ≤ j) && decide (j < 2 ^ 62) then .ok (upTo i (j - i).toNat) s2 else .bad
  | _, _ => .bad
def enumL : Nat → List D → List D
  | _, [] => []
  | n, d :: ds => .tup [.int n, d] :: enumL (n + 1) ds
def itE (o : Ex) : DS.Itr := fun s => (o s).bind fun d s1 => match d with
  | .lst xs => .ok (enumL 0 xs) s1
  | .scr xs => .ok (enumL 0 xs) s1
  | _ => .bad
def zipL : List D → List D → List D
  | d :: ds, e :: es => .tup [d, e] :: zipL ds es
  | _, _ => []
def itZ (a b : Ex) : DS.Itr := fun s => (a s).bind fun x s1 => (b s1).bind fun y s2 => match x, y with
  | .lst xs, .lst ys => .ok (zipL xs ys) s2
  | .scr xs, .lst ys => .ok (zipL xs ys) s2
  | .tup xs, .tup ys => .ok (zipL xs ys) s2
  | _, _ => .bad
section
variable {c : Cn} {g : Gr} {M M' : Am} {ρ ρ' : List Addr} {H H' : Hp} {K : PySem.W.Frag}
theorem RD.sqt {xs : List D} {v : V} (h : RD c M ρ H (.tup xs) v) : ∃ a vs, v = .ref a ∧ RDs c M ρ H xs vs ∧ ∀ (g : Gr) (M1 : Am) (ρ1 : List Addr) (H1 : Hp), Keep g M ρ H M1 ρ1 H1 → SqT c.K H1 a vs := by
  cases h with
  | tupH h m r => exact ⟨_, _, rfl, r, fun g M1 ρ1 H1 k => .inl (rd_keep k m h).1⟩
  | tupK h r => exact ⟨_, _, rfl, r, fun g M1 ρ1 H1 k => .inr h⟩
theorem RD.sql {d : D} {xs : List D} {v : V} (h : RD c M ρ H d v) (e : d = .lst xs ∨ d = .scr xs) : ∃ a vs, v = .ref a ∧ RDs c M ρ H xs vs ∧ ∀ (g : Gr) (M1 : Am) (ρ1 : List Addr) (H1 : Hp), Keep g M ρ H M1 ρ1 H1 → SqL c.K H1 a vs := by
  rcases e with rfl | rfl
  · cases h with
    | lst h m r => exact ⟨_, _, rfl, r, fun g M1 ρ1 H1 k => .inl (.inl (k.st _ _ h m).1)⟩
  · cases h with
    | scr h m r => exact ⟨_, _, rfl, r, fun g M1 ρ1 H1 k => .inl (.inr ⟨_, (k.st _ _ h m).1⟩)⟩
    | scrK h r => exact ⟨_, _, rfl, r, fun g M1 ρ1 H1 k => .inr h⟩
theorem walk_l {a : Addr} {xs : List D} {vs : List V} (r : RDs c M ρ H xs vs) (h : ∀ (g : Gr) (M1 : Am) (ρ1 : List Addr) (H1 : Hp), Keep g M ρ H M1 ρ1 H1 → SqL K H1 a vs) : Walk c M ρ H (Itl K a) xs := by
  intro g M1 ρ1 H1 k dm
  have h1 := h g M1 ρ1 H1 k
  refine ⟨⟨vs, h1, by rw [r.length]; exact Nat.le_refl _⟩, fun i d e => ?_⟩
  obtain ⟨v, hv, hd⟩ := (r.keep k).get e
  exact ⟨⟨vs, v, h1, hv⟩, fun x H2 ⟨e2, y⟩ => by
    subst e2
    have := y vs h1
    rw [hv] at this
    cases this
    exact ⟨Ext.refl _, hd⟩⟩
theorem walk_t {a : Addr} {xs : List D} {vs : List V} (r : RDs c M ρ H xs vs) (h : ∀ (g : Gr) (M1 : Am) (ρ1 : List Addr) (H1 : Hp), Keep g M ρ H M1 ρ1 H1 → SqT K H1 a vs) : Walk c M ρ H (Itt K a) xs := by
  intro g M1 ρ1 H1 k dm
  have h1 := h g M1 ρ1 H1 k
  refine ⟨⟨vs, h1, by rw [r.length]; exact Nat.le_refl _⟩, fun i d e => ?_⟩
  obtain ⟨v, hv, hd⟩ := (r.keep k).get e
  exact ⟨⟨vs, v, h1, hv⟩, fun x H2 ⟨e2, y⟩ => by
    subst e2
    have := y vs h1
    rw [hv] at this
    cases this
    exact ⟨Ext.refl _, hd⟩⟩
theorem walk_r {lo : Int} {n : Nat} : Walk c M ρ H (L2.Itr lo n) (upTo lo n) := by
  intro g M1 ρ1 H1 k dm
  refine ⟨by show n ≤ (upTo lo n).length; simp [upTo], fun i d e => ?_⟩
  unfold upTo at e
  rw [List.getElem?_map] at e
  obtain ⟨j, hj, rfl⟩ := Option.map_eq_some_iff.mp e
  have hi : i < n := by
    have := (List.getElem?_eq_some_iff.mp hj).1
    simpa using this
  rw [List.getElem?_range hi] at hj
  cases hj
  exact ⟨hi, fun x H2 ⟨e2, ex⟩ => by
    subst e2 ex
    exact ⟨Ext.refl _, .int _⟩⟩
theorem enumL_len : ∀ (n : Nat) (xs : List D), (enumL n xs).length = xs.length
  | _, [] => rfl
  | n, _ :: xs => congrArg (· + 1) (enumL_len (n + 1) xs)
theorem enumL_get : ∀ {n : Nat} {xs : List D} {i : Nat} {d : D}, (enumL n xs)[i]? = some d → ∃ x, xs[i]? = some x ∧ d = .tup [.int ((n + i : Nat) : Int), x]
  | _, [], _, _, e => by simp [enumL] at e
  | n, x :: xs, 0, d, e => by
    simp [enumL] at e
    exact ⟨x, rfl, e.symm⟩
  | n, x :: xs, i + 1, d, e => by
    obtain ⟨y, h1, h2⟩ := enumL_get (n := n + 1) (xs := xs) (i := i) (d := d) (by simpa [enumL] using e)
    exact ⟨y, by simpa using h1, by rw [h2, show n + 1 + i = n + (i + 1) by omega]⟩
theorem walk_e {a : Addr} {xs : List D} {vs : List V} (r : RDs c M ρ H xs vs) (h : ∀ (g : Gr) (M1 : Am) (ρ1 : List Addr) (H1 : Hp), Keep g M ρ H M1 ρ1 H1 → SqL K H1 a vs) : Walk c M ρ H (Ite K a) (enumL 0 xs) := by
  intro g M1 ρ1 H1 k dm
  have h1 := h g M1 ρ1 H1 k
  refine ⟨⟨vs, h1, by rw [enumL_len, r.length]; exact Nat.le_refl _⟩, fun i d e => ?_⟩
  obtain ⟨x0, e0, rfl⟩ := enumL_get e
  obtain ⟨v, hv, hd⟩ := (r.keep k).get e0
  refine ⟨⟨vs, v, h1, hv⟩, fun x H2 ⟨T, x1, ex, hT, e2, y⟩ => ?_⟩
  subst ex e2
  have := y vs h1
  rw [hv] at this
  cases this
  refine ⟨Ext.new hT, ?_⟩
  rw [Nat.zero_add]
  exact RD.newT (H' := H1) dm hT (.cons (.int _) (.cons hd .nil))
theorem zipL_len : ∀ (xs ys : List D), (zipL xs ys).length = min xs.length ys.length
  | [], _ => by simp [zipL]
  | _ :: _, [] => by simp [zipL]
  | _ :: xs, _ :: ys => by simp [zipL, zipL_len xs ys]
theorem zipL_get : ∀ {xs ys : List D} {i : Nat} {d : D}, (zipL xs ys)[i]? = some d → ∃ x y, xs[i]? = some x ∧ ys[i]? = some y ∧ d = .tup [x, y]
  | [], _, _, _, e => by simp [zipL] at e
  | _ :: _, [], _, _, e => by simp [zipL] at e
  | x :: xs, y :: ys, 0, d, e => by
    simp [zipL] at e
    exact ⟨x, y, rfl, rfl, e.symm⟩
  | x :: xs, y :: ys, i + 1, d, e => by
    obtain ⟨u, v, h1, h2, h3⟩ := zipL_get (xs := xs) (ys := ys) (i := i) (d := d) (by simpa [zipL] using e)
    exact ⟨u, v, by simpa using h1, by simpa using h2, h3⟩
theorem walk_z {a b : Addr} {xs ys : List D} {vs us : List V} (r : RDs c M ρ H xs vs) (r' : RDs c M ρ H ys us) (h : ∀ (g : Gr) (M1 : Am) (ρ1 : List Addr) (H1 : Hp), Keep g M ρ H M1 ρ1 H1 → SqL K H1 a vs)
    (h' : ∀ (g : Gr) (M1 : Am) (ρ1 : List Addr) (H1 : Hp), Keep g M ρ H M1 ρ1 H1 → SqL K H1 b us) : Walk c M ρ H (Itz K a b) (zipL xs ys) := by
  intro g M1 ρ1 H1 k dm
  have h1 := h g M1 ρ1 H1 k
  have h2 := h' g M1 ρ1 H1 k
  refine ⟨⟨vs, us, h1, h2, by rw [zipL_len, r.length, r'.length]; omega⟩, fun i d e => ?_⟩
  obtain ⟨x0, y0, e0, e1, rfl⟩ := zipL_get e
  obtain ⟨v, hv, hd⟩ := (r.keep k).get e0
  obtain ⟨u, hu, hd'⟩ := (r'.keep k).get e1
  refine ⟨⟨vs, us, v, u, h1, h2, hv, hu⟩, fun x H2 ⟨T, x1, y1, ex, hT, e2, p, q⟩ => ?_⟩
  subst ex e2
  have p := p vs h1
  have q := q us h2
  rw [hv] at p
  rw [hu] at q
  cases p
  cases q
  exact ⟨Ext.new hT, RD.newT (H' := H1) dm hT (.cons hd (.cons hd' .nil))⟩
theorem walk_zT {a b : Addr} {xs ys : List D} {vs us : List V} (r : RDs c M ρ H xs vs) (r' : RDs c M ρ H ys us) (h : ∀ (g : Gr) (M1 : Am) (ρ1 : List Addr) (H1 : Hp), Keep g M ρ H M1 ρ1 H1 → SqT K H1 a vs)
    (h' : ∀ (g : Gr) (M1 : Am) (ρ1 : List Addr) (H1 : Hp), Keep g M ρ H M1 ρ1 H1 → SqT K H1 b us) : Walk c M ρ H (RZ.ItzT K a b) (zipL xs ys) := by
  intro g M1 ρ1 H1 k dm
  have h1 := h g M1 ρ1 H1 k
  have h2 := h' g M1 ρ1 H1 k
  refine ⟨⟨vs, us, h1, h2, by rw [zipL_len, r.length, r'.length]; omega⟩, fun i d e => ?_⟩
  obtain ⟨x0, y0, e0, e1, rfl⟩ := zipL_get e
  obtain ⟨v, hv, hd⟩ := (r.keep k).get e0
  obtain ⟨u, hu, hd'⟩ := (r'.keep k).get e1
  refine ⟨⟨vs, us, v, u, h1, h2, hv, hu⟩, fun x H2 ⟨T, x1, y1, ex, hT, e2, p, q⟩ => ?_⟩
  subst ex e2
  have p := p vs h1
  have q := q us h2
  rw [hv] at p
  rw [hu] at q
  cases p
  cases q
  exact ⟨Ext.new hT, RD.newT (H' := H1) dm hT (.cons hd (.cons hd' .nil))⟩
end
section
variable {X : Cx} {c : Cn} {g : Gr} {W : WX} {k : Nat} {a b : Ex} {e e2 tg : Expr} {p pos tpos : Pos} {elts : List Expr} {kk : Nat}
theorem OutI.keep {M M1 : Am} {ρ ρ1 : List Addr} {σ : L2.St} {H H1 : Hp} {Q : It → Hp → Prop} (k : Keep g M ρ H M1 ρ1 H1) {r : R (List DS.D)} (h : OutI c g W M ρ σ H r Q) : OutI c g W M1 ρ1 σ H1 r Q := by
  cases r with
  | ok d s' => exact fun M' ρ' J H' a b => h M' ρ' J H' a (k.trans b)
  | exc x s' => exact fun M' ρ' H' cls dd a b e => h M' ρ' H' cls dd a (k.trans b) e
  | bad => exact h
theorem i_lst (C : Cc X c W k) (h : PE X e (tE c W a)) : PI X tg e (tI c W (itD a)) := pi_imp (pi_list h) fun σ H Rk h => by
  obtain ⟨g, M, ρ, s, rel, h⟩ := h
  refine tE.bind (out := fun M ρ H r => OutI c g W M ρ σ H r Rk) rel (fun _ _ z => z) (fun z => z) h fun d s1 M1 ρ1 v H1 r1 k1 hd h1 => ?_
  have he : ∃ xs, (d = .lst xs ∨ d = .scr xs) := by
    cases d with
    | lst xs => exact ⟨xs, .inl rfl⟩
    | scr xs => exact ⟨xs, .inr rfl⟩
    | _ => exact h1.elim
  obtain ⟨xs, he⟩ := he
  obtain ⟨ad, vs, rfl, h2, h3⟩ := hd.sql he
  rw [C.hK]
  refine ⟨ad, rfl, ⟨vs, h3 g M1 ρ1 H1 (Keep.refl _ _ _ _)⟩, ?_⟩
  rcases he with rfl | rfl
  · exact h1 M1 ρ1 _ H1 r1 k1 (walk_l h2 h3)
  · exact h1 M1 ρ1 _ H1 r1 k1 (walk_l h2 h3)
theorem i_tup (C : Cc X c W k) (h : PE X e (tE c W a)) : PI X tg e (tI c W (itT a)) := pi_imp (pi_tup h) fun σ H Rk h => by
  obtain ⟨g, M, ρ, s, rel, h⟩ := h
  refine tE.bind (out := fun M ρ H r => OutI c g W M ρ σ H r Rk) rel (fun _ _ z => z) (fun z => z) h fun d s1 M1 ρ1 v H1 r1 k1 hd h1 => ?_
  have he : ∃ xs, d = .tup xs := by
    cases d with
    | tup xs => exact ⟨xs, rfl⟩
    | _ => exact h1.elim
  obtain ⟨xs, rfl⟩ := he
  obtain ⟨ad, vs, rfl, h2, h3⟩ := hd.sqt
  rw [C.hK]
  exact ⟨ad, rfl, ⟨vs, h3 g M1 ρ1 H1 (Keep.refl _ _ _ _)⟩, h1 M1 ρ1 _ H1 r1 k1 (walk_t h2 h3)⟩
theorem i_r1 (C : Cc X c W k) (hm : c.mg "range" = none) (h : PE X e (tE c W a)) (hg : Gl X "range" := by rfl) (hs : starEach [e] X.env = [(false, eval e X.env)] := by rfl) : PI X tg (.Call (.Name "range" p) [e] [] pos) (tI c W (itR1 a)) :=
  pi_imp (pi_range1 hg (by rw [C.hm]; exact hm) (pa_cons h pa_nil hs) hs) fun σ H Rk h => by
  obtain ⟨g, M, ρ, s, rel, h⟩ := h
  refine tE.bind (out := fun M ρ H r => OutI c g W M ρ σ H r Rk) rel (fun _ _ z => z) (fun z => z) h fun d s1 M1 ρ1 v H1 r1 k1 hd h1 => ?_
  have he : ∃ i, d = .int i := by
    cases d with
    | int i => exact ⟨i, rfl⟩
    | _ => exact h1.elim
  obtain ⟨j, rfl⟩ := he
  cases hd
  simp only at h1
  split at h1
  · rename_i hb
    simp only [Bool.and_eq_true, decide_eq_true_eq] at hb
    exact ⟨j, rfl, hb.1, hb.2, h1 M1 ρ1 _ H1 r1 k1 walk_r⟩
  · exact h1.elim
theorem i_r2 (C : Cc X c W k) (hm : c.mg "range" = none) (h : PE X e (tE c W a)) (h' : PE X e2 (tE c W b)) (hg : Gl X "range" := by rfl) (hs : starEach [e, e2] X.env = [(false, eval e X.env), (false, eval e2 X.env)] := by rfl)
    (hs2 : starEach [e2] X.env = [(false, eval e2 X.env)] := by rfl) : PI X tg (.Call (.Name "range" p) [e, e2] [] pos) (tI c W (itR2 a b)) :=
  pi_imp (pi_range2 hg (by rw [C.hm]; exact hm) (pa_cons h (pa_cons h' pa_nil hs2) (by rw [hs, hs2])) hs hs2) fun σ H Rk h => by
  obtain ⟨g, M, ρ, s, rel, h⟩ := h
  refine tE.bind (out := fun M ρ H r => OutI c g W M ρ σ H r Rk) rel (fun _ _ z => z) (fun z => z) h fun d s1 M1 ρ1 v H1 r1 k1 hd h1 => ?_
  refine tE.bind (out := fun M ρ H r => OutI c g W M ρ σ H r Rk) r1 (fun _ _ z => z) (fun z => z) (OutI.keep k1 h1) fun d' s2 M2 ρ2 v' H2 r2 k2 hd' h2 => ?_
  have he : ∃ i j, d = .int i ∧ d' = .int j := by
    cases d <;> first | exact h2.elim | skip
    cases d' <;> first | exact h2.elim | skip
    exact ⟨_, _, rfl, rfl⟩
  obtain ⟨i, j, rfl, rfl⟩ := he
  cases hd
  cases hd'
  simp only at h2
  split at h2
  · rename_i hb
    simp only [Bool.and_eq_true, decide_eq_true_eq] at hb
    exact ⟨i, j, rfl, ⟨hb.1.1.1, hb.1.1.2, hb.1.2, hb.2⟩, h2 M2 ρ2 _ H2 r2 k2 walk_r⟩
  · exact h2.elim
theorem i_enum (C : Cc X c W k) (hm : c.mg "enumerate" = none) (h : PE X e (tE c W a)) (hg : Gl X "enumerate" := by rfl) (hs : starEach [e] X.env = [(false, eval e X.env)] := by rfl) : PI X (.Tuple elts kk tpos) (.Call (.Name "enumerate" p) [e] [] pos) (tI c W (itE a)) :=
  pi_imp (pi_enum hg (by rw [C.hm]; exact hm) (pa_cons h pa_nil hs) hs) fun σ H Rk h => by
  obtain ⟨g, M, ρ, s, rel, h⟩ := h
  refine tE.bind (out := fun M ρ H r => OutI c g W M ρ σ H r Rk) rel (fun _ _ z => z) (fun z => z) h fun d s1 M1 ρ1 v H1 r1 k1 hd h1 => ?_
  have he : ∃ xs, (d = .lst xs ∨ d = .scr xs) := by
    cases d with
    | lst xs => exact ⟨xs, .inl rfl⟩
    | scr xs => exact ⟨xs, .inr rfl⟩
    | _ => exact h1.elim
  obtain ⟨xs, he⟩ := he
  obtain ⟨ad, vs, rfl, h2, h3⟩ := hd.sql he
  rw [C.hK]
  refine ⟨ad, vs, rfl, h3 g M1 ρ1 H1 (Keep.refl _ _ _ _), ?_⟩
  rcases he with rfl | rfl
  · exact h1 M1 ρ1 _ H1 r1 k1 (walk_e h2 h3)
  · exact h1 M1 ρ1 _ H1 r1 k1 (walk_e h2 h3)
theorem i_zip (C : Cc X c W k) (hm : c.mg "zip" = none) (h : PE X e (tE c W a)) (h' : PE X e2 (tE c W b)) (hg : Gl X "zip" := by rfl) (hs : starEach [e, e2] X.env = (false, eval e X.env) :: starEach [e2] X.env := by rfl)
    (hs2 : starEach [e2] X.env = (false, eval e2 X.env) :: starEach [] X.env := by rfl) (hpl : (backTo pos (starEach [e2] X.env)).any (·.1) = false := by rfl) : PI X (.Tuple elts kk tpos) (.Call (.Name "zip" p) [e, e2] [] pos) (tI c W (itZ a b)) :=
  pi_imp (RZ.pi_zipA hg (by rw [C.hm]; exact hm) (pa_cons h (pa_cons h' pa_nil hs2) hs) hs hpl) fun σ H Rk h => by
  obtain ⟨g, M, ρ, s, rel, h⟩ := h
  refine tE.bind (out := fun M ρ H r => OutI c g W M ρ σ H r Rk) rel (fun _ _ z => z) (fun z => z) h fun d s1 M1 ρ1 v H1 r1 k1 hd h1 => ?_
  refine tE.bind (out := fun M ρ H r => OutI c g W M ρ σ H r Rk) r1 (fun _ _ z => z) (fun z => z) (OutI.keep k1 h1) fun d' s2 M2 ρ2 v' H2 r2 k2 hd' h2 => ?_
  have h2 := OutI.keep k2 h2
  have hd := hd.keep k2
  rw [C.hK]
  have he : (∃ xs ys, (d = .lst xs ∨ d = .scr xs) ∧ d' = .lst ys ∧ OutI c g W M2 ρ2 σ H2 (.ok (zipL xs ys) s2) Rk) ∨ ∃ xs ys, d = .tup xs ∧ d' = .tup ys ∧ OutI c g W M2 ρ2 σ H2 (.ok (zipL xs ys) s2) Rk := by
    cases d <;> cases d' <;> first | exact h2.elim | skip
    · exact .inr ⟨_, _, rfl, rfl, h2⟩
    · exact .inl ⟨_, _, .inl rfl, rfl, h2⟩
    · exact .inl ⟨_, _, .inr rfl, rfl, h2⟩
  rcases he with ⟨xs, ys, e1, rfl, h3⟩ | ⟨xs, ys, rfl, rfl, h3⟩
  · obtain ⟨ad, vs, rfl, h4, h5⟩ := hd.sql e1
    obtain ⟨ad', us, rfl, h6, h7⟩ := hd'.sql (.inl rfl)
    exact ⟨ad, ad', vs, us, rfl, .inl ⟨h5 g M2 ρ2 H2 (Keep.refl _ _ _ _), h7 g M2 ρ2 H2 (Keep.refl _ _ _ _), h3 M2 ρ2 _ H2 r2 (Keep.refl _ _ _ _) (walk_z h4 h6 h5 h7)⟩⟩
  · obtain ⟨ad, vs, rfl, h4, h5⟩ := hd.sqt
    obtain ⟨ad', us, rfl, h6, h7⟩ := hd'.sqt
    exact ⟨ad, ad', vs, us, rfl, .inr ⟨h5 g M2 ρ2 H2 (Keep.refl _ _ _ _), h7 g M2 ρ2 H2 (Keep.refl _ _ _ _), h3 M2 ρ2 _ H2 r2 (Keep.refl _ _ _ _) (walk_zT h4 h6 h5 h7)⟩⟩
end
end DS
/-! DS10: isinstance, min, max, sorted, or of lists, parallel stores. -/
namespace DS
open PySem PySem.Spec PyProof.Rows L2

/-! ### isinstance -/
inductive Ty where
  | non | bl | int | str | tup | lst | dct
  deriving DecidableEq
def Ty.name : Ty → String
  | .non => "NoneType" | .bl => "bool" | .int => "int" | .str => "str" | .tup => "tuple" | .lst => "list" | .dct => "dict"
def Ty.sub (a b : Ty) : Bool := decide (a = b) || (decide (a = .bl) && decide (b = .int))
def tyD : D → Option Ty
  | .non => some .non
  | .bl _ => some .bl
  | .int _ => some .int
  | .str _ => some .str
  | .tup _ => some .tup
  | .lst _ => some .lst
  | .scr _ => some .lst
  | .dct _ _ _ => some .dct
  | _ => none
def isiD (ts : List Ty) (d : D) : Option D := (tyD d).map fun a => .bl (ts.any a.sub)
theorem kit_sub (K : PySem.W.Frag) (a b : Ty) (h : b ≠ .non) : PySem.W.kitOne K (.type a.name) (.type b.name) = some (a.sub b) := by
  cases b <;> first | exact absurd rfl h | (cases a <;> exact kit_ty (by decide +kernel))
section
variable {c : Cn} {M : Am} {ρ : List Addr} {H : Hp} {v : V}
theorem RW.ty {d : D} {a : Ty} (h : RW c M ρ H d v) (e : tyD d = some a) : TyX c.K H v (.type a.name) := by
  cases d <;> first | cases e | skip
  · rw [h.non]; exact .base .non
  · rw [h.bl]; exact .base (.bl _)
  · rw [h.int]; exact .base (.int _)
  · rw [h.str]; exact .base (.str _)
  · cases h.rdt with
    | tupH q m r =>
      rcases q with q | ⟨o, q⟩
      · exact .base (.tup q)
      · exact .fTuple q
    | tupK q r =>
      obtain ⟨o, its, n, h1, h2, _⟩ := q
      exact .kTuple h1 h2
  · obtain ⟨p, vs, rfl, h1, _⟩ := h.lst
    exact .base (.lst h1)
  · cases h with
    | v h _ =>
      cases h with
      | scr h m r => exact .base (.frz h)
      | scrK h r =>
        obtain ⟨o, its, n, h1, h2, _⟩ := h
        exact .kList h1 h2
  · obtain ⟨p, rfl, h1⟩ := h.dct
    rename_i k ks vs
    cases k with
    | false =>
      obtain ⟨kvs, h1, _⟩ := h1
      exact .base (.dK h1)
    | true =>
      obtain ⟨kvs, h1, _⟩ := h1
      exact .base (.dT h1)
end
theorem kit_any (K : PySem.W.Frag) (a : Ty) : ∀ ts : List Ty, (∀ t ∈ ts, t ≠ .non) → PySem.W.kitAny K (.type a.name) (ts.map fun t => .type t.name) = some (ts.any a.sub)
  | [], _ => rfl
  | t :: ts, h => by
    refine kitAny_cons (b := a.sub t) (r := (t :: ts).any a.sub) (kit_sub K a t (h t List.mem_cons_self)) (fun e => ?_) (fun e => by simp [e])
    rw [List.any_cons, e, Bool.false_or]
    exact kit_any K a ts fun u hu => h u (List.mem_cons_of_mem _ hu)
/-- names of types -/
def TyArgs (X : Cx) (es : List Expr) (ts : List Ty) : Prop := ∃ t, PA X es t ∧ ∀ σ H Q, Q (ts.map fun t => V.ty t.name) H → t σ H Q
section
variable {X : Cx} {c : Cn} {g : Gr} {W : WX} {k : Nat} {a : Expr} {o : Op} {p p2 pos : Pos} {ts : List Ty} {t : Ty} {x : Str} {es : List Expr}
theorem ty_nil : TyArgs X [] [] := ⟨_, pa_nil, fun _ _ _ h => h⟩
theorem ty_cons (hm : X.mg x = none) (hr : TyArgs X es ts) (hv : bootBuiltins x = some (.type t.name) := by first | rfl | decide +kernel) (hg : Gl X x := by rfl) (hn : x ≠ "__name__" := by decide) (hd : (x == ("__debug__" : Str)) = false := by decide)
    (hs : starEach (.Name x p :: es) X.env = (false, eval (.Name x p) X.env) :: starEach es X.env := by rfl) : TyArgs X (.Name x p :: es) (t :: ts) := by
  obtain ⟨tr, h1, h2⟩ := hr
  exact ⟨_, pa_cons (pe_bltn (v := .ty t.name) hg hm hv rfl hn hd) h1 hs, fun σ H Q h => h2 σ H _ h⟩
theorem e_isi (C : Cc X c W k) (ha : PE X a (tO c W o)) {e : Expr} (ht : TyArgs X [e] [t]) (hm : c.mg "isinstance" = none) (hb : t ≠ .non := by decide) (hg : Gl X "isinstance" := by rfl)
    (hs : starEach [a, e] X.env = (false, eval a X.env) :: starEach [e] X.env := by rfl) (hpl : (backTo pos (starEach [e] X.env)).any (·.1) = false := by rfl) :
    PE X (.Call (.Name "isinstance" p) [a, e] [] pos) (tE c W (op1 (isiD [t]) o)) := by
  obtain ⟨tr, h1, h2⟩ := ht
  refine pe_imp (pe_callB call_isi hg (by rw [C.hm]; exact hm) (by first | rfl | decide +kernel) (pa_cons ha h1 hs) (by decide) (by decide) hs hpl) fun σ H Q h => ?_
  have z := t_op1 (c := c) (r := fun v H Q => rIsi X.K [v, .ty t.name] H Q) (F := isiD [t]) (fun M ρ H x e v Q d hx hF q => by
    obtain ⟨b, hb', rfl⟩ := Option.map_eq_some_iff.mp hF
    exact ⟨v, _, _, _, _, rfl, .ty t.name, C.hK ▸ hx.ty hb', by rw [kit_sub X.K b t hb], by
      have : ([t].any b.sub) = b.sub t := by simp
      rw [← this]
      exact q _ H (Ext.refl H) (.bl _)⟩) h
  obtain ⟨g, M, ρ, s, rel, z⟩ := z
  refine ⟨g, M, ρ, s, rel, ?_⟩
  cases q : o s with
  | bad => rw [q] at z; exact z
  | exc x s' => rw [q] at z; exact z
  | ok tk s' =>
    rw [q] at z
    exact fun M' ρ' v H' r k' t' => h2 σ H' _ (z M' ρ' v H' r k' t')
theorem e_isiT (C : Cc X c W k) (ha : PE X a (tO c W o)) {kk : Nat} {tp : Pos} (ht : TyArgs X es ts) (hm : c.mg "isinstance" = none) (hb : ∀ t ∈ ts, t ≠ .non := by decide) (hl : ts.length ≤ 100 := by decide) (hg : Gl X "isinstance" := by rfl)
    (hs : starEach [a, .Tuple es kk tp] X.env = (false, eval a X.env) :: starEach [.Tuple es kk tp] X.env := by rfl) (hs2 : starEach [.Tuple es kk tp] X.env = (false, eval (.Tuple es kk tp) X.env) :: starEach [] X.env := by rfl) (hpl : (backTo pos (starEach [.Tuple es kk tp] X.env)).any (·.1) = false := by rfl) :
    PE X (.Call (.Name "isinstance" p) [a, .Tuple es kk tp] [] pos) (tE c W (op1 (isiD ts) o)) := by
  obtain ⟨tr, h1, h2⟩ := ht
  refine pe_imp (pe_callB call_isiT hg (by rw [C.hm]; exact hm) (by first | rfl | decide +kernel) (pa_cons ha (pa_cons (pe_tup h1) pa_nil hs2) hs) (by decide) (by decide) hs hpl) fun σ H Q h => ?_
  have z := t_op1 (c := c) (r := fun v H Q => ∀ p, H p = none → rIsiT X.K [v, .ref p] (upd H p (.tup (ts.map fun t => V.ty t.name))) Q) (F := isiD ts) (fun M ρ H x e v Q d hx hF q => by
    obtain ⟨b, hb', rfl⟩ := Option.map_eq_some_iff.mp hF
    intro p hp
    have ty : TyX X.K (upd H p (.tup (ts.map fun t => V.ty t.name))) v (.type b.name) := by
      have hx2 : RW c M ρ (upd H p (.tup (ts.map fun t => V.ty t.name))) x v := by
        cases hx with
        | v h n => exact .v (h.ext (Ext.new hp)) n
        | l h r => exact .l (Ext.new hp _ _ h) (r.ext (Ext.new hp))
        | d h =>
          rename_i k2 ks vs a'
          refine .d ?_
          cases k2 with
          | false =>
            obtain ⟨kvs, g1, g2, g3⟩ := h
            exact ⟨kvs, Ext.new hp _ _ g1, g2, g3.ext (Ext.new hp)⟩
          | true =>
            obtain ⟨kvs, g1, g2, g3⟩ := h
            exact ⟨kvs, Ext.new hp _ _ g1, g2, g3.ext (Ext.new hp)⟩
      exact C.hK ▸ hx2.ty hb'
    have pr : ∀ ts : List Ty, Paired ClsV (ts.map fun t => V.ty t.name) (ts.map fun t => Value.type t.name) := fun ts => by
      induction ts with
      | nil => exact .nil
      | cons t ts ih => exact .cons (.ty t.name) ih
    exact ⟨v, p, _, _, _, _, rfl, upd_same, pr ts, ty, kit_any X.K b ts hb, q _ _ (Ext.new hp) (.bl _)⟩) h
  obtain ⟨g, M, ρ, s, rel, z⟩ := z
  refine ⟨g, M, ρ, s, rel, ?_⟩
  cases q : o s with
  | bad => rw [q] at z; exact z
  | exc x s' => rw [q] at z; exact z
  | ok tk s' =>
    rw [q] at z
    exact fun M' ρ' v H' r k' t' => h2 σ H' _ ⟨by rw [List.length_map]; exact Nat.le_trans hl (by decide), z M' ρ' v H' r k' t'⟩
end

/-! ### min, max of two -/
def minD : D → D → Option D
  | .int i, .int j => some (.int (if j < i then j else i))
  | _, _ => none
def maxD : D → D → Option D
  | .int i, .int j => some (.int (if j > i then j else i))
  | _, _ => none
section
variable {X : Cx} {c : Cn} {g : Gr} {W : WX} {k : Nat} {a b : Expr} {o1 o2 : Op} {p pos : Pos}
theorem e_min2 (C : Cc X c W k) (ha : PE X a (tO c W o1)) (hb : PE X b (tO c W o2)) (hm : c.mg "min" = none) (hg : Gl X "min" := by rfl) (hs : starEach [a, b] X.env = (false, eval a X.env) :: starEach [b] X.env := by rfl) (hs2 : starEach [b] X.env = (false, eval b X.env) :: starEach [] X.env := by rfl)
    (hpl : (backTo pos (starEach [b] X.env)).any (·.1) = false := by rfl) : PE X (.Call (.Name "min" p) [a, b] [] pos) (tE c W (op2 minD o1 o2)) :=
  pe_imp (pe_callB (call_min2 C.hc) hg (by rw [C.hm]; exact hm) (by first | rfl | decide +kernel) (pa_cons ha (pa_cons hb pa_nil hs2) hs) (by decide) (by decide) hs hpl) fun σ H Q h => t_op2 (r := fun x y H Q => ∃ i j, [x, y] = [.int i, .int j] ∧ Q (.int (if j < i then j else i)) H) (fun M ρ H x y e v u Q d hx hy hF q => by
    unfold minD at hF
    split at hF
    · cases hF
      exact ⟨_, _, by rw [hx.int, hy.int], q _ H (Ext.refl H) (.int _)⟩
    · cases hF) h
theorem e_max2 (C : Cc X c W k) (ha : PE X a (tO c W o1)) (hb : PE X b (tO c W o2)) (hm : c.mg "max" = none) (hg : Gl X "max" := by rfl) (hs : starEach [a, b] X.env = (false, eval a X.env) :: starEach [b] X.env := by rfl) (hs2 : starEach [b] X.env = (false, eval b X.env) :: starEach [] X.env := by rfl)
    (hpl : (backTo pos (starEach [b] X.env)).any (·.1) = false := by rfl) : PE X (.Call (.Name "max" p) [a, b] [] pos) (tE c W (op2 maxD o1 o2)) :=
  pe_imp (pe_callB (call_max2 C.hc) hg (by rw [C.hm]; exact hm) (by first | rfl | decide +kernel) (pa_cons ha (pa_cons hb pa_nil hs2) hs) (by decide) (by decide) hs hpl) fun σ H Q h => t_op2 (r := fun x y H Q => ∃ i j, [x, y] = [.int i, .int j] ∧ Q (.int (if j > i then j else i)) H) (fun M ρ H x y e v u Q d hx hy hF q => by
    unfold maxD at hF
    split at hF
    · cases hF
      exact ⟨_, _, by rw [hx.int, hy.int], q _ H (Ext.refl H) (.int _)⟩
    · cases hF) h
end

/-! ### sorted, ints -/
def sortI (ns : List Int) : List Int := ns.mergeSort fun a b => decide (a ≤ b)
theorem sortI_of {ns ns' : List Int} (h1 : ns'.Perm ns) (h2 : ns'.Pairwise (· ≤ ·)) : ns' = sortI ns := by
  refine List.Perm.eq_of_pairwise (le := fun a b => a ≤ b) (fun a b _ _ h h' => Int.le_antisymm h h') h2 ?_ (h1.trans (List.mergeSort_perm ns _).symm)
  have := List.pairwise_mergeSort (le := fun a b : Int => decide (a ≤ b)) (fun a b c h1 h2 => by simp at *; omega) (fun a b => by simp; omega) ns
  exact this.imp fun h => by simpa using h
def sortedL : D → Option (List D)
  | .lst xs => (toInts xs).map fun ns => (sortI ns).map .int
  | .scr xs => (toInts xs).map fun ns => (sortI ns).map .int
  | .tup xs => (toInts xs).map fun ns => (sortI ns).map .int
  | _ => none
section
open PySem.W
variable {prog : Program} {w : World} {A : Around} {E : Value → Shared → Prop} {s : Shared}
theorem collect_tup {t : Addr} {us : List Value} {R : List Value → Shared → Prop} (ht : s.heap.IsTuple t us.toArray)
    (hR : R us { s with heap := (s.heap.push (seqObj "list" #[] 0)).update s.heap.objs.size (Obj.mapSeq (· ++ us.toArray)) }) (hz : us.length ≤ sizeLine) :
    wpAny (model prog w) A (collect (.ref t)) R E s := by
  obtain ⟨ob, e1, e2, m, e3⟩ := id ht
  unfold collect
  refine wpAny_bind (wpAny_runValue (codeAny_builtin entry_proto_collect' ?_)); show wpAny _ _ (do again (.builtin "list.__iadd__" ⟨[← newList [], .ref t], []⟩)) _ _ s
  refine wpAny_bind (wpAny_newList (wpAny_pure ⟨Code.quiet_builtin _ (by decide +kernel), codeAny_builtin entry_list_iadd' ?_⟩)); show wpAny _ _ (Builtin.List.listExtendWith (.ref s.heap.objs.size) (.ref t) (.ref s.heap.objs.size)) _ _ { s with heap := s.heap.push (seqObj "list" #[] 0) }
  unfold Builtin.List.listExtendWith
  have e4 : (s.heap.push (seqObj "list" #[] 0)).get? t = some ob := Heap.get?_push_of_some _ e1
  have e5 : (Value.type "tuple" == Value.type "tuple") = true := by rfl
  refine wpAny_bind (wpAny_typeOf (T := "tuple") ⟨ob, e4, e2⟩ ?_); rw [if_pos (by rw [e5]; simp)]
  refine wpAny_bind (listItems_at e4 e3 (wpAny_bind (listItems_at (xs := #[]) (n := 0) (Heap.get?_push_size _ rfl) rfl ?_))); rw [if_neg (by simp)]
  refine wpAny_bind (listUpdate_at (xs := #[]) (n := 0) (Heap.get?_push_size _ rfl) rfl (wpAny_pure ?_) (Nat.zero_le _) (by show (#[] ++ us.toArray).size ≤ sizeLine + 1; simp only [Array.size_append, List.size_toArray, List.length_nil]; omega))
  refine wpAny_bind (wpAny_load (get?_update_seq (Heap.get?_push_size _ rfl) _) ?_); show wpAny _ _ (pure ((#[] : Array Value) ++ us.toArray).toList) R E _
  rw [show ((#[] : Array Value) ++ us.toArray).toList = us by simp]; exact wpAny_pure hR
theorem sorted_tup {t : Addr} {us : List Value} {lt : Value → Value → Bool} {R : Value → Shared → Prop} (O : SrtO.Swo lt) (ht : s.heap.IsTuple t us.toArray) (hz : us.length ≤ sizeLine)
    (hS : 2 ≤ us.length → ∀ (h₁ : Heap) (a : Addr), h₁.get? a = some (seqObj "list" us.toArray 0) → (∀ b o, s.heap.get? b = some o → b ≠ a ∧ h₁.get? b = some o) → SrtO.SortableO prog w A.in1.in1 { s with heap := h₁ } a us lt)
    (hR : ∀ out : List Value, SrtO.Srtd lt out → SrtO.Stb lt out us → R (.ref (s.heap.objs.size + 1)) { s with heap := sortedAll s.heap us out.toArray }) :
    wpAny (model prog w) A (call (.builtin "sorted") [.ref t]) R E s := by
  refine Calls.call_function_entry kind_sorted plain_sorted entry_sorted (args_sorted1 _) ?_; unfold Builtin.«sorted»
  refine wpAny_bind (m := checkCount "sorted" 1 1 _) (wpAny_pure (wpAny_bind (collect_tup ht (wpAny_bind (wpAny_newList ?_ hz)) hz)))
  have e1 : ((s.heap.push (seqObj "list" #[] 0)).update s.heap.objs.size (Obj.mapSeq (· ++ us.toArray))).objs.size = s.heap.objs.size + 1 := by rw [Heap.size_update, size_push']
  have e2 : (((s.heap.push (seqObj "list" #[] 0)).update s.heap.objs.size (Obj.mapSeq (· ++ us.toArray))).push (seqObj "list" us.toArray 0)).get? (s.heap.objs.size + 1) = some (seqObj "list" us.toArray 0) := by rw [← e1]; exact Heap.get?_push_size _ rfl
  have e3 : ∀ b o, s.heap.get? b = some o → b ≠ s.heap.objs.size + 1 ∧ (((s.heap.push (seqObj "list" #[] 0)).update s.heap.objs.size (Obj.mapSeq (· ++ us.toArray))).push (seqObj "list" us.toArray 0)).get? b = some o := fun b o q => by
    have l : b < s.heap.objs.size := Heap.lt_size q
    exact ⟨Nat.ne_of_lt (Nat.lt_succ_of_lt l), Heap.get?_push_of_some _ (by rw [Heap.get?_update_ne _ _ _ _ (Nat.ne_of_lt l)]; exact Heap.get?_push_of_some _ q)⟩
  show wpAny _ _ _ _ _ { s with heap := ((s.heap.push (seqObj "list" #[] 0)).update s.heap.objs.size (Obj.mapSeq (· ++ us.toArray))).push (seqObj "list" us.toArray 0) }; rw [e1]
  exact wpAny_bind (wpAny_holding (wpAny_call_entry slot_list_sort ⟨_, e2, rfl⟩ entry_list_sort (SrtO.list_sort_ord O e2 hz (fun h2 => hS h2 _ _ e2 e3) fun out h1 h2 => ⟨_, rfl, wpAny_pure ⟨_, rfl, hR out h1 h2⟩⟩) (args_list_sort _)))
end
section
variable {X : Cx} {c : Cn} {g : Gr} {W : WX} {k : Nat} {a b : Expr} {o1 o2 : Op} {p pos : Pos}
/-- .. of a tuple -/
def rSortedTI (K : PySem.W.Frag) : List V → Hp → VK → Prop := fun vs H Q => ∃ (a : Addr) (ns : List Int), vs = [V.ref a] ∧ SqT K H a (ns.map V.int) ∧
  ∀ (ns' : List Int) (p : Addr), ns'.Perm ns → ns'.Pairwise (· ≤ ·) → H p = none → Q (.ref p) (upd H p (.lst (ns'.map V.int)))
theorem cr_sortedTI : CallR X (.builtin "sorted") (rSortedTI X.K) := by
  intro pins s σ H vs us Q I r h
  obtain ⟨a, ns, rfl, hs, q⟩ := h
  obtain ⟨its, rv, hl, hz⟩ := I.tuple hs
  rw [Vals.ref1 r]
  have hi := rv.ints
  refine sorted_tup SrtO.swo_int hl (by rw [← rv.length]; exact hz) (fun h2 h₁ a' _ _ => SrtO.ints_sortable hi h2) fun out h1 h2 => ?_
  obtain ⟨k1, k2, k3⟩ := SrtO.ints_out hi h1 h2
  obtain ⟨ep, he'⟩ := PyProof.Rows.sortedAll_at s.heap its out.toArray
  have hlen : ((out.map SrtO.iv).map V.int).length ≤ sizeLine := by
    rw [List.length_map, k2.length_eq]
    rw [List.length_map] at hz
    exact hz
  exact ⟨.ref _, upd H (s.heap.objs.size + 1) (.lst ((out.map SrtO.iv).map V.int)), I.laid (t' := s.toks) (fun _ _ => PyProof.Rows.sortedAll_old) (Nat.le_succ _) ⟨hlen, out, ep, vals_of_ints k1, he'⟩, rfl, q _ _ k2 k3 (I.hok.fresh (Nat.le_succ _))⟩
theorem rds_ints {M : Am} {ρ : List Addr} {H : Hp} : ∀ ns : List Int, RDs c M ρ H (ns.map .int) (ns.map .int)
  | [] => .nil
  | n :: ns => .cons (.int n) (rds_ints ns)
theorem v_sorted (hK : X.K = c.K) : V1L c (fun v H Q => rSortedI X.K [v] H Q ∨ rSortedTI X.K [v] H Q) sortedL := by
  intro M ρ H x v xs Q d hx hF q
  unfold sortedL at hF
  split at hF
  · obtain ⟨ns, h, rfl⟩ := Option.map_eq_some_iff.mp hF
    obtain ⟨a, vs, e1, h1, h2⟩ := hx.lst
    refine .inl ⟨a, ns, by rw [e1], .inl (.inl (by rw [← h2.ints h]; exact h1)), fun ns' p h3 h4 hp => ?_⟩
    rw [sortI_of h3 h4]
    exact q p _ _ hp (Ext.new hp) upd_same (rds_ints _)
  · obtain ⟨ns, h, rfl⟩ := Option.map_eq_some_iff.mp hF
    obtain ⟨a, vs, e1, h1, h2⟩ := hx.scr
    refine .inl ⟨a, ns, by rw [e1], by rw [← h2.ints h]; exact hK ▸ h1, fun ns' p h3 h4 hp => ?_⟩
    rw [sortI_of h3 h4]
    exact q p _ _ hp (Ext.new hp) upd_same (rds_ints _)
  · obtain ⟨ns, h, rfl⟩ := Option.map_eq_some_iff.mp hF
    obtain ⟨a, vs, e1, h1, h2⟩ := hx.tup
    refine .inr ⟨a, ns, by rw [e1], by rw [← h2.ints h]; exact hK ▸ h1, fun ns' p h3 h4 hp => ?_⟩
    rw [sortI_of h3 h4]
    exact q p _ _ hp (Ext.new hp) upd_same (rds_ints _)
  · cases hF
theorem l_sorted (C : Cc X c W k) (ha : PE X a (tO c W o1)) (hm : c.mg "sorted" = none) (hg : Gl X "sorted" := by rfl) (hs : starEach [a] X.env = (false, eval a X.env) :: starEach [] X.env := by rfl) (hpl : (backTo pos (starEach [] X.env)).any (·.1) = false := by rfl) :
    PE X (.Call (.Name "sorted" p) [a] [] pos) (tL c W (op1L sortedL o1)) := l_B1 (CallR.or cr_sortedI cr_sortedTI) (v_sorted C.hK) hg (by rw [C.hm]; exact hm) (by first | rfl | decide +kernel) ha (by decide) (by decide) hs hs hpl
/-! ### the other built-ins -/
theorem e_len (C : Cc X c W k) (ha : PE X a (tO c W o1)) (hm : c.mg "len" = none) (hg : Gl X "len" := by rfl) (hs : starEach [a] X.env = (false, eval a X.env) :: starEach [] X.env := by rfl) (hpl : (backTo pos (starEach [] X.env)).any (·.1) = false := by rfl) :
    PE X (.Call (.Name "len" p) [a] [] pos) (tE c W (op1 lenD o1)) := e_B1 r_len (v_len C.hK) hg (by rw [C.hm]; exact hm) (by first | rfl | decide +kernel) ha (by decide) (by decide) hs hs hpl
theorem e_abs (C : Cc X c W k) (ha : PE X a (tO c W o1)) (hm : c.mg "abs" = none) (hg : Gl X "abs" := by rfl) (hs : starEach [a] X.env = (false, eval a X.env) :: starEach [] X.env := by rfl) (hpl : (backTo pos (starEach [] X.env)).any (·.1) = false := by rfl) :
    PE X (.Call (.Name "abs" p) [a] [] pos) (tE c W (op1 absD o1)) := e_B1 call_abs v_abs hg (by rw [C.hm]; exact hm) (by first | rfl | decide +kernel) ha (by decide) (by decide) hs hs hpl
theorem e_int1 (C : Cc X c W k) (ha : PE X a (tO c W o1)) (hm : c.mg "int" = none) (hg : Gl X "int" := by rfl) (hs : starEach [a] X.env = (false, eval a X.env) :: starEach [] X.env := by rfl) (hpl : (backTo pos (starEach [] X.env)).any (·.1) = false := by rfl) :
    PE X (.Call (.Name "int" p) [a] [] pos) (tE c W (op1 intD o1)) := e_T1 call_int1 v_int hg (by rw [C.hm]; exact hm) (by first | rfl | decide +kernel) ha (by decide) (by decide) hs hs hpl
theorem e_tuple1 (C : Cc X c W k) (ha : PE X a (tO c W o1)) (hm : c.mg "tuple" = none) (hg : Gl X "tuple" := by rfl) (hs : starEach [a] X.env = (false, eval a X.env) :: starEach [] X.env := by rfl) (hpl : (backTo pos (starEach [] X.env)).any (·.1) = false := by rfl) :
    PE X (.Call (.Name "tuple" p) [a] [] pos) (tE c W (op1 tupleD o1)) := e_T1 call_tuple_of (v_tuple C.hK) hg (by rw [C.hm]; exact hm) (by first | rfl | decide +kernel) ha (by decide) (by decide) hs hs hpl
theorem l_list1 (C : Cc X c W k) (ha : PE X a (tO c W o1)) (hm : c.mg "list" = none) (hg : Gl X "list" := by rfl) (hs : starEach [a] X.env = (false, eval a X.env) :: starEach [] X.env := by rfl) (hpl : (backTo pos (starEach [] X.env)).any (·.1) = false := by rfl) :
    PE X (.Call (.Name "list" p) [a] [] pos) (tL c W (op1L listL o1)) := l_T1 call_list_of (v_list C.hK) hg (by rw [C.hm]; exact hm) (by first | rfl | decide +kernel) ha (by decide) (by decide) hs hs hpl
theorem e_all (C : Cc X c W k) (ha : PE X a (tO c W o1)) (hm : c.mg "all" = none) (hg : Gl X "all" := by rfl) (hs : starEach [a] X.env = (false, eval a X.env) :: starEach [] X.env := by rfl) (hpl : (backTo pos (starEach [] X.env)).any (·.1) = false := by rfl) :
    PE X (.Call (.Name "all" p) [a] [] pos) (tE c W (op1 allD o1)) := e_B1 (cr_all C.hc) v_all hg (by rw [C.hm]; exact hm) (by first | rfl | decide +kernel) ha (by decide) (by decide) hs hs hpl
theorem e_any (C : Cc X c W k) (ha : PE X a (tO c W o1)) (hm : c.mg "any" = none) (hg : Gl X "any" := by rfl) (hs : starEach [a] X.env = (false, eval a X.env) :: starEach [] X.env := by rfl) (hpl : (backTo pos (starEach [] X.env)).any (·.1) = false := by rfl) :
    PE X (.Call (.Name "any" p) [a] [] pos) (tE c W (op1 anyD o1)) := e_B1 (cr_any C.hc) v_any hg (by rw [C.hm]; exact hm) (by first | rfl | decide +kernel) ha (by decide) (by decide) hs hs hpl
theorem e_sum (C : Cc X c W k) (ha : PE X a (tO c W o1)) (hm : c.mg "sum" = none) (hg : Gl X "sum" := by rfl) (hs : starEach [a] X.env = (false, eval a X.env) :: starEach [] X.env := by rfl) (hpl : (backTo pos (starEach [] X.env)).any (·.1) = false := by rfl) :
    PE X (.Call (.Name "sum" p) [a] [] pos) (tE c W (op1 sumD o1)) := e_B1 (cr_sum C.hc) v_sum hg (by rw [C.hm]; exact hm) (by first | rfl | decide +kernel) ha (by decide) (by decide) hs hs hpl
end
end DS
/-! DS11: truth, or of lists, parallel stores, a list that is shared, stores of comprehensions. -/
namespace DS
open PySem PySem.Spec PyProof.Rows L2

/-! ### truth -/
def truD : D → Option Bool
  | .non => some false
  | .bl b => some b
  | .int i => some (i != 0)
  | .str y => if y.length ≤ LIM then some ((y.length : Int) != 0) else none
  | .tup xs => some (!xs.isEmpty)
  | .lst xs => some (!xs.isEmpty)
  | .scr xs => some (!xs.isEmpty)
  | .dct false ks _ => some (!ks.isEmpty)
  | _ => none
section
variable {c : Cn} {M : Am} {ρ : List Addr} {H : Hp} {v : V}
theorem RDs.empty {xs : List D} {vs : List V} (h : RDs c M ρ H xs vs) : vs.isEmpty = xs.isEmpty := by cases h <;> rfl
theorem RW.tru {d : D} {k : Bool} (h : RW c M ρ H d v) (e : truD d = some k) : TruV c.K v H k := by
  unfold truD at e
  split at e
  · cases e; rw [h.non]; rfl
  · cases e; rw [h.bl]; rfl
  · cases e; rw [h.int]; rfl
  · split at e
    · cases e; rw [h.str]; exact ⟨by assumption, rfl⟩
    · cases e
  · cases e
    obtain ⟨a, vs, rfl, h1, h2⟩ := h.tup
    exact .inr (.inl ⟨vs, h1, by rw [h2.empty]⟩)
  · cases e
    obtain ⟨a, vs, rfl, h1, h2⟩ := h.lst
    exact .inl ⟨vs, .inl (.inl h1), by rw [h2.empty]⟩
  · cases e
    obtain ⟨a, vs, rfl, h1, h2⟩ := h.scr
    exact .inl ⟨vs, h1, by rw [h2.empty]⟩
  · cases e
    obtain ⟨a, rfl, kvs, h1, h2, h3⟩ := h.dct
    refine .inr (.inr ⟨kvs, h1, ?_⟩)
    subst h2
    cases kvs <;> rfl
  · cases e
end
/-- an operand's truth -/
def truT (o : Op) : S → R Bool := fun s => (o s).bind fun t s1 => R.of ((deref s1 t).bind truD) s1
/-- x or y, of lists made anew -/
def orL (f k : ExL) : ExL := fun s => (f s).bind fun xs s1 => if xs.isEmpty = true then k s1 else .ok xs s1
section
variable {X : Cx} {c : Cn} {g : Gr} {W : WX} {k : Nat} {a b : Expr} {o : Op} {fl fk : ExL} {rest : List Expr} {pos : Pos}
theorem b_tru (C : Cc X c W k) (h : PE X a (tO c W o)) (he : ∀ whole, isTrue a X.env whole = (do let v ← whole; standAt a.pos; holding [v] (truthy v)) := by intro _; rfl) : PT X a (tT c W (truT o)) := pt_imp (pt_truth h he) fun σ H Q h => by
  obtain ⟨g, M, ρ, s, rel, h⟩ := h
  refine tO.bind (out := fun M ρ H r => OutT c g W M ρ σ H r Q) rel (fun _ _ z => z) (fun z => z) h fun t s1 M1 ρ1 v H1 r1 k1 t1 h1 => ?_
  cases q : (deref s1 t).bind truD with
  | none => rw [q] at h1; exact h1.elim
  | some b =>
    rw [q] at h1
    obtain ⟨x, hx, hF⟩ := Option.bind_eq_some_iff.mp q
    exact ⟨b, C.hK ▸ (RW.of_tok r1 t1 hx).tru hF, h1 M1 ρ1 H1 r1 k1⟩
theorem l_or (C : Cc X c W k) (ha : PE X a (tL c W fl)) (hb : PE X (.BoolOp .Or (b :: rest) pos) (tL c W fk)) : PE X (.BoolOp .Or (a :: b :: rest) pos) (tL c W (orL fl fk)) := pe_imp (pe_orT ha hb) fun σ H Q h => by
  obtain ⟨g, M, ρ, s, rel, h⟩ := h
  refine tL.bind (out := fun M ρ H r => OutL c g W M ρ σ H r Q) rel (fun _ _ z => z) (fun z => z) h fun xs s1 M1 ρ1 ad vs H1 r1 k1 ha hx hf h1 => ?_
  have h1 := OutL.keep k1 h1
  refine ⟨!xs.isEmpty, .inl ⟨vs, .inl (.inl ha), by rw [hx.empty]⟩, ?_⟩
  cases q : xs.isEmpty with
  | true =>
    simp only [q, if_true] at h1
    exact ⟨g, M1, ρ1, s1, r1, h1⟩
  | false =>
    simp only [q, Bool.false_eq_true, if_false] at h1
    exact h1 M1 ρ1 ad vs H1 r1 (Keep.refl _ _ _ _) ha hx hf
end
/-! ### a new list that is shared -/
def shr (f : ExL) : Ex := fun s => (f s).bind fun xs s1 => .ok (.ref s1.hp.length) ⟨s1.env, s1.hp ++ [.lst xs]⟩
section
variable {X : Cx} {c : Cn} {g : Gr} {W : WX} {M : Am} {ρ : List Addr} {H : Hp} {s : S} {σ : L2.St} {e : Expr} {fl : ExL} {Q : VK}
theorem Rel.share {a : Addr} {xs : List D} {vs : List V} (r : Rel c g M ρ s σ H) (ha : H a = some (.lst vs)) (hx : RDs c M ρ H xs vs) (f : Free g M ρ s.env σ a) : Rel c g M (ρ ++ [a]) ⟨s.env, s.hp ++ [.lst xs]⟩ σ H ∧ Keep g M ρ H M (ρ ++ [a]) H := by
  have k : Keep g M ρ H M (ρ ++ [a]) H := ⟨fun b o h m => ⟨h, m⟩, ⟨[a], rfl⟩, fun _ _ => rfl⟩
  obtain ⟨f1, f2, f3, f5, f4⟩ := f
  obtain ⟨l, e, n⟩ := r.gd.gr
  refine ⟨⟨⟨by simp [r.h.hl], fun j ob b h1 h2 => ?_, ?_, fun b hb => ?_, r.h.dom⟩, ⟨r.gd.g1, r.gd.g2, r.gd.g3, r.gd.gd, r.gd.gm, ⟨l ++ [a], by rw [e, List.append_assoc], fun b hb => ?_⟩, fun b hb => ⟨(r.gd.gp b hb).1, fun z => ?_⟩⟩, ⟨r.e.len, fun i d h => ?_, fun i sl h o => ?_, r.e.pro, r.e.sep⟩⟩, k⟩
  · by_cases hj : j < s.hp.length
    · rw [List.getElem?_append_left hj] at h1
      rw [List.getElem?_append_left (by rw [r.h.hl]; exact hj)] at h2
      exact (r.h.ho j ob b h1 h2).keep k rfl
    · have hj2 : j = s.hp.length := by
        have := (List.getElem?_eq_some_iff.mp h1).1
        rw [List.length_append, List.length_singleton] at this
        omega
      subst hj2
      rw [List.getElem?_append_right (Nat.le_refl _)] at h1
      rw [List.getElem?_append_right (by rw [r.h.hl]; exact Nat.le_refl _)] at h2
      simp at h1
      rw [r.h.hl] at h2
      simp at h2
      subst h1 h2
      exact ⟨vs, ha, hx.keep k⟩
  · rw [List.nodup_append]
    refine ⟨r.h.nd, by simp, fun x hx y hy z => ?_⟩
    have : y = a := by simpa using hy
    subst this z
    exact f2 hx
  · rcases List.mem_append.mp hb with hb | hb
    · exact r.h.rm b hb
    · have : b = a := by simpa using hb
      subst this
      exact f1
  · rcases List.mem_append.mp hb with hb | hb
    · exact n b hb
    · have : b = a := by simpa using hb
      subst this
      exact f3
  · rcases List.mem_append.mp z with z | z
    · exact (r.gd.gp b hb).2 z
    · have : b = a := by simpa using z
      subst this
      exact f5 hb
  · obtain ⟨v, h1, h2⟩ := r.e.val i d h
    exact ⟨v, h1, h2.keep k⟩
  · obtain ⟨b, h1, h2, h3, h4, h5⟩ := r.e.own i sl h o
    refine ⟨b, h1, h2.keep k rfl, h3, fun z => ?_, h5⟩
    rcases List.mem_append.mp z with z | z
    · exact h4 z
    · have : b = a := by simpa using z
      subst this
      exact f4 i sl h o h1
theorem e_shr (h : PE X e (tL c W fl)) : PE X e (tE c W (shr fl)) := pe_imp h fun σ H Q h => by
  obtain ⟨g, M, ρ, s, rel, h⟩ := h
  refine tL.bind (out := fun M ρ H r => OutE c g W M ρ σ H r Q) rel (fun _ _ z => z) (fun z => z) h fun xs s1 M1 ρ1 a vs H1 r1 k1 ha hx hf h1 => ?_
  obtain ⟨r2, k2⟩ := r1.share ha hx hf
  exact h1 M1 (ρ1 ++ [a]) (.ref a) H1 r2 (k1.trans k2) (.ref (by rw [List.getElem?_append_right (by rw [r1.h.hl]; exact Nat.le_refl _), r1.h.hl]; simp))
end

/-! ### parallel stores -/
inductive Pc where
  | v (f : Ex) | l (f : ExL)
def evP : Pc → S → R Slot
  | .v f, s => (f s).map .v
  | .l f, s => (f s).map .ol
def SlR (c : Cn) (g : Gr) (M : Am) (ρ : List Addr) (σ : L2.St) (H : Hp) (env : Env) (sl : Slot) (v : V) : Prop := match sl with
  | .v d => RD c M ρ H d v
  | .ol xs => ∃ a vs, v = .ref a ∧ H a = some (.lst vs) ∧ RDs c M ρ H xs vs ∧ Free g M ρ env σ a
  | _ => False
def OutPc (c : Cn) (g : Gr) (W : WX) (M : Am) (ρ : List Addr) (σ : L2.St) (H : Hp) (r : R Slot) (Q : VK) : Prop := match r with
  | .ok sl s' => ∀ M' ρ' v H', Rel c g M' ρ' s' σ H' → Keep g M ρ H M' ρ' H' → SlR c g M' ρ' σ H' s'.env sl v → Q v H'
  | .exc x s' => ∀ M' ρ' H' cls dd, Rel c g M' ρ' s' σ H' → Keep g M ρ H M' ρ' H' → XR c x cls dd H' → W cls dd σ H'
  | .bad => False
def tPc (c : Cn) (W : WX) (p : Pc) : TE := fun σ H Q => ∃ g M ρ s, Rel c g M ρ s σ H ∧ OutPc c g W M ρ σ H (evP p s) Q
def par2 (i j : Nat) (p q : Pc) : Sm := fun s => (evP p s).bind fun x s1 => (evP q s1).bind fun y s2 => .ok .nx ⟨(s2.env.set i x).set j y, s2.hp⟩
section
variable {X : Cx} {c : Cn} {g : Gr} {W : WX} {M : Am} {ρ : List Addr} {H : Hp} {s : S} {env : Env} {hp : List Ob} {σ : L2.St} {a b e : Expr} {p q : Pc} {Q : VK} {sl : Slot} {v : V} {i j : Nat} {pos : Pos}
theorem pc_v {f : Ex} (h : PE X e (tE c W f)) : PE X e (tPc c W (.v f)) := pe_imp h fun σ H Q h => by
  obtain ⟨g, M, ρ, s, rel, h⟩ := h
  refine ⟨g, M, ρ, s, rel, ?_⟩
  have h : OutPc c g W M ρ σ H ((f s).map .v) Q := h
  cases q : f s with
  | ok d s' => rw [q] at h; exact h
  | exc x s' => rw [q] at h; exact h
  | bad => rw [q] at h; exact h
theorem pc_l {f : ExL} (h : PE X e (tL c W f)) : PE X e (tPc c W (.l f)) := pe_imp h fun σ H Q h => by
  obtain ⟨g, M, ρ, s, rel, h⟩ := h
  refine ⟨g, M, ρ, s, rel, ?_⟩
  have h : OutPc c g W M ρ σ H ((f s).map .ol) Q := h
  cases q : f s with
  | ok d s' => rw [q] at h; exact fun M' ρ' a vs H' r k ha hx hf => h M' ρ' (.ref a) H' r k ⟨a, vs, rfl, ha, hx, hf⟩
  | exc x s' => rw [q] at h; exact h
  | bad => rw [q] at h; exact h
theorem Rel.setslot (r : Rel c g M ρ ⟨env, hp⟩ σ H) (h : SlR c g M ρ σ H env sl v) (i : Nat) : Rel c g M ρ ⟨env.set i sl, hp⟩ (σ.set i (some v)) H := by
  cases sl with
  | v d => exact r.setv h
  | ol xs =>
    obtain ⟨a, vs, rfl, h1, h2, h3⟩ := h
    exact r.setown h3 rfl ⟨vs, h1, h2⟩
  | un => exact h.elim
  | od k ks vs => exact h.elim
theorem OutPc.keep {M1 : Am} {ρ1 : List Addr} {H1 : Hp} (k : Keep g M ρ H M1 ρ1 H1) {r : R Slot} (h : OutPc c g W M ρ σ H r Q) : OutPc c g W M1 ρ1 σ H1 r Q := by
  cases r with
  | ok d s' => exact fun M' ρ' v H' a b e => h M' ρ' v H' a (k.trans b) e
  | exc x s' => exact fun M' ρ' H' cls dd a b e => h M' ρ' H' cls dd a (k.trans b) e
  | bad => exact h
theorem Free.setv {ad : Addr} {d : D} (f : Free g M ρ env σ ad) : Free g M ρ (env.set i (.v d)) (σ.set i (some v)) ad := ⟨f.1, f.2.1, f.2.2.1, f.2.2.2.1, fun j sl h o z => by
  rcases get_set_some h with ⟨rfl, e, hl⟩ | ⟨ne, h⟩
  · subst e; cases o
  · rw [get_set_ne ne] at z
    exact f.2.2.2.2 j sl h o z⟩
theorem Free.setl {ad bd : Addr} {xs : List D} (hlen : env.length = σ.length) (f : Free g M ρ env σ ad) (ne : bd ≠ ad) : Free g M ρ (env.set i (.ol xs)) (σ.set i (some (.ref bd))) ad := ⟨f.1, f.2.1, f.2.2.1, f.2.2.2.1, fun j sl h o z => by
  rcases get_set_some h with ⟨rfl, e, hl⟩ | ⟨ne', h⟩
  · rw [get_set_eq (by rw [← hlen]; exact hl)] at z
    cases z
    exact ne rfl
  · rw [get_set_ne ne'] at z
    exact f.2.2.2.2 j sl h o z⟩
theorem t_par {D : Ends} (h : tS c W (par2 i j p q) D σ H) : tPar i j (tCons (tPc c W p) (tCons (tPc c W q) tNil)) D σ H := by
  obtain ⟨g, M, ρ, s, rel, h⟩ := h
  refine ⟨g, M, ρ, s, rel, ?_⟩
  unfold par2 at h
  cases e1 : evP p s with
  | exc x s1 => rw [e1] at h; exact fun M' ρ' H' cls dd r k x => h M' ρ' σ H' cls dd r k x
  | bad => rw [e1] at h; exact h
  | ok x s1 =>
    rw [e1] at h
    intro M1 ρ1 v H1 r1 k1 h1
    have h := OutS.keep k1 h
    simp only [R.bind_ok] at h
    cases x with
    | un => exact h1.elim
    | od kk ks vs => exact h1.elim
    | v d =>
      refine ⟨g, M1, ρ1, s1, r1, ?_⟩
      cases e2 : evP q s1 with
      | exc x s2 => rw [e2] at h; exact fun M' ρ' H' cls dd r k x => h M' ρ' σ H' cls dd r k x
      | bad => rw [e2] at h; exact h
      | ok y s2 =>
        rw [e2] at h
        intro M2 ρ2 w H2 r2 k2 h2
        refine ⟨v, w, rfl, ?_⟩
        have hd := RD.keep k2 h1
        have r3 := Rel.setv (i := i) r2 hd
        refine h M2 ρ2 _ H2 (Rel.setslot (sl := y) (v := w) r3 ?_ j) k2
        cases y with
        | v d' => exact h2
        | ol xs =>
          obtain ⟨ad, vs, rfl, g1, g2, g3⟩ := h2
          exact ⟨ad, vs, rfl, g1, g2, g3.setv⟩
        | un => exact h2.elim
        | od k ks vs => exact h2.elim
    | ol xs =>
      obtain ⟨ad, vs, rfl, g1, g2, g3⟩ := h1
      refine ⟨g.hold ad, M1, ρ1, s1, r1.hold g3, ?_⟩
      cases e2 : evP q s1 with
      | exc x s2 => rw [e2] at h; exact fun M' ρ' H' cls dd r k x => h M' ρ' σ H' cls dd r.unhold k.unhold x
      | bad => rw [e2] at h; exact h
      | ok y s2 =>
        rw [e2] at h
        intro M2 ρ2 w H2 r2 k2 h2
        refine ⟨.ref ad, w, rfl, ?_⟩
        have f2 := r2.free g3.2.2.1 g3.2.2.2.1
        have hs : SlR c g M2 ρ2 σ H2 s2.env (.ol xs) (.ref ad) := ⟨ad, vs, rfl, by rw [k2.pr ad (.inr rfl)]; exact g1, g2.keep k2, f2⟩
        have r3 := Rel.setslot (env := s2.env) (hp := s2.hp) r2.unhold hs i
        refine h M2 ρ2 _ H2 (Rel.setslot (sl := y) (v := w) r3 ?_ j) k2.unhold
        cases y with
        | v d' => exact h2
        | ol ys =>
          obtain ⟨bd, us, rfl, g4, g5, g6⟩ := h2
          have ne : ad ≠ bd := fun z => g6.2.2.2.1 (.inr z.symm)
          have g7 : Free g M2 ρ2 s2.env σ bd := ⟨g6.1, g6.2.1, g6.2.2.1, fun z => g6.2.2.2.1 (.inl z), g6.2.2.2.2⟩
          exact ⟨bd, us, rfl, g4, g5, g7.setl r2.e.len ne⟩
        | un => exact h2.elim
        | od k ks vs => exact h2.elim
theorem s_par {k : Nat} {x y : Str} {px py pt : Pos} {kt k2 pt2} (C : Cc X c W k) (i j : Nat) (ha : PE X a (tPc c W p)) (hb : PE X b (tPc c W q)) (hi : X.N[i]? = some x := by rfl) (hj : X.N[j]? = some y := by rfl) (hij : i ≠ j := by decide)
    (hx : X.env.scope.names.lookup x = some .local := by rfl) (hy : X.env.scope.names.lookup y = some .local := by rfl)
    (hw : swappedStores [.Tuple [.Name x px, .Name y py] kt pt] (.Tuple [a, b] k2 pt2) X.env = pure (some [x, y]) := by rfl)
    (hs : swapsWithSole [.Tuple [.Name x px, .Name y py] kt pt] (.Tuple [a, b] k2 pt2) pos.line X.env = pure false := by rfl)
    (h1 : starEach [a, b] X.env = (false, eval a X.env) :: starEach [b] X.env := by rfl) (h2 : starEach [b] X.env = (false, eval b X.env) :: starEach [] X.env := by rfl) :
    PS X (.Assign [.Tuple [.Name x px, .Name y py] kt pt] (.Tuple [a, b] k2 pt2) pos) (tS c W (par2 i j p q)) := ps_imp (ps_par C.hc C.nd hi hj hij hx hy (pa_cons ha (pa_cons hb pa_nil h2) h1) hw hs) fun D σ H h => t_par h
end

/-! ### name = [.. for ..] on one line -/
section
variable {X : Cx} {c : Cn} {g : Gr} {W : WX} {vs : List Nat} {t : Tg} {it : DS.Itr} {tt : S → R Bool} {f : Ex} {e tg iter : Expr}
theorem s_setLc {k : Nat} {scope : Scope} {own : List (Str × Nat)} {ifs : List Expr} {y : Str} {py pos spos : Pos} (C : Cc X c W k) (i : Nat) (hv : own.map (·.2) = vs) (hi : PI X tg iter (tI c W it)) (ok : BlkOk X.N X.env.scope scope own)
    (hg : ∀ (s : Shared) (H : Hp) (A : Addr) (cl : List (Str × Addr)) (fp : List Addr), PG (X.blk s H scope (compEnvC scope cl A X.env) fp) tg (tG c W0 vs t))
    (ht : ∀ (s : Shared) (H : Hp) (A : Addr) (cl : List (Str × Addr)) (fp : List Addr), Cc (X.blk s H scope (compEnvC scope cl A X.env) fp) c W0 k → PTs (X.blk s H scope (compEnvC scope cl A X.env) fp) ifs (tT c W0 tt))
    (he : ∀ (s : Shared) (H : Hp) (A : Addr) (cl : List (Str × Addr)) (fp : List Addr), Cc (X.blk s H scope (compEnvC scope cl A X.env) fp) c W0 k → PE (X.blk s H scope (compEnvC scope cl A X.env) fp) e (tE c W0 f))
    (hy : X.N[i]? = some y := by rfl) (hyl : X.env.scope.names.lookup y = some .local := by rfl) (hsw : swapsWith (.ListComp e [⟨tg, iter, ifs, 0⟩] scope pos) (some (.Name y py)) spos.line X.env = pure true := by rfl) (hs : ∀ x, foldedSetIterable iter X.env x = pure x := by intro _; rfl) :
    PS X (.Assign [.Name y py] (.ListComp e [⟨tg, iter, ifs, 0⟩] scope pos) spos) (tS c W (setL i (lcE it t vs tt f))) := by
  subst hv
  refine ps_imp (ps_setLc C.hc C.nd hy hyl hsw hi ok hg (fun s H A cl fp => ht s H A cl fp C.blk) (fun s H A cl fp => he s H A cl fp C.blk) hs) fun D σ H h => ?_
  exact t_lc (t_setL h)
end
end DS
/-! DS12: what stands in the module; keyword calls in order; a law's end. -/
namespace DS
open PySem PySem.Spec PyProof.Rows L2

section
variable {X : Cx} {c : Cn} {g : Gr} {W : WX} {k k' : Nat} {p pos : Pos} {x n : Str} {d : D} {v : V} {u : Value} {st : Stmt} {ps : List Str} {F : Fn} {e : Expr} {es : List Expr} {fs ks : List Ex} {kws : List Keyword} {kn : List Str}
/-- a name of the module that holds a number, a text .. -/
theorem e_glob (C : Cc X c W k) (hm : c.mg x = some u) (r : RelV v u) (hv : ∀ M ρ H, RD c M ρ H d v) (hg : Gl X x := by rfl) (hd : (x == ("__debug__" : Str)) = false := by decide) : PE X (.Name x p) (tE c W (cst d)) :=
  pe_imp (pe_glob hg (by rw [C.hm]; exact hm) r hd) fun _ _ _ h => tE.cst hv h
theorem e_globI {i : Int} {t : PySem.Tok} (C : Cc X c W k) (hm : c.mg x = some (.int i t)) (hg : Gl X x := by rfl) (hd : (x == ("__debug__" : Str)) = false := by decide) : PE X (.Name x p) (tE c W (cst (.int i))) :=
  e_glob C hm (v := .int i) ⟨t, rfl⟩ (fun _ _ _ => .int i) hg hd
theorem e_globF {f : Addr} (C : Cc X c W k) (hm : c.mg x = some (.ref f)) (hg : Gl X x := by rfl) (hd : (x == ("__debug__" : Str)) = false := by decide) : PE X (.Name x p) (tE c W (cst (.fn x))) :=
  e_glob C hm (v := .ref f) rfl (fun _ _ _ => .fn hm) hg hd
/-- a def that is never run so deep -/
theorem fn_bad {P : Program} {w : World} {K : PySem.W.Frag} {mg : Str → Option Value} {base : Heap} {f : Addr} {fd : FuncData} {CX : CXT} : FnOk P w K mg base CX k f fd ps (spF c ps.length fun _ _ => .bad) :=
  ⟨fun vs H Q E h => h.1, fun A outer s H args us vs Q E _ _ _ _ h => by
    obtain ⟨_, M, ρ, hp, as, _, _, z⟩ := h
    exact z.elim⟩
/-! ### keywords in the parameters' order, behind so many others -/
def gId {α : Type} (i j : Nat) (as bs : List α) : List α := if as.length = i ∧ bs.length = j then as ++ bs else []
theorem vals_len {vs : List V} {us : List Value} (h : Vals vs us) : vs.length = us.length := h.length
theorem ord_id (i j : Nat) : Ord (gId i j) (gId i j) (gId i j) := ⟨fun {c M ρ H as bs us vs} h h' => by
    unfold gId
    rw [h.length, h'.length]
    split
    · exact h.append h'
    · exact .nil, fun {vs us zs ws} h h' => by
    unfold gId
    rw [h.length, h'.length]
    split
    · exact h.append h'
    · exact .nil⟩
theorem e_callI (C : Cc X c W k') (R : FnR c X.prog X.w X.base n st k ps F) (i j : Nat) (ha : PA X (e :: es) (tA c W fs)) (hkw : PK X kws (tA c W ks))
    (hb : ∀ (kV doc pm : Value) (an : Option Addr) (cdv ct : Value) (us ws : List Value), us.length = i → ws.length = j → bindArgs (PySem.W.fnOf n n (defArgs st) (defBody st) (defScope st) .none kV doc pm an cdv ct) ⟨us, kn.zip ws⟩ = pure (ps.zip (us ++ ws)))
    (hk : k ≤ k' := by decide) (hl : i + j = ps.length := by rfl) (h0 : 0 < ps.length := by decide) (hn : fs.length = i := by rfl) (hn2 : ks.length = j := by rfl) (hall : (backToKw pos (keywordEach kws X.env)).all (·.1.isSome) = true := by rfl) (hks : (backToKw pos (keywordEach kws X.env)).filterMap (·.1) = kn := by rfl) (hg : Gl X n := by rfl)
    (hdb : (n == ("__debug__" : Str)) = false := by decide) (he : starEach (e :: es) X.env = (false, eval e X.env) :: starEach es X.env := by rfl)
    (hpl : ((backTo pos (starEach (e :: es) X.env)).any (·.1) || (backToKw pos (keywordEach kws X.env)).any (·.1.isNone)) = false := by rfl) : PE X (.Call (.Name n p) (e :: es) kws pos) (tE c W (callKE F (gId i j) fs ks)) :=
  e_callK C R (ord_id i j) ha hkw (fun kV doc pm an cdv ct us ws h => by
    unfold gId at h ⊢
    by_cases q : us.length = i ∧ ws.length = j
    · rw [if_pos q]
      exact hb kV doc pm an cdv ct us ws q.1 q.2
    · rw [if_neg q] at h
      have : 0 = ps.length := h
      omega) (fun as bs h1 h2 => by
    unfold gId
    rw [if_pos ⟨h1.trans hn, h2.trans hn2⟩, List.length_append]
    omega) hk hall hks hg hdb he hpl
theorem e_callI0 (C : Cc X c W k') (R : FnR c X.prog X.w X.base n st k ps F) (j : Nat) (hkw : PK X kws (tA c W ks))
    (hb : ∀ (kV doc pm : Value) (an : Option Addr) (cdv ct : Value) (ws : List Value), ws.length = j → bindArgs (PySem.W.fnOf n n (defArgs st) (defBody st) (defScope st) .none kV doc pm an cdv ct) ⟨[], kn.zip ws⟩ = pure (ps.zip ws))
    (hk : k ≤ k' := by decide) (hl : j = ps.length := by rfl) (h0 : 0 < ps.length := by decide) (hn2 : ks.length = j := by rfl) (hall : (backToKw pos (keywordEach kws X.env)).all (·.1.isSome) = true := by rfl) (hks : (backToKw pos (keywordEach kws X.env)).filterMap (·.1) = kn := by rfl) (hg : Gl X n := by rfl)
    (hdb : (n == ("__debug__" : Str)) = false := by decide)
    (hpl : ((backTo pos (starEach [] X.env)).any (·.1) || (backToKw pos (keywordEach kws X.env)).any (·.1.isNone)) = false := by rfl) : PE X (.Call (.Name n p) [] kws pos) (tE c W (callKE F (gId 0 j) [] ks)) :=
  e_callK0 C R (ord_id 0 j) hkw (fun kV doc pm an cdv ct us ws h => by
    unfold gId at h ⊢
    by_cases q : us.length = 0 ∧ ws.length = j
    · rw [if_pos q]
      obtain rfl := List.length_eq_zero_iff.mp q.1
      exact hb kV doc pm an cdv ct ws q.2
    · rw [if_neg q] at h
      have : 0 = ps.length := h
      omega) (fun as bs h1 h2 => by
    unfold gId
    rw [if_pos ⟨h1, h2.trans hn2⟩, List.length_append]
    omega) hk hall hks hg hdb hpl
end

/-! ### a def, whole -/
section
variable {P : Program} {w : World} {K : PySem.W.Frag} {mg : Str → Option Value} {base : Heap} {n : Str} {st : Stmt} {f : Addr} {fd : FuncData} {N ps : List Str} {k : Nat} {body : Sm}
theorem fnr (F : L2.Fun K n n st f fd) (hm : mg n = some (.ref f)) (Sc : FnScope N ps (defScope st))
    (hbd : ∀ (kV doc pm : Value) (an : Option Addr) (cdv ct : Value) (us : List Value), us.length = ps.length → bindArgs (PySem.W.fnOf n n (defArgs st) (defBody st) (defScope st) .none kV doc pm an cdv ct) ⟨us, []⟩ = pure (ps.zip us))
    (hb : ∀ (cdv : Value) (A : Around) (outer : List PySem.Env) (s : Shared) (H : Hp) (E : XK), Cc (cxOf (L2.CX P w) P w K mg base N n (defScope st) f cdv A outer s H E) ⟨K, mg⟩ (wE E) k →
      PSs (cxOf (L2.CX P w) P w K mg base N n (defScope st) f cdv A outer s H E) (defBody st) (tS ⟨K, mg⟩ (wE E) body)) : FnR ⟨K, mg⟩ P w base n st (k + 1) ps (fnOf N.length body) :=
  ⟨f, fd, hm, F, fn_ok F Sc fun cdv A outer s H E hr tk => hb cdv A outer s H E ⟨rfl, rfl, tk, hr, rfl, Sc.nd⟩, F.binds hbd⟩
theorem fnr_bad (F : L2.Fun K n n st f fd) (hm : mg n = some (.ref f)) (hbd : ∀ (kV doc pm : Value) (an : Option Addr) (cdv ct : Value) (us : List Value), us.length = ps.length → bindArgs (PySem.W.fnOf n n (defArgs st) (defBody st) (defScope st) .none kV doc pm an cdv ct) ⟨us, []⟩ = pure (ps.zip us)) :
    FnR ⟨K, mg⟩ P w base n st k ps (fun _ _ => .bad) := ⟨f, fd, hm, F, fn_bad, F.binds hbd⟩
/-- a law's promise -/
def spT (K : PySem.W.Frag) : Sp := fun vs H Q _ => ∃ (a : Addr) (ns : List Int), vs = [.ref a] ∧ SqL K H a (ns.map V.int) ∧ ns.length ≤ 63 ∧ Only H ∧ ∀ H', Q (.bl true) H'
theorem law_sp {c : Cn} {F : Fn} (h : ∀ ns : List Int, ns.length ≤ 63 → ∃ hp, F [.scr (ns.map .int)] [] = .ok (.bl true) hp) : ∀ vs H Q E, spT c.K vs H Q E → spF c 1 F vs H Q E := by
  intro vs H Q E ⟨a, ns, e, hs, hl, hO, q⟩
  subst e
  obtain ⟨hp, hF⟩ := h ns hl
  refine ⟨rfl, fun _ => False, [], [], [.scr (ns.map .int)], ⟨rfl, fun j o a h _ => by simp at h, List.nodup_nil, fun a h => by simp at h, fun a h => h.elim⟩, .cons ?_ .nil, ?_⟩
  · rcases hs with (h | ⟨o, h⟩) | h
    · rcases hO a with z | ⟨o, xs, z⟩
      · rw [h] at z; cases z
      · rw [h] at z; cases z
    · exact .scr h (fun z => z) (rds_ints ns)
    · exact .scrK h (rds_ints ns)
  · rw [hF]
    intro M' ρ' v H' _ _ hv
    cases hv
    exact q H'
theorem law_ok {F : Fn} (R : FnOk P w K mg base (L2.CX P w) k f fd ["script"] (spF ⟨K, mg⟩ 1 F)) (h : ∀ ns : List Int, ns.length ≤ 63 → ∃ hp, F [.scr (ns.map .int)] [] = .ok (.bl true) hp) :
    FnOk P w K mg base (L2.CX P w) k f fd ["script"] (spT K) := R.imp (law_sp (c := ⟨K, mg⟩) h)
theorem fnk (F : L2.Fun K n n st f fd) (Sc : FnScope N ps (defScope st))
    (hb : ∀ (cdv : Value) (A : Around) (outer : List PySem.Env) (s : Shared) (H : Hp) (E : XK), Cc (cxOf (L2.CX P w) P w K mg base N n (defScope st) f cdv A outer s H E) ⟨K, mg⟩ (wE E) k →
      PSs (cxOf (L2.CX P w) P w K mg base N n (defScope st) f cdv A outer s H E) (defBody st) (tS ⟨K, mg⟩ (wE E) body)) : FnOk P w K mg base (L2.CX P w) (k + 1) f fd ps (spF ⟨K, mg⟩ ps.length (fnOf N.length body)) :=
  fn_ok F Sc fun cdv A outer s H E hr tk => hb cdv A outer s H E ⟨rfl, rfl, tk, hr, rfl, Sc.nd⟩
theorem fnr_of (F : L2.Fun K n n st f fd) (hm : mg n = some (.ref f)) {Fn' : Fn} (O : FnOk P w K mg base (L2.CX P w) k f fd ps (spF ⟨K, mg⟩ ps.length Fn'))
    (hbd : ∀ (kV doc pm : Value) (an : Option Addr) (cdv ct : Value) (us : List Value), us.length = ps.length → bindArgs (PySem.W.fnOf n n (defArgs st) (defBody st) (defScope st) .none kV doc pm an cdv ct) ⟨us, []⟩ = pure (ps.zip us)) : FnR ⟨K, mg⟩ P w base n st k ps Fn' :=
  ⟨f, fd, hm, F, O, F.binds hbd⟩
end
end DS
namespace DS
open PySem PySem.Spec PyProof.Rows L2
/-! ### a list, a tuple or a text, walked -/
def chrs (z : Str) : List D := z.cps.toList.map fun k => .str ⟨#[k]⟩
def itA (o : Ex) : DS.Itr := fun s => (o s).bind fun d s1 => match d with
  | .lst xs => .ok xs s1
  | .scr xs => .ok xs s1
  | .tup xs => .ok xs s1
  | _ => .bad
def iAny (K : PySem.W.Frag) (tl : TE) : TI := fun σ H R => tl σ H fun x H1 => ∃ a, x = .ref a ∧ ((∃ xs, SqL K H1 a xs ∧ R (Itl K a) H1) ∨ (∃ xs, SqT K H1 a xs ∧ R (Itt K a) H1))
theorem pi_any {X : Cx} {tg l : Expr} {tl : TE} (hl : PE X l tl) : PI X tg l (iAny X.K tl) := ⟨fun pins s σ H R I h => thn (hl.run pins s σ H _ I h) fun v s1 hv => by
  obtain ⟨x, H1, I1, r1, b, rfl, q1⟩ := hv
  cases r1
  have fr : ∀ c, c ∈ [s1.heap.objs.size] → FpOk X pins H1 c := fun c hc => by
    obtain rfl : c = s1.heap.objs.size := by simpa using hc
    exact I1.fpOk (Nat.le_refl _) (I1.hok.fresh (Nat.le_refl _))
  rcases q1 with ⟨xs, hq, q⟩ | ⟨xs, hq, q⟩
  · obtain ⟨its, rv, pl, _⟩ := I1.list hq
    exact wpAny_pyIter_list pl.isList ⟨s1.heap.objs.size, [s1.heap.objs.size], _, _, H1, rfl, I1.kept (t' := s1.toks) (fun c o e => Heap.get?_push_of_some _ e), turn_list b _, ⟨_, Heap.get?_push_size _ rfl, rfl, rfl⟩, fr, q⟩
  · obtain ⟨its, rv, pl, _⟩ := I1.tuple hq
    exact wpAny_pyIter_tuple (show s1.heap.IsTuple b its.toArray from pl) ⟨s1.heap.objs.size, [s1.heap.objs.size], _, _, H1, rfl, I1.kept (t' := s1.toks) (fun c o e => Heap.get?_push_of_some _ e), turn_tuple b _, ⟨_, Heap.get?_push_size _ rfl, rfl, rfl⟩, fr, q⟩⟩
section
variable {X : Cx} {c : Cn} {g : Gr} {W : WX} {k : Nat} {a : Ex} {e tg iter : Expr} {vs : List Nat} {t : Tg} {it : DS.Itr} {tt : S → R Bool} {f : Ex} {pos : Pos}
theorem i_any (C : Cc X c W k) (h : PE X e (tE c W a)) : PI X tg e (tI c W (itA a)) := pi_imp (pi_any h) fun σ H Rk h => by
  obtain ⟨g, M, ρ, s, rel, h⟩ := h
  refine tE.bind (out := fun M ρ H r => OutI c g W M ρ σ H r Rk) rel (fun _ _ z => z) (fun z => z) h fun d s1 M1 ρ1 v H1 r1 k1 hd h1 => ?_
  rw [C.hK]
  cases d <;> first | exact h1.elim | skip
  · obtain ⟨ad, vs, rfl, h2, h3⟩ := hd.sqt
    exact ⟨ad, rfl, .inr ⟨vs, h3 g M1 ρ1 H1 (Keep.refl _ _ _ _), h1 M1 ρ1 _ H1 r1 k1 (walk_t h2 h3)⟩⟩
  · obtain ⟨ad, vs, rfl, h2, h3⟩ := hd.sql (.inl rfl)
    exact ⟨ad, rfl, .inl ⟨vs, h3 g M1 ρ1 H1 (Keep.refl _ _ _ _), h1 M1 ρ1 _ H1 r1 k1 (walk_l h2 h3)⟩⟩
  · obtain ⟨ad, vs, rfl, h2, h3⟩ := hd.sql (.inr rfl)
    exact ⟨ad, rfl, .inl ⟨vs, h3 g M1 ρ1 H1 (Keep.refl _ _ _ _), h1 M1 ρ1 _ H1 r1 k1 (walk_l h2 h3)⟩⟩
/-- a comprehension's block, its names told -/
theorem l_lcN {scope sc : Scope} {N : List Str} {own : List (Str × Nat)} {ifs : List Expr} (C : Cc X c W k) (hv : own.map (·.2) = vs) (hi : PI X tg iter (tI c W it)) (hN : X.N = N) (hsc : X.env.scope = sc) (ok : BlkOk N sc scope own)
    (hg : ∀ (s : Shared) (H : Hp) (A : Addr) (cl : List (Str × Addr)) (fp : List Addr), PG (X.blk s H scope (compEnvC scope cl A X.env) fp) tg (tG c W0 vs t))
    (ht : ∀ (s : Shared) (H : Hp) (A : Addr) (cl : List (Str × Addr)) (fp : List Addr), Cc (X.blk s H scope (compEnvC scope cl A X.env) fp) c W0 k → PTs (X.blk s H scope (compEnvC scope cl A X.env) fp) ifs (tT c W0 tt))
    (he : ∀ (s : Shared) (H : Hp) (A : Addr) (cl : List (Str × Addr)) (fp : List Addr), Cc (X.blk s H scope (compEnvC scope cl A X.env) fp) c W0 k → PE (X.blk s H scope (compEnvC scope cl A X.env) fp) e (tE c W0 f)) (hs : ∀ x, foldedSetIterable iter X.env x = pure x := by intro _; rfl) :
    PE X (.ListComp e [⟨tg, iter, ifs, 0⟩] scope pos) (tL c W (lcE it t vs tt f)) := l_lc C hv hi (by rw [hN, hsc]; exact ok) hg ht he hs
theorem s_setLcN {scope sc : Scope} {N : List Str} {own : List (Str × Nat)} {ifs : List Expr} {y : Str} {py spos : Pos} (C : Cc X c W k) (i : Nat) (hv : own.map (·.2) = vs) (hi : PI X tg iter (tI c W it)) (hN : X.N = N) (hsc : X.env.scope = sc) (ok : BlkOk N sc scope own)
    (hg : ∀ (s : Shared) (H : Hp) (A : Addr) (cl : List (Str × Addr)) (fp : List Addr), PG (X.blk s H scope (compEnvC scope cl A X.env) fp) tg (tG c W0 vs t))
    (ht : ∀ (s : Shared) (H : Hp) (A : Addr) (cl : List (Str × Addr)) (fp : List Addr), Cc (X.blk s H scope (compEnvC scope cl A X.env) fp) c W0 k → PTs (X.blk s H scope (compEnvC scope cl A X.env) fp) ifs (tT c W0 tt))
    (he : ∀ (s : Shared) (H : Hp) (A : Addr) (cl : List (Str × Addr)) (fp : List Addr), Cc (X.blk s H scope (compEnvC scope cl A X.env) fp) c W0 k → PE (X.blk s H scope (compEnvC scope cl A X.env) fp) e (tE c W0 f))
    (hy : X.N[i]? = some y := by rfl) (hyl : X.env.scope.names.lookup y = some .local := by rfl) (hsw : swapsWith (.ListComp e [⟨tg, iter, ifs, 0⟩] scope pos) (some (.Name y py)) spos.line X.env = pure true := by rfl) (hs : ∀ x, foldedSetIterable iter X.env x = pure x := by intro _; rfl) :
    PS X (.Assign [.Name y py] (.ListComp e [⟨tg, iter, ifs, 0⟩] scope pos) spos) (tS c W (setL i (lcE it t vs tt f))) := s_setLc C i hv hi (by rw [hN, hsc]; exact ok) hg ht he hy hyl hsw hs
end
end DS
/-! DS13: working out what defs do. -/
namespace DS
open PySem PySem.Spec PyProof.Rows L2
section
variable {t : S → R Bool} {b : Sm}
theorem whlS_def (s : S) : (∃ n, whlN t b n s ≠ .bad ∧ whlS t b s = whlN t b n s) ∨ ((∀ n, whlN t b n s = .bad) ∧ whlS t b s = .bad) := by
  by_cases h : ∃ n, whlN t b n s ≠ .bad
  · obtain ⟨n, hn⟩ := h
    exact .inl ⟨n, hn, whlS_of rfl hn⟩
  · right
    have h2 : ∀ n, whlN t b n s = .bad := fun n => by
      by_cases q : whlN t b n s = .bad
      · exact q
      · exact absurd ⟨n, q⟩ h
    refine ⟨h2, ?_⟩
    unfold whlS
    rw [dif_neg h]
def turn (t : S → R Bool) (b : Sm) (k : S → R Fl) (s : S) : R Fl := (t s).bind fun c s1 => if c = true then (b s1).bind fun fl s2 => match fl with
      | .nx => k s2
      | .ct => k s2
      | .bk => .ok .nx s2
      | .rt d => .ok (.rt d) s2
    else .ok .nx s1
theorem turn_mono {k k' : S → R Fl} {s : S} (h : ∀ s, k s ≠ .bad → k' s = k s) (hs : turn t b k s ≠ .bad) : turn t b k' s = turn t b k s := by
  unfold turn at hs ⊢
  cases q : t s with
  | bad => rfl
  | exc x s1 => rfl
  | ok c s1 =>
    rw [q] at hs
    simp only [R.bind_ok] at hs ⊢
    cases c with
    | false => rfl
    | true =>
      simp only [if_true] at hs ⊢
      cases q2 : b s1 with
      | bad => rfl
      | exc x s2 => rfl
      | ok fl s2 =>
        rw [q2] at hs
        cases fl with
        | nx => exact h s2 hs
        | ct => exact h s2 hs
        | bk => rfl
        | rt d => rfl
theorem turn_used {k : S → R Fl} {s : S} (hs : turn t b k s ≠ .bad) : (∃ s2, k s2 ≠ .bad ∧ ∀ k', k' s2 = k s2 → turn t b k' s = turn t b k s) ∨ ∀ k', turn t b k' s = turn t b k s := by
  unfold turn at hs ⊢
  cases q : t s with
  | bad => rw [q] at hs; exact absurd rfl hs
  | exc x s1 => exact .inr fun k' => rfl
  | ok c s1 =>
    rw [q] at hs
    simp only [R.bind_ok] at hs ⊢
    cases c with
    | false => exact .inr fun k' => rfl
    | true =>
      simp only [if_true] at hs ⊢
      cases q2 : b s1 with
      | bad => rw [q2] at hs; exact absurd rfl hs
      | exc x s2 => exact .inr fun k' => rfl
      | ok fl s2 =>
        rw [q2] at hs
        cases fl with
        | nx => exact .inl ⟨s2, hs, fun k' h => h⟩
        | ct => exact .inl ⟨s2, hs, fun k' h => h⟩
        | bk => exact .inr fun k' => rfl
        | rt d => exact .inr fun k' => rfl
theorem whlS_eq (s : S) : whlS t b s = turn t b (whlS t b) s := by
  have up : ∀ n, whlN t b (n + 1) s = turn t b (whlN t b n) s := fun n => rfl
  rcases whlS_def (t := t) (b := b) s with ⟨n, hn, e⟩ | ⟨hn, e⟩
  · obtain ⟨m, rfl⟩ : ∃ m, n = m + 1 := ⟨n - 1, by
      cases n with
      | zero => exact absurd rfl hn
      | succ n => rfl⟩
    rw [e, up]
    rw [up] at hn
    exact (turn_mono (fun s hs => whlS_of rfl hs) hn).symm
  · rw [e]
    by_cases q : turn t b (whlS t b) s = .bad
    · exact q.symm
    · exfalso
      rcases turn_used q with ⟨s2, h1, h2⟩ | h
      · rcases whlS_def (t := t) (b := b) s2 with ⟨n, h3, h4⟩ | ⟨h3, h4⟩
        · have := h2 (whlN t b n) h4.symm
          rw [← up, hn (n + 1)] at this
          exact q this.symm
        · exact h1 h4
      · have := h (whlN t b 0)
        rw [← up, hn 1] at this
        exact q this.symm
end
end DS
/-! DS14: == worked out; numbers. -/
namespace DS
open PySem PySem.Spec PyProof.Rows L2
theorem pyEq_of {x y : D} {p q : PyData} (h1 : toPy x = some p) (h2 : toPy y = some q) (s1 : SeqAt.shaped p = true) (s2 : SeqAt.shaped q = true) : pyEq x y = some (PyData.eqv p q) := by
  unfold pyEq
  rw [h1, h2]
  show (if (SeqAt.shaped p && SeqAt.shaped q) = true then _ else _) = _
  rw [s1, s2]
  rfl
theorem toPy_int (i : Int) : toPy (.int i) = some (.int i) := by unfold toPy; rfl
theorem toPy_str (i : Str) : toPy (.str i) = some (.str i) := by unfold toPy; rfl
theorem toPy_bl (i : Bool) : toPy (.bl i) = some (.bool i) := by unfold toPy; rfl
theorem toPy_non : toPy .non = some .none := by unfold toPy; rfl
theorem shaped_int (i : Int) : SeqAt.shaped (.int i) = true := by
  unfold SeqAt.shaped
  simp [PyData.canLay0, PyData.depth]
theorem shaped_bl (i : Bool) : SeqAt.shaped (.bool i) = true := by
  unfold SeqAt.shaped
  simp [PyData.canLay0, PyData.depth]
theorem shaped_non : SeqAt.shaped .none = true := by
  unfold SeqAt.shaped
  simp [PyData.canLay0, PyData.depth]
theorem pyEq_int (i j : Int) : pyEq (.int i) (.int j) = some (decide (i = j)) := by
  rw [pyEq_of (toPy_int i) (toPy_int j) (shaped_int i) (shaped_int j)]
  simp [PyData.eqv]
  rfl
theorem pyEq_bl (i j : Bool) : pyEq (.bl i) (.bl j) = some (decide (i = j)) := by
  rw [pyEq_of (toPy_bl i) (toPy_bl j) (shaped_bl i) (shaped_bl j)]
  simp [PyData.eqv]
  cases i <;> cases j <;> rfl
theorem pyEq_str (x y : Str) (hx : PyData.canLay0 (.str x) = true) (hy : PyData.canLay0 (.str y) = true) : pyEq (.str x) (.str y) = some (x == y) := by
  have sh : ∀ z : Str, PyData.canLay0 (.str z) = true → SeqAt.shaped (.str z) = true := fun z hz => by
    unfold SeqAt.shaped
    rw [hz]
    simp [PyData.depth]
  rw [pyEq_of (toPy_str x) (toPy_str y) (sh x hx) (sh y hy)]
  simp [PyData.eqv]
theorem toPys_ints : ∀ ns : List Int, toPys (ns.map .int) = some (ns.map .int)
  | [] => by unfold toPys; rfl
  | n :: ns => by
    show toPys (.int n :: ns.map .int) = _
    unfold toPys
    rw [toPy_int, toPys_ints ns]
    rfl
theorem eqvAll_ints : ∀ xs ys : List Int, PyData.eqvAll (xs.map .int) (ys.map .int) = decide (xs = ys)
  | [], [] => by simp [PyData.eqvAll]
  | [], _ :: _ => by simp [PyData.eqvAll]
  | _ :: _, [] => by simp [PyData.eqvAll]
  | x :: xs, y :: ys => by
    simp only [List.map_cons, PyData.eqvAll, PyData.eqv]
    rw [eqvAll_ints xs ys]
    by_cases h : x = y <;> by_cases h' : xs = ys <;> simp [h, h']
theorem ints_flat : ∀ ns : List Int, PyData.canLayAll0 (ns.map .int) = true ∧ PyData.depthAll (ns.map .int) = 0
  | [] => by simp [PyData.canLayAll0, PyData.depthAll]
  | n :: ns => by
    obtain ⟨h1, h2⟩ := ints_flat ns
    simp only [List.map_cons, PyData.canLayAll0, PyData.depthAll, PyData.canLay0, PyData.depth, h1, h2]
    exact ⟨rfl, rfl⟩
theorem pyEq_ints (xs ys : List Int) : pyEq (.lst (xs.map .int)) (.lst (ys.map .int)) = some (decide (xs = ys)) := by
  have sh : ∀ ns : List Int, SeqAt.shaped (.list (ns.map .int)) = true := fun ns => by
    unfold SeqAt.shaped
    obtain ⟨h1, h2⟩ := ints_flat ns
    simp [PyData.canLay0, PyData.depth, h1, h2]
  have tp : ∀ ns : List Int, toPy (.lst (ns.map .int)) = some (.list (ns.map .int)) := fun ns => by
    unfold toPy
    rw [toPys_ints]
    rfl
  rw [pyEq_of (tp xs) (tp ys) (sh xs) (sh ys)]
  simp only [PyData.eqv]
  rw [eqvAll_ints]
theorem eqD_int (i j : Int) : eqD (.int i) (.int j) = some (.bl (decide (i = j))) := by unfold eqD; rw [pyEq_int]; rfl
theorem neD_int (i j : Int) : neD (.int i) (.int j) = some (.bl (!decide (i = j))) := by unfold neD; rw [pyEq_int]; rfl
theorem eqD_bl (i j : Bool) : eqD (.bl i) (.bl j) = some (.bl (decide (i = j))) := by unfold eqD; rw [pyEq_bl]; rfl
theorem neD_bl (i j : Bool) : neD (.bl i) (.bl j) = some (.bl (!decide (i = j))) := by unfold neD; rw [pyEq_bl]; rfl
theorem eqD_ints (xs ys : List Int) : eqD (.lst (xs.map .int)) (.lst (ys.map .int)) = some (.bl (decide (xs = ys))) := by unfold eqD; rw [pyEq_ints]; rfl
theorem toInts_map : ∀ ns : List Int, toInts (ns.map .int) = some ns
  | [] => rfl
  | n :: ns => by
    show (toInts (ns.map .int)).map _ = _
    rw [toInts_map ns]
    rfl
end DS
namespace DS
/-! ### step by step -/
section
variable {a b : Sm} {t : S → R Bool} {s s1 s2 : S} {r : R Fl} {f : Ex} {d : D} {n : Nat} {as : List D} {hp hp' : List Ob} {x : Exn}
theorem sq_nx (h : a s = .ok .nx s1) (h2 : b s1 = r) : sqS a b s = r := by unfold sqS; rw [h]; exact h2
theorem sq_rt (h : a s = .ok (.rt d) s1) : sqS a b s = .ok (.rt d) s1 := by unfold sqS; rw [h]; rfl
theorem if_tt (h : t s = .ok true s1) (h2 : a s1 = r) : ifS t a b s = r := by unfold ifS; rw [h]; exact h2
theorem if_ff (h : t s = .ok false s1) (h2 : b s1 = r) : ifS t a b s = r := by unfold ifS; rw [h]; exact h2
theorem if_by {c : Bool} (h : t s = .ok c s1) (h1 : c = true → a s1 = r) (h2 : c = false → b s1 = r) : ifS t a b s = r := by
  cases c with
  | true => exact if_tt h (h1 rfl)
  | false => exact if_ff h (h2 rfl)
theorem fn_rt (h : a ⟨as.map .v ++ List.replicate (n - as.length) .un, hp⟩ = .ok (.rt d) s1) (e : s1.hp = hp' := by rfl) : fnOf n a as hp = .ok d hp' := by unfold fnOf; rw [h]; subst e; rfl
theorem fn_nx (h : a ⟨as.map .v ++ List.replicate (n - as.length) .un, hp⟩ = .ok .nx s1) (e : s1.hp = hp' := by rfl) : fnOf n a as hp = .ok .non hp' := by unfold fnOf; rw [h]; subst e; rfl
theorem rt_of (h : f s = .ok d s1) : retS f s = .ok (.rt d) s1 := by unfold retS; rw [h]; rfl
theorem for_of {it : DS.Itr} {tg : Tg} {ds : List D} (h : it s = .ok ds s1) (h2 : forL tg b ds s1 = r) : forS it tg b s = r := by unfold forS; rw [h]; exact h2
theorem forL_cons {tg : Tg} {ds : List D} (h : tg d s = some s1) (h2 : b s1 = .ok .nx s2) : forL tg b (d :: ds) s = forL tg b ds s2 := by
  rw [forL, h]
  simp only [h2, R.bind_ok]
theorem forL_nil {tg : Tg} : forL tg b [] s = .ok .nx s := rfl
end
end DS
namespace DS
section
variable {t : Tg} {vs : List Nat} {tt : S → R Bool} {f : Ex} {s s1 s2 s3 : S} {d y : D} {ds acc acc' : List D} {it : DS.Itr}
theorem lcL_nil : lcL t vs tt f [] acc s = .ok acc s := rfl
theorem lcL_cons (h1 : t d s = some s1) (h2 : tt s1 = .ok true s2) (h3 : f s2 = .ok y s3) (hl : acc.length < LIM) : lcL t vs tt f (d :: ds) acc s = lcL t vs tt f ds (acc ++ [y]) ⟨wipeE s3.env vs, s3.hp⟩ := by
  rw [lcL]
  simp only [h1, h2, h3, if_pos hl]
theorem lcL_skip (h1 : t d s = some s1) (h2 : tt s1 = .ok false s2) : lcL t vs tt f (d :: ds) acc s = lcL t vs tt f ds acc ⟨wipeE s2.env vs, s2.hp⟩ := by
  rw [lcL]
  simp only [h1, h2]
theorem lcE_of (h : it s = .ok ds s1) (hn : noOwn s1.env vs = true) (hl : lcL t vs tt f ds [] ⟨wipeE s1.env vs, s1.hp⟩ = .ok acc s2) : lcE it t vs tt f s = .ok acc ⟨restE s1.env s2.env vs, s2.hp⟩ := by
  unfold lcE
  rw [h]
  simp only [R.bind_ok, if_pos hn, hl]
end
theorem upTo_len (lo : Int) (n : Nat) : (upTo lo n).length = n := by simp [upTo]
end DS
namespace DS
open L2
theorem cutL_to {α : Type} (xs : List α) (j : Nat) : cutL xs none (some (j : Int)) = xs.take j := by
  unfold cutL
  rw [HT.sIx_none, HT.sIx_nat, List.drop_zero, Nat.sub_zero]
  rw [List.take_eq_take_iff]
  omega
theorem cutL_ft {α : Type} (xs : List α) (i j : Nat) : cutL xs (some (i : Int)) (some (j : Int)) = (xs.drop i).take (j - i) := by
  unfold cutL
  rw [HT.sIx_nat, HT.sIx_nat]
  by_cases h : i ≤ xs.length
  · rw [Nat.min_eq_left h, List.take_eq_take_iff, List.length_drop]
    omega
  · rw [List.drop_eq_nil_of_le (show xs.length ≤ min i xs.length by omega), List.drop_eq_nil_of_le (show xs.length ≤ i by omega)]
    simp
theorem cutL_from {α : Type} (xs : List α) (i : Nat) : cutL xs (some (i : Int)) none = xs.drop i := by
  unfold cutL
  rw [HT.sIx_nat, HT.sIx_none]
  by_cases h : i ≤ xs.length
  · rw [Nat.min_eq_left h, List.take_of_length_le (by rw [List.length_drop]; omega)]
  · rw [List.drop_eq_nil_of_le (show xs.length ≤ min i xs.length by omega), List.drop_eq_nil_of_le (show xs.length ≤ i by omega)]
    simp
end DS
namespace DS
theorem itR1_ok {a : Ex} {s s1 : S} {j : Int} {n : Nat} (h : a s = .ok (.int j) s1) (c1 : -(2 ^ 62) ≤ j) (c2 : j < 2 ^ 62) (hn : j.toNat = n) : itR1 a s = .ok (upTo 0 n) s1 := by
  unfold itR1
  rw [h]
  subst hn
  simp only [R.bind_ok]
  rw [if_pos]
  rw [Bool.and_eq_true, decide_eq_true_eq, decide_eq_true_eq]
  exact ⟨c1, c2⟩
theorem itR2_ok {a b : Ex} {s s1 s2 : S} {i j : Int} {n : Nat} (h : a s = .ok (.int i) s1) (h' : b s1 = .ok (.int j) s2) (c1 : -(2 ^ 62) ≤ i) (c2 : i < 2 ^ 62) (c3 : -(2 ^ 62) ≤ j) (c4 : j < 2 ^ 62) (hn : (j - i).toNat = n) : itR2 a b s = .ok (upTo i n) s2 := by
  unfold itR2
  rw [h]
  simp only [R.bind_ok]
  rw [h']
  subst hn
  simp only [R.bind_ok]
  rw [if_pos]
  simp only [Bool.and_eq_true, decide_eq_true_eq]
  exact ⟨⟨⟨c1, c2⟩, c3⟩, c4⟩
theorem seqIx {r : Int} {n : Nat} (h0 : 0 ≤ r) (h1 : r < n) : PySem.seqIndex? r n = some r.toNat := by
  unfold PySem.seqIndex?
  simp [show ¬ r < 0 by omega, h0, h1]
theorem popAt_ok {xs ys : List D} {r : Int} {d : D} (h0 : 0 ≤ r) (h1 : r < xs.length) (h2 : xs.length < 1000) (hd : xs[r.toNat]? = some d) (he : xs.eraseIdx r.toNat = ys) : DS.popAtF xs [.int r] = some (d, ys) := by
  unfold DS.popAtF
  simp only [seqIx h0 h1, Option.bind_some, hd, Option.map_some, he]
  rw [if_pos]
  simp only [Bool.and_eq_true, decide_eq_true_eq]
  omega
end DS
/-! the defs of the text, over data -/
namespace L30
open PySem PySem.Spec PyProof.Rows L2 DS
def topS (i : Nat) : Stmt := PySem.Challenge.pw_spottedsheets_k30_main_shares_kinds_and.main.body.getD i (.Pass ⟨0, 0, 0, 0⟩)
abbrev N__law_box : List Str := ["script", "k", "bit_so"]
noncomputable def B__law_box : Sm := (sqS (setS 2 (ifE (asB (op2 ltD (oS 1) (oV (op1 lenD (oS 0))))) (op2 ixD (oS 0) (oS 1)) (cst (.int 0)))) (retS (shr (lstE [(op2 mulD (oV (op1 absD (oS 2))) (oV (op1 intD (oV (op2 geD (oV (op1 absD (oS 2))) (oV (op2 powD (oV (cst (.int 10))) (oV (cst (.int 18)))))))))), (op2 addD (oV (op2 addD (oV (op2 modD (oV (op1 intD (oS 2))) (oV (cst (.int 2305843009213693951))))) (oV (op2 mulD (oV (cst (.int 39373))) (oS 1))))) (oV (cst (.int 251700)))), (cst (.int 0))]))))
noncomputable def F__law_box : Fn := fnOf 3 B__law_box
abbrev N__law_same : List Str := ["got", "due", "mine", "its"]
noncomputable def B__law_same (F__law_same : Nat → Fn) (n : Nat) : Sm := (sqS (ifS (truT (oV (op1 (isiD [.lst, .tup]) (oS 1)))) (sqS (ifS (orT (asB (op2 neD (oV (op1 (isiD [.lst]) (oS 0))) (oV (op1 (isiD [.lst]) (oS 1))))) (asB (op2 neD (oV (op1 (isiD [.tup]) (oS 0))) (oV (op1 (isiD [.tup]) (oS 1)))))) (retS (cst (.bl false))) nxS) (retS (andE (op2 eqD (oV (op1 lenD (oS 0))) (oV (op1 lenD (oS 1)))) (op1 allD (oV (ofL (lcE (itZ (var 0) (var 1)) (gT 2 (gsC (gN 2) (gsC (gN 3) gsN))) [2, 3] yesT (callE (F__law_same n) [(var 2), (var 3)])))))))) nxS) (sqS (ifS (asB (op2 isN (oS 1) (oV (cst .non)))) (retS (op2 isN (oS 0) (oV (cst .non)))) nxS) (sqS (ifS (truT (oV (op1 (isiD [.bl, .str]) (oS 1)))) (retS (andE (op2 eqD (oV (op1 (isiD [.bl]) (oS 0))) (oV (op1 (isiD [.bl]) (oS 1)))) (andE (op2 eqD (oV (op1 (isiD [.str]) (oS 0))) (oV (op1 (isiD [.str]) (oS 1)))) (op2 eqD (oS 0) (oS 1))))) nxS) (retS (andE (op1 (isiD [.int]) (oS 0)) (andE (notE (op1 (isiD [.bl]) (oS 0))) (op2 eqD (oS 0) (oS 1))))))))
noncomputable def F__law_same : Nat → Fn
  | 0 => fun _ _ => .bad
  | n + 1 => fnOf 4 (B__law_same (fun _ => F__law_same n) n)
theorem F__law_same_s (n : Nat) : F__law_same (n + 1) = fnOf (N__law_same).length (B__law_same (fun _ => F__law_same n) n) := rfl
abbrev N__law_cells : List Str := ["script", "most_so", "cells_so", "k", "bit_so", "at_so"]
noncomputable def B__law_cells : Sm := (sqS (setL 2 (orL (op1L listL (oV (sl (oS 0) none (some (var 1))))) (lstE [(cst (.int 0))]))) (sqS (forS (itE (sl (oS 0) (some (var 1)) (some (cst (.int 63))))) (gT 2 (gsC (gN 3) (gsC (gN 4) gsN))) (sqS (setS 5 (op2 modD (oV (op1 intD (oS 3))) (oS 1))) (setIx (op2 addD (oV (op2 ixD (oS 2) (oS 5))) (oV (op2 mulD (oS 4) (oV (op2 addD (oS 3) (oV (cst (.int 2)))))))) (oS 2) (var 5)))) (retS (var 2))))
noncomputable def F__law_cells : Fn := fnOf 6 B__law_cells
abbrev N__law_common : List Str := ["one_so", "two", "near", "far"]
noncomputable def B__law_common : Sm := (sqS (par2 2 3 (.v (op1 absD (oS 0))) (.v (op1 absD (oS 1)))) (sqS (whlS (asB (op2 neD (oS 3) (oV (cst (.int 0))))) (par2 2 3 (.v (var 3)) (.v (op2 modD (oS 2) (oS 3))))) (retS (var 2))))
noncomputable def F__law_common : Fn := fnOf 4 B__law_common
abbrev N__law_slim : List Str := ["over", "under", "shared_so"]
noncomputable def B__law_slim : Sm := (sqS (setS 2 (callE F__law_common [(var 0), (var 1)])) (retS (tupE [(op2 divD (oS 0) (oS 2)), (op2 divD (oS 1) (oS 2))])))
noncomputable def F__law_slim : Fn := fnOf 3 B__law_slim
abbrev N__law_share : List Str := ["sheet_so", "under", "own", "over"]
noncomputable def B__law_share : Sm := (sqS (setS 1 (cst (.int 1))) (sqS (forS (itA (op2 ixD (oS 0) (oV (cst (.int 1))))) (gN 2) (setS 1 (ifE (asB (op2 gtD (oS 2) (oV (cst (.int 0))))) (op2 mulD (oS 1) (oS 2)) (var 1)))) (sqS (setS 3 (op2 addD (oV (op2 mulD (oV (op2 subD (oV (op2 subD (oV (cst (.int 2))) (oV (op2 mulD (oV (cst (.int 2))) (oV (op2 ixD (oS 0) (oV (cst (.int 0))))))))) (oV (op1 lenD (oV (op2 ixD (oS 0) (oV (cst (.int 1))))))))) (oS 1))) (oV (op1 sumD (oV (ofL (lcE (itA (op2 ixD (oS 0) (oV (cst (.int 1))))) (gN 2) [2] (asB (op2 gtD (oS 2) (oV (cst (.int 0))))) (op2 divD (oS 1) (oS 2))))))))) (retS (callE F__law_slim [(var 3), (var 1)])))))
noncomputable def F__law_share : Fn := fnOf 4 B__law_share
abbrev N__law_odd : List Str := ["sheet_so"]
noncomputable def B__law_odd : Sm := (retS (andE (op2 eqD (oV (op2 ixD (oS 0) (oV (cst (.int 0))))) (oV (cst (.int 0)))) (orE (op2 eqD (oV (op1 lenD (oV (op2 ixD (oS 0) (oV (cst (.int 1))))))) (oV (cst (.int 1)))) (andE (op2 eqD (oV (op1 lenD (oV (op2 ixD (oS 0) (oV (cst (.int 1))))))) (oV (cst (.int 2)))) (op2 neD (oV (op2 ixD (oV (op2 ixD (oS 0) (oV (cst (.int 1))))) (oV (cst (.int 0))))) (oV (op2 ixD (oV (op2 ixD (oS 0) (oV (cst (.int 1))))) (oV (cst (.int 1))))))))))
noncomputable def F__law_odd : Fn := fnOf 1 B__law_odd
abbrev N_is_odd_in : List Str := ["sheet"]
noncomputable def B_is_odd_in : Sm := (sqS (ifS (asB (op2 gtD (oV (op2 ixD (oS 0) (oV (cst (.int 0))))) (oV (cst (.int 0))))) (retS (cst (.bl false))) nxS) (retS (orE (op2 eqD (oV (op1 lenD (oV (op2 ixD (oS 0) (oV (cst (.int 1))))))) (oV (cst (.int 1)))) (andE (op2 eqD (oV (op1 lenD (oV (op2 ixD (oS 0) (oV (cst (.int 1))))))) (oV (cst (.int 2)))) (op2 neD (oV (op2 ixD (oV (op2 ixD (oS 0) (oV (cst (.int 1))))) (oV (cst (.int 0))))) (oV (op2 ixD (oV (op2 ixD (oS 0) (oV (cst (.int 1))))) (oV (cst (.int 1))))))))))
noncomputable def F_is_odd_in : Fn := fnOf 1 B_is_odd_in
abbrev N_common : List Str := ["one", "other"]
noncomputable def B_common : Sm := (sqS (par2 0 1 (.v (op1 absD (oS 0))) (.v (op1 absD (oS 1)))) (sqS (whlS (asB (op2 neD (oS 1) (oV (cst (.int 0))))) (par2 0 1 (.v (var 1)) (.v (op2 modD (oS 0) (oS 1))))) (retS (var 0))))
noncomputable def F_common : Fn := fnOf 2 B_common
abbrev N_lowest : List Str := ["over", "under", "shared"]
noncomputable def B_lowest : Sm := (sqS (setS 2 (callE F_common [(var 0), (var 1)])) (retS (tupE [(op2 divD (oS 0) (oS 2)), (op2 divD (oS 1) (oS 2))])))
noncomputable def F_lowest : Fn := fnOf 3 B_lowest
abbrev N_least_multiple : List Str := ["one", "other"]
noncomputable def B_least_multiple : Sm := (retS (op2 mulD (oV (op2 divD (oS 0) (oV (callE F_common [(var 0), (var 1)])))) (oS 1)))
noncomputable def F_least_multiple : Fn := fnOf 2 B_least_multiple
abbrev N_share_in : List Str := ["sheet", "under", "own", "over"]
noncomputable def B_share_in : Sm := (sqS (setS 1 (cst (.int 1))) (sqS (forS (itA (op2 ixD (oS 0) (oV (cst (.int 1))))) (gN 2) (setS 1 (ifE (asB (op2 gtD (oS 2) (oV (cst (.int 0))))) (callE F_least_multiple [(var 1), (var 2)]) (var 1)))) (sqS (setS 3 (op2 mulD (oV (op2 subD (oV (cst (.int 2))) (oV (op2 mulD (oV (cst (.int 2))) (oV (op2 ixD (oS 0) (oV (cst (.int 0))))))))) (oS 1))) (sqS (forS (itA (op2 ixD (oS 0) (oV (cst (.int 1))))) (gN 2) (setS 3 (op2 addD (oV (op2 subD (oS 3) (oS 1))) (oV (ifE (asB (op2 gtD (oS 2) (oV (cst (.int 0))))) (op2 divD (oS 1) (oS 2)) (cst (.int 0))))))) (retS (callE F_lowest [(var 3), (var 1)]))))))
noncomputable def F_share_in : Fn := fnOf 4 B_share_in
abbrev N_size_in : List Str := ["sheet", "over", "under"]
noncomputable def B_size_in : Sm := (sqS (ifS (truT (oV (callE F_is_odd_in [(var 0)]))) (retS (ifE (asB (op2 eqD (oV (op1 lenD (oV (op2 ixD (oS 0) (oV (cst (.int 1))))))) (oV (cst (.int 1))))) (cst (.int 1)) (callE F_common [(op2 ixD (oV (op2 ixD (oS 0) (oV (cst (.int 1))))) (oV (cst (.int 0)))), (op2 ixD (oV (op2 ixD (oS 0) (oV (cst (.int 1))))) (oV (cst (.int 1))))]))) nxS) (sqS (asgS (callE F_share_in [(var 0)]) (gT 2 (gsC (gN 1) (gsC (gN 2) gsN)))) (retS (ifE (asB (op2 gtD (oS 1) (oV (cst (.int 0))))) (op2 divD (oV (op2 mulD (oV (cst (.int 2))) (oS 2))) (oS 1)) (cst .non)))))
noncomputable def F_size_in : Fn := fnOf 3 B_size_in
abbrev N_tupled : List Str := ["value", "own"]
noncomputable def B_tupled (F_tupled : Nat → Fn) (n : Nat) : Sm := (retS (ifE (truT (oV (op1 (isiD [.lst, .tup]) (oS 0)))) (op1 tupleD (oV (ofL (lcE (itA (var 0)) (gN 1) [1] yesT (callE (F_tupled n) [(var 1)]))))) (var 0)))
noncomputable def F_tupled : Nat → Fn
  | 0 => fun _ _ => .bad
  | n + 1 => fnOf 2 (B_tupled (fun _ => F_tupled n) n)
theorem F_tupled_s (n : Nat) : F_tupled (n + 1) = fnOf (N_tupled).length (B_tupled (fun _ => F_tupled n) n) := rfl
abbrev N_is_long : List Str := ["thing", "length"]
noncomputable def B_is_long : Sm := (retS (andE (op1 (isiD [.tup]) (oS 0)) (op2 eqD (oV (op1 lenD (oS 0))) (oS 1))))
noncomputable def F_is_long : Fn := fnOf 2 B_is_long
abbrev N_is_number : List Str := ["thing"]
noncomputable def B_is_number : Sm := (retS (andE (op1 (isiD [.int]) (oS 0)) (notE (op1 (isiD [.bl]) (oS 0)))))
noncomputable def F_is_number : Fn := fnOf 1 B_is_number
abbrev N_is_within : List Str := ["thing", "least", "most"]
noncomputable def B_is_within : Sm := (retS (andE (callE F_is_number [(var 0)]) (chn leD leD (oS 1) (oS 0) (oS 2))))
noncomputable def F_is_within : Fn := fnOf 3 B_is_within
abbrev N_is_turn : List Str := ["thing"]
noncomputable def B_is_turn : Sm := (retS (andE (callE F_is_within [(var 0), (cst (.int 0)), (cst (.int 12))]) (op2 neD (oS 0) (oV (cst (.int 1))))))
noncomputable def F_is_turn : Fn := fnOf 1 B_is_turn
abbrev N_is_sheet : List Str := ["thing", "own"]
noncomputable def B_is_sheet : Sm := (sqS (ifS (orT (notT (truT (oV (callE F_is_long [(var 0), (cst (.int 2))])))) (orT (notT (truT (oV (callE F_is_within [(op2 ixD (oS 0) (oV (cst (.int 0)))), (cst (.int 0)), (cst (.int 5))])))) (notT (truT (oV (op1 (isiD [.tup]) (oV (op2 ixD (oS 0) (oV (cst (.int 1))))))))))) (retS (cst (.bl false))) nxS) (retS (andE (op2 leD (oV (op1 lenD (oV (op2 ixD (oS 0) (oV (cst (.int 1))))))) (oV (cst (.int 8)))) (op1 allD (oV (ofL (lcE (itA (op2 ixD (oS 0) (oV (cst (.int 1))))) (gN 1) [1] yesT (callE F_is_turn [(var 1)]))))))))
noncomputable def F_is_sheet : Fn := fnOf 2 B_is_sheet
abbrev N_sure_sheet : List Str := ["value", "own"]
noncomputable def B_sure_sheet : Sm := (sqS (setS 1 (callE (F_tupled 8) [(var 0)])) (sqS (ifS (notT (truT (oV (callE F_is_sheet [(var 1)])))) badS nxS) (retS (var 1))))
noncomputable def F_sure_sheet : Fn := fnOf 2 B_sure_sheet
abbrev N_sheet_size : List Str := ["sheet"]
noncomputable def B_sheet_size : Sm := (retS (callE F_size_in [(callE F_sure_sheet [(var 0)])]))
noncomputable def F_sheet_size : Fn := fnOf 1 B_sheet_size
abbrev N_sheet_kind_in : List Str := ["sheet", "over"]
noncomputable def B_sheet_kind_in : Sm := (sqS (ifS (truT (oV (callE F_is_odd_in [(var 0)]))) (retS (cst (.str "odd"))) nxS) (sqS (setS 1 (op2 ixD (oV (callE F_share_in [(var 0)])) (oV (cst (.int 0))))) (retS (ifE (asB (op2 gtD (oS 1) (oV (cst (.int 0))))) (cst (.str "finite")) (ifE (asB (op2 eqD (oS 1) (oV (cst (.int 0))))) (cst (.str "flat")) (cst (.str "bent")))))))
noncomputable def F_sheet_kind_in : Fn := fnOf 2 B_sheet_kind_in
abbrev N_sheet_kind : List Str := ["sheet"]
noncomputable def B_sheet_kind : Sm := (retS (callE F_sheet_kind_in [(callE F_sure_sheet [(var 0)])]))
noncomputable def F_sheet_kind : Fn := fnOf 1 B_sheet_kind
abbrev N__law_take : List Str := ["tin", "below_so", "once_so", "wide_so", "twice_so", "drawn_so"]
noncomputable def B__law_take : Sm := (sqS (ifS (asB (op2 gtD (oV (op2 ixD (oS 0) (oV (cst (.int 0))))) (oV (cst (.int 0))))) (sqS (setS 5 (op2 modD (oV (op1 intD (oV (op2 ixD (oS 0) (oV (cst (.int 0))))))) (oS 1))) (sqS (setIx (op2 divD (oV (op2 ixD (oS 0) (oV (cst (.int 0))))) (oS 1)) (oS 0) (cst (.int 0))) (retS (var 5)))) nxS) (sqS (setIx (op2 addD (oV (op2 ixD (oS 0) (oV (cst (.int 2))))) (oV (cst (.int 1)))) (oS 0) (cst (.int 2))) (sqS (setS 2 (op2 modD (oV (op1 intD (oV (op2 mulD (oV (op2 addD (oV (op2 ixD (oS 0) (oV (cst (.int 1))))) (oV (op2 mulD (oV (cst (.int 48271))) (oV (op2 ixD (oS 0) (oV (cst (.int 2))))))))) (oV (op2 addD (oV (cst (.int 39373))) (oV (op2 ixD (oS 0) (oV (cst (.int 2))))))))))) (oV (cst (.int 2147483647))))) (sqS (setS 3 (op2 addD (oV (op2 modD (oV (op1 intD (oS 2))) (oV (cst (.int 40009))))) (oV (cst (.int 7))))) (sqS (setS 4 (op2 modD (oV (op1 intD (oV (op2 mulD (oV (op2 addD (oV (op2 addD (oS 2) (oV (op2 ixD (oS 0) (oV (cst (.int 2))))))) (oV (op2 divD (oV (op2 ixD (oS 0) (oV (cst (.int 1))))) (oV (cst (.int 1000003))))))) (oS 3))))) (oV (cst (.int 2147483629))))) (retS (op2 modD (oV (op1 intD (oV (op2 divD (oV (op2 modD (oV (op1 intD (oV (op2 addD (oV (op2 mulD (oS 4) (oV (cst (.int 48271))))) (oS 2))))) (oV (cst (.int 2147483587))))) (oV (cst (.int 64))))))) (oS 1))))))))
noncomputable def F__law_take : Fn := fnOf 6 B__law_take
abbrev N__law_of : List Str := ["tin", "goods_so"]
noncomputable def B__law_of : Sm := (retS (op2 ixD (oS 1) (oV (callE F__law_take [(var 0), (op1 lenD (oS 1))]))))
noncomputable def F__law_of : Fn := fnOf 2 B__law_of
abbrev N__law_turn : List Str := ["tin", "most_so"]
noncomputable def B__law_turn : Sm := (retS (callE F__law_of [(var 0), (ofL (lstE [(cst (.int 0)), (op2 addD (oV (cst (.int 2))) (oV (callE F__law_take [(var 0), (op2 subD (oS 1) (oV (cst (.int 1))))]))), (op2 addD (oV (cst (.int 2))) (oV (callE F__law_take [(var 0), (op2 subD (oS 1) (oV (cst (.int 1))))]))), (op2 addD (oV (cst (.int 2))) (oV (callE F__law_take [(var 0), (cst (.int 4))])))]))]))
noncomputable def F__law_turn : Fn := fnOf 2 B__law_turn
abbrev N__law_sheet : List Str := ["tin", "handles_so", "spots_so", "most_so", "k"]
noncomputable def B__law_sheet : Sm := (retS (tupE [(callE F__law_take [(var 0), (op2 addD (oS 1) (oV (cst (.int 1))))]), (op1 tupleD (oV (ofL (lcE (itR1 (callE F__law_take [(var 0), (op2 addD (oS 2) (oV (cst (.int 1))))])) (gN 4) [4] yesT (callE F__law_turn [(var 0), (var 3)])))))]))
noncomputable def F__law_sheet : Fn := fnOf 5 B__law_sheet
abbrev N_sheet_share : List Str := ["sheet"]
noncomputable def B_sheet_share : Sm := (retS (callE F_share_in [(callE F_sure_sheet [(var 0)])]))
noncomputable def F_sheet_share : Fn := fnOf 1 B_sheet_share
abbrev N__law_pick : List Str := ["tin", "goods_so", "count_so", "lap", "pool_so", "found"]
noncomputable def B__law_pick : Sm := (sqS (par2 4 5 (.l (op1L listL (oS 1))) (.l (lstE []))) (sqS (forS (itR1 (op2 minD (oV (op1 intD (oS 2))) (oV (op1 lenD (oS 4))))) (gN 3) (exprS (mutE (oS 5) [(mutE (oS 4) [(callE F__law_take [(var 0), (op1 lenD (oS 4))])] popAtF)] appF))) (retS (var 5))))
noncomputable def F__law_pick : Fn := fnOf 6 B__law_pick
abbrev N_are_like_sheets : List Str := ["one", "other", "near", "far"]
noncomputable def B_are_like_sheets : Sm := (sqS (par2 2 3 (.v (callE F_sure_sheet [(var 0)])) (.v (callE F_sure_sheet [(var 1)]))) (retS (andE (op2 eqD (oV (op2 ixD (oS 2) (oV (cst (.int 0))))) (oV (op2 ixD (oS 3) (oV (cst (.int 0)))))) (op2 eqD (oV (ofL (op1L sortedL (oV (op2 ixD (oS 2) (oV (cst (.int 1)))))))) (oV (ofL (op1L sortedL (oV (op2 ixD (oS 3) (oV (cst (.int 1))))))))))))
noncomputable def F_are_like_sheets : Fn := fnOf 4 B_are_like_sheets
abbrev N__law_lists : List Str := ["matter", "bit"]
noncomputable def B__law_lists (F__law_lists : Nat → Fn) (n : Nat) : Sm := (retS (ifE (truT (oV (op1 (isiD [.lst, .tup]) (oS 0)))) (ofL (lcE (itA (var 0)) (gN 1) [1] yesT (callE (F__law_lists n) [(var 1)]))) (var 0)))
noncomputable def F__law_lists : Nat → Fn
  | 0 => fun _ _ => .bad
  | n + 1 => fnOf 2 (B__law_lists (fun _ => F__law_lists n) n)
theorem F__law_lists_s (n : Nat) : F__law_lists (n + 1) = fnOf (N__law_lists).length (B__law_lists (fun _ => F__law_lists n) n) := rfl
abbrev N_law : List Str := ["script", "tin", "lap", "k", "got", "sheet_so", "odd", "kind_so", "size_so", "order_so", "over", "under"]
noncomputable def B_law : Sm := (sqS (setS 1 (callE F__law_box [(callE F__law_cells [(var 0), (cst (.int 1))]), (cst (.int 0))])) (sqS (forS (itR1 (cst (.int 6))) (gN 2) (sqS (setS 5 (ifE (asB (op2 eqD (oS 2) (oV (cst (.int 0))))) (tupE [(cst (.int 0)), (tupE [(cst (.int 2)), (cst (.int 3)), (cst (.int 7))])]) (callE F__law_sheet [(var 1), (cst (.int 5)), (cst (.int 8)), (cst (.int 12))]))) (sqS (ifS (asB (op2 eqD (oS 2) (oV (cst (.int 1))))) (setS 5 (tupE [(cst (.int 0)), (op1 tupleD (oV (ofL (lcE (itR1 (callE F__law_take [(var 1), (cst (.int 4))])) (gN 3) [3] yesT (callE F__law_turn [(var 1), (cst (.int 12))])))))])) nxS) (sqS (asgS (callE F__law_share [(var 5)]) (gT 2 (gsC (gN 10) (gsC (gN 11) gsN)))) (sqS (setS 6 (callE F__law_odd [(var 5)])) (sqS (setS 7 (ifE (truT (oS 6)) (cst (.str "odd")) (ifE (asB (op2 gtD (oS 10) (oV (cst (.int 0))))) (cst (.str "finite")) (ifE (asB (op2 eqD (oS 10) (oV (cst (.int 0))))) (cst (.str "flat")) (cst (.str "bent")))))) (sqS (setS 8 (ifE (asB (op2 gtD (oS 10) (oV (cst (.int 0))))) (op2 divD (oV (op2 mulD (oV (cst (.int 2))) (oS 11))) (oS 10)) (cst .non))) (sqS (ifS (truT (oS 6)) (setS 8 (ifE (asB (op2 eqD (oV (op1 lenD (oV (op2 ixD (oS 5) (oV (cst (.int 1))))))) (oV (cst (.int 1))))) (cst (.int 1)) (callE F__law_common [(op2 ixD (oV (op2 ixD (oS 5) (oV (cst (.int 1))))) (oV (cst (.int 0)))), (op2 ixD (oV (op2 ixD (oS 5) (oV (cst (.int 1))))) (oV (cst (.int 1))))]))) nxS) (sqS (setS 4 (ofL (lstE [(callKE F_is_sheet (gId 0 1) [] [(var 5)]), (callKE F_sheet_share (gId 0 1) [] [(callE (F__law_lists 8) [(var 5)])]), (callKE F_sheet_kind (gId 0 1) [] [(var 5)]), (callKE F_sheet_size (gId 0 1) [] [(var 5)])]))) (sqS (ifS (notT (truT (oV (callE (F__law_same 8) [(var 4), (ofL (lstE [(cst (.bl true)), (tupE [(var 10), (var 11)]), (var 7), (var 8)]))])))) (retS (cst (.bl false))) nxS) (sqS (setS 9 (op1 tupleD (oV (callE F__law_pick [(var 1), (ofL (op1L listL (oV (op2 ixD (oS 5) (oV (cst (.int 1))))))), (op1 lenD (oV (op2 ixD (oS 5) (oV (cst (.int 1))))))])))) (sqS (setS 4 (ofL (lstE [(callE F_sheet_share [(tupE [(op2 ixD (oS 5) (oV (cst (.int 0)))), (var 9)])]), (callKE F_are_like_sheets (gId 0 2) [] [(var 5), (tupE [(op2 ixD (oS 5) (oV (cst (.int 0)))), (var 9)])]), (callE F_sheet_size [(tupE [(op2 ixD (oS 5) (oV (cst (.int 0)))), (var 9)])])]))) (sqS (ifS (notT (truT (oV (callE (F__law_same 8) [(var 4), (ofL (lstE [(tupE [(var 10), (var 11)]), (cst (.bl true)), (var 8)]))])))) (retS (cst (.bl false))) nxS) (sqS (ifS (andT (asB (op2 ltD (oV (op2 ixD (oS 5) (oV (cst (.int 0))))) (oV (cst (.int 5))))) (notT (truT (oV (callE (F__law_same 8) [(ofL (lstE [(callE F_sheet_share [(tupE [(op2 addD (oV (op2 ixD (oS 5) (oV (cst (.int 0))))) (oV (cst (.int 1)))), (var 9)])]), (callE F_are_like_sheets [(var 5), (tupE [(op2 addD (oV (op2 ixD (oS 5) (oV (cst (.int 0))))) (oV (cst (.int 1)))), (var 9)])])])), (ofL (lstE [(tupE [(op2 subD (oS 10) (oV (op2 mulD (oV (cst (.int 2))) (oS 11)))), (var 11)]), (cst (.bl false))]))]))))) (retS (cst (.bl false))) nxS) (ifS (asB (op2 ltD (oV (op1 lenD (oS 9))) (oV (cst (.int 8))))) (sqS (setS 3 (op2 addD (oV (cst (.int 2))) (oV (callE F__law_take [(var 1), (cst (.int 11))])))) (ifS (notT (truT (oV (callE (F__law_same 8) [(ofL (lstE [(callE F_sheet_share [(tupE [(op2 ixD (oS 5) (oV (cst (.int 0)))), (op2 addD (oS 9) (oV (tupE [(var 3)])))])]), (callE F_sheet_share [(tupE [(op2 ixD (oS 5) (oV (cst (.int 0)))), (op2 addD (oV (tupE [(cst (.int 0))])) (oS 9))])])])), (ofL (lstE [(callE F__law_slim [(op2 subD (oV (op2 mulD (oS 10) (oS 3))) (oV (op2 mulD (oS 11) (oV (op2 subD (oS 3) (oV (cst (.int 1)))))))), (op2 mulD (oS 11) (oS 3))]), (tupE [(op2 subD (oS 10) (oS 11)), (var 11)])]))])))) (retS (cst (.bl false))) nxS)) nxS))))))))))))))) (sqS (forS (itR2 (cst (.int 2)) (cst (.int 13))) (gN 3) (ifS (notT (truT (oV (callE (F__law_same 8) [(ofL (lstE [(callE F_sheet_size [(tupE [(cst (.int 0)), (tupE [(cst (.int 2)), (var 3), (cst (.int 2))])])]), (callE F_sheet_size [(tupE [(cst (.int 0)), (tupE [(var 3), (var 3)])])]), (callE F_sheet_kind [(tupE [(cst (.int 0)), (tupE [(var 3), (cst (.int 2)), (cst (.int 2))])])])])), (ofL (lstE [(op2 mulD (oV (cst (.int 2))) (oS 3)), (var 3), (cst (.str "finite"))]))])))) (retS (cst (.bl false))) nxS)) (sqS (setS 4 (ofL (lstE [(callE F_sheet_size [(tupE [(cst (.int 0)), (tupE [(cst (.int 3)), (cst (.int 2)), (cst (.int 3))])])]), (callE F_sheet_size [(tupE [(cst (.int 0)), (tupE [(cst (.int 4)), (cst (.int 3)), (cst (.int 2))])])]), (callE F_sheet_size [(tupE [(cst (.int 0)), (tupE [(cst (.int 2)), (cst (.int 5)), (cst (.int 3))])])]), (callE F_sheet_size [(tupE [(cst (.int 0)), (tupE [])])]), (callE F_sheet_size [(tupE [(cst (.int 0)), (tupE [(cst (.int 7))])])]), (callE F_sheet_kind [(tupE [(cst (.int 0)), (tupE [(cst (.int 2)), (cst (.int 3)), (cst (.int 6))])])]), (callE F_sheet_kind [(tupE [(cst (.int 0)), (tupE [(cst (.int 0)), (cst (.int 0))])])]), (callE F_sheet_size [(tupE [(cst (.int 0)), (tupE [(cst (.int 0)), (cst (.int 9))])])])]))) (retS (callE (F__law_same 8) [(var 4), (ofL (lstE [(cst (.int 12)), (cst (.int 24)), (cst (.int 60)), (cst (.int 1)), (cst (.int 1)), (cst (.str "flat")), (cst (.str "flat")), (cst (.int 9))]))]))))))
noncomputable def F_law : Fn := fnOf 12 B_law
end L30
/-! the walk: each def is as told -/
namespace L30
open PySem PySem.Spec PyProof.Rows L2 DS
structure Gz (mg : Str → Option Value) : Prop where
  g_abs : mg "abs" = none
  g_all : mg "all" = none
  g_bool : mg "bool" = none
  g_enumerate : mg "enumerate" = none
  g_int : mg "int" = none
  g_isinstance : mg "isinstance" = none
  g_len : mg "len" = none
  g_list : mg "list" = none
  g_min : mg "min" = none
  g_range : mg "range" = none
  g_sorted : mg "sorted" = none
  g_str : mg "str" = none
  g_sum : mg "sum" = none
  g_tuple : mg "tuple" = none
  g_zip : mg "zip" = none
  c_MOST_HANDLES : ∃ t, mg "MOST_HANDLES" = some (.int 5 t)
  c_MOST_SPOTS : ∃ t, mg "MOST_SPOTS" = some (.int 8 t)
  c_MOST_TURN : ∃ t, mg "MOST_TURN" = some (.int 12 t)
abbrev s__law_box : Stmt := topS 26
theorem sc__law_box : FnScope N__law_box ["script", "k"] (defScope s__law_box) := ⟨rfl, rfl, rfl, by decide +kernel, rfl, by decide +kernel, by decide +kernel⟩
theorem ok__law_box {P : Program} {w : World} {K : PySem.W.Frag} {mg : Str → Option Value} {base : Heap} (z : Gz mg)  {f : Addr} {fd : FuncData} (Fu : L2.Fun K "_law_box" "_law_box" s__law_box f fd) : FnOk P w K mg base (L2.CX P w) 1 f fd ["script", "k"] (spF ⟨K, mg⟩ 2 F__law_box) :=
  fnk (k := 0) (ps := ["script", "k"]) (N := N__law_box) (body := B__law_box) Fu sc__law_box fun cdv A outer s H E C =>
    (s_cons (s_set C 2 (e_if (b_cmp op_lt v_lt (o_slot 1) (o_val (e_len C (o_slot 0) z.g_len))) (e_ix C.hK (o_slot 0) (o_slot 1)) e_int))
    (s_one (s_ret (e_shr (l_lst (a_cons (e_mul C.hK (o_val (e_abs C (o_slot 2) z.g_abs)) (o_val (e_int1 C (o_val (e_cmp op_ge v_ge (o_val (e_abs C (o_slot 2) z.g_abs)) (o_val (e_pow (o_val e_int) (o_val e_int))))) z.g_int))) (a_cons (e_add C.hK (o_val (e_add C.hK (o_val (e_mod (o_val (e_int1 C (o_slot 2) z.g_int)) (o_val e_int))) (o_val (e_mul C.hK (o_val e_int) (o_slot 1))))) (o_val e_int)) (a_cons e_int a_nil))))))))
theorem bi__law_box (kV doc pm : Value) (an : Option Addr) (cdv ct : Value) (us : List Value) (hl : us.length = (["script", "k"] : List Str).length) : bindArgs (PySem.W.fnOf "_law_box" "_law_box" (defArgs s__law_box) (defBody s__law_box) (defScope s__law_box) .none kV doc pm an cdv ct) ⟨us, []⟩ = pure ((["script", "k"] : List Str).zip us) := match us, hl with | [_, _], _ => rfl
abbrev s__law_same : Stmt := topS 32
theorem sc__law_same : FnScope N__law_same ["got", "due"] (defScope s__law_same) := ⟨rfl, rfl, rfl, by decide +kernel, rfl, by decide +kernel, by decide +kernel⟩
theorem st__law_same {P : Program} {w : World} {K : PySem.W.Frag} {mg : Str → Option Value} {base : Heap} (z : Gz mg)  {f : Addr} {fd : FuncData} (Fu : L2.Fun K "_law_same" "_law_same" s__law_same f fd) (hm : mg "_law_same" = some (.ref f)) (n : Nat) (ih : FnR ⟨K, mg⟩ P w base "_law_same" s__law_same (0 + n) ["got", "due"] (F__law_same n)) : FnR ⟨K, mg⟩ P w base "_law_same" s__law_same (0 + n + 1) ["got", "due"] (F__law_same (n + 1)) :=
  F__law_same_s n ▸ fnr (k := 0 + n) (body := B__law_same (fun _ => F__law_same n) n) Fu hm sc__law_same (fun _ _ _ _ _ _ us hl => match us, hl with | [_, _], _ => rfl) fun cdv A outer s H E C =>
    (s_cons (s_if (b_tru C (o_val (e_isiT C (o_slot 1) (ty_cons (t := .lst) z.g_list (ty_cons (t := .tup) z.g_tuple ty_nil)) z.g_isinstance))) (s_cons (s_if (PW.pt (w_or (b_cmp (op_neD C.rm.units) (v_ne C.hK) (o_val (e_isi C (o_slot 0) (ty_cons (t := .lst) z.g_list ty_nil) z.g_isinstance)) (o_val (e_isi C (o_slot 1) (ty_cons (t := .lst) z.g_list ty_nil) z.g_isinstance))) (pw_or1 (b_cmp (op_neD C.rm.units) (v_ne C.hK) (o_val (e_isi C (o_slot 0) (ty_cons (t := .tup) z.g_tuple ty_nil) z.g_isinstance)) (o_val (e_isi C (o_slot 1) (ty_cons (t := .tup) z.g_tuple ty_nil) z.g_isinstance)))))) (s_one (s_ret e_bl)) s_nil)
    (s_one (s_ret (e_and (e_cmp (op_eqD C.rm.units) (v_eq C.hK) (o_val (e_len C (o_slot 0) z.g_len)) (o_val (e_len C (o_slot 1) z.g_len))) (pe_one (e_all C (o_val (e_ofL (l_lcN (N := N__law_same) (sc := (defScope s__law_same)) (own := [("mine", 2), ("its", 3)]) C rfl (i_zip C z.g_zip (e_var 0) (e_var 1)) rfl rfl ⟨rfl, by decide +kernel, by decide +kernel, by decide +kernel, by decide +kernel⟩ (fun s H A cl fp => (g_tup C.hc C.hK (gs_cons (g_name 2 C.nd) (gs_cons (g_name 3 C.nd) gs_nil)))) (fun s H A cl fp C => ts_nil) (fun s H A cl fp C => (e_call C ih (a_cons (e_var 2) (a_cons (e_var 3) a_nil)) (Nat.le_refl _)))))) z.g_all)))))) s_nil)
    (s_cons (s_if (b_cmp r_is v_is (o_slot 1) (o_val e_non)) (s_one (s_ret (e_cmp r_is v_is (o_slot 0) (o_val e_non)))) s_nil)
    (s_cons (s_if (b_tru C (o_val (e_isiT C (o_slot 1) (ty_cons (t := .bl) z.g_bool (ty_cons (t := .str) z.g_str ty_nil)) z.g_isinstance))) (s_one (s_ret (e_and (e_cmp (op_eqD C.rm.units) (v_eq C.hK) (o_val (e_isi C (o_slot 0) (ty_cons (t := .bl) z.g_bool ty_nil) z.g_isinstance)) (o_val (e_isi C (o_slot 1) (ty_cons (t := .bl) z.g_bool ty_nil) z.g_isinstance))) (e_and (e_cmp (op_eqD C.rm.units) (v_eq C.hK) (o_val (e_isi C (o_slot 0) (ty_cons (t := .str) z.g_str ty_nil) z.g_isinstance)) (o_val (e_isi C (o_slot 1) (ty_cons (t := .str) z.g_str ty_nil) z.g_isinstance))) (pe_one (e_cmp (op_eqD C.rm.units) (v_eq C.hK) (o_slot 0) (o_slot 1))))))) s_nil)
    (s_one (s_ret (e_and (e_isi C (o_slot 0) (ty_cons (t := .int) z.g_int ty_nil) z.g_isinstance) (e_and (e_not (e_isi C (o_slot 0) (ty_cons (t := .bl) z.g_bool ty_nil) z.g_isinstance)) (pe_one (e_cmp (op_eqD C.rm.units) (v_eq C.hK) (o_slot 0) (o_slot 1))))))))))
theorem ok__law_same {P : Program} {w : World} {K : PySem.W.Frag} {mg : Str → Option Value} {base : Heap} (z : Gz mg)  {f : Addr} {fd : FuncData} (Fu : L2.Fun K "_law_same" "_law_same" s__law_same f fd) (hm : mg "_law_same" = some (.ref f)) (n : Nat) : FnR ⟨K, mg⟩ P w base "_law_same" s__law_same (0 + n) ["got", "due"] (F__law_same n) := by
  induction n with
  | zero => exact fnr_bad Fu hm (fun _ _ _ _ _ _ us hl => match us, hl with | [_, _], _ => rfl)
  | succ n ih => exact st__law_same z  Fu hm n ih
abbrev s__law_cells : Stmt := topS 28
theorem sc__law_cells : FnScope N__law_cells ["script", "most_so"] (defScope s__law_cells) := ⟨rfl, rfl, rfl, by decide +kernel, rfl, by decide +kernel, by decide +kernel⟩
theorem ok__law_cells {P : Program} {w : World} {K : PySem.W.Frag} {mg : Str → Option Value} {base : Heap} (z : Gz mg)  {f : Addr} {fd : FuncData} (Fu : L2.Fun K "_law_cells" "_law_cells" s__law_cells f fd) : FnOk P w K mg base (L2.CX P w) 1 f fd ["script", "most_so"] (spF ⟨K, mg⟩ 2 F__law_cells) :=
  fnk (k := 0) (ps := ["script", "most_so"]) (N := N__law_cells) (body := B__law_cells) Fu sc__law_cells fun cdv A outer s H E C =>
    (s_cons (s_setL C 2 (l_or C (l_list1 C (o_val (e_sl C.hK (o_slot 0) p_none (p_some (e_var 1)))) z.g_list) (pe_one (l_lst (a_cons e_int a_nil)))))
    (s_cons (s_for (vs := [3, 4]) C (passes_of rfl) (i_enum C z.g_enumerate (e_sl C.hK (o_slot 0) (p_some (e_var 1)) (p_some e_int))) (g_tup C.hc C.hK (gs_cons (g_name 3 C.nd) (gs_cons (g_name 4 C.nd) gs_nil))) (s_cons (s_set C 5 (e_mod (o_val (e_int1 C (o_slot 3) z.g_int)) (o_slot 1)))
    (s_one (s_setIx (e_add C.hK (o_val (e_ix C.hK (o_slot 2) (o_slot 5))) (o_val (e_mul C.hK (o_slot 4) (o_val (e_add C.hK (o_slot 3) (o_val e_int)))))) (o_slot 2) (e_var 5)))))
    (s_one (s_ret (e_var 2)))))
theorem bi__law_cells (kV doc pm : Value) (an : Option Addr) (cdv ct : Value) (us : List Value) (hl : us.length = (["script", "most_so"] : List Str).length) : bindArgs (PySem.W.fnOf "_law_cells" "_law_cells" (defArgs s__law_cells) (defBody s__law_cells) (defScope s__law_cells) .none kV doc pm an cdv ct) ⟨us, []⟩ = pure ((["script", "most_so"] : List Str).zip us) := match us, hl with | [_, _], _ => rfl
abbrev s__law_common : Stmt := topS 33
theorem sc__law_common : FnScope N__law_common ["one_so", "two"] (defScope s__law_common) := ⟨rfl, rfl, rfl, by decide +kernel, rfl, by decide +kernel, by decide +kernel⟩
theorem ok__law_common {P : Program} {w : World} {K : PySem.W.Frag} {mg : Str → Option Value} {base : Heap} (z : Gz mg)  {f : Addr} {fd : FuncData} (Fu : L2.Fun K "_law_common" "_law_common" s__law_common f fd) : FnOk P w K mg base (L2.CX P w) 1 f fd ["one_so", "two"] (spF ⟨K, mg⟩ 2 F__law_common) :=
  fnk (k := 0) (ps := ["one_so", "two"]) (N := N__law_common) (body := B__law_common) Fu sc__law_common fun cdv A outer s H E C =>
    (s_cons (s_par C 2 3 (pc_v (e_abs C (o_slot 0) z.g_abs)) (pc_v (e_abs C (o_slot 1) z.g_abs)))
    (s_cons (s_whl C (passes_of rfl) (b_cmp (op_neD C.rm.units) (v_ne C.hK) (o_slot 3) (o_val e_int)) (s_one (s_par C 2 3 (pc_v (e_var 3)) (pc_v (e_mod (o_slot 2) (o_slot 3))))))
    (s_one (s_ret (e_var 2)))))
theorem bi__law_common (kV doc pm : Value) (an : Option Addr) (cdv ct : Value) (us : List Value) (hl : us.length = (["one_so", "two"] : List Str).length) : bindArgs (PySem.W.fnOf "_law_common" "_law_common" (defArgs s__law_common) (defBody s__law_common) (defScope s__law_common) .none kV doc pm an cdv ct) ⟨us, []⟩ = pure ((["one_so", "two"] : List Str).zip us) := match us, hl with | [_, _], _ => rfl
abbrev s__law_slim : Stmt := topS 34
theorem sc__law_slim : FnScope N__law_slim ["over", "under"] (defScope s__law_slim) := ⟨rfl, rfl, rfl, by decide +kernel, rfl, by decide +kernel, by decide +kernel⟩
theorem ok__law_slim {P : Program} {w : World} {K : PySem.W.Frag} {mg : Str → Option Value} {base : Heap} (z : Gz mg) (R__law_common : FnR ⟨K, mg⟩ P w base "_law_common" s__law_common 1 ["one_so", "two"] F__law_common) {f : Addr} {fd : FuncData} (Fu : L2.Fun K "_law_slim" "_law_slim" s__law_slim f fd) : FnOk P w K mg base (L2.CX P w) 2 f fd ["over", "under"] (spF ⟨K, mg⟩ 2 F__law_slim) :=
  fnk (k := 1) (ps := ["over", "under"]) (N := N__law_slim) (body := B__law_slim) Fu sc__law_slim fun cdv A outer s H E C =>
    (s_cons (s_set C 2 (e_call C R__law_common (a_cons (e_var 0) (a_cons (e_var 1) a_nil)) (by decide)))
    (s_one (s_ret (e_tup (a_cons (e_div (o_slot 0) (o_slot 2)) (a_cons (e_div (o_slot 1) (o_slot 2)) a_nil))))))
theorem bi__law_slim (kV doc pm : Value) (an : Option Addr) (cdv ct : Value) (us : List Value) (hl : us.length = (["over", "under"] : List Str).length) : bindArgs (PySem.W.fnOf "_law_slim" "_law_slim" (defArgs s__law_slim) (defBody s__law_slim) (defScope s__law_slim) .none kV doc pm an cdv ct) ⟨us, []⟩ = pure ((["over", "under"] : List Str).zip us) := match us, hl with | [_, _], _ => rfl
abbrev s__law_share : Stmt := topS 35
theorem sc__law_share : FnScope N__law_share ["sheet_so"] (defScope s__law_share) := ⟨rfl, rfl, rfl, by decide +kernel, rfl, by decide +kernel, by decide +kernel⟩
theorem ok__law_share {P : Program} {w : World} {K : PySem.W.Frag} {mg : Str → Option Value} {base : Heap} (z : Gz mg) (R__law_slim : FnR ⟨K, mg⟩ P w base "_law_slim" s__law_slim 2 ["over", "under"] F__law_slim) {f : Addr} {fd : FuncData} (Fu : L2.Fun K "_law_share" "_law_share" s__law_share f fd) : FnOk P w K mg base (L2.CX P w) 3 f fd ["sheet_so"] (spF ⟨K, mg⟩ 1 F__law_share) :=
  fnk (k := 2) (ps := ["sheet_so"]) (N := N__law_share) (body := B__law_share) Fu sc__law_share fun cdv A outer s H E C =>
    (s_cons (s_set C 1 e_int)
    (s_cons (s_for (vs := [2]) C (passes_of rfl) (i_any C (e_ix C.hK (o_slot 0) (o_val e_int))) (g_name 2 C.nd) (s_one (s_set C 1 (e_if (b_cmp op_gt v_gt (o_slot 2) (o_val e_int)) (e_mul C.hK (o_slot 1) (o_slot 2)) (e_var 1)))))
    (s_cons (s_set C 3 (e_add C.hK (o_val (e_mul C.hK (o_val (e_sub (o_val (e_sub (o_val e_int) (o_val (e_mul C.hK (o_val e_int) (o_val (e_ix C.hK (o_slot 0) (o_val e_int))))))) (o_val (e_len C (o_val (e_ix C.hK (o_slot 0) (o_val e_int))) z.g_len)))) (o_slot 1))) (o_val (e_sum C (o_val (e_ofL (l_lcN (N := N__law_share) (sc := (defScope s__law_share)) (own := [("own", 2)]) C rfl (i_any C (e_ix C.hK (o_slot 0) (o_val e_int))) rfl rfl ⟨rfl, by decide +kernel, by decide +kernel, by decide +kernel, by decide +kernel⟩ (fun s H A cl fp => (g_name 2 C.nd)) (fun s H A cl fp C => (ts_one (b_cmp op_gt v_gt (o_slot 2) (o_val e_int)))) (fun s H A cl fp C => (e_div (o_slot 1) (o_slot 2)))))) z.g_sum))))
    (s_one (s_ret (e_call C R__law_slim (a_cons (e_var 3) (a_cons (e_var 1) a_nil)) (by decide)))))))
theorem bi__law_share (kV doc pm : Value) (an : Option Addr) (cdv ct : Value) (us : List Value) (hl : us.length = (["sheet_so"] : List Str).length) : bindArgs (PySem.W.fnOf "_law_share" "_law_share" (defArgs s__law_share) (defBody s__law_share) (defScope s__law_share) .none kV doc pm an cdv ct) ⟨us, []⟩ = pure ((["sheet_so"] : List Str).zip us) := match us, hl with | [_], _ => rfl
abbrev s__law_odd : Stmt := topS 38
theorem sc__law_odd : FnScope N__law_odd ["sheet_so"] (defScope s__law_odd) := ⟨rfl, rfl, rfl, by decide +kernel, rfl, by decide +kernel, by decide +kernel⟩
theorem ok__law_odd {P : Program} {w : World} {K : PySem.W.Frag} {mg : Str → Option Value} {base : Heap} (z : Gz mg)  {f : Addr} {fd : FuncData} (Fu : L2.Fun K "_law_odd" "_law_odd" s__law_odd f fd) : FnOk P w K mg base (L2.CX P w) 1 f fd ["sheet_so"] (spF ⟨K, mg⟩ 1 F__law_odd) :=
  fnk (k := 0) (ps := ["sheet_so"]) (N := N__law_odd) (body := B__law_odd) Fu sc__law_odd fun cdv A outer s H E C =>
    (s_one (s_ret (e_and (e_cmp (op_eqD C.rm.units) (v_eq C.hK) (o_val (e_ix C.hK (o_slot 0) (o_val e_int))) (o_val e_int)) (pe_one (e_or (e_cmp (op_eqD C.rm.units) (v_eq C.hK) (o_val (e_len C (o_val (e_ix C.hK (o_slot 0) (o_val e_int))) z.g_len)) (o_val e_int)) (pe_one (e_and (e_cmp (op_eqD C.rm.units) (v_eq C.hK) (o_val (e_len C (o_val (e_ix C.hK (o_slot 0) (o_val e_int))) z.g_len)) (o_val e_int)) (pe_one (e_cmp (op_neD C.rm.units) (v_ne C.hK) (o_val (e_ix C.hK (o_val (e_ix C.hK (o_slot 0) (o_val e_int))) (o_val e_int))) (o_val (e_ix C.hK (o_val (e_ix C.hK (o_slot 0) (o_val e_int))) (o_val e_int))))))))))))
theorem bi__law_odd (kV doc pm : Value) (an : Option Addr) (cdv ct : Value) (us : List Value) (hl : us.length = (["sheet_so"] : List Str).length) : bindArgs (PySem.W.fnOf "_law_odd" "_law_odd" (defArgs s__law_odd) (defBody s__law_odd) (defScope s__law_odd) .none kV doc pm an cdv ct) ⟨us, []⟩ = pure ((["sheet_so"] : List Str).zip us) := match us, hl with | [_], _ => rfl
abbrev s_is_odd_in : Stmt := topS 19
theorem sc_is_odd_in : FnScope N_is_odd_in ["sheet"] (defScope s_is_odd_in) := ⟨rfl, rfl, rfl, by decide +kernel, rfl, by decide +kernel, by decide +kernel⟩
theorem ok_is_odd_in {P : Program} {w : World} {K : PySem.W.Frag} {mg : Str → Option Value} {base : Heap} (z : Gz mg)  {f : Addr} {fd : FuncData} (Fu : L2.Fun K "is_odd_in" "is_odd_in" s_is_odd_in f fd) : FnOk P w K mg base (L2.CX P w) 1 f fd ["sheet"] (spF ⟨K, mg⟩ 1 F_is_odd_in) :=
  fnk (k := 0) (ps := ["sheet"]) (N := N_is_odd_in) (body := B_is_odd_in) Fu sc_is_odd_in fun cdv A outer s H E C =>
    (s_cons (s_if (b_cmp op_gt v_gt (o_val (e_ix C.hK (o_slot 0) (o_val e_int))) (o_val e_int)) (s_one (s_ret e_bl)) s_nil)
    (s_one (s_ret (e_or (e_cmp (op_eqD C.rm.units) (v_eq C.hK) (o_val (e_len C (o_val (e_ix C.hK (o_slot 0) (o_val e_int))) z.g_len)) (o_val e_int)) (pe_one (e_and (e_cmp (op_eqD C.rm.units) (v_eq C.hK) (o_val (e_len C (o_val (e_ix C.hK (o_slot 0) (o_val e_int))) z.g_len)) (o_val e_int)) (pe_one (e_cmp (op_neD C.rm.units) (v_ne C.hK) (o_val (e_ix C.hK (o_val (e_ix C.hK (o_slot 0) (o_val e_int))) (o_val e_int))) (o_val (e_ix C.hK (o_val (e_ix C.hK (o_slot 0) (o_val e_int))) (o_val e_int)))))))))))
theorem bi_is_odd_in (kV doc pm : Value) (an : Option Addr) (cdv ct : Value) (us : List Value) (hl : us.length = (["sheet"] : List Str).length) : bindArgs (PySem.W.fnOf "is_odd_in" "is_odd_in" (defArgs s_is_odd_in) (defBody s_is_odd_in) (defScope s_is_odd_in) .none kV doc pm an cdv ct) ⟨us, []⟩ = pure ((["sheet"] : List Str).zip us) := match us, hl with | [_], _ => rfl
abbrev s_common : Stmt := topS 7
theorem sc_common : FnScope N_common ["one", "other"] (defScope s_common) := ⟨rfl, rfl, rfl, by decide +kernel, rfl, by decide +kernel, by decide +kernel⟩
theorem ok_common {P : Program} {w : World} {K : PySem.W.Frag} {mg : Str → Option Value} {base : Heap} (z : Gz mg)  {f : Addr} {fd : FuncData} (Fu : L2.Fun K "common" "common" s_common f fd) : FnOk P w K mg base (L2.CX P w) 1 f fd ["one", "other"] (spF ⟨K, mg⟩ 2 F_common) :=
  fnk (k := 0) (ps := ["one", "other"]) (N := N_common) (body := B_common) Fu sc_common fun cdv A outer s H E C =>
    (s_cons (s_par C 0 1 (pc_v (e_abs C (o_slot 0) z.g_abs)) (pc_v (e_abs C (o_slot 1) z.g_abs)))
    (s_cons (s_whl C (passes_of rfl) (b_cmp (op_neD C.rm.units) (v_ne C.hK) (o_slot 1) (o_val e_int)) (s_one (s_par C 0 1 (pc_v (e_var 1)) (pc_v (e_mod (o_slot 0) (o_slot 1))))))
    (s_one (s_ret (e_var 0)))))
theorem bi_common (kV doc pm : Value) (an : Option Addr) (cdv ct : Value) (us : List Value) (hl : us.length = (["one", "other"] : List Str).length) : bindArgs (PySem.W.fnOf "common" "common" (defArgs s_common) (defBody s_common) (defScope s_common) .none kV doc pm an cdv ct) ⟨us, []⟩ = pure ((["one", "other"] : List Str).zip us) := match us, hl with | [_, _], _ => rfl
abbrev s_lowest : Stmt := topS 16
theorem sc_lowest : FnScope N_lowest ["over", "under"] (defScope s_lowest) := ⟨rfl, rfl, rfl, by decide +kernel, rfl, by decide +kernel, by decide +kernel⟩
theorem ok_lowest {P : Program} {w : World} {K : PySem.W.Frag} {mg : Str → Option Value} {base : Heap} (z : Gz mg) (R_common : FnR ⟨K, mg⟩ P w base "common" s_common 1 ["one", "other"] F_common) {f : Addr} {fd : FuncData} (Fu : L2.Fun K "lowest" "lowest" s_lowest f fd) : FnOk P w K mg base (L2.CX P w) 2 f fd ["over", "under"] (spF ⟨K, mg⟩ 2 F_lowest) :=
  fnk (k := 1) (ps := ["over", "under"]) (N := N_lowest) (body := B_lowest) Fu sc_lowest fun cdv A outer s H E C =>
    (s_cons (s_set C 2 (e_call C R_common (a_cons (e_var 0) (a_cons (e_var 1) a_nil)) (by decide)))
    (s_one (s_ret (e_tup (a_cons (e_div (o_slot 0) (o_slot 2)) (a_cons (e_div (o_slot 1) (o_slot 2)) a_nil))))))
theorem bi_lowest (kV doc pm : Value) (an : Option Addr) (cdv ct : Value) (us : List Value) (hl : us.length = (["over", "under"] : List Str).length) : bindArgs (PySem.W.fnOf "lowest" "lowest" (defArgs s_lowest) (defBody s_lowest) (defScope s_lowest) .none kV doc pm an cdv ct) ⟨us, []⟩ = pure ((["over", "under"] : List Str).zip us) := match us, hl with | [_, _], _ => rfl
abbrev s_least_multiple : Stmt := topS 15
theorem sc_least_multiple : FnScope N_least_multiple ["one", "other"] (defScope s_least_multiple) := ⟨rfl, rfl, rfl, by decide +kernel, rfl, by decide +kernel, by decide +kernel⟩
theorem ok_least_multiple {P : Program} {w : World} {K : PySem.W.Frag} {mg : Str → Option Value} {base : Heap} (z : Gz mg) (R_common : FnR ⟨K, mg⟩ P w base "common" s_common 1 ["one", "other"] F_common) {f : Addr} {fd : FuncData} (Fu : L2.Fun K "least_multiple" "least_multiple" s_least_multiple f fd) : FnOk P w K mg base (L2.CX P w) 2 f fd ["one", "other"] (spF ⟨K, mg⟩ 2 F_least_multiple) :=
  fnk (k := 1) (ps := ["one", "other"]) (N := N_least_multiple) (body := B_least_multiple) Fu sc_least_multiple fun cdv A outer s H E C =>
    (s_one (s_ret (e_mul C.hK (o_val (e_div (o_slot 0) (o_val (e_call C R_common (a_cons (e_var 0) (a_cons (e_var 1) a_nil)) (by decide))))) (o_slot 1))))
theorem bi_least_multiple (kV doc pm : Value) (an : Option Addr) (cdv ct : Value) (us : List Value) (hl : us.length = (["one", "other"] : List Str).length) : bindArgs (PySem.W.fnOf "least_multiple" "least_multiple" (defArgs s_least_multiple) (defBody s_least_multiple) (defScope s_least_multiple) .none kV doc pm an cdv ct) ⟨us, []⟩ = pure ((["one", "other"] : List Str).zip us) := match us, hl with | [_, _], _ => rfl
abbrev s_share_in : Stmt := topS 17
theorem sc_share_in : FnScope N_share_in ["sheet"] (defScope s_share_in) := ⟨rfl, rfl, rfl, by decide +kernel, rfl, by decide +kernel, by decide +kernel⟩
theorem ok_share_in {P : Program} {w : World} {K : PySem.W.Frag} {mg : Str → Option Value} {base : Heap} (z : Gz mg) (R_lowest : FnR ⟨K, mg⟩ P w base "lowest" s_lowest 2 ["over", "under"] F_lowest) (R_least_multiple : FnR ⟨K, mg⟩ P w base "least_multiple" s_least_multiple 2 ["one", "other"] F_least_multiple) {f : Addr} {fd : FuncData} (Fu : L2.Fun K "share_in" "share_in" s_share_in f fd) : FnOk P w K mg base (L2.CX P w) 3 f fd ["sheet"] (spF ⟨K, mg⟩ 1 F_share_in) :=
  fnk (k := 2) (ps := ["sheet"]) (N := N_share_in) (body := B_share_in) Fu sc_share_in fun cdv A outer s H E C =>
    (s_cons (s_set C 1 e_int)
    (s_cons (s_for (vs := [2]) C (passes_of rfl) (i_any C (e_ix C.hK (o_slot 0) (o_val e_int))) (g_name 2 C.nd) (s_one (s_set C 1 (e_if (b_cmp op_gt v_gt (o_slot 2) (o_val e_int)) (e_call C R_least_multiple (a_cons (e_var 1) (a_cons (e_var 2) a_nil)) (by decide)) (e_var 1)))))
    (s_cons (s_set C 3 (e_mul C.hK (o_val (e_sub (o_val e_int) (o_val (e_mul C.hK (o_val e_int) (o_val (e_ix C.hK (o_slot 0) (o_val e_int))))))) (o_slot 1)))
    (s_cons (s_for (vs := [2]) C (passes_of rfl) (i_any C (e_ix C.hK (o_slot 0) (o_val e_int))) (g_name 2 C.nd) (s_one (s_set C 3 (e_add C.hK (o_val (e_sub (o_slot 3) (o_slot 1))) (o_val (e_if (b_cmp op_gt v_gt (o_slot 2) (o_val e_int)) (e_div (o_slot 1) (o_slot 2)) e_int))))))
    (s_one (s_ret (e_call C R_lowest (a_cons (e_var 3) (a_cons (e_var 1) a_nil)) (by decide))))))))
theorem bi_share_in (kV doc pm : Value) (an : Option Addr) (cdv ct : Value) (us : List Value) (hl : us.length = (["sheet"] : List Str).length) : bindArgs (PySem.W.fnOf "share_in" "share_in" (defArgs s_share_in) (defBody s_share_in) (defScope s_share_in) .none kV doc pm an cdv ct) ⟨us, []⟩ = pure ((["sheet"] : List Str).zip us) := match us, hl with | [_], _ => rfl
abbrev s_size_in : Stmt := topS 22
theorem sc_size_in : FnScope N_size_in ["sheet"] (defScope s_size_in) := ⟨rfl, rfl, rfl, by decide +kernel, rfl, by decide +kernel, by decide +kernel⟩
theorem ok_size_in {P : Program} {w : World} {K : PySem.W.Frag} {mg : Str → Option Value} {base : Heap} (z : Gz mg) (R_is_odd_in : FnR ⟨K, mg⟩ P w base "is_odd_in" s_is_odd_in 1 ["sheet"] F_is_odd_in) (R_share_in : FnR ⟨K, mg⟩ P w base "share_in" s_share_in 3 ["sheet"] F_share_in) (R_common : FnR ⟨K, mg⟩ P w base "common" s_common 1 ["one", "other"] F_common) {f : Addr} {fd : FuncData} (Fu : L2.Fun K "size_in" "size_in" s_size_in f fd) : FnOk P w K mg base (L2.CX P w) 4 f fd ["sheet"] (spF ⟨K, mg⟩ 1 F_size_in) :=
  fnk (k := 3) (ps := ["sheet"]) (N := N_size_in) (body := B_size_in) Fu sc_size_in fun cdv A outer s H E C =>
    (s_cons (s_if (b_tru C (o_val (e_call C R_is_odd_in (a_cons (e_var 0) a_nil) (by decide)))) (s_one (s_ret (e_if (b_cmp (op_eqD C.rm.units) (v_eq C.hK) (o_val (e_len C (o_val (e_ix C.hK (o_slot 0) (o_val e_int))) z.g_len)) (o_val e_int)) e_int (e_call C R_common (a_cons (e_ix C.hK (o_val (e_ix C.hK (o_slot 0) (o_val e_int))) (o_val e_int)) (a_cons (e_ix C.hK (o_val (e_ix C.hK (o_slot 0) (o_val e_int))) (o_val e_int)) a_nil)) (by decide))))) s_nil)
    (s_cons (s_asg (vs := [1, 2]) (e_call C R_share_in (a_cons (e_var 0) a_nil) (by decide)) (g_tup C.hc C.hK (gs_cons (g_name 1 C.nd) (gs_cons (g_name 2 C.nd) gs_nil))))
    (s_one (s_ret (e_if (b_cmp op_gt v_gt (o_slot 1) (o_val e_int)) (e_div (o_val (e_mul C.hK (o_val e_int) (o_slot 2))) (o_slot 1)) e_non)))))
theorem bi_size_in (kV doc pm : Value) (an : Option Addr) (cdv ct : Value) (us : List Value) (hl : us.length = (["sheet"] : List Str).length) : bindArgs (PySem.W.fnOf "size_in" "size_in" (defArgs s_size_in) (defBody s_size_in) (defScope s_size_in) .none kV doc pm an cdv ct) ⟨us, []⟩ = pure ((["sheet"] : List Str).zip us) := match us, hl with | [_], _ => rfl
abbrev s_tupled : Stmt := topS 6
theorem sc_tupled : FnScope N_tupled ["value"] (defScope s_tupled) := ⟨rfl, rfl, rfl, by decide +kernel, rfl, by decide +kernel, by decide +kernel⟩
theorem st_tupled {P : Program} {w : World} {K : PySem.W.Frag} {mg : Str → Option Value} {base : Heap} (z : Gz mg)  {f : Addr} {fd : FuncData} (Fu : L2.Fun K "tupled" "tupled" s_tupled f fd) (hm : mg "tupled" = some (.ref f)) (n : Nat) (ih : FnR ⟨K, mg⟩ P w base "tupled" s_tupled (0 + n) ["value"] (F_tupled n)) : FnR ⟨K, mg⟩ P w base "tupled" s_tupled (0 + n + 1) ["value"] (F_tupled (n + 1)) :=
  F_tupled_s n ▸ fnr (k := 0 + n) (body := B_tupled (fun _ => F_tupled n) n) Fu hm sc_tupled (fun _ _ _ _ _ _ us hl => match us, hl with | [_], _ => rfl) fun cdv A outer s H E C =>
    (s_one (s_ret (e_if (b_tru C (o_val (e_isiT C (o_slot 0) (ty_cons (t := .lst) z.g_list (ty_cons (t := .tup) z.g_tuple ty_nil)) z.g_isinstance))) (e_tuple1 C (o_val (e_ofL (l_lcN (N := N_tupled) (sc := (defScope s_tupled)) (own := [("own", 1)]) C rfl (i_any C (e_var 0)) rfl rfl ⟨rfl, by decide +kernel, by decide +kernel, by decide +kernel, by decide +kernel⟩ (fun s H A cl fp => (g_name 1 C.nd)) (fun s H A cl fp C => ts_nil) (fun s H A cl fp C => (e_call C ih (a_cons (e_var 1) a_nil) (Nat.le_refl _)))))) z.g_tuple) (e_var 0))))
theorem ok_tupled {P : Program} {w : World} {K : PySem.W.Frag} {mg : Str → Option Value} {base : Heap} (z : Gz mg)  {f : Addr} {fd : FuncData} (Fu : L2.Fun K "tupled" "tupled" s_tupled f fd) (hm : mg "tupled" = some (.ref f)) (n : Nat) : FnR ⟨K, mg⟩ P w base "tupled" s_tupled (0 + n) ["value"] (F_tupled n) := by
  induction n with
  | zero => exact fnr_bad Fu hm (fun _ _ _ _ _ _ us hl => match us, hl with | [_], _ => rfl)
  | succ n ih => exact st_tupled z  Fu hm n ih
abbrev s_is_long : Stmt := topS 5
theorem sc_is_long : FnScope N_is_long ["thing", "length"] (defScope s_is_long) := ⟨rfl, rfl, rfl, by decide +kernel, rfl, by decide +kernel, by decide +kernel⟩
theorem ok_is_long {P : Program} {w : World} {K : PySem.W.Frag} {mg : Str → Option Value} {base : Heap} (z : Gz mg)  {f : Addr} {fd : FuncData} (Fu : L2.Fun K "is_long" "is_long" s_is_long f fd) : FnOk P w K mg base (L2.CX P w) 1 f fd ["thing", "length"] (spF ⟨K, mg⟩ 2 F_is_long) :=
  fnk (k := 0) (ps := ["thing", "length"]) (N := N_is_long) (body := B_is_long) Fu sc_is_long fun cdv A outer s H E C =>
    (s_one (s_ret (e_and (e_isi C (o_slot 0) (ty_cons (t := .tup) z.g_tuple ty_nil) z.g_isinstance) (pe_one (e_cmp (op_eqD C.rm.units) (v_eq C.hK) (o_val (e_len C (o_slot 0) z.g_len)) (o_slot 1))))))
theorem bi_is_long (kV doc pm : Value) (an : Option Addr) (cdv ct : Value) (us : List Value) (hl : us.length = (["thing", "length"] : List Str).length) : bindArgs (PySem.W.fnOf "is_long" "is_long" (defArgs s_is_long) (defBody s_is_long) (defScope s_is_long) .none kV doc pm an cdv ct) ⟨us, []⟩ = pure ((["thing", "length"] : List Str).zip us) := match us, hl with | [_, _], _ => rfl
abbrev s_is_number : Stmt := topS 3
theorem sc_is_number : FnScope N_is_number ["thing"] (defScope s_is_number) := ⟨rfl, rfl, rfl, by decide +kernel, rfl, by decide +kernel, by decide +kernel⟩
theorem ok_is_number {P : Program} {w : World} {K : PySem.W.Frag} {mg : Str → Option Value} {base : Heap} (z : Gz mg)  {f : Addr} {fd : FuncData} (Fu : L2.Fun K "is_number" "is_number" s_is_number f fd) : FnOk P w K mg base (L2.CX P w) 1 f fd ["thing"] (spF ⟨K, mg⟩ 1 F_is_number) :=
  fnk (k := 0) (ps := ["thing"]) (N := N_is_number) (body := B_is_number) Fu sc_is_number fun cdv A outer s H E C =>
    (s_one (s_ret (e_and (e_isi C (o_slot 0) (ty_cons (t := .int) z.g_int ty_nil) z.g_isinstance) (pe_one (e_not (e_isi C (o_slot 0) (ty_cons (t := .bl) z.g_bool ty_nil) z.g_isinstance))))))
theorem bi_is_number (kV doc pm : Value) (an : Option Addr) (cdv ct : Value) (us : List Value) (hl : us.length = (["thing"] : List Str).length) : bindArgs (PySem.W.fnOf "is_number" "is_number" (defArgs s_is_number) (defBody s_is_number) (defScope s_is_number) .none kV doc pm an cdv ct) ⟨us, []⟩ = pure ((["thing"] : List Str).zip us) := match us, hl with | [_], _ => rfl
abbrev s_is_within : Stmt := topS 4
theorem sc_is_within : FnScope N_is_within ["thing", "least", "most"] (defScope s_is_within) := ⟨rfl, rfl, rfl, by decide +kernel, rfl, by decide +kernel, by decide +kernel⟩
theorem ok_is_within {P : Program} {w : World} {K : PySem.W.Frag} {mg : Str → Option Value} {base : Heap} (z : Gz mg) (R_is_number : FnR ⟨K, mg⟩ P w base "is_number" s_is_number 1 ["thing"] F_is_number) {f : Addr} {fd : FuncData} (Fu : L2.Fun K "is_within" "is_within" s_is_within f fd) : FnOk P w K mg base (L2.CX P w) 2 f fd ["thing", "least", "most"] (spF ⟨K, mg⟩ 3 F_is_within) :=
  fnk (k := 1) (ps := ["thing", "least", "most"]) (N := N_is_within) (body := B_is_within) Fu sc_is_within fun cdv A outer s H E C =>
    (s_one (s_ret (e_and (e_call C R_is_number (a_cons (e_var 0) a_nil) (by decide)) (pe_one (e_chn op_le v_le op_le v_le (o_slot 1) (o_slot 0) (o_slot 2))))))
theorem bi_is_within (kV doc pm : Value) (an : Option Addr) (cdv ct : Value) (us : List Value) (hl : us.length = (["thing", "least", "most"] : List Str).length) : bindArgs (PySem.W.fnOf "is_within" "is_within" (defArgs s_is_within) (defBody s_is_within) (defScope s_is_within) .none kV doc pm an cdv ct) ⟨us, []⟩ = pure ((["thing", "least", "most"] : List Str).zip us) := match us, hl with | [_, _, _], _ => rfl
abbrev s_is_turn : Stmt := topS 12
theorem sc_is_turn : FnScope N_is_turn ["thing"] (defScope s_is_turn) := ⟨rfl, rfl, rfl, by decide +kernel, rfl, by decide +kernel, by decide +kernel⟩
theorem ok_is_turn {P : Program} {w : World} {K : PySem.W.Frag} {mg : Str → Option Value} {base : Heap} (z : Gz mg) (R_is_within : FnR ⟨K, mg⟩ P w base "is_within" s_is_within 2 ["thing", "least", "most"] F_is_within) {f : Addr} {fd : FuncData} (Fu : L2.Fun K "is_turn" "is_turn" s_is_turn f fd) : FnOk P w K mg base (L2.CX P w) 3 f fd ["thing"] (spF ⟨K, mg⟩ 1 F_is_turn) :=
  fnk (k := 2) (ps := ["thing"]) (N := N_is_turn) (body := B_is_turn) Fu sc_is_turn fun cdv A outer s H E C =>
    (s_one (s_ret (e_and (e_call C R_is_within (a_cons (e_var 0) (a_cons e_int (a_cons (e_globI C z.c_MOST_TURN.choose_spec) a_nil))) (by decide)) (pe_one (e_cmp (op_neD C.rm.units) (v_ne C.hK) (o_slot 0) (o_val e_int))))))
theorem bi_is_turn (kV doc pm : Value) (an : Option Addr) (cdv ct : Value) (us : List Value) (hl : us.length = (["thing"] : List Str).length) : bindArgs (PySem.W.fnOf "is_turn" "is_turn" (defArgs s_is_turn) (defBody s_is_turn) (defScope s_is_turn) .none kV doc pm an cdv ct) ⟨us, []⟩ = pure ((["thing"] : List Str).zip us) := match us, hl with | [_], _ => rfl
abbrev s_is_sheet : Stmt := topS 13
theorem sc_is_sheet : FnScope N_is_sheet ["thing"] (defScope s_is_sheet) := ⟨rfl, rfl, rfl, by decide +kernel, rfl, by decide +kernel, by decide +kernel⟩
theorem ok_is_sheet {P : Program} {w : World} {K : PySem.W.Frag} {mg : Str → Option Value} {base : Heap} (z : Gz mg) (R_is_long : FnR ⟨K, mg⟩ P w base "is_long" s_is_long 1 ["thing", "length"] F_is_long) (R_is_within : FnR ⟨K, mg⟩ P w base "is_within" s_is_within 2 ["thing", "least", "most"] F_is_within) (R_is_turn : FnR ⟨K, mg⟩ P w base "is_turn" s_is_turn 3 ["thing"] F_is_turn) {f : Addr} {fd : FuncData} (Fu : L2.Fun K "is_sheet" "is_sheet" s_is_sheet f fd) : FnOk P w K mg base (L2.CX P w) 4 f fd ["thing"] (spF ⟨K, mg⟩ 1 F_is_sheet) :=
  fnk (k := 3) (ps := ["thing"]) (N := N_is_sheet) (body := B_is_sheet) Fu sc_is_sheet fun cdv A outer s H E C =>
    (s_cons (s_if (PW.pt (w_or (b_not (b_tru C (o_val (e_call C R_is_long (a_cons (e_var 0) (a_cons e_int a_nil)) (by decide))))) (w_or (b_not (b_tru C (o_val (e_call C R_is_within (a_cons (e_ix C.hK (o_slot 0) (o_val e_int)) (a_cons e_int (a_cons (e_globI C z.c_MOST_HANDLES.choose_spec) a_nil))) (by decide))))) (pw_or1 (b_not (b_tru C (o_val (e_isi C (o_val (e_ix C.hK (o_slot 0) (o_val e_int))) (ty_cons (t := .tup) z.g_tuple ty_nil) z.g_isinstance)))))))) (s_one (s_ret e_bl)) s_nil)
    (s_one (s_ret (e_and (e_cmp op_le v_le (o_val (e_len C (o_val (e_ix C.hK (o_slot 0) (o_val e_int))) z.g_len)) (o_val (e_globI C z.c_MOST_SPOTS.choose_spec))) (pe_one (e_all C (o_val (e_ofL (l_lcN (N := N_is_sheet) (sc := (defScope s_is_sheet)) (own := [("own", 1)]) C rfl (i_any C (e_ix C.hK (o_slot 0) (o_val e_int))) rfl rfl ⟨rfl, by decide +kernel, by decide +kernel, by decide +kernel, by decide +kernel⟩ (fun s H A cl fp => (g_name 1 C.nd)) (fun s H A cl fp C => ts_nil) (fun s H A cl fp C => (e_call C R_is_turn (a_cons (e_var 1) a_nil) (by decide)))))) z.g_all))))))
theorem bi_is_sheet (kV doc pm : Value) (an : Option Addr) (cdv ct : Value) (us : List Value) (hl : us.length = (["thing"] : List Str).length) : bindArgs (PySem.W.fnOf "is_sheet" "is_sheet" (defArgs s_is_sheet) (defBody s_is_sheet) (defScope s_is_sheet) .none kV doc pm an cdv ct) ⟨us, []⟩ = pure ((["thing"] : List Str).zip us) := match us, hl with | [_], _ => rfl
abbrev s_sure_sheet : Stmt := topS 14
theorem sc_sure_sheet : FnScope N_sure_sheet ["value"] (defScope s_sure_sheet) := ⟨rfl, rfl, rfl, by decide +kernel, rfl, by decide +kernel, by decide +kernel⟩
theorem ok_sure_sheet {P : Program} {w : World} {K : PySem.W.Frag} {mg : Str → Option Value} {base : Heap} (z : Gz mg) (R_tupled : FnR ⟨K, mg⟩ P w base "tupled" s_tupled 8 ["value"] (F_tupled 8)) (R_is_sheet : FnR ⟨K, mg⟩ P w base "is_sheet" s_is_sheet 4 ["thing"] F_is_sheet) {f : Addr} {fd : FuncData} (Fu : L2.Fun K "sure_sheet" "sure_sheet" s_sure_sheet f fd) : FnOk P w K mg base (L2.CX P w) 9 f fd ["value"] (spF ⟨K, mg⟩ 1 F_sure_sheet) :=
  fnk (k := 8) (ps := ["value"]) (N := N_sure_sheet) (body := B_sure_sheet) Fu sc_sure_sheet fun cdv A outer s H E C =>
    (s_cons (s_set C 1 (e_call C R_tupled (a_cons (e_var 0) a_nil) (by decide)))
    (s_cons (s_if (b_not (b_tru C (o_val (e_call C R_is_sheet (a_cons (e_var 1) a_nil) (by decide))))) (s_one s_bad) s_nil)
    (s_one (s_ret (e_var 1)))))
theorem bi_sure_sheet (kV doc pm : Value) (an : Option Addr) (cdv ct : Value) (us : List Value) (hl : us.length = (["value"] : List Str).length) : bindArgs (PySem.W.fnOf "sure_sheet" "sure_sheet" (defArgs s_sure_sheet) (defBody s_sure_sheet) (defScope s_sure_sheet) .none kV doc pm an cdv ct) ⟨us, []⟩ = pure ((["value"] : List Str).zip us) := match us, hl with | [_], _ => rfl
abbrev s_sheet_size : Stmt := topS 23
theorem sc_sheet_size : FnScope N_sheet_size ["sheet"] (defScope s_sheet_size) := ⟨rfl, rfl, rfl, by decide +kernel, rfl, by decide +kernel, by decide +kernel⟩
theorem ok_sheet_size {P : Program} {w : World} {K : PySem.W.Frag} {mg : Str → Option Value} {base : Heap} (z : Gz mg) (R_size_in : FnR ⟨K, mg⟩ P w base "size_in" s_size_in 4 ["sheet"] F_size_in) (R_sure_sheet : FnR ⟨K, mg⟩ P w base "sure_sheet" s_sure_sheet 9 ["value"] F_sure_sheet) {f : Addr} {fd : FuncData} (Fu : L2.Fun K "sheet_size" "sheet_size" s_sheet_size f fd) : FnOk P w K mg base (L2.CX P w) 10 f fd ["sheet"] (spF ⟨K, mg⟩ 1 F_sheet_size) :=
  fnk (k := 9) (ps := ["sheet"]) (N := N_sheet_size) (body := B_sheet_size) Fu sc_sheet_size fun cdv A outer s H E C =>
    (s_one (s_ret (e_call C R_size_in (a_cons (e_call C R_sure_sheet (a_cons (e_var 0) a_nil) (by decide)) a_nil) (by decide))))
theorem bi_sheet_size (kV doc pm : Value) (an : Option Addr) (cdv ct : Value) (us : List Value) (hl : us.length = (["sheet"] : List Str).length) : bindArgs (PySem.W.fnOf "sheet_size" "sheet_size" (defArgs s_sheet_size) (defBody s_sheet_size) (defScope s_sheet_size) .none kV doc pm an cdv ct) ⟨us, []⟩ = pure ((["sheet"] : List Str).zip us) := match us, hl with | [_], _ => rfl
abbrev s_sheet_kind_in : Stmt := topS 20
theorem sc_sheet_kind_in : FnScope N_sheet_kind_in ["sheet"] (defScope s_sheet_kind_in) := ⟨rfl, rfl, rfl, by decide +kernel, rfl, by decide +kernel, by decide +kernel⟩
theorem ok_sheet_kind_in {P : Program} {w : World} {K : PySem.W.Frag} {mg : Str → Option Value} {base : Heap} (z : Gz mg) (R_is_odd_in : FnR ⟨K, mg⟩ P w base "is_odd_in" s_is_odd_in 1 ["sheet"] F_is_odd_in) (R_share_in : FnR ⟨K, mg⟩ P w base "share_in" s_share_in 3 ["sheet"] F_share_in) {f : Addr} {fd : FuncData} (Fu : L2.Fun K "sheet_kind_in" "sheet_kind_in" s_sheet_kind_in f fd) : FnOk P w K mg base (L2.CX P w) 4 f fd ["sheet"] (spF ⟨K, mg⟩ 1 F_sheet_kind_in) :=
  fnk (k := 3) (ps := ["sheet"]) (N := N_sheet_kind_in) (body := B_sheet_kind_in) Fu sc_sheet_kind_in fun cdv A outer s H E C =>
    (s_cons (s_if (b_tru C (o_val (e_call C R_is_odd_in (a_cons (e_var 0) a_nil) (by decide)))) (s_one (s_ret e_str)) s_nil)
    (s_cons (s_set C 1 (e_ix C.hK (o_val (e_call C R_share_in (a_cons (e_var 0) a_nil) (by decide))) (o_val e_int)))
    (s_one (s_ret (e_if (b_cmp op_gt v_gt (o_slot 1) (o_val e_int)) e_str (e_if (b_cmp (op_eqD C.rm.units) (v_eq C.hK) (o_slot 1) (o_val e_int)) e_str e_str))))))
theorem bi_sheet_kind_in (kV doc pm : Value) (an : Option Addr) (cdv ct : Value) (us : List Value) (hl : us.length = (["sheet"] : List Str).length) : bindArgs (PySem.W.fnOf "sheet_kind_in" "sheet_kind_in" (defArgs s_sheet_kind_in) (defBody s_sheet_kind_in) (defScope s_sheet_kind_in) .none kV doc pm an cdv ct) ⟨us, []⟩ = pure ((["sheet"] : List Str).zip us) := match us, hl with | [_], _ => rfl
abbrev s_sheet_kind : Stmt := topS 21
theorem sc_sheet_kind : FnScope N_sheet_kind ["sheet"] (defScope s_sheet_kind) := ⟨rfl, rfl, rfl, by decide +kernel, rfl, by decide +kernel, by decide +kernel⟩
theorem ok_sheet_kind {P : Program} {w : World} {K : PySem.W.Frag} {mg : Str → Option Value} {base : Heap} (z : Gz mg) (R_sheet_kind_in : FnR ⟨K, mg⟩ P w base "sheet_kind_in" s_sheet_kind_in 4 ["sheet"] F_sheet_kind_in) (R_sure_sheet : FnR ⟨K, mg⟩ P w base "sure_sheet" s_sure_sheet 9 ["value"] F_sure_sheet) {f : Addr} {fd : FuncData} (Fu : L2.Fun K "sheet_kind" "sheet_kind" s_sheet_kind f fd) : FnOk P w K mg base (L2.CX P w) 10 f fd ["sheet"] (spF ⟨K, mg⟩ 1 F_sheet_kind) :=
  fnk (k := 9) (ps := ["sheet"]) (N := N_sheet_kind) (body := B_sheet_kind) Fu sc_sheet_kind fun cdv A outer s H E C =>
    (s_one (s_ret (e_call C R_sheet_kind_in (a_cons (e_call C R_sure_sheet (a_cons (e_var 0) a_nil) (by decide)) a_nil) (by decide))))
theorem bi_sheet_kind (kV doc pm : Value) (an : Option Addr) (cdv ct : Value) (us : List Value) (hl : us.length = (["sheet"] : List Str).length) : bindArgs (PySem.W.fnOf "sheet_kind" "sheet_kind" (defArgs s_sheet_kind) (defBody s_sheet_kind) (defScope s_sheet_kind) .none kV doc pm an cdv ct) ⟨us, []⟩ = pure ((["sheet"] : List Str).zip us) := match us, hl with | [_], _ => rfl
abbrev s__law_take : Stmt := topS 27
theorem sc__law_take : FnScope N__law_take ["tin", "below_so"] (defScope s__law_take) := ⟨rfl, rfl, rfl, by decide +kernel, rfl, by decide +kernel, by decide +kernel⟩
theorem ok__law_take {P : Program} {w : World} {K : PySem.W.Frag} {mg : Str → Option Value} {base : Heap} (z : Gz mg)  {f : Addr} {fd : FuncData} (Fu : L2.Fun K "_law_take" "_law_take" s__law_take f fd) : FnOk P w K mg base (L2.CX P w) 1 f fd ["tin", "below_so"] (spF ⟨K, mg⟩ 2 F__law_take) :=
  fnk (k := 0) (ps := ["tin", "below_so"]) (N := N__law_take) (body := B__law_take) Fu sc__law_take fun cdv A outer s H E C =>
    (s_cons (s_if (b_cmp op_gt v_gt (o_val (e_ix C.hK (o_slot 0) (o_val e_int))) (o_val e_int)) (s_cons (s_set C 5 (e_mod (o_val (e_int1 C (o_val (e_ix C.hK (o_slot 0) (o_val e_int))) z.g_int)) (o_slot 1)))
    (s_cons (s_setIx (e_div (o_val (e_ix C.hK (o_slot 0) (o_val e_int))) (o_slot 1)) (o_slot 0) e_int)
    (s_one (s_ret (e_var 5))))) s_nil)
    (s_cons (s_setIx (e_add C.hK (o_val (e_ix C.hK (o_slot 0) (o_val e_int))) (o_val e_int)) (o_slot 0) e_int)
    (s_cons (s_set C 2 (e_mod (o_val (e_int1 C (o_val (e_mul C.hK (o_val (e_add C.hK (o_val (e_ix C.hK (o_slot 0) (o_val e_int))) (o_val (e_mul C.hK (o_val e_int) (o_val (e_ix C.hK (o_slot 0) (o_val e_int))))))) (o_val (e_add C.hK (o_val e_int) (o_val (e_ix C.hK (o_slot 0) (o_val e_int))))))) z.g_int)) (o_val e_int)))
    (s_cons (s_set C 3 (e_add C.hK (o_val (e_mod (o_val (e_int1 C (o_slot 2) z.g_int)) (o_val e_int))) (o_val e_int)))
    (s_cons (s_set C 4 (e_mod (o_val (e_int1 C (o_val (e_mul C.hK (o_val (e_add C.hK (o_val (e_add C.hK (o_slot 2) (o_val (e_ix C.hK (o_slot 0) (o_val e_int))))) (o_val (e_div (o_val (e_ix C.hK (o_slot 0) (o_val e_int))) (o_val e_int))))) (o_slot 3))) z.g_int)) (o_val e_int)))
    (s_one (s_ret (e_mod (o_val (e_int1 C (o_val (e_div (o_val (e_mod (o_val (e_int1 C (o_val (e_add C.hK (o_val (e_mul C.hK (o_slot 4) (o_val e_int))) (o_slot 2))) z.g_int)) (o_val e_int))) (o_val e_int))) z.g_int)) (o_slot 1)))))))))
theorem bi__law_take (kV doc pm : Value) (an : Option Addr) (cdv ct : Value) (us : List Value) (hl : us.length = (["tin", "below_so"] : List Str).length) : bindArgs (PySem.W.fnOf "_law_take" "_law_take" (defArgs s__law_take) (defBody s__law_take) (defScope s__law_take) .none kV doc pm an cdv ct) ⟨us, []⟩ = pure ((["tin", "below_so"] : List Str).zip us) := match us, hl with | [_, _], _ => rfl
abbrev s__law_of : Stmt := topS 29
theorem sc__law_of : FnScope N__law_of ["tin", "goods_so"] (defScope s__law_of) := ⟨rfl, rfl, rfl, by decide +kernel, rfl, by decide +kernel, by decide +kernel⟩
theorem ok__law_of {P : Program} {w : World} {K : PySem.W.Frag} {mg : Str → Option Value} {base : Heap} (z : Gz mg) (R__law_take : FnR ⟨K, mg⟩ P w base "_law_take" s__law_take 1 ["tin", "below_so"] F__law_take) {f : Addr} {fd : FuncData} (Fu : L2.Fun K "_law_of" "_law_of" s__law_of f fd) : FnOk P w K mg base (L2.CX P w) 2 f fd ["tin", "goods_so"] (spF ⟨K, mg⟩ 2 F__law_of) :=
  fnk (k := 1) (ps := ["tin", "goods_so"]) (N := N__law_of) (body := B__law_of) Fu sc__law_of fun cdv A outer s H E C =>
    (s_one (s_ret (e_ix C.hK (o_slot 1) (o_val (e_call C R__law_take (a_cons (e_var 0) (a_cons (e_len C (o_slot 1) z.g_len) a_nil)) (by decide))))))
theorem bi__law_of (kV doc pm : Value) (an : Option Addr) (cdv ct : Value) (us : List Value) (hl : us.length = (["tin", "goods_so"] : List Str).length) : bindArgs (PySem.W.fnOf "_law_of" "_law_of" (defArgs s__law_of) (defBody s__law_of) (defScope s__law_of) .none kV doc pm an cdv ct) ⟨us, []⟩ = pure ((["tin", "goods_so"] : List Str).zip us) := match us, hl with | [_, _], _ => rfl
abbrev s__law_turn : Stmt := topS 36
theorem sc__law_turn : FnScope N__law_turn ["tin", "most_so"] (defScope s__law_turn) := ⟨rfl, rfl, rfl, by decide +kernel, rfl, by decide +kernel, by decide +kernel⟩
theorem ok__law_turn {P : Program} {w : World} {K : PySem.W.Frag} {mg : Str → Option Value} {base : Heap} (z : Gz mg) (R__law_of : FnR ⟨K, mg⟩ P w base "_law_of" s__law_of 2 ["tin", "goods_so"] F__law_of) (R__law_take : FnR ⟨K, mg⟩ P w base "_law_take" s__law_take 1 ["tin", "below_so"] F__law_take) {f : Addr} {fd : FuncData} (Fu : L2.Fun K "_law_turn" "_law_turn" s__law_turn f fd) : FnOk P w K mg base (L2.CX P w) 3 f fd ["tin", "most_so"] (spF ⟨K, mg⟩ 2 F__law_turn) :=
  fnk (k := 2) (ps := ["tin", "most_so"]) (N := N__law_turn) (body := B__law_turn) Fu sc__law_turn fun cdv A outer s H E C =>
    (s_one (s_ret (e_call C R__law_of (a_cons (e_var 0) (a_cons (e_ofL (l_lst (a_cons e_int (a_cons (e_add C.hK (o_val e_int) (o_val (e_call C R__law_take (a_cons (e_var 0) (a_cons (e_sub (o_slot 1) (o_val e_int)) a_nil)) (by decide)))) (a_cons (e_add C.hK (o_val e_int) (o_val (e_call C R__law_take (a_cons (e_var 0) (a_cons (e_sub (o_slot 1) (o_val e_int)) a_nil)) (by decide)))) (a_cons (e_add C.hK (o_val e_int) (o_val (e_call C R__law_take (a_cons (e_var 0) (a_cons e_int a_nil)) (by decide)))) a_nil)))))) a_nil)) (by decide))))
theorem bi__law_turn (kV doc pm : Value) (an : Option Addr) (cdv ct : Value) (us : List Value) (hl : us.length = (["tin", "most_so"] : List Str).length) : bindArgs (PySem.W.fnOf "_law_turn" "_law_turn" (defArgs s__law_turn) (defBody s__law_turn) (defScope s__law_turn) .none kV doc pm an cdv ct) ⟨us, []⟩ = pure ((["tin", "most_so"] : List Str).zip us) := match us, hl with | [_, _], _ => rfl
abbrev s__law_sheet : Stmt := topS 37
theorem sc__law_sheet : FnScope N__law_sheet ["tin", "handles_so", "spots_so", "most_so"] (defScope s__law_sheet) := ⟨rfl, rfl, rfl, by decide +kernel, rfl, by decide +kernel, by decide +kernel⟩
theorem ok__law_sheet {P : Program} {w : World} {K : PySem.W.Frag} {mg : Str → Option Value} {base : Heap} (z : Gz mg) (R__law_take : FnR ⟨K, mg⟩ P w base "_law_take" s__law_take 1 ["tin", "below_so"] F__law_take) (R__law_turn : FnR ⟨K, mg⟩ P w base "_law_turn" s__law_turn 3 ["tin", "most_so"] F__law_turn) {f : Addr} {fd : FuncData} (Fu : L2.Fun K "_law_sheet" "_law_sheet" s__law_sheet f fd) : FnOk P w K mg base (L2.CX P w) 4 f fd ["tin", "handles_so", "spots_so", "most_so"] (spF ⟨K, mg⟩ 4 F__law_sheet) :=
  fnk (k := 3) (ps := ["tin", "handles_so", "spots_so", "most_so"]) (N := N__law_sheet) (body := B__law_sheet) Fu sc__law_sheet fun cdv A outer s H E C =>
    (s_one (s_ret (e_tup (a_cons (e_call C R__law_take (a_cons (e_var 0) (a_cons (e_add C.hK (o_slot 1) (o_val e_int)) a_nil)) (by decide)) (a_cons (e_tuple1 C (o_val (e_ofL (l_lcN (N := N__law_sheet) (sc := (defScope s__law_sheet)) (own := [("k", 4)]) C rfl (i_r1 C z.g_range (e_call C R__law_take (a_cons (e_var 0) (a_cons (e_add C.hK (o_slot 2) (o_val e_int)) a_nil)) (by decide))) rfl rfl ⟨rfl, by decide +kernel, by decide +kernel, by decide +kernel, by decide +kernel⟩ (fun s H A cl fp => (g_name 4 C.nd)) (fun s H A cl fp C => ts_nil) (fun s H A cl fp C => (e_call C R__law_turn (a_cons (e_var 0) (a_cons (e_var 3) a_nil)) (by decide)))))) z.g_tuple) a_nil)))))
theorem bi__law_sheet (kV doc pm : Value) (an : Option Addr) (cdv ct : Value) (us : List Value) (hl : us.length = (["tin", "handles_so", "spots_so", "most_so"] : List Str).length) : bindArgs (PySem.W.fnOf "_law_sheet" "_law_sheet" (defArgs s__law_sheet) (defBody s__law_sheet) (defScope s__law_sheet) .none kV doc pm an cdv ct) ⟨us, []⟩ = pure ((["tin", "handles_so", "spots_so", "most_so"] : List Str).zip us) := match us, hl with | [_, _, _, _], _ => rfl
abbrev s_sheet_share : Stmt := topS 18
theorem sc_sheet_share : FnScope N_sheet_share ["sheet"] (defScope s_sheet_share) := ⟨rfl, rfl, rfl, by decide +kernel, rfl, by decide +kernel, by decide +kernel⟩
theorem ok_sheet_share {P : Program} {w : World} {K : PySem.W.Frag} {mg : Str → Option Value} {base : Heap} (z : Gz mg) (R_share_in : FnR ⟨K, mg⟩ P w base "share_in" s_share_in 3 ["sheet"] F_share_in) (R_sure_sheet : FnR ⟨K, mg⟩ P w base "sure_sheet" s_sure_sheet 9 ["value"] F_sure_sheet) {f : Addr} {fd : FuncData} (Fu : L2.Fun K "sheet_share" "sheet_share" s_sheet_share f fd) : FnOk P w K mg base (L2.CX P w) 10 f fd ["sheet"] (spF ⟨K, mg⟩ 1 F_sheet_share) :=
  fnk (k := 9) (ps := ["sheet"]) (N := N_sheet_share) (body := B_sheet_share) Fu sc_sheet_share fun cdv A outer s H E C =>
    (s_one (s_ret (e_call C R_share_in (a_cons (e_call C R_sure_sheet (a_cons (e_var 0) a_nil) (by decide)) a_nil) (by decide))))
theorem bi_sheet_share (kV doc pm : Value) (an : Option Addr) (cdv ct : Value) (us : List Value) (hl : us.length = (["sheet"] : List Str).length) : bindArgs (PySem.W.fnOf "sheet_share" "sheet_share" (defArgs s_sheet_share) (defBody s_sheet_share) (defScope s_sheet_share) .none kV doc pm an cdv ct) ⟨us, []⟩ = pure ((["sheet"] : List Str).zip us) := match us, hl with | [_], _ => rfl
abbrev s__law_pick : Stmt := topS 30
theorem sc__law_pick : FnScope N__law_pick ["tin", "goods_so", "count_so"] (defScope s__law_pick) := ⟨rfl, rfl, rfl, by decide +kernel, rfl, by decide +kernel, by decide +kernel⟩
theorem ok__law_pick {P : Program} {w : World} {K : PySem.W.Frag} {mg : Str → Option Value} {base : Heap} (z : Gz mg) (R__law_take : FnR ⟨K, mg⟩ P w base "_law_take" s__law_take 1 ["tin", "below_so"] F__law_take) {f : Addr} {fd : FuncData} (Fu : L2.Fun K "_law_pick" "_law_pick" s__law_pick f fd) : FnOk P w K mg base (L2.CX P w) 2 f fd ["tin", "goods_so", "count_so"] (spF ⟨K, mg⟩ 3 F__law_pick) :=
  fnk (k := 1) (ps := ["tin", "goods_so", "count_so"]) (N := N__law_pick) (body := B__law_pick) Fu sc__law_pick fun cdv A outer s H E C =>
    (s_cons (s_par C 4 5 (pc_l (l_list1 C (o_slot 1) z.g_list)) (pc_l (l_lst a_nil)))
    (s_cons (s_for (vs := [3]) C (passes_of rfl) (i_r1 C z.g_range (e_min2 C (o_val (e_int1 C (o_slot 2) z.g_int)) (o_val (e_len C (o_slot 4) z.g_len)) z.g_min)) (g_name 3 C.nd) (s_one (s_expr (e_app (o_slot 5) (e_popAt (o_slot 4) (e_call C R__law_take (a_cons (e_var 0) (a_cons (e_len C (o_slot 4) z.g_len) a_nil)) (by decide)))))))
    (s_one (s_ret (e_var 5)))))
theorem bi__law_pick (kV doc pm : Value) (an : Option Addr) (cdv ct : Value) (us : List Value) (hl : us.length = (["tin", "goods_so", "count_so"] : List Str).length) : bindArgs (PySem.W.fnOf "_law_pick" "_law_pick" (defArgs s__law_pick) (defBody s__law_pick) (defScope s__law_pick) .none kV doc pm an cdv ct) ⟨us, []⟩ = pure ((["tin", "goods_so", "count_so"] : List Str).zip us) := match us, hl with | [_, _, _], _ => rfl
abbrev s_are_like_sheets : Stmt := topS 24
theorem sc_are_like_sheets : FnScope N_are_like_sheets ["one", "other"] (defScope s_are_like_sheets) := ⟨rfl, rfl, rfl, by decide +kernel, rfl, by decide +kernel, by decide +kernel⟩
theorem ok_are_like_sheets {P : Program} {w : World} {K : PySem.W.Frag} {mg : Str → Option Value} {base : Heap} (z : Gz mg) (R_sure_sheet : FnR ⟨K, mg⟩ P w base "sure_sheet" s_sure_sheet 9 ["value"] F_sure_sheet) {f : Addr} {fd : FuncData} (Fu : L2.Fun K "are_like_sheets" "are_like_sheets" s_are_like_sheets f fd) : FnOk P w K mg base (L2.CX P w) 10 f fd ["one", "other"] (spF ⟨K, mg⟩ 2 F_are_like_sheets) :=
  fnk (k := 9) (ps := ["one", "other"]) (N := N_are_like_sheets) (body := B_are_like_sheets) Fu sc_are_like_sheets fun cdv A outer s H E C =>
    (s_cons (s_par C 2 3 (pc_v (e_call C R_sure_sheet (a_cons (e_var 0) a_nil) (by decide))) (pc_v (e_call C R_sure_sheet (a_cons (e_var 1) a_nil) (by decide))))
    (s_one (s_ret (e_and (e_cmp (op_eqD C.rm.units) (v_eq C.hK) (o_val (e_ix C.hK (o_slot 2) (o_val e_int))) (o_val (e_ix C.hK (o_slot 3) (o_val e_int)))) (pe_one (e_cmp (op_eqD C.rm.units) (v_eq C.hK) (o_val (e_ofL (l_sorted C (o_val (e_ix C.hK (o_slot 2) (o_val e_int))) z.g_sorted))) (o_val (e_ofL (l_sorted C (o_val (e_ix C.hK (o_slot 3) (o_val e_int))) z.g_sorted)))))))))
theorem bi_are_like_sheets (kV doc pm : Value) (an : Option Addr) (cdv ct : Value) (us : List Value) (hl : us.length = (["one", "other"] : List Str).length) : bindArgs (PySem.W.fnOf "are_like_sheets" "are_like_sheets" (defArgs s_are_like_sheets) (defBody s_are_like_sheets) (defScope s_are_like_sheets) .none kV doc pm an cdv ct) ⟨us, []⟩ = pure ((["one", "other"] : List Str).zip us) := match us, hl with | [_, _], _ => rfl
abbrev s__law_lists : Stmt := topS 31
theorem sc__law_lists : FnScope N__law_lists ["matter"] (defScope s__law_lists) := ⟨rfl, rfl, rfl, by decide +kernel, rfl, by decide +kernel, by decide +kernel⟩
theorem st__law_lists {P : Program} {w : World} {K : PySem.W.Frag} {mg : Str → Option Value} {base : Heap} (z : Gz mg)  {f : Addr} {fd : FuncData} (Fu : L2.Fun K "_law_lists" "_law_lists" s__law_lists f fd) (hm : mg "_law_lists" = some (.ref f)) (n : Nat) (ih : FnR ⟨K, mg⟩ P w base "_law_lists" s__law_lists (0 + n) ["matter"] (F__law_lists n)) : FnR ⟨K, mg⟩ P w base "_law_lists" s__law_lists (0 + n + 1) ["matter"] (F__law_lists (n + 1)) :=
  F__law_lists_s n ▸ fnr (k := 0 + n) (body := B__law_lists (fun _ => F__law_lists n) n) Fu hm sc__law_lists (fun _ _ _ _ _ _ us hl => match us, hl with | [_], _ => rfl) fun cdv A outer s H E C =>
    (s_one (s_ret (e_if (b_tru C (o_val (e_isiT C (o_slot 0) (ty_cons (t := .lst) z.g_list (ty_cons (t := .tup) z.g_tuple ty_nil)) z.g_isinstance))) (e_ofL (l_lcN (N := N__law_lists) (sc := (defScope s__law_lists)) (own := [("bit", 1)]) C rfl (i_any C (e_var 0)) rfl rfl ⟨rfl, by decide +kernel, by decide +kernel, by decide +kernel, by decide +kernel⟩ (fun s H A cl fp => (g_name 1 C.nd)) (fun s H A cl fp C => ts_nil) (fun s H A cl fp C => (e_call C ih (a_cons (e_var 1) a_nil) (Nat.le_refl _))))) (e_var 0))))
theorem ok__law_lists {P : Program} {w : World} {K : PySem.W.Frag} {mg : Str → Option Value} {base : Heap} (z : Gz mg)  {f : Addr} {fd : FuncData} (Fu : L2.Fun K "_law_lists" "_law_lists" s__law_lists f fd) (hm : mg "_law_lists" = some (.ref f)) (n : Nat) : FnR ⟨K, mg⟩ P w base "_law_lists" s__law_lists (0 + n) ["matter"] (F__law_lists n) := by
  induction n with
  | zero => exact fnr_bad Fu hm (fun _ _ _ _ _ _ us hl => match us, hl with | [_], _ => rfl)
  | succ n ih => exact st__law_lists z  Fu hm n ih
abbrev s_law : Stmt := topS 39
theorem sc_law : FnScope N_law ["script"] (defScope s_law) := ⟨rfl, rfl, rfl, by decide +kernel, rfl, by decide +kernel, by decide +kernel⟩
theorem ok_law {P : Program} {w : World} {K : PySem.W.Frag} {mg : Str → Option Value} {base : Heap} (z : Gz mg) (R__law_box : FnR ⟨K, mg⟩ P w base "_law_box" s__law_box 1 ["script", "k"] F__law_box) (R__law_same : FnR ⟨K, mg⟩ P w base "_law_same" s__law_same 8 ["got", "due"] (F__law_same 8)) (R__law_cells : FnR ⟨K, mg⟩ P w base "_law_cells" s__law_cells 1 ["script", "most_so"] F__law_cells) (R__law_share : FnR ⟨K, mg⟩ P w base "_law_share" s__law_share 3 ["sheet_so"] F__law_share) (R__law_odd : FnR ⟨K, mg⟩ P w base "_law_odd" s__law_odd 1 ["sheet_so"] F__law_odd) (R_sheet_size : FnR ⟨K, mg⟩ P w base "sheet_size" s_sheet_size 10 ["sheet"] F_sheet_size) (R_sheet_kind : FnR ⟨K, mg⟩ P w base "sheet_kind" s_sheet_kind 10 ["sheet"] F_sheet_kind) (R__law_sheet : FnR ⟨K, mg⟩ P w base "_law_sheet" s__law_sheet 4 ["tin", "handles_so", "spots_so", "most_so"] F__law_sheet) (R_is_sheet : FnR ⟨K, mg⟩ P w base "is_sheet" s_is_sheet 4 ["thing"] F_is_sheet) (R_sheet_share : FnR ⟨K, mg⟩ P w base "sheet_share" s_sheet_share 10 ["sheet"] F_sheet_share) (R__law_pick : FnR ⟨K, mg⟩ P w base "_law_pick" s__law_pick 2 ["tin", "goods_so", "count_so"] F__law_pick) (R_are_like_sheets : FnR ⟨K, mg⟩ P w base "are_like_sheets" s_are_like_sheets 10 ["one", "other"] F_are_like_sheets) (R__law_common : FnR ⟨K, mg⟩ P w base "_law_common" s__law_common 1 ["one_so", "two"] F__law_common) (R__law_take : FnR ⟨K, mg⟩ P w base "_law_take" s__law_take 1 ["tin", "below_so"] F__law_take) (R__law_lists : FnR ⟨K, mg⟩ P w base "_law_lists" s__law_lists 8 ["matter"] (F__law_lists 8)) (R__law_turn : FnR ⟨K, mg⟩ P w base "_law_turn" s__law_turn 3 ["tin", "most_so"] F__law_turn) (R__law_slim : FnR ⟨K, mg⟩ P w base "_law_slim" s__law_slim 2 ["over", "under"] F__law_slim) {f : Addr} {fd : FuncData} (Fu : L2.Fun K "law" "law" s_law f fd) : FnOk P w K mg base (L2.CX P w) 11 f fd ["script"] (spF ⟨K, mg⟩ 1 F_law) :=
  fnk (k := 10) (ps := ["script"]) (N := N_law) (body := B_law) Fu sc_law fun cdv A outer s H E C =>
    (s_cons (s_set C 1 (e_call C R__law_box (a_cons (e_call C R__law_cells (a_cons (e_var 0) (a_cons e_int a_nil)) (by decide)) (a_cons e_int a_nil)) (by decide)))
    (s_cons (s_for (vs := [2]) C (passes_of rfl) (i_r1 C z.g_range e_int) (g_name 2 C.nd) (s_cons (s_set C 5 (e_if (b_cmp (op_eqD C.rm.units) (v_eq C.hK) (o_slot 2) (o_val e_int)) (e_tup (a_cons e_int (a_cons (e_tup (a_cons e_int (a_cons e_int (a_cons e_int a_nil)))) a_nil))) (e_call C R__law_sheet (a_cons (e_var 1) (a_cons e_int (a_cons e_int (a_cons e_int a_nil)))) (by decide))))
    (s_cons (s_if (b_cmp (op_eqD C.rm.units) (v_eq C.hK) (o_slot 2) (o_val e_int)) (s_one (s_set C 5 (e_tup (a_cons e_int (a_cons (e_tuple1 C (o_val (e_ofL (l_lcN (N := N_law) (sc := (defScope s_law)) (own := [("k", 3)]) C rfl (i_r1 C z.g_range (e_call C R__law_take (a_cons (e_var 1) (a_cons e_int a_nil)) (by decide))) rfl rfl ⟨rfl, by decide +kernel, by decide +kernel, by decide +kernel, by decide +kernel⟩ (fun s H A cl fp => (g_name 3 C.nd)) (fun s H A cl fp C => ts_nil) (fun s H A cl fp C => (e_call C R__law_turn (a_cons (e_var 1) (a_cons e_int a_nil)) (by decide)))))) z.g_tuple) a_nil))))) s_nil)
    (s_cons (s_asg (vs := [10, 11]) (e_call C R__law_share (a_cons (e_var 5) a_nil) (by decide)) (g_tup C.hc C.hK (gs_cons (g_name 10 C.nd) (gs_cons (g_name 11 C.nd) gs_nil))))
    (s_cons (s_set C 6 (e_call C R__law_odd (a_cons (e_var 5) a_nil) (by decide)))
    (s_cons (s_set C 7 (e_if (b_tru C (o_slot 6)) e_str (e_if (b_cmp op_gt v_gt (o_slot 10) (o_val e_int)) e_str (e_if (b_cmp (op_eqD C.rm.units) (v_eq C.hK) (o_slot 10) (o_val e_int)) e_str e_str))))
    (s_cons (s_set C 8 (e_if (b_cmp op_gt v_gt (o_slot 10) (o_val e_int)) (e_div (o_val (e_mul C.hK (o_val e_int) (o_slot 11))) (o_slot 10)) e_non))
    (s_cons (s_if (b_tru C (o_slot 6)) (s_one (s_set C 8 (e_if (b_cmp (op_eqD C.rm.units) (v_eq C.hK) (o_val (e_len C (o_val (e_ix C.hK (o_slot 5) (o_val e_int))) z.g_len)) (o_val e_int)) e_int (e_call C R__law_common (a_cons (e_ix C.hK (o_val (e_ix C.hK (o_slot 5) (o_val e_int))) (o_val e_int)) (a_cons (e_ix C.hK (o_val (e_ix C.hK (o_slot 5) (o_val e_int))) (o_val e_int)) a_nil)) (by decide))))) s_nil)
    (s_cons (s_set C 4 (e_ofL (l_lst (a_cons (e_callI0 (kn := ["thing"]) C R_is_sheet 1 (k_cons (e_var 5) k_nil) (fun _ _ _ _ _ _ ws hw => match ws, hw with | [_], _ => rfl) (by decide)) (a_cons (e_callI0 (kn := ["sheet"]) C R_sheet_share 1 (k_cons (e_call C R__law_lists (a_cons (e_var 5) a_nil) (by decide)) k_nil) (fun _ _ _ _ _ _ ws hw => match ws, hw with | [_], _ => rfl) (by decide)) (a_cons (e_callI0 (kn := ["sheet"]) C R_sheet_kind 1 (k_cons (e_var 5) k_nil) (fun _ _ _ _ _ _ ws hw => match ws, hw with | [_], _ => rfl) (by decide)) (a_cons (e_callI0 (kn := ["sheet"]) C R_sheet_size 1 (k_cons (e_var 5) k_nil) (fun _ _ _ _ _ _ ws hw => match ws, hw with | [_], _ => rfl) (by decide)) a_nil)))))))
    (s_cons (s_if (b_not (b_tru C (o_val (e_call C R__law_same (a_cons (e_var 4) (a_cons (e_ofL (l_lst (a_cons e_bl (a_cons (e_tup (a_cons (e_var 10) (a_cons (e_var 11) a_nil))) (a_cons (e_var 7) (a_cons (e_var 8) a_nil)))))) a_nil)) (by decide))))) (s_one (s_ret e_bl)) s_nil)
    (s_cons (s_set C 9 (e_tuple1 C (o_val (e_call C R__law_pick (a_cons (e_var 1) (a_cons (e_ofL (l_list1 C (o_val (e_ix C.hK (o_slot 5) (o_val e_int))) z.g_list)) (a_cons (e_len C (o_val (e_ix C.hK (o_slot 5) (o_val e_int))) z.g_len) a_nil))) (by decide))) z.g_tuple))
    (s_cons (s_set C 4 (e_ofL (l_lst (a_cons (e_call C R_sheet_share (a_cons (e_tup (a_cons (e_ix C.hK (o_slot 5) (o_val e_int)) (a_cons (e_var 9) a_nil))) a_nil) (by decide)) (a_cons (e_callI0 (kn := ["one", "other"]) C R_are_like_sheets 2 (k_cons (e_var 5) (k_cons (e_tup (a_cons (e_ix C.hK (o_slot 5) (o_val e_int)) (a_cons (e_var 9) a_nil))) k_nil)) (fun _ _ _ _ _ _ ws hw => match ws, hw with | [_, _], _ => rfl) (by decide)) (a_cons (e_call C R_sheet_size (a_cons (e_tup (a_cons (e_ix C.hK (o_slot 5) (o_val e_int)) (a_cons (e_var 9) a_nil))) a_nil) (by decide)) a_nil))))))
    (s_cons (s_if (b_not (b_tru C (o_val (e_call C R__law_same (a_cons (e_var 4) (a_cons (e_ofL (l_lst (a_cons (e_tup (a_cons (e_var 10) (a_cons (e_var 11) a_nil))) (a_cons e_bl (a_cons (e_var 8) a_nil))))) a_nil)) (by decide))))) (s_one (s_ret e_bl)) s_nil)
    (s_cons (s_if (PW.pt (w_and (b_cmp op_lt v_lt (o_val (e_ix C.hK (o_slot 5) (o_val e_int))) (o_val e_int)) (pw_and1 (b_not (b_tru C (o_val (e_call C R__law_same (a_cons (e_ofL (l_lst (a_cons (e_call C R_sheet_share (a_cons (e_tup (a_cons (e_add C.hK (o_val (e_ix C.hK (o_slot 5) (o_val e_int))) (o_val e_int)) (a_cons (e_var 9) a_nil))) a_nil) (by decide)) (a_cons (e_call C R_are_like_sheets (a_cons (e_var 5) (a_cons (e_tup (a_cons (e_add C.hK (o_val (e_ix C.hK (o_slot 5) (o_val e_int))) (o_val e_int)) (a_cons (e_var 9) a_nil))) a_nil)) (by decide)) a_nil)))) (a_cons (e_ofL (l_lst (a_cons (e_tup (a_cons (e_sub (o_slot 10) (o_val (e_mul C.hK (o_val e_int) (o_slot 11)))) (a_cons (e_var 11) a_nil))) (a_cons e_bl a_nil)))) a_nil)) (by decide)))))))) (s_one (s_ret e_bl)) s_nil)
    (s_one (s_if (b_cmp op_lt v_lt (o_val (e_len C (o_slot 9) z.g_len)) (o_val e_int)) (s_cons (s_set C 3 (e_add C.hK (o_val e_int) (o_val (e_call C R__law_take (a_cons (e_var 1) (a_cons e_int a_nil)) (by decide)))))
    (s_one (s_if (b_not (b_tru C (o_val (e_call C R__law_same (a_cons (e_ofL (l_lst (a_cons (e_call C R_sheet_share (a_cons (e_tup (a_cons (e_ix C.hK (o_slot 5) (o_val e_int)) (a_cons (e_add C.hK (o_slot 9) (o_val (e_tup (a_cons (e_var 3) a_nil)))) a_nil))) a_nil) (by decide)) (a_cons (e_call C R_sheet_share (a_cons (e_tup (a_cons (e_ix C.hK (o_slot 5) (o_val e_int)) (a_cons (e_add C.hK (o_val (e_tup (a_cons e_int a_nil))) (o_slot 9)) a_nil))) a_nil) (by decide)) a_nil)))) (a_cons (e_ofL (l_lst (a_cons (e_call C R__law_slim (a_cons (e_sub (o_val (e_mul C.hK (o_slot 10) (o_slot 3))) (o_val (e_mul C.hK (o_slot 11) (o_val (e_sub (o_slot 3) (o_val e_int)))))) (a_cons (e_mul C.hK (o_slot 11) (o_slot 3)) a_nil)) (by decide)) (a_cons (e_tup (a_cons (e_sub (o_slot 10) (o_slot 11)) (a_cons (e_var 11) a_nil))) a_nil)))) a_nil)) (by decide))))) (s_one (s_ret e_bl)) s_nil))) s_nil))))))))))))))))
    (s_cons (s_for (vs := [3]) C (passes_of rfl) (i_r2 C z.g_range e_int e_int) (g_name 3 C.nd) (s_one (s_if (b_not (b_tru C (o_val (e_call C R__law_same (a_cons (e_ofL (l_lst (a_cons (e_call C R_sheet_size (a_cons (e_tup (a_cons e_int (a_cons (e_tup (a_cons e_int (a_cons (e_var 3) (a_cons e_int a_nil)))) a_nil))) a_nil) (by decide)) (a_cons (e_call C R_sheet_size (a_cons (e_tup (a_cons e_int (a_cons (e_tup (a_cons (e_var 3) (a_cons (e_var 3) a_nil))) a_nil))) a_nil) (by decide)) (a_cons (e_call C R_sheet_kind (a_cons (e_tup (a_cons e_int (a_cons (e_tup (a_cons (e_var 3) (a_cons e_int (a_cons e_int a_nil)))) a_nil))) a_nil) (by decide)) a_nil))))) (a_cons (e_ofL (l_lst (a_cons (e_mul C.hK (o_val e_int) (o_slot 3)) (a_cons (e_var 3) (a_cons e_str a_nil))))) a_nil)) (by decide))))) (s_one (s_ret e_bl)) s_nil)))
    (s_cons (s_set C 4 (e_ofL (l_lst (a_cons (e_call C R_sheet_size (a_cons (e_tup (a_cons e_int (a_cons (e_tup (a_cons e_int (a_cons e_int (a_cons e_int a_nil)))) a_nil))) a_nil) (by decide)) (a_cons (e_call C R_sheet_size (a_cons (e_tup (a_cons e_int (a_cons (e_tup (a_cons e_int (a_cons e_int (a_cons e_int a_nil)))) a_nil))) a_nil) (by decide)) (a_cons (e_call C R_sheet_size (a_cons (e_tup (a_cons e_int (a_cons (e_tup (a_cons e_int (a_cons e_int (a_cons e_int a_nil)))) a_nil))) a_nil) (by decide)) (a_cons (e_call C R_sheet_size (a_cons (e_tup (a_cons e_int (a_cons (e_tup a_nil) a_nil))) a_nil) (by decide)) (a_cons (e_call C R_sheet_size (a_cons (e_tup (a_cons e_int (a_cons (e_tup (a_cons e_int a_nil)) a_nil))) a_nil) (by decide)) (a_cons (e_call C R_sheet_kind (a_cons (e_tup (a_cons e_int (a_cons (e_tup (a_cons e_int (a_cons e_int (a_cons e_int a_nil)))) a_nil))) a_nil) (by decide)) (a_cons (e_call C R_sheet_kind (a_cons (e_tup (a_cons e_int (a_cons (e_tup (a_cons e_int (a_cons e_int a_nil))) a_nil))) a_nil) (by decide)) (a_cons (e_call C R_sheet_size (a_cons (e_tup (a_cons e_int (a_cons (e_tup (a_cons e_int (a_cons e_int a_nil))) a_nil))) a_nil) (by decide)) a_nil)))))))))))
    (s_one (s_ret (e_call C R__law_same (a_cons (e_var 4) (a_cons (e_ofL (l_lst (a_cons e_int (a_cons e_int (a_cons e_int (a_cons e_int (a_cons e_int (a_cons e_str (a_cons e_str (a_cons e_int a_nil)))))))))) a_nil)) (by decide))))))))
theorem bi_law (kV doc pm : Value) (an : Option Addr) (cdv ct : Value) (us : List Value) (hl : us.length = (["script"] : List Str).length) : bindArgs (PySem.W.fnOf "law" "law" (defArgs s_law) (defBody s_law) (defScope s_law) .none kV doc pm an cdv ct) ⟨us, []⟩ = pure ((["script"] : List Str).zip us) := match us, hl with | [_], _ => rfl
/-- from what the top has written -/
theorem all_mk {l : PySem.W.OpenLaw} {w : World} {K : PySem.W.Frag} {h : Heap} {mg : Str → Option Value} {fa : Addr} (hlaw : ∀ ns : List Int, ns.length ≤ 63 → ∃ hp, F_law [.scr (ns.map .int)] [] = .ok (.bl true) hp) (X : K.In h) (G : h.Ns mainGlobals mg) (hfa : mg "law" = some (.ref fa))
    {f0 : Addr} {oc0 kV0 dc0 pm0 cd0 ct0 : Value} {od0 an0 : Option Addr} {sl0 : Array (Option Value)} (a0 : PySem.W.nsIn K mainGlobals "_law_box" = some (some (.ref f0)))
    (l0 : K.lookup f0 = some ⟨oc0, od0, .func (PySem.W.fnOf "_law_box" "_law_box" (defArgs s__law_box) (defBody s__law_box) (defScope s__law_box) .none kV0 dc0 pm0 an0 cd0 ct0), sl0⟩) (c0 : PySem.W.codeIn K cd0 "_law_box" = true) (k0 : PySem.W.keepIn K (.ref f0) = true)
    {f1 : Addr} {oc1 kV1 dc1 pm1 cd1 ct1 : Value} {od1 an1 : Option Addr} {sl1 : Array (Option Value)} (a1 : PySem.W.nsIn K mainGlobals "_law_same" = some (some (.ref f1)))
    (l1 : K.lookup f1 = some ⟨oc1, od1, .func (PySem.W.fnOf "_law_same" "_law_same" (defArgs s__law_same) (defBody s__law_same) (defScope s__law_same) .none kV1 dc1 pm1 an1 cd1 ct1), sl1⟩) (c1 : PySem.W.codeIn K cd1 "_law_same" = true) (k1 : PySem.W.keepIn K (.ref f1) = true)
    {f2 : Addr} {oc2 kV2 dc2 pm2 cd2 ct2 : Value} {od2 an2 : Option Addr} {sl2 : Array (Option Value)} (a2 : PySem.W.nsIn K mainGlobals "_law_cells" = some (some (.ref f2)))
    (l2 : K.lookup f2 = some ⟨oc2, od2, .func (PySem.W.fnOf "_law_cells" "_law_cells" (defArgs s__law_cells) (defBody s__law_cells) (defScope s__law_cells) .none kV2 dc2 pm2 an2 cd2 ct2), sl2⟩) (c2 : PySem.W.codeIn K cd2 "_law_cells" = true) (k2 : PySem.W.keepIn K (.ref f2) = true)
    {f3 : Addr} {oc3 kV3 dc3 pm3 cd3 ct3 : Value} {od3 an3 : Option Addr} {sl3 : Array (Option Value)} (a3 : PySem.W.nsIn K mainGlobals "_law_common" = some (some (.ref f3)))
    (l3 : K.lookup f3 = some ⟨oc3, od3, .func (PySem.W.fnOf "_law_common" "_law_common" (defArgs s__law_common) (defBody s__law_common) (defScope s__law_common) .none kV3 dc3 pm3 an3 cd3 ct3), sl3⟩) (c3 : PySem.W.codeIn K cd3 "_law_common" = true) (k3 : PySem.W.keepIn K (.ref f3) = true)
    {f4 : Addr} {oc4 kV4 dc4 pm4 cd4 ct4 : Value} {od4 an4 : Option Addr} {sl4 : Array (Option Value)} (a4 : PySem.W.nsIn K mainGlobals "_law_slim" = some (some (.ref f4)))
    (l4 : K.lookup f4 = some ⟨oc4, od4, .func (PySem.W.fnOf "_law_slim" "_law_slim" (defArgs s__law_slim) (defBody s__law_slim) (defScope s__law_slim) .none kV4 dc4 pm4 an4 cd4 ct4), sl4⟩) (c4 : PySem.W.codeIn K cd4 "_law_slim" = true) (k4 : PySem.W.keepIn K (.ref f4) = true)
    {f5 : Addr} {oc5 kV5 dc5 pm5 cd5 ct5 : Value} {od5 an5 : Option Addr} {sl5 : Array (Option Value)} (a5 : PySem.W.nsIn K mainGlobals "_law_share" = some (some (.ref f5)))
    (l5 : K.lookup f5 = some ⟨oc5, od5, .func (PySem.W.fnOf "_law_share" "_law_share" (defArgs s__law_share) (defBody s__law_share) (defScope s__law_share) .none kV5 dc5 pm5 an5 cd5 ct5), sl5⟩) (c5 : PySem.W.codeIn K cd5 "_law_share" = true) (k5 : PySem.W.keepIn K (.ref f5) = true)
    {f6 : Addr} {oc6 kV6 dc6 pm6 cd6 ct6 : Value} {od6 an6 : Option Addr} {sl6 : Array (Option Value)} (a6 : PySem.W.nsIn K mainGlobals "_law_odd" = some (some (.ref f6)))
    (l6 : K.lookup f6 = some ⟨oc6, od6, .func (PySem.W.fnOf "_law_odd" "_law_odd" (defArgs s__law_odd) (defBody s__law_odd) (defScope s__law_odd) .none kV6 dc6 pm6 an6 cd6 ct6), sl6⟩) (c6 : PySem.W.codeIn K cd6 "_law_odd" = true) (k6 : PySem.W.keepIn K (.ref f6) = true)
    {f7 : Addr} {oc7 kV7 dc7 pm7 cd7 ct7 : Value} {od7 an7 : Option Addr} {sl7 : Array (Option Value)} (a7 : PySem.W.nsIn K mainGlobals "is_odd_in" = some (some (.ref f7)))
    (l7 : K.lookup f7 = some ⟨oc7, od7, .func (PySem.W.fnOf "is_odd_in" "is_odd_in" (defArgs s_is_odd_in) (defBody s_is_odd_in) (defScope s_is_odd_in) .none kV7 dc7 pm7 an7 cd7 ct7), sl7⟩) (c7 : PySem.W.codeIn K cd7 "is_odd_in" = true) (k7 : PySem.W.keepIn K (.ref f7) = true)
    {f8 : Addr} {oc8 kV8 dc8 pm8 cd8 ct8 : Value} {od8 an8 : Option Addr} {sl8 : Array (Option Value)} (a8 : PySem.W.nsIn K mainGlobals "common" = some (some (.ref f8)))
    (l8 : K.lookup f8 = some ⟨oc8, od8, .func (PySem.W.fnOf "common" "common" (defArgs s_common) (defBody s_common) (defScope s_common) .none kV8 dc8 pm8 an8 cd8 ct8), sl8⟩) (c8 : PySem.W.codeIn K cd8 "common" = true) (k8 : PySem.W.keepIn K (.ref f8) = true)
    {f9 : Addr} {oc9 kV9 dc9 pm9 cd9 ct9 : Value} {od9 an9 : Option Addr} {sl9 : Array (Option Value)} (a9 : PySem.W.nsIn K mainGlobals "lowest" = some (some (.ref f9)))
    (l9 : K.lookup f9 = some ⟨oc9, od9, .func (PySem.W.fnOf "lowest" "lowest" (defArgs s_lowest) (defBody s_lowest) (defScope s_lowest) .none kV9 dc9 pm9 an9 cd9 ct9), sl9⟩) (c9 : PySem.W.codeIn K cd9 "lowest" = true) (k9 : PySem.W.keepIn K (.ref f9) = true)
    {f10 : Addr} {oc10 kV10 dc10 pm10 cd10 ct10 : Value} {od10 an10 : Option Addr} {sl10 : Array (Option Value)} (a10 : PySem.W.nsIn K mainGlobals "least_multiple" = some (some (.ref f10)))
    (l10 : K.lookup f10 = some ⟨oc10, od10, .func (PySem.W.fnOf "least_multiple" "least_multiple" (defArgs s_least_multiple) (defBody s_least_multiple) (defScope s_least_multiple) .none kV10 dc10 pm10 an10 cd10 ct10), sl10⟩) (c10 : PySem.W.codeIn K cd10 "least_multiple" = true) (k10 : PySem.W.keepIn K (.ref f10) = true)
    {f11 : Addr} {oc11 kV11 dc11 pm11 cd11 ct11 : Value} {od11 an11 : Option Addr} {sl11 : Array (Option Value)} (a11 : PySem.W.nsIn K mainGlobals "share_in" = some (some (.ref f11)))
    (l11 : K.lookup f11 = some ⟨oc11, od11, .func (PySem.W.fnOf "share_in" "share_in" (defArgs s_share_in) (defBody s_share_in) (defScope s_share_in) .none kV11 dc11 pm11 an11 cd11 ct11), sl11⟩) (c11 : PySem.W.codeIn K cd11 "share_in" = true) (k11 : PySem.W.keepIn K (.ref f11) = true)
    {f12 : Addr} {oc12 kV12 dc12 pm12 cd12 ct12 : Value} {od12 an12 : Option Addr} {sl12 : Array (Option Value)} (a12 : PySem.W.nsIn K mainGlobals "size_in" = some (some (.ref f12)))
    (l12 : K.lookup f12 = some ⟨oc12, od12, .func (PySem.W.fnOf "size_in" "size_in" (defArgs s_size_in) (defBody s_size_in) (defScope s_size_in) .none kV12 dc12 pm12 an12 cd12 ct12), sl12⟩) (c12 : PySem.W.codeIn K cd12 "size_in" = true) (k12 : PySem.W.keepIn K (.ref f12) = true)
    {f13 : Addr} {oc13 kV13 dc13 pm13 cd13 ct13 : Value} {od13 an13 : Option Addr} {sl13 : Array (Option Value)} (a13 : PySem.W.nsIn K mainGlobals "tupled" = some (some (.ref f13)))
    (l13 : K.lookup f13 = some ⟨oc13, od13, .func (PySem.W.fnOf "tupled" "tupled" (defArgs s_tupled) (defBody s_tupled) (defScope s_tupled) .none kV13 dc13 pm13 an13 cd13 ct13), sl13⟩) (c13 : PySem.W.codeIn K cd13 "tupled" = true) (k13 : PySem.W.keepIn K (.ref f13) = true)
    {f14 : Addr} {oc14 kV14 dc14 pm14 cd14 ct14 : Value} {od14 an14 : Option Addr} {sl14 : Array (Option Value)} (a14 : PySem.W.nsIn K mainGlobals "is_long" = some (some (.ref f14)))
    (l14 : K.lookup f14 = some ⟨oc14, od14, .func (PySem.W.fnOf "is_long" "is_long" (defArgs s_is_long) (defBody s_is_long) (defScope s_is_long) .none kV14 dc14 pm14 an14 cd14 ct14), sl14⟩) (c14 : PySem.W.codeIn K cd14 "is_long" = true) (k14 : PySem.W.keepIn K (.ref f14) = true)
    {f15 : Addr} {oc15 kV15 dc15 pm15 cd15 ct15 : Value} {od15 an15 : Option Addr} {sl15 : Array (Option Value)} (a15 : PySem.W.nsIn K mainGlobals "is_number" = some (some (.ref f15)))
    (l15 : K.lookup f15 = some ⟨oc15, od15, .func (PySem.W.fnOf "is_number" "is_number" (defArgs s_is_number) (defBody s_is_number) (defScope s_is_number) .none kV15 dc15 pm15 an15 cd15 ct15), sl15⟩) (c15 : PySem.W.codeIn K cd15 "is_number" = true) (k15 : PySem.W.keepIn K (.ref f15) = true)
    {f16 : Addr} {oc16 kV16 dc16 pm16 cd16 ct16 : Value} {od16 an16 : Option Addr} {sl16 : Array (Option Value)} (a16 : PySem.W.nsIn K mainGlobals "is_within" = some (some (.ref f16)))
    (l16 : K.lookup f16 = some ⟨oc16, od16, .func (PySem.W.fnOf "is_within" "is_within" (defArgs s_is_within) (defBody s_is_within) (defScope s_is_within) .none kV16 dc16 pm16 an16 cd16 ct16), sl16⟩) (c16 : PySem.W.codeIn K cd16 "is_within" = true) (k16 : PySem.W.keepIn K (.ref f16) = true)
    {f17 : Addr} {oc17 kV17 dc17 pm17 cd17 ct17 : Value} {od17 an17 : Option Addr} {sl17 : Array (Option Value)} (a17 : PySem.W.nsIn K mainGlobals "is_turn" = some (some (.ref f17)))
    (l17 : K.lookup f17 = some ⟨oc17, od17, .func (PySem.W.fnOf "is_turn" "is_turn" (defArgs s_is_turn) (defBody s_is_turn) (defScope s_is_turn) .none kV17 dc17 pm17 an17 cd17 ct17), sl17⟩) (c17 : PySem.W.codeIn K cd17 "is_turn" = true) (k17 : PySem.W.keepIn K (.ref f17) = true)
    {f18 : Addr} {oc18 kV18 dc18 pm18 cd18 ct18 : Value} {od18 an18 : Option Addr} {sl18 : Array (Option Value)} (a18 : PySem.W.nsIn K mainGlobals "is_sheet" = some (some (.ref f18)))
    (l18 : K.lookup f18 = some ⟨oc18, od18, .func (PySem.W.fnOf "is_sheet" "is_sheet" (defArgs s_is_sheet) (defBody s_is_sheet) (defScope s_is_sheet) .none kV18 dc18 pm18 an18 cd18 ct18), sl18⟩) (c18 : PySem.W.codeIn K cd18 "is_sheet" = true) (k18 : PySem.W.keepIn K (.ref f18) = true)
    {f19 : Addr} {oc19 kV19 dc19 pm19 cd19 ct19 : Value} {od19 an19 : Option Addr} {sl19 : Array (Option Value)} (a19 : PySem.W.nsIn K mainGlobals "sure_sheet" = some (some (.ref f19)))
    (l19 : K.lookup f19 = some ⟨oc19, od19, .func (PySem.W.fnOf "sure_sheet" "sure_sheet" (defArgs s_sure_sheet) (defBody s_sure_sheet) (defScope s_sure_sheet) .none kV19 dc19 pm19 an19 cd19 ct19), sl19⟩) (c19 : PySem.W.codeIn K cd19 "sure_sheet" = true) (k19 : PySem.W.keepIn K (.ref f19) = true)
    {f20 : Addr} {oc20 kV20 dc20 pm20 cd20 ct20 : Value} {od20 an20 : Option Addr} {sl20 : Array (Option Value)} (a20 : PySem.W.nsIn K mainGlobals "sheet_size" = some (some (.ref f20)))
    (l20 : K.lookup f20 = some ⟨oc20, od20, .func (PySem.W.fnOf "sheet_size" "sheet_size" (defArgs s_sheet_size) (defBody s_sheet_size) (defScope s_sheet_size) .none kV20 dc20 pm20 an20 cd20 ct20), sl20⟩) (c20 : PySem.W.codeIn K cd20 "sheet_size" = true) (k20 : PySem.W.keepIn K (.ref f20) = true)
    {f21 : Addr} {oc21 kV21 dc21 pm21 cd21 ct21 : Value} {od21 an21 : Option Addr} {sl21 : Array (Option Value)} (a21 : PySem.W.nsIn K mainGlobals "sheet_kind_in" = some (some (.ref f21)))
    (l21 : K.lookup f21 = some ⟨oc21, od21, .func (PySem.W.fnOf "sheet_kind_in" "sheet_kind_in" (defArgs s_sheet_kind_in) (defBody s_sheet_kind_in) (defScope s_sheet_kind_in) .none kV21 dc21 pm21 an21 cd21 ct21), sl21⟩) (c21 : PySem.W.codeIn K cd21 "sheet_kind_in" = true) (k21 : PySem.W.keepIn K (.ref f21) = true)
    {f22 : Addr} {oc22 kV22 dc22 pm22 cd22 ct22 : Value} {od22 an22 : Option Addr} {sl22 : Array (Option Value)} (a22 : PySem.W.nsIn K mainGlobals "sheet_kind" = some (some (.ref f22)))
    (l22 : K.lookup f22 = some ⟨oc22, od22, .func (PySem.W.fnOf "sheet_kind" "sheet_kind" (defArgs s_sheet_kind) (defBody s_sheet_kind) (defScope s_sheet_kind) .none kV22 dc22 pm22 an22 cd22 ct22), sl22⟩) (c22 : PySem.W.codeIn K cd22 "sheet_kind" = true) (k22 : PySem.W.keepIn K (.ref f22) = true)
    {f23 : Addr} {oc23 kV23 dc23 pm23 cd23 ct23 : Value} {od23 an23 : Option Addr} {sl23 : Array (Option Value)} (a23 : PySem.W.nsIn K mainGlobals "_law_take" = some (some (.ref f23)))
    (l23 : K.lookup f23 = some ⟨oc23, od23, .func (PySem.W.fnOf "_law_take" "_law_take" (defArgs s__law_take) (defBody s__law_take) (defScope s__law_take) .none kV23 dc23 pm23 an23 cd23 ct23), sl23⟩) (c23 : PySem.W.codeIn K cd23 "_law_take" = true) (k23 : PySem.W.keepIn K (.ref f23) = true)
    {f24 : Addr} {oc24 kV24 dc24 pm24 cd24 ct24 : Value} {od24 an24 : Option Addr} {sl24 : Array (Option Value)} (a24 : PySem.W.nsIn K mainGlobals "_law_of" = some (some (.ref f24)))
    (l24 : K.lookup f24 = some ⟨oc24, od24, .func (PySem.W.fnOf "_law_of" "_law_of" (defArgs s__law_of) (defBody s__law_of) (defScope s__law_of) .none kV24 dc24 pm24 an24 cd24 ct24), sl24⟩) (c24 : PySem.W.codeIn K cd24 "_law_of" = true) (k24 : PySem.W.keepIn K (.ref f24) = true)
    {f25 : Addr} {oc25 kV25 dc25 pm25 cd25 ct25 : Value} {od25 an25 : Option Addr} {sl25 : Array (Option Value)} (a25 : PySem.W.nsIn K mainGlobals "_law_turn" = some (some (.ref f25)))
    (l25 : K.lookup f25 = some ⟨oc25, od25, .func (PySem.W.fnOf "_law_turn" "_law_turn" (defArgs s__law_turn) (defBody s__law_turn) (defScope s__law_turn) .none kV25 dc25 pm25 an25 cd25 ct25), sl25⟩) (c25 : PySem.W.codeIn K cd25 "_law_turn" = true) (k25 : PySem.W.keepIn K (.ref f25) = true)
    {f26 : Addr} {oc26 kV26 dc26 pm26 cd26 ct26 : Value} {od26 an26 : Option Addr} {sl26 : Array (Option Value)} (a26 : PySem.W.nsIn K mainGlobals "_law_sheet" = some (some (.ref f26)))
    (l26 : K.lookup f26 = some ⟨oc26, od26, .func (PySem.W.fnOf "_law_sheet" "_law_sheet" (defArgs s__law_sheet) (defBody s__law_sheet) (defScope s__law_sheet) .none kV26 dc26 pm26 an26 cd26 ct26), sl26⟩) (c26 : PySem.W.codeIn K cd26 "_law_sheet" = true) (k26 : PySem.W.keepIn K (.ref f26) = true)
    {f27 : Addr} {oc27 kV27 dc27 pm27 cd27 ct27 : Value} {od27 an27 : Option Addr} {sl27 : Array (Option Value)} (a27 : PySem.W.nsIn K mainGlobals "sheet_share" = some (some (.ref f27)))
    (l27 : K.lookup f27 = some ⟨oc27, od27, .func (PySem.W.fnOf "sheet_share" "sheet_share" (defArgs s_sheet_share) (defBody s_sheet_share) (defScope s_sheet_share) .none kV27 dc27 pm27 an27 cd27 ct27), sl27⟩) (c27 : PySem.W.codeIn K cd27 "sheet_share" = true) (k27 : PySem.W.keepIn K (.ref f27) = true)
    {f28 : Addr} {oc28 kV28 dc28 pm28 cd28 ct28 : Value} {od28 an28 : Option Addr} {sl28 : Array (Option Value)} (a28 : PySem.W.nsIn K mainGlobals "_law_pick" = some (some (.ref f28)))
    (l28 : K.lookup f28 = some ⟨oc28, od28, .func (PySem.W.fnOf "_law_pick" "_law_pick" (defArgs s__law_pick) (defBody s__law_pick) (defScope s__law_pick) .none kV28 dc28 pm28 an28 cd28 ct28), sl28⟩) (c28 : PySem.W.codeIn K cd28 "_law_pick" = true) (k28 : PySem.W.keepIn K (.ref f28) = true)
    {f29 : Addr} {oc29 kV29 dc29 pm29 cd29 ct29 : Value} {od29 an29 : Option Addr} {sl29 : Array (Option Value)} (a29 : PySem.W.nsIn K mainGlobals "are_like_sheets" = some (some (.ref f29)))
    (l29 : K.lookup f29 = some ⟨oc29, od29, .func (PySem.W.fnOf "are_like_sheets" "are_like_sheets" (defArgs s_are_like_sheets) (defBody s_are_like_sheets) (defScope s_are_like_sheets) .none kV29 dc29 pm29 an29 cd29 ct29), sl29⟩) (c29 : PySem.W.codeIn K cd29 "are_like_sheets" = true) (k29 : PySem.W.keepIn K (.ref f29) = true)
    {f30 : Addr} {oc30 kV30 dc30 pm30 cd30 ct30 : Value} {od30 an30 : Option Addr} {sl30 : Array (Option Value)} (a30 : PySem.W.nsIn K mainGlobals "_law_lists" = some (some (.ref f30)))
    (l30 : K.lookup f30 = some ⟨oc30, od30, .func (PySem.W.fnOf "_law_lists" "_law_lists" (defArgs s__law_lists) (defBody s__law_lists) (defScope s__law_lists) .none kV30 dc30 pm30 an30 cd30 ct30), sl30⟩) (c30 : PySem.W.codeIn K cd30 "_law_lists" = true) (k30 : PySem.W.keepIn K (.ref f30) = true)
    {f31 : Addr} {oc31 kV31 dc31 pm31 cd31 ct31 : Value} {od31 an31 : Option Addr} {sl31 : Array (Option Value)} (a31 : PySem.W.nsIn K mainGlobals "law" = some (some (.ref f31)))
    (l31 : K.lookup f31 = some ⟨oc31, od31, .func (PySem.W.fnOf "law" "law" (defArgs s_law) (defBody s_law) (defScope s_law) .none kV31 dc31 pm31 an31 cd31 ct31), sl31⟩) (c31 : PySem.W.codeIn K cd31 "law" = true) (k31 : PySem.W.keepIn K (.ref f31) = true)
    (z_abs : PySem.W.nsIn K mainGlobals "abs" = some none) (z_all : PySem.W.nsIn K mainGlobals "all" = some none) (z_bool : PySem.W.nsIn K mainGlobals "bool" = some none) (z_enumerate : PySem.W.nsIn K mainGlobals "enumerate" = some none) (z_int : PySem.W.nsIn K mainGlobals "int" = some none) (z_isinstance : PySem.W.nsIn K mainGlobals "isinstance" = some none) (z_len : PySem.W.nsIn K mainGlobals "len" = some none) (z_list : PySem.W.nsIn K mainGlobals "list" = some none) (z_min : PySem.W.nsIn K mainGlobals "min" = some none) (z_range : PySem.W.nsIn K mainGlobals "range" = some none) (z_sorted : PySem.W.nsIn K mainGlobals "sorted" = some none) (z_str : PySem.W.nsIn K mainGlobals "str" = some none) (z_sum : PySem.W.nsIn K mainGlobals "sum" = some none) (z_tuple : PySem.W.nsIn K mainGlobals "tuple" = some none) (z_zip : PySem.W.nsIn K mainGlobals "zip" = some none) {t_MOST_HANDLES : PySem.Tok} (y_MOST_HANDLES : PySem.W.nsIn K mainGlobals "MOST_HANDLES" = some (some (.int 5 t_MOST_HANDLES))) {t_MOST_SPOTS : PySem.Tok} (y_MOST_SPOTS : PySem.W.nsIn K mainGlobals "MOST_SPOTS" = some (some (.int 8 t_MOST_SPOTS))) {t_MOST_TURN : PySem.Tok} (y_MOST_TURN : PySem.W.nsIn K mainGlobals "MOST_TURN" = some (some (.int 12 t_MOST_TURN))) :
    ∃ fd : FuncData, (∀ (s : Shared) (v : Value), BindsTo s fd ⟨[v], []⟩ [("script", v)]) ∧ ∀ base : Heap, K.In base → base.Ns mainGlobals mg → FnOk l.prog w K mg base (L2.CX l.prog w) 11 fa fd ["script"] (spT K) := by
  have e := hfa.symm.trans (PySem.W.mg_of X G a31)
  cases e
  have z : Gz mg := ⟨PySem.W.mg_none_of X G z_abs, PySem.W.mg_none_of X G z_all, PySem.W.mg_none_of X G z_bool, PySem.W.mg_none_of X G z_enumerate, PySem.W.mg_none_of X G z_int, PySem.W.mg_none_of X G z_isinstance, PySem.W.mg_none_of X G z_len, PySem.W.mg_none_of X G z_list, PySem.W.mg_none_of X G z_min, PySem.W.mg_none_of X G z_range, PySem.W.mg_none_of X G z_sorted, PySem.W.mg_none_of X G z_str, PySem.W.mg_none_of X G z_sum, PySem.W.mg_none_of X G z_tuple, PySem.W.mg_none_of X G z_zip, ⟨_, PySem.W.mg_of X G y_MOST_HANDLES⟩, ⟨_, PySem.W.mg_of X G y_MOST_SPOTS⟩, ⟨_, PySem.W.mg_of X G y_MOST_TURN⟩⟩
  have Fu0 := fun_mk (st := s__law_box) l0 c0 k0
  have Fu1 := fun_mk (st := s__law_same) l1 c1 k1
  have Fu2 := fun_mk (st := s__law_cells) l2 c2 k2
  have Fu3 := fun_mk (st := s__law_common) l3 c3 k3
  have Fu4 := fun_mk (st := s__law_slim) l4 c4 k4
  have Fu5 := fun_mk (st := s__law_share) l5 c5 k5
  have Fu6 := fun_mk (st := s__law_odd) l6 c6 k6
  have Fu7 := fun_mk (st := s_is_odd_in) l7 c7 k7
  have Fu8 := fun_mk (st := s_common) l8 c8 k8
  have Fu9 := fun_mk (st := s_lowest) l9 c9 k9
  have Fu10 := fun_mk (st := s_least_multiple) l10 c10 k10
  have Fu11 := fun_mk (st := s_share_in) l11 c11 k11
  have Fu12 := fun_mk (st := s_size_in) l12 c12 k12
  have Fu13 := fun_mk (st := s_tupled) l13 c13 k13
  have Fu14 := fun_mk (st := s_is_long) l14 c14 k14
  have Fu15 := fun_mk (st := s_is_number) l15 c15 k15
  have Fu16 := fun_mk (st := s_is_within) l16 c16 k16
  have Fu17 := fun_mk (st := s_is_turn) l17 c17 k17
  have Fu18 := fun_mk (st := s_is_sheet) l18 c18 k18
  have Fu19 := fun_mk (st := s_sure_sheet) l19 c19 k19
  have Fu20 := fun_mk (st := s_sheet_size) l20 c20 k20
  have Fu21 := fun_mk (st := s_sheet_kind_in) l21 c21 k21
  have Fu22 := fun_mk (st := s_sheet_kind) l22 c22 k22
  have Fu23 := fun_mk (st := s__law_take) l23 c23 k23
  have Fu24 := fun_mk (st := s__law_of) l24 c24 k24
  have Fu25 := fun_mk (st := s__law_turn) l25 c25 k25
  have Fu26 := fun_mk (st := s__law_sheet) l26 c26 k26
  have Fu27 := fun_mk (st := s_sheet_share) l27 c27 k27
  have Fu28 := fun_mk (st := s__law_pick) l28 c28 k28
  have Fu29 := fun_mk (st := s_are_like_sheets) l29 c29 k29
  have Fu30 := fun_mk (st := s__law_lists) l30 c30 k30
  have Fu31 := fun_mk (st := s_law) l31 c31 k31
  refine ⟨PySem.W.fnOf "law" "law" (defArgs s_law) (defBody s_law) (defScope s_law) .none kV31 dc31 pm31 an31 cd31 ct31, fun s v => .of_eq rfl, fun base _ _ => ?_⟩
  have R__law_box : FnR ⟨K, mg⟩ l.prog w base "_law_box" s__law_box 1 ["script", "k"] F__law_box := fnr_of Fu0 (PySem.W.mg_of X G a0) (ok__law_box (P := l.prog) (w := w) (base := base) z  Fu0) bi__law_box
  have R__law_same := ok__law_same (P := l.prog) (w := w) (base := base) z  Fu1 (PySem.W.mg_of X G a1) 8
  have R__law_cells : FnR ⟨K, mg⟩ l.prog w base "_law_cells" s__law_cells 1 ["script", "most_so"] F__law_cells := fnr_of Fu2 (PySem.W.mg_of X G a2) (ok__law_cells (P := l.prog) (w := w) (base := base) z  Fu2) bi__law_cells
  have R__law_common : FnR ⟨K, mg⟩ l.prog w base "_law_common" s__law_common 1 ["one_so", "two"] F__law_common := fnr_of Fu3 (PySem.W.mg_of X G a3) (ok__law_common (P := l.prog) (w := w) (base := base) z  Fu3) bi__law_common
  have R__law_slim : FnR ⟨K, mg⟩ l.prog w base "_law_slim" s__law_slim 2 ["over", "under"] F__law_slim := fnr_of Fu4 (PySem.W.mg_of X G a4) (ok__law_slim (P := l.prog) (w := w) (base := base) z R__law_common Fu4) bi__law_slim
  have R__law_share : FnR ⟨K, mg⟩ l.prog w base "_law_share" s__law_share 3 ["sheet_so"] F__law_share := fnr_of Fu5 (PySem.W.mg_of X G a5) (ok__law_share (P := l.prog) (w := w) (base := base) z R__law_slim Fu5) bi__law_share
  have R__law_odd : FnR ⟨K, mg⟩ l.prog w base "_law_odd" s__law_odd 1 ["sheet_so"] F__law_odd := fnr_of Fu6 (PySem.W.mg_of X G a6) (ok__law_odd (P := l.prog) (w := w) (base := base) z  Fu6) bi__law_odd
  have R_is_odd_in : FnR ⟨K, mg⟩ l.prog w base "is_odd_in" s_is_odd_in 1 ["sheet"] F_is_odd_in := fnr_of Fu7 (PySem.W.mg_of X G a7) (ok_is_odd_in (P := l.prog) (w := w) (base := base) z  Fu7) bi_is_odd_in
  have R_common : FnR ⟨K, mg⟩ l.prog w base "common" s_common 1 ["one", "other"] F_common := fnr_of Fu8 (PySem.W.mg_of X G a8) (ok_common (P := l.prog) (w := w) (base := base) z  Fu8) bi_common
  have R_lowest : FnR ⟨K, mg⟩ l.prog w base "lowest" s_lowest 2 ["over", "under"] F_lowest := fnr_of Fu9 (PySem.W.mg_of X G a9) (ok_lowest (P := l.prog) (w := w) (base := base) z R_common Fu9) bi_lowest
  have R_least_multiple : FnR ⟨K, mg⟩ l.prog w base "least_multiple" s_least_multiple 2 ["one", "other"] F_least_multiple := fnr_of Fu10 (PySem.W.mg_of X G a10) (ok_least_multiple (P := l.prog) (w := w) (base := base) z R_common Fu10) bi_least_multiple
  have R_share_in : FnR ⟨K, mg⟩ l.prog w base "share_in" s_share_in 3 ["sheet"] F_share_in := fnr_of Fu11 (PySem.W.mg_of X G a11) (ok_share_in (P := l.prog) (w := w) (base := base) z R_lowest R_least_multiple Fu11) bi_share_in
  have R_size_in : FnR ⟨K, mg⟩ l.prog w base "size_in" s_size_in 4 ["sheet"] F_size_in := fnr_of Fu12 (PySem.W.mg_of X G a12) (ok_size_in (P := l.prog) (w := w) (base := base) z R_is_odd_in R_share_in R_common Fu12) bi_size_in
  have R_tupled := ok_tupled (P := l.prog) (w := w) (base := base) z  Fu13 (PySem.W.mg_of X G a13) 8
  have R_is_long : FnR ⟨K, mg⟩ l.prog w base "is_long" s_is_long 1 ["thing", "length"] F_is_long := fnr_of Fu14 (PySem.W.mg_of X G a14) (ok_is_long (P := l.prog) (w := w) (base := base) z  Fu14) bi_is_long
  have R_is_number : FnR ⟨K, mg⟩ l.prog w base "is_number" s_is_number 1 ["thing"] F_is_number := fnr_of Fu15 (PySem.W.mg_of X G a15) (ok_is_number (P := l.prog) (w := w) (base := base) z  Fu15) bi_is_number
  have R_is_within : FnR ⟨K, mg⟩ l.prog w base "is_within" s_is_within 2 ["thing", "least", "most"] F_is_within := fnr_of Fu16 (PySem.W.mg_of X G a16) (ok_is_within (P := l.prog) (w := w) (base := base) z R_is_number Fu16) bi_is_within
  have R_is_turn : FnR ⟨K, mg⟩ l.prog w base "is_turn" s_is_turn 3 ["thing"] F_is_turn := fnr_of Fu17 (PySem.W.mg_of X G a17) (ok_is_turn (P := l.prog) (w := w) (base := base) z R_is_within Fu17) bi_is_turn
  have R_is_sheet : FnR ⟨K, mg⟩ l.prog w base "is_sheet" s_is_sheet 4 ["thing"] F_is_sheet := fnr_of Fu18 (PySem.W.mg_of X G a18) (ok_is_sheet (P := l.prog) (w := w) (base := base) z R_is_long R_is_within R_is_turn Fu18) bi_is_sheet
  have R_sure_sheet : FnR ⟨K, mg⟩ l.prog w base "sure_sheet" s_sure_sheet 9 ["value"] F_sure_sheet := fnr_of Fu19 (PySem.W.mg_of X G a19) (ok_sure_sheet (P := l.prog) (w := w) (base := base) z R_tupled R_is_sheet Fu19) bi_sure_sheet
  have R_sheet_size : FnR ⟨K, mg⟩ l.prog w base "sheet_size" s_sheet_size 10 ["sheet"] F_sheet_size := fnr_of Fu20 (PySem.W.mg_of X G a20) (ok_sheet_size (P := l.prog) (w := w) (base := base) z R_size_in R_sure_sheet Fu20) bi_sheet_size
  have R_sheet_kind_in : FnR ⟨K, mg⟩ l.prog w base "sheet_kind_in" s_sheet_kind_in 4 ["sheet"] F_sheet_kind_in := fnr_of Fu21 (PySem.W.mg_of X G a21) (ok_sheet_kind_in (P := l.prog) (w := w) (base := base) z R_is_odd_in R_share_in Fu21) bi_sheet_kind_in
  have R_sheet_kind : FnR ⟨K, mg⟩ l.prog w base "sheet_kind" s_sheet_kind 10 ["sheet"] F_sheet_kind := fnr_of Fu22 (PySem.W.mg_of X G a22) (ok_sheet_kind (P := l.prog) (w := w) (base := base) z R_sheet_kind_in R_sure_sheet Fu22) bi_sheet_kind
  have R__law_take : FnR ⟨K, mg⟩ l.prog w base "_law_take" s__law_take 1 ["tin", "below_so"] F__law_take := fnr_of Fu23 (PySem.W.mg_of X G a23) (ok__law_take (P := l.prog) (w := w) (base := base) z  Fu23) bi__law_take
  have R__law_of : FnR ⟨K, mg⟩ l.prog w base "_law_of" s__law_of 2 ["tin", "goods_so"] F__law_of := fnr_of Fu24 (PySem.W.mg_of X G a24) (ok__law_of (P := l.prog) (w := w) (base := base) z R__law_take Fu24) bi__law_of
  have R__law_turn : FnR ⟨K, mg⟩ l.prog w base "_law_turn" s__law_turn 3 ["tin", "most_so"] F__law_turn := fnr_of Fu25 (PySem.W.mg_of X G a25) (ok__law_turn (P := l.prog) (w := w) (base := base) z R__law_of R__law_take Fu25) bi__law_turn
  have R__law_sheet : FnR ⟨K, mg⟩ l.prog w base "_law_sheet" s__law_sheet 4 ["tin", "handles_so", "spots_so", "most_so"] F__law_sheet := fnr_of Fu26 (PySem.W.mg_of X G a26) (ok__law_sheet (P := l.prog) (w := w) (base := base) z R__law_take R__law_turn Fu26) bi__law_sheet
  have R_sheet_share : FnR ⟨K, mg⟩ l.prog w base "sheet_share" s_sheet_share 10 ["sheet"] F_sheet_share := fnr_of Fu27 (PySem.W.mg_of X G a27) (ok_sheet_share (P := l.prog) (w := w) (base := base) z R_share_in R_sure_sheet Fu27) bi_sheet_share
  have R__law_pick : FnR ⟨K, mg⟩ l.prog w base "_law_pick" s__law_pick 2 ["tin", "goods_so", "count_so"] F__law_pick := fnr_of Fu28 (PySem.W.mg_of X G a28) (ok__law_pick (P := l.prog) (w := w) (base := base) z R__law_take Fu28) bi__law_pick
  have R_are_like_sheets : FnR ⟨K, mg⟩ l.prog w base "are_like_sheets" s_are_like_sheets 10 ["one", "other"] F_are_like_sheets := fnr_of Fu29 (PySem.W.mg_of X G a29) (ok_are_like_sheets (P := l.prog) (w := w) (base := base) z R_sure_sheet Fu29) bi_are_like_sheets
  have R__law_lists := ok__law_lists (P := l.prog) (w := w) (base := base) z  Fu30 (PySem.W.mg_of X G a30) 8
  exact law_ok (ok_law (P := l.prog) (w := w) (base := base) z R__law_box R__law_same R__law_cells R__law_share R__law_odd R_sheet_size R_sheet_kind R__law_sheet R_is_sheet R_sheet_share R__law_pick R_are_like_sheets R__law_common R__law_take R__law_lists R__law_turn R__law_slim Fu31) hlaw
end L30
namespace L30
open PySem PySem.Spec PyProof.Rows L2 DS
/-- the drawing's box -/
def Bx (n : Nat) (hp : List Ob) : Prop := ∃ a b c : Int, hp = [.lst [.int a, .int b, .int c]] ∧ 0 ≤ c ∧ c ≤ n
theorem Bx.mono {m n : Nat} {hp : List Ob} (h : Bx m hp) (l : m ≤ n) : Bx n hp := by
  obtain ⟨a, b, c, e, h1, h2⟩ := h
  exact ⟨a, b, c, e, h1, by omega⟩
theorem gcd_step (a b : Int) (ha : 0 ≤ a) (hb : 0 ≤ b) : Int.gcd a b = Int.gcd b (a % b) := by
  obtain ⟨m, rfl⟩ := Int.eq_ofNat_of_zero_le ha
  obtain ⟨n, rfl⟩ := Int.eq_ofNat_of_zero_le hb
  show Nat.gcd m n = Nat.gcd n (m % n)
  rw [Nat.gcd_comm m n, Nat.gcd_rec n m, Nat.gcd_comm]
theorem gcd_loop (hp : List Ob) : ∀ (n : Nat) (a b : Int), b.natAbs ≤ n → 0 ≤ a → 0 ≤ b → whlS (asB (op2 neD (oS 1) (oV (cst (.int 0))))) (par2 0 1 (.v (var 1)) (.v (op2 modD (oS 0) (oS 1)))) ⟨[.v (.int a), .v (.int b)], hp⟩ = .ok .nx ⟨[.v (.int (Int.gcd a b)), .v (.int 0)], hp⟩ := by
  intro n
  induction n with
  | zero =>
    intro a b h ha hb
    have : b = 0 := by omega
    subst this
    rw [whlS_eq]
    unfold turn
    simp (config := { failIfUnchanged := false }) only [DS.nxS, DS.bkS, DS.ctS, DS.badS, DS.retS, DS.retN, DS.exprS, DS.setS, DS.setL, DS.asgS, DS.gN, DS.gT, DS.gsN, DS.gsC, DS.op1, DS.op2, DS.op1L, DS.op2L, DS.oV, DS.oS, DS.var, DS.cst, DS.deref, DS.derefD, DS.ofL, DS.lstE, DS.evA, DS.tupE, DS.asB, DS.truT, DS.andT, DS.orT, DS.notT, DS.andE, DS.orE, DS.notE, DS.ifE, DS.chn, DS.sl, DS.slL, DS.part, DS.lcE, DS.lcL, DS.itA, DS.itE, DS.itZ, DS.par2, DS.evP, DS.setIx, DS.mutE, DS.lstTok, DS.updTok, DS.shr, DS.callE, DS.callKE, DS.runFn, DS.orL, DS.yesT, DS.noOwn, DS.addD, DS.subD, DS.mulD, DS.divD, DS.modD, DS.powD, DS.negD, DS.ltD, DS.leD, DS.gtD, DS.geD, DS.isN, DS.isntN, DS.notD, DS.ixD, DS.slD, DS.slLs, DS.lenD, DS.absD, DS.intD, DS.tupleD, DS.listL, DS.allD, DS.anyD, DS.sumD, DS.minD, DS.maxD, DS.sortedL, DS.truD, DS.isiD, DS.tyD, DS.gId, DS.wipeE, DS.restE, DS.R.bind_ok, DS.R.bind_exc, DS.R.bind_bad, DS.R.map_ok, DS.R.of_some, DS.R.of_none, Option.bind_some, Option.bind_none, Option.map_some, Option.map_none, List.getElem?_cons_zero, List.getElem?_cons_succ, List.getElem?_nil, List.set_cons_zero, List.set_cons_succ, List.length_cons, List.length_nil, List.map_cons, List.map_nil, Option.getD_some, Option.getD_none, List.cons_append, List.nil_append, List.replicate_succ, List.replicate_zero, Nat.reduceAdd, Nat.reduceSub, decide_eq_true_eq, Bool.and_eq_true, Bool.or_eq_true, if_true, if_false, Bool.not_eq_true', Bool.false_eq_true, reduceIte, DS.eqD_int, DS.neD_int, DS.eqD_bl, DS.neD_bl, ne_eq, not_false_eq_true, not_true_eq_false, true_and, and_true, true_or, or_true, false_or, or_false, and_self, Int.reduceEq, Int.reduceAbs, Nat.reduceLT, Int.reduceLT, Int.reduceLE, Int.reduceNeg, Nat.reduceEqDiff, decide_true, decide_false, Bool.not_true, Bool.not_false]
    simp
    omega
  | succ n ih =>
    intro a b h ha hb
    rw [whlS_eq]
    unfold turn
    simp (config := { failIfUnchanged := false }) only [DS.nxS, DS.bkS, DS.ctS, DS.badS, DS.retS, DS.retN, DS.exprS, DS.setS, DS.setL, DS.asgS, DS.gN, DS.gT, DS.gsN, DS.gsC, DS.op1, DS.op2, DS.op1L, DS.op2L, DS.oV, DS.oS, DS.var, DS.cst, DS.deref, DS.derefD, DS.ofL, DS.lstE, DS.evA, DS.tupE, DS.asB, DS.truT, DS.andT, DS.orT, DS.notT, DS.andE, DS.orE, DS.notE, DS.ifE, DS.chn, DS.sl, DS.slL, DS.part, DS.lcE, DS.lcL, DS.itA, DS.itE, DS.itZ, DS.par2, DS.evP, DS.setIx, DS.mutE, DS.lstTok, DS.updTok, DS.shr, DS.callE, DS.callKE, DS.runFn, DS.orL, DS.yesT, DS.noOwn, DS.addD, DS.subD, DS.mulD, DS.divD, DS.modD, DS.powD, DS.negD, DS.ltD, DS.leD, DS.gtD, DS.geD, DS.isN, DS.isntN, DS.notD, DS.ixD, DS.slD, DS.slLs, DS.lenD, DS.absD, DS.intD, DS.tupleD, DS.listL, DS.allD, DS.anyD, DS.sumD, DS.minD, DS.maxD, DS.sortedL, DS.truD, DS.isiD, DS.tyD, DS.gId, DS.wipeE, DS.restE, DS.R.bind_ok, DS.R.bind_exc, DS.R.bind_bad, DS.R.map_ok, DS.R.of_some, DS.R.of_none, Option.bind_some, Option.bind_none, Option.map_some, Option.map_none, List.getElem?_cons_zero, List.getElem?_cons_succ, List.getElem?_nil, List.set_cons_zero, List.set_cons_succ, List.length_cons, List.length_nil, List.map_cons, List.map_nil, Option.getD_some, Option.getD_none, List.cons_append, List.nil_append, List.replicate_succ, List.replicate_zero, Nat.reduceAdd, Nat.reduceSub, decide_eq_true_eq, Bool.and_eq_true, Bool.or_eq_true, if_true, if_false, Bool.not_eq_true', Bool.false_eq_true, reduceIte, DS.eqD_int, DS.neD_int, DS.eqD_bl, DS.neD_bl, ne_eq, not_false_eq_true, not_true_eq_false, true_and, and_true, true_or, or_true, false_or, or_false, and_self, Int.reduceEq, Int.reduceAbs, Nat.reduceLT, Int.reduceLT, Int.reduceLE, Int.reduceNeg, Nat.reduceEqDiff, decide_true, decide_false, Bool.not_true, Bool.not_false]
    by_cases h0 : b = 0
    · subst h0
      simp
      omega
    · have hm : a.fmod b = a % b := by rw [Int.fmod_eq_emod_of_nonneg _ hb]
      have h1 : 0 ≤ a % b := Int.emod_nonneg _ h0
      have h2 : a % b < b := Int.emod_lt_of_pos _ (by omega)
      rw [gcd_step a b ha hb]
      simp only [h0, Bool.not_false, if_true, R.of_some, R.bind_ok, R.map_ok, List.set_cons_zero, List.set_cons_succ, hm, List.getElem?_cons_zero, List.getElem?_cons_succ]
      exact ih b (a % b) (by omega) hb h1
theorem abs_if (z : Int) : (if z < 0 then -z else z) = (z.natAbs : Int) := by split <;> omega
theorem F_common_ok (a b : Int) (hp : List Ob) : F_common [.int a, .int b] hp = .ok (.int (Int.gcd a b)) hp := by
  have e := gcd_loop hp b.natAbs a.natAbs b.natAbs (by omega) (by omega) (by omega)
  unfold F_common B_common
  rw [show Int.gcd (a.natAbs : Int) (b.natAbs : Int) = Int.gcd a b from rfl] at e
  exact fn_rt (sq_nx (by simp (config := { failIfUnchanged := false }) only [DS.nxS, DS.bkS, DS.ctS, DS.badS, DS.retS, DS.retN, DS.exprS, DS.setS, DS.setL, DS.asgS, DS.gN, DS.gT, DS.gsN, DS.gsC, DS.op1, DS.op2, DS.op1L, DS.op2L, DS.oV, DS.oS, DS.var, DS.cst, DS.deref, DS.derefD, DS.ofL, DS.lstE, DS.evA, DS.tupE, DS.asB, DS.truT, DS.andT, DS.orT, DS.notT, DS.andE, DS.orE, DS.notE, DS.ifE, DS.chn, DS.sl, DS.slL, DS.part, DS.lcE, DS.lcL, DS.itA, DS.itE, DS.itZ, DS.par2, DS.evP, DS.setIx, DS.mutE, DS.lstTok, DS.updTok, DS.shr, DS.callE, DS.callKE, DS.runFn, DS.orL, DS.yesT, DS.noOwn, DS.addD, DS.subD, DS.mulD, DS.divD, DS.modD, DS.powD, DS.negD, DS.ltD, DS.leD, DS.gtD, DS.geD, DS.isN, DS.isntN, DS.notD, DS.ixD, DS.slD, DS.slLs, DS.lenD, DS.absD, DS.intD, DS.tupleD, DS.listL, DS.allD, DS.anyD, DS.sumD, DS.minD, DS.maxD, DS.sortedL, DS.truD, DS.isiD, DS.tyD, DS.gId, DS.wipeE, DS.restE, DS.R.bind_ok, DS.R.bind_exc, DS.R.bind_bad, DS.R.map_ok, DS.R.of_some, DS.R.of_none, Option.bind_some, Option.bind_none, Option.map_some, Option.map_none, List.getElem?_cons_zero, List.getElem?_cons_succ, List.getElem?_nil, List.set_cons_zero, List.set_cons_succ, List.length_cons, List.length_nil, List.map_cons, List.map_nil, Option.getD_some, Option.getD_none, List.cons_append, List.nil_append, List.replicate_succ, List.replicate_zero, Nat.reduceAdd, Nat.reduceSub, decide_eq_true_eq, Bool.and_eq_true, Bool.or_eq_true, if_true, if_false, Bool.not_eq_true', Bool.false_eq_true, reduceIte, DS.eqD_int, DS.neD_int, DS.eqD_bl, DS.neD_bl, ne_eq, not_false_eq_true, not_true_eq_false, true_and, and_true, true_or, or_true, false_or, or_false, and_self, Int.reduceEq, Int.reduceAbs, Nat.reduceLT, Int.reduceLT, Int.reduceLE, Int.reduceNeg, Nat.reduceEqDiff, decide_true, decide_false, Bool.not_true, Bool.not_false, abs_if] <;> rfl) (sq_nx e (rt_of (by simp (config := { failIfUnchanged := false }) only [DS.nxS, DS.bkS, DS.ctS, DS.badS, DS.retS, DS.retN, DS.exprS, DS.setS, DS.setL, DS.asgS, DS.gN, DS.gT, DS.gsN, DS.gsC, DS.op1, DS.op2, DS.op1L, DS.op2L, DS.oV, DS.oS, DS.var, DS.cst, DS.deref, DS.derefD, DS.ofL, DS.lstE, DS.evA, DS.tupE, DS.asB, DS.truT, DS.andT, DS.orT, DS.notT, DS.andE, DS.orE, DS.notE, DS.ifE, DS.chn, DS.sl, DS.slL, DS.part, DS.lcE, DS.lcL, DS.itA, DS.itE, DS.itZ, DS.par2, DS.evP, DS.setIx, DS.mutE, DS.lstTok, DS.updTok, DS.shr, DS.callE, DS.callKE, DS.runFn, DS.orL, DS.yesT, DS.noOwn, DS.addD, DS.subD, DS.mulD, DS.divD, DS.modD, DS.powD, DS.negD, DS.ltD, DS.leD, DS.gtD, DS.geD, DS.isN, DS.isntN, DS.notD, DS.ixD, DS.slD, DS.slLs, DS.lenD, DS.absD, DS.intD, DS.tupleD, DS.listL, DS.allD, DS.anyD, DS.sumD, DS.minD, DS.maxD, DS.sortedL, DS.truD, DS.isiD, DS.tyD, DS.gId, DS.wipeE, DS.restE, DS.R.bind_ok, DS.R.bind_exc, DS.R.bind_bad, DS.R.map_ok, DS.R.of_some, DS.R.of_none, Option.bind_some, Option.bind_none, Option.map_some, Option.map_none, List.getElem?_cons_zero, List.getElem?_cons_succ, List.getElem?_nil, List.set_cons_zero, List.set_cons_succ, List.length_cons, List.length_nil, List.map_cons, List.map_nil, Option.getD_some, Option.getD_none, List.cons_append, List.nil_append, List.replicate_succ, List.replicate_zero, Nat.reduceAdd, Nat.reduceSub, decide_eq_true_eq, Bool.and_eq_true, Bool.or_eq_true, if_true, if_false, Bool.not_eq_true', Bool.false_eq_true, reduceIte, DS.eqD_int, DS.neD_int, DS.eqD_bl, DS.neD_bl, ne_eq, not_false_eq_true, not_true_eq_false, true_and, and_true, true_or, or_true, false_or, or_false, and_self, Int.reduceEq, Int.reduceAbs, Nat.reduceLT, Int.reduceLT, Int.reduceLE, Int.reduceNeg, Nat.reduceEqDiff, decide_true, decide_false, Bool.not_true, Bool.not_false] <;> rfl))))
theorem gcd_loop2 (x y : Slot) (hp : List Ob) : ∀ (n : Nat) (a b : Int), b.natAbs ≤ n → 0 ≤ a → 0 ≤ b → whlS (asB (op2 neD (oS 3) (oV (cst (.int 0))))) (par2 2 3 (.v (var 3)) (.v (op2 modD (oS 2) (oS 3)))) ⟨[x, y, .v (.int a), .v (.int b)], hp⟩ = .ok .nx ⟨[x, y, .v (.int (Int.gcd a b)), .v (.int 0)], hp⟩ := by
  intro n
  induction n with
  | zero =>
    intro a b h ha hb
    have : b = 0 := by omega
    subst this
    rw [whlS_eq]
    unfold turn
    simp (config := { failIfUnchanged := false }) only [DS.nxS, DS.bkS, DS.ctS, DS.badS, DS.retS, DS.retN, DS.exprS, DS.setS, DS.setL, DS.asgS, DS.gN, DS.gT, DS.gsN, DS.gsC, DS.op1, DS.op2, DS.op1L, DS.op2L, DS.oV, DS.oS, DS.var, DS.cst, DS.deref, DS.derefD, DS.ofL, DS.lstE, DS.evA, DS.tupE, DS.asB, DS.truT, DS.andT, DS.orT, DS.notT, DS.andE, DS.orE, DS.notE, DS.ifE, DS.chn, DS.sl, DS.slL, DS.part, DS.lcE, DS.lcL, DS.itA, DS.itE, DS.itZ, DS.par2, DS.evP, DS.setIx, DS.mutE, DS.lstTok, DS.updTok, DS.shr, DS.callE, DS.callKE, DS.runFn, DS.orL, DS.yesT, DS.noOwn, DS.addD, DS.subD, DS.mulD, DS.divD, DS.modD, DS.powD, DS.negD, DS.ltD, DS.leD, DS.gtD, DS.geD, DS.isN, DS.isntN, DS.notD, DS.ixD, DS.slD, DS.slLs, DS.lenD, DS.absD, DS.intD, DS.tupleD, DS.listL, DS.allD, DS.anyD, DS.sumD, DS.minD, DS.maxD, DS.sortedL, DS.truD, DS.isiD, DS.tyD, DS.gId, DS.wipeE, DS.restE, DS.R.bind_ok, DS.R.bind_exc, DS.R.bind_bad, DS.R.map_ok, DS.R.of_some, DS.R.of_none, Option.bind_some, Option.bind_none, Option.map_some, Option.map_none, List.getElem?_cons_zero, List.getElem?_cons_succ, List.getElem?_nil, List.set_cons_zero, List.set_cons_succ, List.length_cons, List.length_nil, List.map_cons, List.map_nil, Option.getD_some, Option.getD_none, List.cons_append, List.nil_append, List.replicate_succ, List.replicate_zero, Nat.reduceAdd, Nat.reduceSub, decide_eq_true_eq, Bool.and_eq_true, Bool.or_eq_true, if_true, if_false, Bool.not_eq_true', Bool.false_eq_true, reduceIte, DS.eqD_int, DS.neD_int, DS.eqD_bl, DS.neD_bl, ne_eq, not_false_eq_true, not_true_eq_false, true_and, and_true, true_or, or_true, false_or, or_false, and_self, Int.reduceEq, Int.reduceAbs, Nat.reduceLT, Int.reduceLT, Int.reduceLE, Int.reduceNeg, Nat.reduceEqDiff, decide_true, decide_false, Bool.not_true, Bool.not_false]
    simp
    omega
  | succ n ih =>
    intro a b h ha hb
    rw [whlS_eq]
    unfold turn
    simp (config := { failIfUnchanged := false }) only [DS.nxS, DS.bkS, DS.ctS, DS.badS, DS.retS, DS.retN, DS.exprS, DS.setS, DS.setL, DS.asgS, DS.gN, DS.gT, DS.gsN, DS.gsC, DS.op1, DS.op2, DS.op1L, DS.op2L, DS.oV, DS.oS, DS.var, DS.cst, DS.deref, DS.derefD, DS.ofL, DS.lstE, DS.evA, DS.tupE, DS.asB, DS.truT, DS.andT, DS.orT, DS.notT, DS.andE, DS.orE, DS.notE, DS.ifE, DS.chn, DS.sl, DS.slL, DS.part, DS.lcE, DS.lcL, DS.itA, DS.itE, DS.itZ, DS.par2, DS.evP, DS.setIx, DS.mutE, DS.lstTok, DS.updTok, DS.shr, DS.callE, DS.callKE, DS.runFn, DS.orL, DS.yesT, DS.noOwn, DS.addD, DS.subD, DS.mulD, DS.divD, DS.modD, DS.powD, DS.negD, DS.ltD, DS.leD, DS.gtD, DS.geD, DS.isN, DS.isntN, DS.notD, DS.ixD, DS.slD, DS.slLs, DS.lenD, DS.absD, DS.intD, DS.tupleD, DS.listL, DS.allD, DS.anyD, DS.sumD, DS.minD, DS.maxD, DS.sortedL, DS.truD, DS.isiD, DS.tyD, DS.gId, DS.wipeE, DS.restE, DS.R.bind_ok, DS.R.bind_exc, DS.R.bind_bad, DS.R.map_ok, DS.R.of_some, DS.R.of_none, Option.bind_some, Option.bind_none, Option.map_some, Option.map_none, List.getElem?_cons_zero, List.getElem?_cons_succ, List.getElem?_nil, List.set_cons_zero, List.set_cons_succ, List.length_cons, List.length_nil, List.map_cons, List.map_nil, Option.getD_some, Option.getD_none, List.cons_append, List.nil_append, List.replicate_succ, List.replicate_zero, Nat.reduceAdd, Nat.reduceSub, decide_eq_true_eq, Bool.and_eq_true, Bool.or_eq_true, if_true, if_false, Bool.not_eq_true', Bool.false_eq_true, reduceIte, DS.eqD_int, DS.neD_int, DS.eqD_bl, DS.neD_bl, ne_eq, not_false_eq_true, not_true_eq_false, true_and, and_true, true_or, or_true, false_or, or_false, and_self, Int.reduceEq, Int.reduceAbs, Nat.reduceLT, Int.reduceLT, Int.reduceLE, Int.reduceNeg, Nat.reduceEqDiff, decide_true, decide_false, Bool.not_true, Bool.not_false]
    by_cases h0 : b = 0
    · subst h0
      simp
      omega
    · have hm : a.fmod b = a % b := by rw [Int.fmod_eq_emod_of_nonneg _ hb]
      have h1 : 0 ≤ a % b := Int.emod_nonneg _ h0
      have h2 : a % b < b := Int.emod_lt_of_pos _ (by omega)
      rw [gcd_step a b ha hb]
      simp only [h0, Bool.not_false, if_true, R.of_some, R.bind_ok, R.map_ok, List.set_cons_zero, List.set_cons_succ, hm, List.getElem?_cons_zero, List.getElem?_cons_succ]
      exact ih b (a % b) (by omega) hb h1
theorem F__law_common_ok (a b : Int) (hp : List Ob) : F__law_common [.int a, .int b] hp = .ok (.int (Int.gcd a b)) hp := by
  have e := gcd_loop2 (.v (.int a)) (.v (.int b)) hp b.natAbs a.natAbs b.natAbs (by omega) (by omega) (by omega)
  unfold F__law_common B__law_common
  rw [show Int.gcd (a.natAbs : Int) (b.natAbs : Int) = Int.gcd a b from rfl] at e
  exact fn_rt (sq_nx (by simp (config := { failIfUnchanged := false }) only [DS.nxS, DS.bkS, DS.ctS, DS.badS, DS.retS, DS.retN, DS.exprS, DS.setS, DS.setL, DS.asgS, DS.gN, DS.gT, DS.gsN, DS.gsC, DS.op1, DS.op2, DS.op1L, DS.op2L, DS.oV, DS.oS, DS.var, DS.cst, DS.deref, DS.derefD, DS.ofL, DS.lstE, DS.evA, DS.tupE, DS.asB, DS.truT, DS.andT, DS.orT, DS.notT, DS.andE, DS.orE, DS.notE, DS.ifE, DS.chn, DS.sl, DS.slL, DS.part, DS.lcE, DS.lcL, DS.itA, DS.itE, DS.itZ, DS.par2, DS.evP, DS.setIx, DS.mutE, DS.lstTok, DS.updTok, DS.shr, DS.callE, DS.callKE, DS.runFn, DS.orL, DS.yesT, DS.noOwn, DS.addD, DS.subD, DS.mulD, DS.divD, DS.modD, DS.powD, DS.negD, DS.ltD, DS.leD, DS.gtD, DS.geD, DS.isN, DS.isntN, DS.notD, DS.ixD, DS.slD, DS.slLs, DS.lenD, DS.absD, DS.intD, DS.tupleD, DS.listL, DS.allD, DS.anyD, DS.sumD, DS.minD, DS.maxD, DS.sortedL, DS.truD, DS.isiD, DS.tyD, DS.gId, DS.wipeE, DS.restE, DS.R.bind_ok, DS.R.bind_exc, DS.R.bind_bad, DS.R.map_ok, DS.R.of_some, DS.R.of_none, Option.bind_some, Option.bind_none, Option.map_some, Option.map_none, List.getElem?_cons_zero, List.getElem?_cons_succ, List.getElem?_nil, List.set_cons_zero, List.set_cons_succ, List.length_cons, List.length_nil, List.map_cons, List.map_nil, Option.getD_some, Option.getD_none, List.cons_append, List.nil_append, List.replicate_succ, List.replicate_zero, Nat.reduceAdd, Nat.reduceSub, decide_eq_true_eq, Bool.and_eq_true, Bool.or_eq_true, if_true, if_false, Bool.not_eq_true', Bool.false_eq_true, reduceIte, DS.eqD_int, DS.neD_int, DS.eqD_bl, DS.neD_bl, ne_eq, not_false_eq_true, not_true_eq_false, true_and, and_true, true_or, or_true, false_or, or_false, and_self, Int.reduceEq, Int.reduceAbs, Nat.reduceLT, Int.reduceLT, Int.reduceLE, Int.reduceNeg, Nat.reduceEqDiff, decide_true, decide_false, Bool.not_true, Bool.not_false, abs_if] <;> rfl) (sq_nx e (rt_of (by simp (config := { failIfUnchanged := false }) only [DS.nxS, DS.bkS, DS.ctS, DS.badS, DS.retS, DS.retN, DS.exprS, DS.setS, DS.setL, DS.asgS, DS.gN, DS.gT, DS.gsN, DS.gsC, DS.op1, DS.op2, DS.op1L, DS.op2L, DS.oV, DS.oS, DS.var, DS.cst, DS.deref, DS.derefD, DS.ofL, DS.lstE, DS.evA, DS.tupE, DS.asB, DS.truT, DS.andT, DS.orT, DS.notT, DS.andE, DS.orE, DS.notE, DS.ifE, DS.chn, DS.sl, DS.slL, DS.part, DS.lcE, DS.lcL, DS.itA, DS.itE, DS.itZ, DS.par2, DS.evP, DS.setIx, DS.mutE, DS.lstTok, DS.updTok, DS.shr, DS.callE, DS.callKE, DS.runFn, DS.orL, DS.yesT, DS.noOwn, DS.addD, DS.subD, DS.mulD, DS.divD, DS.modD, DS.powD, DS.negD, DS.ltD, DS.leD, DS.gtD, DS.geD, DS.isN, DS.isntN, DS.notD, DS.ixD, DS.slD, DS.slLs, DS.lenD, DS.absD, DS.intD, DS.tupleD, DS.listL, DS.allD, DS.anyD, DS.sumD, DS.minD, DS.maxD, DS.sortedL, DS.truD, DS.isiD, DS.tyD, DS.gId, DS.wipeE, DS.restE, DS.R.bind_ok, DS.R.bind_exc, DS.R.bind_bad, DS.R.map_ok, DS.R.of_some, DS.R.of_none, Option.bind_some, Option.bind_none, Option.map_some, Option.map_none, List.getElem?_cons_zero, List.getElem?_cons_succ, List.getElem?_nil, List.set_cons_zero, List.set_cons_succ, List.length_cons, List.length_nil, List.map_cons, List.map_nil, Option.getD_some, Option.getD_none, List.cons_append, List.nil_append, List.replicate_succ, List.replicate_zero, Nat.reduceAdd, Nat.reduceSub, decide_eq_true_eq, Bool.and_eq_true, Bool.or_eq_true, if_true, if_false, Bool.not_eq_true', Bool.false_eq_true, reduceIte, DS.eqD_int, DS.neD_int, DS.eqD_bl, DS.neD_bl, ne_eq, not_false_eq_true, not_true_eq_false, true_and, and_true, true_or, or_true, false_or, or_false, and_self, Int.reduceEq, Int.reduceAbs, Nat.reduceLT, Int.reduceLT, Int.reduceLE, Int.reduceNeg, Nat.reduceEqDiff, decide_true, decide_false, Bool.not_true, Bool.not_false] <;> rfl))))
theorem atI0 {α : Type} (x : α) (l : List α) : L2.atI (x :: l) 0 = some x := L2.atI_nat (j := 0) rfl
theorem atI1 {α : Type} (x y : α) (l : List α) : L2.atI (x :: y :: l) 1 = some y := L2.atI_nat (j := 1) rfl
theorem atI2 {α : Type} (x y z : α) (l : List α) : L2.atI (x :: y :: z :: l) 2 = some z := L2.atI_nat (j := 2) rfl
theorem ix30 : L2.ixN 3 0 = some 0 := by decide
theorem ix32 : L2.ixN 3 2 = some 2 := by decide
theorem sm_lit (i : Int) (h : i.natAbs < 18446744073709551616) : DS.small64 i = true := decide_eq_true h
theorem take_ok {n : Nat} {hp : List Ob} (h : Bx n hp) (hn : n < 5000) (m : Int) (hm : 0 < m) (hm2 : m < 1000) : ∃ r hp', F__law_take [.ref 0, .int m] hp = .ok (.int r) hp' ∧ Bx (n + 1) hp' ∧ 0 ≤ r ∧ r < m := by
  obtain ⟨a, b, c, rfl, h1, h2⟩ := h
  have hm0 : m ≠ 0 := by omega
  have hb : m.natAbs < 1073741824 := by omega
  have hs : DS.small64 (39373 + (c + 1)) = true := sm_lit _ (by omega)
  have hs2 : DS.small64 48271 = true := by decide
  have hs3 : ∀ x : Int, DS.small64 (x.fmod 40009 + 7) = true := fun x => sm_lit _ (by
    have h1 := Int.fmod_nonneg_of_pos x (show (0:Int) < 40009 by decide)
    have h2 := Int.fmod_lt_of_pos x (show (0:Int) < 40009 by decide)
    omega)
  unfold F__law_take B__law_take
  by_cases ha : 0 < a
  · refine ⟨a.fmod m, _, fn_rt (sq_rt (if_tt (by simp (config := { failIfUnchanged := false }) only [DS.nxS, DS.bkS, DS.ctS, DS.badS, DS.retS, DS.retN, DS.exprS, DS.setS, DS.setL, DS.asgS, DS.gN, DS.gT, DS.gsN, DS.gsC, DS.op1, DS.op2, DS.op1L, DS.op2L, DS.oV, DS.oS, DS.var, DS.cst, DS.deref, DS.derefD, DS.ofL, DS.lstE, DS.evA, DS.tupE, DS.asB, DS.truT, DS.andT, DS.orT, DS.notT, DS.andE, DS.orE, DS.notE, DS.ifE, DS.chn, DS.sl, DS.slL, DS.part, DS.lcE, DS.lcL, DS.itA, DS.itE, DS.itZ, DS.par2, DS.evP, DS.setIx, DS.mutE, DS.lstTok, DS.updTok, DS.shr, DS.callE, DS.callKE, DS.runFn, DS.orL, DS.yesT, DS.noOwn, DS.addD, DS.subD, DS.mulD, DS.divD, DS.modD, DS.powD, DS.negD, DS.ltD, DS.leD, DS.gtD, DS.geD, DS.isN, DS.isntN, DS.notD, DS.ixD, DS.slD, DS.slLs, DS.lenD, DS.absD, DS.intD, DS.tupleD, DS.listL, DS.allD, DS.anyD, DS.sumD, DS.minD, DS.maxD, DS.sortedL, DS.truD, DS.isiD, DS.tyD, DS.gId, DS.wipeE, DS.restE, DS.R.bind_ok, DS.R.bind_exc, DS.R.bind_bad, DS.R.map_ok, DS.R.of_some, DS.R.of_none, Option.bind_some, Option.bind_none, Option.map_some, Option.map_none, List.getElem?_cons_zero, List.getElem?_cons_succ, List.getElem?_nil, List.set_cons_zero, List.set_cons_succ, List.length_cons, List.length_nil, List.map_cons, List.map_nil, Option.getD_some, Option.getD_none, List.cons_append, List.nil_append, List.replicate_succ, List.replicate_zero, Nat.reduceAdd, Nat.reduceSub, decide_eq_true_eq, Bool.and_eq_true, Bool.or_eq_true, if_true, if_false, Bool.not_eq_true', Bool.false_eq_true, reduceIte, DS.eqD_int, DS.neD_int, DS.eqD_bl, DS.neD_bl, ne_eq, not_false_eq_true, not_true_eq_false, true_and, and_true, true_or, or_true, false_or, or_false, and_self, Int.reduceEq, Int.reduceAbs, Nat.reduceLT, Int.reduceLT, Int.reduceLE, Int.reduceNeg, Nat.reduceEqDiff, decide_true, decide_false, Bool.not_true, Bool.not_false, atI0, atI1, atI2, ix30, ix32, ha] <;> rfl) (sq_nx (by simp (config := { failIfUnchanged := false }) only [DS.nxS, DS.bkS, DS.ctS, DS.badS, DS.retS, DS.retN, DS.exprS, DS.setS, DS.setL, DS.asgS, DS.gN, DS.gT, DS.gsN, DS.gsC, DS.op1, DS.op2, DS.op1L, DS.op2L, DS.oV, DS.oS, DS.var, DS.cst, DS.deref, DS.derefD, DS.ofL, DS.lstE, DS.evA, DS.tupE, DS.asB, DS.truT, DS.andT, DS.orT, DS.notT, DS.andE, DS.orE, DS.notE, DS.ifE, DS.chn, DS.sl, DS.slL, DS.part, DS.lcE, DS.lcL, DS.itA, DS.itE, DS.itZ, DS.par2, DS.evP, DS.setIx, DS.mutE, DS.lstTok, DS.updTok, DS.shr, DS.callE, DS.callKE, DS.runFn, DS.orL, DS.yesT, DS.noOwn, DS.addD, DS.subD, DS.mulD, DS.divD, DS.modD, DS.powD, DS.negD, DS.ltD, DS.leD, DS.gtD, DS.geD, DS.isN, DS.isntN, DS.notD, DS.ixD, DS.slD, DS.slLs, DS.lenD, DS.absD, DS.intD, DS.tupleD, DS.listL, DS.allD, DS.anyD, DS.sumD, DS.minD, DS.maxD, DS.sortedL, DS.truD, DS.isiD, DS.tyD, DS.gId, DS.wipeE, DS.restE, DS.R.bind_ok, DS.R.bind_exc, DS.R.bind_bad, DS.R.map_ok, DS.R.of_some, DS.R.of_none, Option.bind_some, Option.bind_none, Option.map_some, Option.map_none, List.getElem?_cons_zero, List.getElem?_cons_succ, List.getElem?_nil, List.set_cons_zero, List.set_cons_succ, List.length_cons, List.length_nil, List.map_cons, List.map_nil, Option.getD_some, Option.getD_none, List.cons_append, List.nil_append, List.replicate_succ, List.replicate_zero, Nat.reduceAdd, Nat.reduceSub, decide_eq_true_eq, Bool.and_eq_true, Bool.or_eq_true, if_true, if_false, Bool.not_eq_true', Bool.false_eq_true, reduceIte, DS.eqD_int, DS.neD_int, DS.eqD_bl, DS.neD_bl, ne_eq, not_false_eq_true, not_true_eq_false, true_and, and_true, true_or, or_true, false_or, or_false, and_self, Int.reduceEq, Int.reduceAbs, Nat.reduceLT, Int.reduceLT, Int.reduceLE, Int.reduceNeg, Nat.reduceEqDiff, decide_true, decide_false, Bool.not_true, Bool.not_false, atI0, ix30, hm0] <;> rfl) (sq_nx (by simp (config := { failIfUnchanged := false }) only [DS.nxS, DS.bkS, DS.ctS, DS.badS, DS.retS, DS.retN, DS.exprS, DS.setS, DS.setL, DS.asgS, DS.gN, DS.gT, DS.gsN, DS.gsC, DS.op1, DS.op2, DS.op1L, DS.op2L, DS.oV, DS.oS, DS.var, DS.cst, DS.deref, DS.derefD, DS.ofL, DS.lstE, DS.evA, DS.tupE, DS.asB, DS.truT, DS.andT, DS.orT, DS.notT, DS.andE, DS.orE, DS.notE, DS.ifE, DS.chn, DS.sl, DS.slL, DS.part, DS.lcE, DS.lcL, DS.itA, DS.itE, DS.itZ, DS.par2, DS.evP, DS.setIx, DS.mutE, DS.lstTok, DS.updTok, DS.shr, DS.callE, DS.callKE, DS.runFn, DS.orL, DS.yesT, DS.noOwn, DS.addD, DS.subD, DS.mulD, DS.divD, DS.modD, DS.powD, DS.negD, DS.ltD, DS.leD, DS.gtD, DS.geD, DS.isN, DS.isntN, DS.notD, DS.ixD, DS.slD, DS.slLs, DS.lenD, DS.absD, DS.intD, DS.tupleD, DS.listL, DS.allD, DS.anyD, DS.sumD, DS.minD, DS.maxD, DS.sortedL, DS.truD, DS.isiD, DS.tyD, DS.gId, DS.wipeE, DS.restE, DS.R.bind_ok, DS.R.bind_exc, DS.R.bind_bad, DS.R.map_ok, DS.R.of_some, DS.R.of_none, Option.bind_some, Option.bind_none, Option.map_some, Option.map_none, List.getElem?_cons_zero, List.getElem?_cons_succ, List.getElem?_nil, List.set_cons_zero, List.set_cons_succ, List.length_cons, List.length_nil, List.map_cons, List.map_nil, Option.getD_some, Option.getD_none, List.cons_append, List.nil_append, List.replicate_succ, List.replicate_zero, Nat.reduceAdd, Nat.reduceSub, decide_eq_true_eq, Bool.and_eq_true, Bool.or_eq_true, if_true, if_false, Bool.not_eq_true', Bool.false_eq_true, reduceIte, DS.eqD_int, DS.neD_int, DS.eqD_bl, DS.neD_bl, ne_eq, not_false_eq_true, not_true_eq_false, true_and, and_true, true_or, or_true, false_or, or_false, and_self, Int.reduceEq, Int.reduceAbs, Nat.reduceLT, Int.reduceLT, Int.reduceLE, Int.reduceNeg, Nat.reduceEqDiff, decide_true, decide_false, Bool.not_true, Bool.not_false, atI0, ix30, hm0, hb] <;> rfl) (rt_of (by simp (config := { failIfUnchanged := false }) only [DS.nxS, DS.bkS, DS.ctS, DS.badS, DS.retS, DS.retN, DS.exprS, DS.setS, DS.setL, DS.asgS, DS.gN, DS.gT, DS.gsN, DS.gsC, DS.op1, DS.op2, DS.op1L, DS.op2L, DS.oV, DS.oS, DS.var, DS.cst, DS.deref, DS.derefD, DS.ofL, DS.lstE, DS.evA, DS.tupE, DS.asB, DS.truT, DS.andT, DS.orT, DS.notT, DS.andE, DS.orE, DS.notE, DS.ifE, DS.chn, DS.sl, DS.slL, DS.part, DS.lcE, DS.lcL, DS.itA, DS.itE, DS.itZ, DS.par2, DS.evP, DS.setIx, DS.mutE, DS.lstTok, DS.updTok, DS.shr, DS.callE, DS.callKE, DS.runFn, DS.orL, DS.yesT, DS.noOwn, DS.addD, DS.subD, DS.mulD, DS.divD, DS.modD, DS.powD, DS.negD, DS.ltD, DS.leD, DS.gtD, DS.geD, DS.isN, DS.isntN, DS.notD, DS.ixD, DS.slD, DS.slLs, DS.lenD, DS.absD, DS.intD, DS.tupleD, DS.listL, DS.allD, DS.anyD, DS.sumD, DS.minD, DS.maxD, DS.sortedL, DS.truD, DS.isiD, DS.tyD, DS.gId, DS.wipeE, DS.restE, DS.R.bind_ok, DS.R.bind_exc, DS.R.bind_bad, DS.R.map_ok, DS.R.of_some, DS.R.of_none, Option.bind_some, Option.bind_none, Option.map_some, Option.map_none, List.getElem?_cons_zero, List.getElem?_cons_succ, List.getElem?_nil, List.set_cons_zero, List.set_cons_succ, List.length_cons, List.length_nil, List.map_cons, List.map_nil, Option.getD_some, Option.getD_none, List.cons_append, List.nil_append, List.replicate_succ, List.replicate_zero, Nat.reduceAdd, Nat.reduceSub, decide_eq_true_eq, Bool.and_eq_true, Bool.or_eq_true, if_true, if_false, Bool.not_eq_true', Bool.false_eq_true, reduceIte, DS.eqD_int, DS.neD_int, DS.eqD_bl, DS.neD_bl, ne_eq, not_false_eq_true, not_true_eq_false, true_and, and_true, true_or, or_true, false_or, or_false, and_self, Int.reduceEq, Int.reduceAbs, Nat.reduceLT, Int.reduceLT, Int.reduceLE, Int.reduceNeg, Nat.reduceEqDiff, decide_true, decide_false, Bool.not_true, Bool.not_false] <;> rfl)))))), ⟨a.fdiv m, b, c, rfl, h1, by omega⟩, Int.fmod_nonneg_of_pos _ hm, Int.fmod_lt_of_pos _ hm⟩
  · refine ⟨_, _, fn_rt (sq_nx (if_ff (by simp (config := { failIfUnchanged := false }) only [DS.nxS, DS.bkS, DS.ctS, DS.badS, DS.retS, DS.retN, DS.exprS, DS.setS, DS.setL, DS.asgS, DS.gN, DS.gT, DS.gsN, DS.gsC, DS.op1, DS.op2, DS.op1L, DS.op2L, DS.oV, DS.oS, DS.var, DS.cst, DS.deref, DS.derefD, DS.ofL, DS.lstE, DS.evA, DS.tupE, DS.asB, DS.truT, DS.andT, DS.orT, DS.notT, DS.andE, DS.orE, DS.notE, DS.ifE, DS.chn, DS.sl, DS.slL, DS.part, DS.lcE, DS.lcL, DS.itA, DS.itE, DS.itZ, DS.par2, DS.evP, DS.setIx, DS.mutE, DS.lstTok, DS.updTok, DS.shr, DS.callE, DS.callKE, DS.runFn, DS.orL, DS.yesT, DS.noOwn, DS.addD, DS.subD, DS.mulD, DS.divD, DS.modD, DS.powD, DS.negD, DS.ltD, DS.leD, DS.gtD, DS.geD, DS.isN, DS.isntN, DS.notD, DS.ixD, DS.slD, DS.slLs, DS.lenD, DS.absD, DS.intD, DS.tupleD, DS.listL, DS.allD, DS.anyD, DS.sumD, DS.minD, DS.maxD, DS.sortedL, DS.truD, DS.isiD, DS.tyD, DS.gId, DS.wipeE, DS.restE, DS.R.bind_ok, DS.R.bind_exc, DS.R.bind_bad, DS.R.map_ok, DS.R.of_some, DS.R.of_none, Option.bind_some, Option.bind_none, Option.map_some, Option.map_none, List.getElem?_cons_zero, List.getElem?_cons_succ, List.getElem?_nil, List.set_cons_zero, List.set_cons_succ, List.length_cons, List.length_nil, List.map_cons, List.map_nil, Option.getD_some, Option.getD_none, List.cons_append, List.nil_append, List.replicate_succ, List.replicate_zero, Nat.reduceAdd, Nat.reduceSub, decide_eq_true_eq, Bool.and_eq_true, Bool.or_eq_true, if_true, if_false, Bool.not_eq_true', Bool.false_eq_true, reduceIte, DS.eqD_int, DS.neD_int, DS.eqD_bl, DS.neD_bl, ne_eq, not_false_eq_true, not_true_eq_false, true_and, and_true, true_or, or_true, false_or, or_false, and_self, Int.reduceEq, Int.reduceAbs, Nat.reduceLT, Int.reduceLT, Int.reduceLE, Int.reduceNeg, Nat.reduceEqDiff, decide_true, decide_false, Bool.not_true, Bool.not_false, atI0, atI1, atI2, ix30, ix32, ha] <;> rfl) (by simp (config := { failIfUnchanged := false }) only [DS.nxS, DS.bkS, DS.ctS, DS.badS, DS.retS, DS.retN, DS.exprS, DS.setS, DS.setL, DS.asgS, DS.gN, DS.gT, DS.gsN, DS.gsC, DS.op1, DS.op2, DS.op1L, DS.op2L, DS.oV, DS.oS, DS.var, DS.cst, DS.deref, DS.derefD, DS.ofL, DS.lstE, DS.evA, DS.tupE, DS.asB, DS.truT, DS.andT, DS.orT, DS.notT, DS.andE, DS.orE, DS.notE, DS.ifE, DS.chn, DS.sl, DS.slL, DS.part, DS.lcE, DS.lcL, DS.itA, DS.itE, DS.itZ, DS.par2, DS.evP, DS.setIx, DS.mutE, DS.lstTok, DS.updTok, DS.shr, DS.callE, DS.callKE, DS.runFn, DS.orL, DS.yesT, DS.noOwn, DS.addD, DS.subD, DS.mulD, DS.divD, DS.modD, DS.powD, DS.negD, DS.ltD, DS.leD, DS.gtD, DS.geD, DS.isN, DS.isntN, DS.notD, DS.ixD, DS.slD, DS.slLs, DS.lenD, DS.absD, DS.intD, DS.tupleD, DS.listL, DS.allD, DS.anyD, DS.sumD, DS.minD, DS.maxD, DS.sortedL, DS.truD, DS.isiD, DS.tyD, DS.gId, DS.wipeE, DS.restE, DS.R.bind_ok, DS.R.bind_exc, DS.R.bind_bad, DS.R.map_ok, DS.R.of_some, DS.R.of_none, Option.bind_some, Option.bind_none, Option.map_some, Option.map_none, List.getElem?_cons_zero, List.getElem?_cons_succ, List.getElem?_nil, List.set_cons_zero, List.set_cons_succ, List.length_cons, List.length_nil, List.map_cons, List.map_nil, Option.getD_some, Option.getD_none, List.cons_append, List.nil_append, List.replicate_succ, List.replicate_zero, Nat.reduceAdd, Nat.reduceSub, decide_eq_true_eq, Bool.and_eq_true, Bool.or_eq_true, if_true, if_false, Bool.not_eq_true', Bool.false_eq_true, reduceIte, DS.eqD_int, DS.neD_int, DS.eqD_bl, DS.neD_bl, ne_eq, not_false_eq_true, not_true_eq_false, true_and, and_true, true_or, or_true, false_or, or_false, and_self, Int.reduceEq, Int.reduceAbs, Nat.reduceLT, Int.reduceLT, Int.reduceLE, Int.reduceNeg, Nat.reduceEqDiff, decide_true, decide_false, Bool.not_true, Bool.not_false] <;> rfl)) (sq_nx (by simp (config := { failIfUnchanged := false }) only [DS.nxS, DS.bkS, DS.ctS, DS.badS, DS.retS, DS.retN, DS.exprS, DS.setS, DS.setL, DS.asgS, DS.gN, DS.gT, DS.gsN, DS.gsC, DS.op1, DS.op2, DS.op1L, DS.op2L, DS.oV, DS.oS, DS.var, DS.cst, DS.deref, DS.derefD, DS.ofL, DS.lstE, DS.evA, DS.tupE, DS.asB, DS.truT, DS.andT, DS.orT, DS.notT, DS.andE, DS.orE, DS.notE, DS.ifE, DS.chn, DS.sl, DS.slL, DS.part, DS.lcE, DS.lcL, DS.itA, DS.itE, DS.itZ, DS.par2, DS.evP, DS.setIx, DS.mutE, DS.lstTok, DS.updTok, DS.shr, DS.callE, DS.callKE, DS.runFn, DS.orL, DS.yesT, DS.noOwn, DS.addD, DS.subD, DS.mulD, DS.divD, DS.modD, DS.powD, DS.negD, DS.ltD, DS.leD, DS.gtD, DS.geD, DS.isN, DS.isntN, DS.notD, DS.ixD, DS.slD, DS.slLs, DS.lenD, DS.absD, DS.intD, DS.tupleD, DS.listL, DS.allD, DS.anyD, DS.sumD, DS.minD, DS.maxD, DS.sortedL, DS.truD, DS.isiD, DS.tyD, DS.gId, DS.wipeE, DS.restE, DS.R.bind_ok, DS.R.bind_exc, DS.R.bind_bad, DS.R.map_ok, DS.R.of_some, DS.R.of_none, Option.bind_some, Option.bind_none, Option.map_some, Option.map_none, List.getElem?_cons_zero, List.getElem?_cons_succ, List.getElem?_nil, List.set_cons_zero, List.set_cons_succ, List.length_cons, List.length_nil, List.map_cons, List.map_nil, Option.getD_some, Option.getD_none, List.cons_append, List.nil_append, List.replicate_succ, List.replicate_zero, Nat.reduceAdd, Nat.reduceSub, decide_eq_true_eq, Bool.and_eq_true, Bool.or_eq_true, if_true, if_false, Bool.not_eq_true', Bool.false_eq_true, reduceIte, DS.eqD_int, DS.neD_int, DS.eqD_bl, DS.neD_bl, ne_eq, not_false_eq_true, not_true_eq_false, true_and, and_true, true_or, or_true, false_or, or_false, and_self, Int.reduceEq, Int.reduceAbs, Nat.reduceLT, Int.reduceLT, Int.reduceLE, Int.reduceNeg, Nat.reduceEqDiff, decide_true, decide_false, Bool.not_true, Bool.not_false, atI2, ix32] <;> rfl) (sq_nx (by simp (config := { failIfUnchanged := false }) only [DS.nxS, DS.bkS, DS.ctS, DS.badS, DS.retS, DS.retN, DS.exprS, DS.setS, DS.setL, DS.asgS, DS.gN, DS.gT, DS.gsN, DS.gsC, DS.op1, DS.op2, DS.op1L, DS.op2L, DS.oV, DS.oS, DS.var, DS.cst, DS.deref, DS.derefD, DS.ofL, DS.lstE, DS.evA, DS.tupE, DS.asB, DS.truT, DS.andT, DS.orT, DS.notT, DS.andE, DS.orE, DS.notE, DS.ifE, DS.chn, DS.sl, DS.slL, DS.part, DS.lcE, DS.lcL, DS.itA, DS.itE, DS.itZ, DS.par2, DS.evP, DS.setIx, DS.mutE, DS.lstTok, DS.updTok, DS.shr, DS.callE, DS.callKE, DS.runFn, DS.orL, DS.yesT, DS.noOwn, DS.addD, DS.subD, DS.mulD, DS.divD, DS.modD, DS.powD, DS.negD, DS.ltD, DS.leD, DS.gtD, DS.geD, DS.isN, DS.isntN, DS.notD, DS.ixD, DS.slD, DS.slLs, DS.lenD, DS.absD, DS.intD, DS.tupleD, DS.listL, DS.allD, DS.anyD, DS.sumD, DS.minD, DS.maxD, DS.sortedL, DS.truD, DS.isiD, DS.tyD, DS.gId, DS.wipeE, DS.restE, DS.R.bind_ok, DS.R.bind_exc, DS.R.bind_bad, DS.R.map_ok, DS.R.of_some, DS.R.of_none, Option.bind_some, Option.bind_none, Option.map_some, Option.map_none, List.getElem?_cons_zero, List.getElem?_cons_succ, List.getElem?_nil, List.set_cons_zero, List.set_cons_succ, List.length_cons, List.length_nil, List.map_cons, List.map_nil, Option.getD_some, Option.getD_none, List.cons_append, List.nil_append, List.replicate_succ, List.replicate_zero, Nat.reduceAdd, Nat.reduceSub, decide_eq_true_eq, Bool.and_eq_true, Bool.or_eq_true, if_true, if_false, Bool.not_eq_true', Bool.false_eq_true, reduceIte, DS.eqD_int, DS.neD_int, DS.eqD_bl, DS.neD_bl, ne_eq, not_false_eq_true, not_true_eq_false, true_and, and_true, true_or, or_true, false_or, or_false, and_self, Int.reduceEq, Int.reduceAbs, Nat.reduceLT, Int.reduceLT, Int.reduceLE, Int.reduceNeg, Nat.reduceEqDiff, decide_true, decide_false, Bool.not_true, Bool.not_false, atI1, atI2, hs, hs2] <;> rfl)
      (sq_nx (by simp (config := { failIfUnchanged := false }) only [DS.nxS, DS.bkS, DS.ctS, DS.badS, DS.retS, DS.retN, DS.exprS, DS.setS, DS.setL, DS.asgS, DS.gN, DS.gT, DS.gsN, DS.gsC, DS.op1, DS.op2, DS.op1L, DS.op2L, DS.oV, DS.oS, DS.var, DS.cst, DS.deref, DS.derefD, DS.ofL, DS.lstE, DS.evA, DS.tupE, DS.asB, DS.truT, DS.andT, DS.orT, DS.notT, DS.andE, DS.orE, DS.notE, DS.ifE, DS.chn, DS.sl, DS.slL, DS.part, DS.lcE, DS.lcL, DS.itA, DS.itE, DS.itZ, DS.par2, DS.evP, DS.setIx, DS.mutE, DS.lstTok, DS.updTok, DS.shr, DS.callE, DS.callKE, DS.runFn, DS.orL, DS.yesT, DS.noOwn, DS.addD, DS.subD, DS.mulD, DS.divD, DS.modD, DS.powD, DS.negD, DS.ltD, DS.leD, DS.gtD, DS.geD, DS.isN, DS.isntN, DS.notD, DS.ixD, DS.slD, DS.slLs, DS.lenD, DS.absD, DS.intD, DS.tupleD, DS.listL, DS.allD, DS.anyD, DS.sumD, DS.minD, DS.maxD, DS.sortedL, DS.truD, DS.isiD, DS.tyD, DS.gId, DS.wipeE, DS.restE, DS.R.bind_ok, DS.R.bind_exc, DS.R.bind_bad, DS.R.map_ok, DS.R.of_some, DS.R.of_none, Option.bind_some, Option.bind_none, Option.map_some, Option.map_none, List.getElem?_cons_zero, List.getElem?_cons_succ, List.getElem?_nil, List.set_cons_zero, List.set_cons_succ, List.length_cons, List.length_nil, List.map_cons, List.map_nil, Option.getD_some, Option.getD_none, List.cons_append, List.nil_append, List.replicate_succ, List.replicate_zero, Nat.reduceAdd, Nat.reduceSub, decide_eq_true_eq, Bool.and_eq_true, Bool.or_eq_true, if_true, if_false, Bool.not_eq_true', Bool.false_eq_true, reduceIte, DS.eqD_int, DS.neD_int, DS.eqD_bl, DS.neD_bl, ne_eq, not_false_eq_true, not_true_eq_false, true_and, and_true, true_or, or_true, false_or, or_false, and_self, Int.reduceEq, Int.reduceAbs, Nat.reduceLT, Int.reduceLT, Int.reduceLE, Int.reduceNeg, Nat.reduceEqDiff, decide_true, decide_false, Bool.not_true, Bool.not_false] <;> rfl) (sq_nx (by simp (config := { failIfUnchanged := false }) only [DS.nxS, DS.bkS, DS.ctS, DS.badS, DS.retS, DS.retN, DS.exprS, DS.setS, DS.setL, DS.asgS, DS.gN, DS.gT, DS.gsN, DS.gsC, DS.op1, DS.op2, DS.op1L, DS.op2L, DS.oV, DS.oS, DS.var, DS.cst, DS.deref, DS.derefD, DS.ofL, DS.lstE, DS.evA, DS.tupE, DS.asB, DS.truT, DS.andT, DS.orT, DS.notT, DS.andE, DS.orE, DS.notE, DS.ifE, DS.chn, DS.sl, DS.slL, DS.part, DS.lcE, DS.lcL, DS.itA, DS.itE, DS.itZ, DS.par2, DS.evP, DS.setIx, DS.mutE, DS.lstTok, DS.updTok, DS.shr, DS.callE, DS.callKE, DS.runFn, DS.orL, DS.yesT, DS.noOwn, DS.addD, DS.subD, DS.mulD, DS.divD, DS.modD, DS.powD, DS.negD, DS.ltD, DS.leD, DS.gtD, DS.geD, DS.isN, DS.isntN, DS.notD, DS.ixD, DS.slD, DS.slLs, DS.lenD, DS.absD, DS.intD, DS.tupleD, DS.listL, DS.allD, DS.anyD, DS.sumD, DS.minD, DS.maxD, DS.sortedL, DS.truD, DS.isiD, DS.tyD, DS.gId, DS.wipeE, DS.restE, DS.R.bind_ok, DS.R.bind_exc, DS.R.bind_bad, DS.R.map_ok, DS.R.of_some, DS.R.of_none, Option.bind_some, Option.bind_none, Option.map_some, Option.map_none, List.getElem?_cons_zero, List.getElem?_cons_succ, List.getElem?_nil, List.set_cons_zero, List.set_cons_succ, List.length_cons, List.length_nil, List.map_cons, List.map_nil, Option.getD_some, Option.getD_none, List.cons_append, List.nil_append, List.replicate_succ, List.replicate_zero, Nat.reduceAdd, Nat.reduceSub, decide_eq_true_eq, Bool.and_eq_true, Bool.or_eq_true, if_true, if_false, Bool.not_eq_true', Bool.false_eq_true, reduceIte, DS.eqD_int, DS.neD_int, DS.eqD_bl, DS.neD_bl, ne_eq, not_false_eq_true, not_true_eq_false, true_and, and_true, true_or, or_true, false_or, or_false, and_self, Int.reduceEq, Int.reduceAbs, Nat.reduceLT, Int.reduceLT, Int.reduceLE, Int.reduceNeg, Nat.reduceEqDiff, decide_true, decide_false, Bool.not_true, Bool.not_false, atI1, atI2, hs3] <;> rfl) (rt_of (by simp (config := { failIfUnchanged := false }) only [DS.nxS, DS.bkS, DS.ctS, DS.badS, DS.retS, DS.retN, DS.exprS, DS.setS, DS.setL, DS.asgS, DS.gN, DS.gT, DS.gsN, DS.gsC, DS.op1, DS.op2, DS.op1L, DS.op2L, DS.oV, DS.oS, DS.var, DS.cst, DS.deref, DS.derefD, DS.ofL, DS.lstE, DS.evA, DS.tupE, DS.asB, DS.truT, DS.andT, DS.orT, DS.notT, DS.andE, DS.orE, DS.notE, DS.ifE, DS.chn, DS.sl, DS.slL, DS.part, DS.lcE, DS.lcL, DS.itA, DS.itE, DS.itZ, DS.par2, DS.evP, DS.setIx, DS.mutE, DS.lstTok, DS.updTok, DS.shr, DS.callE, DS.callKE, DS.runFn, DS.orL, DS.yesT, DS.noOwn, DS.addD, DS.subD, DS.mulD, DS.divD, DS.modD, DS.powD, DS.negD, DS.ltD, DS.leD, DS.gtD, DS.geD, DS.isN, DS.isntN, DS.notD, DS.ixD, DS.slD, DS.slLs, DS.lenD, DS.absD, DS.intD, DS.tupleD, DS.listL, DS.allD, DS.anyD, DS.sumD, DS.minD, DS.maxD, DS.sortedL, DS.truD, DS.isiD, DS.tyD, DS.gId, DS.wipeE, DS.restE, DS.R.bind_ok, DS.R.bind_exc, DS.R.bind_bad, DS.R.map_ok, DS.R.of_some, DS.R.of_none, Option.bind_some, Option.bind_none, Option.map_some, Option.map_none, List.getElem?_cons_zero, List.getElem?_cons_succ, List.getElem?_nil, List.set_cons_zero, List.set_cons_succ, List.length_cons, List.length_nil, List.map_cons, List.map_nil, Option.getD_some, Option.getD_none, List.cons_append, List.nil_append, List.replicate_succ, List.replicate_zero, Nat.reduceAdd, Nat.reduceSub, decide_eq_true_eq, Bool.and_eq_true, Bool.or_eq_true, if_true, if_false, Bool.not_eq_true', Bool.false_eq_true, reduceIte, DS.eqD_int, DS.neD_int, DS.eqD_bl, DS.neD_bl, ne_eq, not_false_eq_true, not_true_eq_false, true_and, and_true, true_or, or_true, false_or, or_false, and_self, Int.reduceEq, Int.reduceAbs, Nat.reduceLT, Int.reduceLT, Int.reduceLE, Int.reduceNeg, Nat.reduceEqDiff, decide_true, decide_false, Bool.not_true, Bool.not_false, hs2, hm0] <;> rfl))))))), ⟨a, b, c + 1, rfl, by omega, by omega⟩, Int.fmod_nonneg_of_pos _ hm, Int.fmod_lt_of_pos _ hm⟩
end L30
namespace L30
open PySem PySem.Spec PyProof.Rows L2 DS
/-! ### the cells, the box -/
theorem cells_loop (a b : Slot) (hp : List Ob) : ∀ (ns : List Int) (k : Nat) (x : Int) (e3 e4 e5 : Slot), k + ns.length ≤ 1000 → ∃ x' e3' e4' e5',
    forL (gT 2 (gsC (gN 3) (gsC (gN 4) gsN))) (sqS (setS 5 (op2 modD (oV (op1 intD (oS 3))) (oS 1))) (setIx (op2 addD (oV (op2 ixD (oS 2) (oS 5))) (oV (op2 mulD (oS 4) (oV (op2 addD (oS 3) (oV (cst (.int 2)))))))) (oS 2) (var 5))) (enumL k (ns.map .int)) ⟨[a, .v (.int 1), .ol [.int x], e3, e4, e5], hp⟩ =
      .ok .nx ⟨[a, .v (.int 1), .ol [.int x'], e3', e4', e5'], hp⟩
  | [], k, x, e3, e4, e5, _ => ⟨x, e3, e4, e5, rfl⟩
  | n :: ns, k, x, e3, e4, e5, h => by
    have hk : k + 1 + ns.length ≤ 1000 := by simp only [List.length_cons] at h; omega
    obtain ⟨x', e3', e4', e5', ih⟩ := cells_loop a b hp ns (k + 1) (x + n * ((k : Int) + 2)) (.v (.int k)) (.v (.int n)) (.v (.int 0)) hk
    refine ⟨x', e3', e4', e5', ?_⟩
    have hs : DS.small64 ((k : Int) + 2) = true := sm_lit _ (by omega)
    have hm : (k : Int).fmod 1 = 0 := by rw [Int.fmod_eq_emod_of_nonneg _ (by decide)]; omega
    have i0 : L2.ixN 1 0 = some 0 := by decide
    rw [List.map_cons, enumL, forL_cons (s2 := ⟨[a, .v (.int 1), .ol [.int (x + n * ((k : Int) + 2))], .v (.int k), .v (.int n), .v (.int 0)], hp⟩) (by simp (config := { failIfUnchanged := false }) only [DS.nxS, DS.bkS, DS.ctS, DS.badS, DS.retS, DS.retN, DS.exprS, DS.setS, DS.setL, DS.asgS, DS.gN, DS.gT, DS.gsN, DS.gsC, DS.op1, DS.op2, DS.op1L, DS.op2L, DS.oV, DS.oS, DS.var, DS.cst, DS.deref, DS.derefD, DS.ofL, DS.lstE, DS.evA, DS.tupE, DS.asB, DS.truT, DS.andT, DS.orT, DS.notT, DS.andE, DS.orE, DS.notE, DS.ifE, DS.chn, DS.sl, DS.slL, DS.part, DS.lcE, DS.lcL, DS.itA, DS.itE, DS.itZ, DS.par2, DS.evP, DS.setIx, DS.mutE, DS.lstTok, DS.updTok, DS.shr, DS.callE, DS.callKE, DS.runFn, DS.orL, DS.yesT, DS.noOwn, DS.addD, DS.subD, DS.mulD, DS.divD, DS.modD, DS.powD, DS.negD, DS.ltD, DS.leD, DS.gtD, DS.geD, DS.isN, DS.isntN, DS.notD, DS.ixD, DS.slD, DS.slLs, DS.lenD, DS.absD, DS.intD, DS.tupleD, DS.listL, DS.allD, DS.anyD, DS.sumD, DS.minD, DS.maxD, DS.sortedL, DS.truD, DS.isiD, DS.tyD, DS.gId, DS.wipeE, DS.restE, DS.R.bind_ok, DS.R.bind_exc, DS.R.bind_bad, DS.R.map_ok, DS.R.of_some, DS.R.of_none, Option.bind_some, Option.bind_none, Option.map_some, Option.map_none, List.getElem?_cons_zero, List.getElem?_cons_succ, List.getElem?_nil, List.set_cons_zero, List.set_cons_succ, List.length_cons, List.length_nil, List.map_cons, List.map_nil, Option.getD_some, Option.getD_none, List.cons_append, List.nil_append, List.replicate_succ, List.replicate_zero, Nat.reduceAdd, Nat.reduceSub, decide_eq_true_eq, Bool.and_eq_true, Bool.or_eq_true, if_true, if_false, Bool.not_eq_true', Bool.false_eq_true, reduceIte, DS.eqD_int, DS.neD_int, DS.eqD_bl, DS.neD_bl, ne_eq, not_false_eq_true, not_true_eq_false, true_and, and_true, true_or, or_true, false_or, or_false, and_self, Int.reduceEq, Int.reduceAbs, Nat.reduceLT, Int.reduceLT, Int.reduceLE, Int.reduceNeg, Nat.reduceEqDiff, decide_true, decide_false, Bool.not_true, Bool.not_false] <;> rfl)]
    · exact ih
    · exact sq_nx (by simp (config := { failIfUnchanged := false }) only [DS.nxS, DS.bkS, DS.ctS, DS.badS, DS.retS, DS.retN, DS.exprS, DS.setS, DS.setL, DS.asgS, DS.gN, DS.gT, DS.gsN, DS.gsC, DS.op1, DS.op2, DS.op1L, DS.op2L, DS.oV, DS.oS, DS.var, DS.cst, DS.deref, DS.derefD, DS.ofL, DS.lstE, DS.evA, DS.tupE, DS.asB, DS.truT, DS.andT, DS.orT, DS.notT, DS.andE, DS.orE, DS.notE, DS.ifE, DS.chn, DS.sl, DS.slL, DS.part, DS.lcE, DS.lcL, DS.itA, DS.itE, DS.itZ, DS.par2, DS.evP, DS.setIx, DS.mutE, DS.lstTok, DS.updTok, DS.shr, DS.callE, DS.callKE, DS.runFn, DS.orL, DS.yesT, DS.noOwn, DS.addD, DS.subD, DS.mulD, DS.divD, DS.modD, DS.powD, DS.negD, DS.ltD, DS.leD, DS.gtD, DS.geD, DS.isN, DS.isntN, DS.notD, DS.ixD, DS.slD, DS.slLs, DS.lenD, DS.absD, DS.intD, DS.tupleD, DS.listL, DS.allD, DS.anyD, DS.sumD, DS.minD, DS.maxD, DS.sortedL, DS.truD, DS.isiD, DS.tyD, DS.gId, DS.wipeE, DS.restE, DS.R.bind_ok, DS.R.bind_exc, DS.R.bind_bad, DS.R.map_ok, DS.R.of_some, DS.R.of_none, Option.bind_some, Option.bind_none, Option.map_some, Option.map_none, List.getElem?_cons_zero, List.getElem?_cons_succ, List.getElem?_nil, List.set_cons_zero, List.set_cons_succ, List.length_cons, List.length_nil, List.map_cons, List.map_nil, Option.getD_some, Option.getD_none, List.cons_append, List.nil_append, List.replicate_succ, List.replicate_zero, Nat.reduceAdd, Nat.reduceSub, decide_eq_true_eq, Bool.and_eq_true, Bool.or_eq_true, if_true, if_false, Bool.not_eq_true', Bool.false_eq_true, reduceIte, DS.eqD_int, DS.neD_int, DS.eqD_bl, DS.neD_bl, ne_eq, not_false_eq_true, not_true_eq_false, true_and, and_true, true_or, or_true, false_or, or_false, and_self, Int.reduceEq, Int.reduceAbs, Nat.reduceLT, Int.reduceLT, Int.reduceLE, Int.reduceNeg, Nat.reduceEqDiff, decide_true, decide_false, Bool.not_true, Bool.not_false, hm] <;> rfl) (by simp (config := { failIfUnchanged := false }) only [DS.nxS, DS.bkS, DS.ctS, DS.badS, DS.retS, DS.retN, DS.exprS, DS.setS, DS.setL, DS.asgS, DS.gN, DS.gT, DS.gsN, DS.gsC, DS.op1, DS.op2, DS.op1L, DS.op2L, DS.oV, DS.oS, DS.var, DS.cst, DS.deref, DS.derefD, DS.ofL, DS.lstE, DS.evA, DS.tupE, DS.asB, DS.truT, DS.andT, DS.orT, DS.notT, DS.andE, DS.orE, DS.notE, DS.ifE, DS.chn, DS.sl, DS.slL, DS.part, DS.lcE, DS.lcL, DS.itA, DS.itE, DS.itZ, DS.par2, DS.evP, DS.setIx, DS.mutE, DS.lstTok, DS.updTok, DS.shr, DS.callE, DS.callKE, DS.runFn, DS.orL, DS.yesT, DS.noOwn, DS.addD, DS.subD, DS.mulD, DS.divD, DS.modD, DS.powD, DS.negD, DS.ltD, DS.leD, DS.gtD, DS.geD, DS.isN, DS.isntN, DS.notD, DS.ixD, DS.slD, DS.slLs, DS.lenD, DS.absD, DS.intD, DS.tupleD, DS.listL, DS.allD, DS.anyD, DS.sumD, DS.minD, DS.maxD, DS.sortedL, DS.truD, DS.isiD, DS.tyD, DS.gId, DS.wipeE, DS.restE, DS.R.bind_ok, DS.R.bind_exc, DS.R.bind_bad, DS.R.map_ok, DS.R.of_some, DS.R.of_none, Option.bind_some, Option.bind_none, Option.map_some, Option.map_none, List.getElem?_cons_zero, List.getElem?_cons_succ, List.getElem?_nil, List.set_cons_zero, List.set_cons_succ, List.length_cons, List.length_nil, List.map_cons, List.map_nil, Option.getD_some, Option.getD_none, List.cons_append, List.nil_append, List.replicate_succ, List.replicate_zero, Nat.reduceAdd, Nat.reduceSub, decide_eq_true_eq, Bool.and_eq_true, Bool.or_eq_true, if_true, if_false, Bool.not_eq_true', Bool.false_eq_true, reduceIte, DS.eqD_int, DS.neD_int, DS.eqD_bl, DS.neD_bl, ne_eq, not_false_eq_true, not_true_eq_false, true_and, and_true, true_or, or_true, false_or, or_false, and_self, Int.reduceEq, Int.reduceAbs, Nat.reduceLT, Int.reduceLT, Int.reduceLE, Int.reduceNeg, Nat.reduceEqDiff, decide_true, decide_false, Bool.not_true, Bool.not_false, atI0, i0, hs] <;> rfl)
theorem F__law_cells_ok (ns : List Int) (hl : ns.length ≤ 63) (hp : List Ob) : ∃ x, F__law_cells [.scr (ns.map .int), .int 1] hp = .ok (.lst [.int x]) hp := by
  have key : ∀ (x : Int) (rest : List Int), rest.length ≤ 63 → (cutL (ns.map D.int) (some 1) (some 63)) = rest.map .int → (orL (op1L listL (oV (sl (oS 0) none (some (var 1))))) (lstE [(cst (.int 0))])) ⟨[.v (.scr (ns.map .int)), .v (.int 1), .un, .un, .un, .un], hp⟩ = .ok [.int x] ⟨[.v (.scr (ns.map .int)), .v (.int 1), .un, .un, .un, .un], hp⟩ →
      ∃ x, F__law_cells [.scr (ns.map .int), .int 1] hp = .ok (.lst [.int x]) hp := fun x rest h1 h2 h3 => by
    obtain ⟨x', e3, e4, e5, h⟩ := cells_loop (.v (.scr (ns.map .int))) .un hp rest 0 x .un .un .un (by omega)
    refine ⟨x', ?_⟩
    unfold F__law_cells B__law_cells
    refine fn_rt (sq_nx (s1 := ⟨[.v (.scr (ns.map .int)), .v (.int 1), .ol [.int x], .un, .un, .un], hp⟩) ?_ (sq_nx (for_of (ds := enumL 0 (rest.map .int)) (s1 := ⟨[.v (.scr (ns.map .int)), .v (.int 1), .ol [.int x], .un, .un, .un], hp⟩) ?_ h) (rt_of (by simp (config := { failIfUnchanged := false }) only [DS.nxS, DS.bkS, DS.ctS, DS.badS, DS.retS, DS.retN, DS.exprS, DS.setS, DS.setL, DS.asgS, DS.gN, DS.gT, DS.gsN, DS.gsC, DS.op1, DS.op2, DS.op1L, DS.op2L, DS.oV, DS.oS, DS.var, DS.cst, DS.deref, DS.derefD, DS.ofL, DS.lstE, DS.evA, DS.tupE, DS.asB, DS.truT, DS.andT, DS.orT, DS.notT, DS.andE, DS.orE, DS.notE, DS.ifE, DS.chn, DS.sl, DS.slL, DS.part, DS.lcE, DS.lcL, DS.itA, DS.itE, DS.itZ, DS.par2, DS.evP, DS.setIx, DS.mutE, DS.lstTok, DS.updTok, DS.shr, DS.callE, DS.callKE, DS.runFn, DS.orL, DS.yesT, DS.noOwn, DS.addD, DS.subD, DS.mulD, DS.divD, DS.modD, DS.powD, DS.negD, DS.ltD, DS.leD, DS.gtD, DS.geD, DS.isN, DS.isntN, DS.notD, DS.ixD, DS.slD, DS.slLs, DS.lenD, DS.absD, DS.intD, DS.tupleD, DS.listL, DS.allD, DS.anyD, DS.sumD, DS.minD, DS.maxD, DS.sortedL, DS.truD, DS.isiD, DS.tyD, DS.gId, DS.wipeE, DS.restE, DS.R.bind_ok, DS.R.bind_exc, DS.R.bind_bad, DS.R.map_ok, DS.R.of_some, DS.R.of_none, Option.bind_some, Option.bind_none, Option.map_some, Option.map_none, List.getElem?_cons_zero, List.getElem?_cons_succ, List.getElem?_nil, List.set_cons_zero, List.set_cons_succ, List.length_cons, List.length_nil, List.map_cons, List.map_nil, Option.getD_some, Option.getD_none, List.cons_append, List.nil_append, List.replicate_succ, List.replicate_zero, Nat.reduceAdd, Nat.reduceSub, decide_eq_true_eq, Bool.and_eq_true, Bool.or_eq_true, if_true, if_false, Bool.not_eq_true', Bool.false_eq_true, reduceIte, DS.eqD_int, DS.neD_int, DS.eqD_bl, DS.neD_bl, ne_eq, not_false_eq_true, not_true_eq_false, true_and, and_true, true_or, or_true, false_or, or_false, and_self, Int.reduceEq, Int.reduceAbs, Nat.reduceLT, Int.reduceLT, Int.reduceLE, Int.reduceNeg, Nat.reduceEqDiff, decide_true, decide_false, Bool.not_true, Bool.not_false] <;> rfl))))
    · show (orL (op1L listL (oV (sl (oS 0) none (some (var 1))))) (lstE [(cst (.int 0))]) ⟨[.v (.scr (ns.map .int)), .v (.int 1), .un, .un, .un, .un], hp⟩).bind _ = _
      rw [h3]
      rfl
    · simp (config := { failIfUnchanged := false }) only [DS.nxS, DS.bkS, DS.ctS, DS.badS, DS.retS, DS.retN, DS.exprS, DS.setS, DS.setL, DS.asgS, DS.gN, DS.gT, DS.gsN, DS.gsC, DS.op1, DS.op2, DS.op1L, DS.op2L, DS.oV, DS.oS, DS.var, DS.cst, DS.deref, DS.derefD, DS.ofL, DS.lstE, DS.evA, DS.tupE, DS.asB, DS.truT, DS.andT, DS.orT, DS.notT, DS.andE, DS.orE, DS.notE, DS.ifE, DS.chn, DS.sl, DS.slL, DS.part, DS.lcE, DS.lcL, DS.itA, DS.itE, DS.itZ, DS.par2, DS.evP, DS.setIx, DS.mutE, DS.lstTok, DS.updTok, DS.shr, DS.callE, DS.callKE, DS.runFn, DS.orL, DS.yesT, DS.noOwn, DS.addD, DS.subD, DS.mulD, DS.divD, DS.modD, DS.powD, DS.negD, DS.ltD, DS.leD, DS.gtD, DS.geD, DS.isN, DS.isntN, DS.notD, DS.ixD, DS.slD, DS.slLs, DS.lenD, DS.absD, DS.intD, DS.tupleD, DS.listL, DS.allD, DS.anyD, DS.sumD, DS.minD, DS.maxD, DS.sortedL, DS.truD, DS.isiD, DS.tyD, DS.gId, DS.wipeE, DS.restE, DS.R.bind_ok, DS.R.bind_exc, DS.R.bind_bad, DS.R.map_ok, DS.R.of_some, DS.R.of_none, Option.bind_some, Option.bind_none, Option.map_some, Option.map_none, List.getElem?_cons_zero, List.getElem?_cons_succ, List.getElem?_nil, List.set_cons_zero, List.set_cons_succ, List.length_cons, List.length_nil, List.map_cons, List.map_nil, Option.getD_some, Option.getD_none, List.cons_append, List.nil_append, List.replicate_succ, List.replicate_zero, Nat.reduceAdd, Nat.reduceSub, decide_eq_true_eq, Bool.and_eq_true, Bool.or_eq_true, if_true, if_false, Bool.not_eq_true', Bool.false_eq_true, reduceIte, DS.eqD_int, DS.neD_int, DS.eqD_bl, DS.neD_bl, ne_eq, not_false_eq_true, not_true_eq_false, true_and, and_true, true_or, or_true, false_or, or_false, and_self, Int.reduceEq, Int.reduceAbs, Nat.reduceLT, Int.reduceLT, Int.reduceLE, Int.reduceNeg, Nat.reduceEqDiff, decide_true, decide_false, Bool.not_true, Bool.not_false, h2]
  cases ns with
  | nil => exact key 0 [] (by simp) (by simp [cutL]) (by simp (config := { failIfUnchanged := false }) only [DS.nxS, DS.bkS, DS.ctS, DS.badS, DS.retS, DS.retN, DS.exprS, DS.setS, DS.setL, DS.asgS, DS.gN, DS.gT, DS.gsN, DS.gsC, DS.op1, DS.op2, DS.op1L, DS.op2L, DS.oV, DS.oS, DS.var, DS.cst, DS.deref, DS.derefD, DS.ofL, DS.lstE, DS.evA, DS.tupE, DS.asB, DS.truT, DS.andT, DS.orT, DS.notT, DS.andE, DS.orE, DS.notE, DS.ifE, DS.chn, DS.sl, DS.slL, DS.part, DS.lcE, DS.lcL, DS.itA, DS.itE, DS.itZ, DS.par2, DS.evP, DS.setIx, DS.mutE, DS.lstTok, DS.updTok, DS.shr, DS.callE, DS.callKE, DS.runFn, DS.orL, DS.yesT, DS.noOwn, DS.addD, DS.subD, DS.mulD, DS.divD, DS.modD, DS.powD, DS.negD, DS.ltD, DS.leD, DS.gtD, DS.geD, DS.isN, DS.isntN, DS.notD, DS.ixD, DS.slD, DS.slLs, DS.lenD, DS.absD, DS.intD, DS.tupleD, DS.listL, DS.allD, DS.anyD, DS.sumD, DS.minD, DS.maxD, DS.sortedL, DS.truD, DS.isiD, DS.tyD, DS.gId, DS.wipeE, DS.restE, DS.R.bind_ok, DS.R.bind_exc, DS.R.bind_bad, DS.R.map_ok, DS.R.of_some, DS.R.of_none, Option.bind_some, Option.bind_none, Option.map_some, Option.map_none, List.getElem?_cons_zero, List.getElem?_cons_succ, List.getElem?_nil, List.set_cons_zero, List.set_cons_succ, List.length_cons, List.length_nil, List.map_cons, List.map_nil, Option.getD_some, Option.getD_none, List.cons_append, List.nil_append, List.replicate_succ, List.replicate_zero, Nat.reduceAdd, Nat.reduceSub, decide_eq_true_eq, Bool.and_eq_true, Bool.or_eq_true, if_true, if_false, Bool.not_eq_true', Bool.false_eq_true, reduceIte, DS.eqD_int, DS.neD_int, DS.eqD_bl, DS.neD_bl, ne_eq, not_false_eq_true, not_true_eq_false, true_and, and_true, true_or, or_true, false_or, or_false, and_self, Int.reduceEq, Int.reduceAbs, Nat.reduceLT, Int.reduceLT, Int.reduceLE, Int.reduceNeg, Nat.reduceEqDiff, decide_true, decide_false, Bool.not_true, Bool.not_false] <;> rfl)
  | cons n r =>
    refine key n r (by simp only [List.length_cons] at hl; omega) ?_ ?_
    · have := cutL_ft ((n :: r).map D.int) 1 63
      rw [show ((1 : Nat) : Int) = 1 from rfl, show ((63 : Nat) : Int) = 63 from rfl] at this
      rw [this, List.map_cons, List.drop_succ_cons, List.drop_zero, List.take_of_length_le]
      simp only [List.length_map]
      simp only [List.length_cons] at hl
      omega
    · have := cutL_to ((n :: r).map D.int) 1
      rw [show ((1 : Nat) : Int) = 1 from rfl, List.map_cons, List.take_succ_cons, List.take_zero] at this
      simp (config := { failIfUnchanged := false }) only [DS.nxS, DS.bkS, DS.ctS, DS.badS, DS.retS, DS.retN, DS.exprS, DS.setS, DS.setL, DS.asgS, DS.gN, DS.gT, DS.gsN, DS.gsC, DS.op1, DS.op2, DS.op1L, DS.op2L, DS.oV, DS.oS, DS.var, DS.cst, DS.deref, DS.derefD, DS.ofL, DS.lstE, DS.evA, DS.tupE, DS.asB, DS.truT, DS.andT, DS.orT, DS.notT, DS.andE, DS.orE, DS.notE, DS.ifE, DS.chn, DS.sl, DS.slL, DS.part, DS.lcE, DS.lcL, DS.itA, DS.itE, DS.itZ, DS.par2, DS.evP, DS.setIx, DS.mutE, DS.lstTok, DS.updTok, DS.shr, DS.callE, DS.callKE, DS.runFn, DS.orL, DS.yesT, DS.noOwn, DS.addD, DS.subD, DS.mulD, DS.divD, DS.modD, DS.powD, DS.negD, DS.ltD, DS.leD, DS.gtD, DS.geD, DS.isN, DS.isntN, DS.notD, DS.ixD, DS.slD, DS.slLs, DS.lenD, DS.absD, DS.intD, DS.tupleD, DS.listL, DS.allD, DS.anyD, DS.sumD, DS.minD, DS.maxD, DS.sortedL, DS.truD, DS.isiD, DS.tyD, DS.gId, DS.wipeE, DS.restE, DS.R.bind_ok, DS.R.bind_exc, DS.R.bind_bad, DS.R.map_ok, DS.R.of_some, DS.R.of_none, Option.bind_some, Option.bind_none, Option.map_some, Option.map_none, List.getElem?_cons_zero, List.getElem?_cons_succ, List.getElem?_nil, List.set_cons_zero, List.set_cons_succ, List.length_cons, List.length_nil, List.map_cons, List.map_nil, Option.getD_some, Option.getD_none, List.cons_append, List.nil_append, List.replicate_succ, List.replicate_zero, Nat.reduceAdd, Nat.reduceSub, decide_eq_true_eq, Bool.and_eq_true, Bool.or_eq_true, if_true, if_false, Bool.not_eq_true', Bool.false_eq_true, reduceIte, DS.eqD_int, DS.neD_int, DS.eqD_bl, DS.neD_bl, ne_eq, not_false_eq_true, not_true_eq_false, true_and, and_true, true_or, or_true, false_or, or_false, and_self, Int.reduceEq, Int.reduceAbs, Nat.reduceLT, Int.reduceLT, Int.reduceLE, Int.reduceNeg, Nat.reduceEqDiff, decide_true, decide_false, Bool.not_true, Bool.not_false, this]
      rfl
theorem F__law_box_ok (x : Int) : ∃ hp, F__law_box [.lst [.int x], .int 0] [] = .ok (.ref 0) hp ∧ Bx 0 hp := by
  have hs2 : DS.small64 10 = true := by decide
  have hs : ∀ p : Prop, ∀ [Decidable p], DS.small64 (if p then 1 else 0) = true := fun p _ => by split <;> decide
  have hs3 : DS.small64 39373 = true := by decide
  unfold F__law_box B__law_box
  refine ⟨_, fn_rt (sq_nx (by simp (config := { failIfUnchanged := false }) only [DS.nxS, DS.bkS, DS.ctS, DS.badS, DS.retS, DS.retN, DS.exprS, DS.setS, DS.setL, DS.asgS, DS.gN, DS.gT, DS.gsN, DS.gsC, DS.op1, DS.op2, DS.op1L, DS.op2L, DS.oV, DS.oS, DS.var, DS.cst, DS.deref, DS.derefD, DS.ofL, DS.lstE, DS.evA, DS.tupE, DS.asB, DS.truT, DS.andT, DS.orT, DS.notT, DS.andE, DS.orE, DS.notE, DS.ifE, DS.chn, DS.sl, DS.slL, DS.part, DS.lcE, DS.lcL, DS.itA, DS.itE, DS.itZ, DS.par2, DS.evP, DS.setIx, DS.mutE, DS.lstTok, DS.updTok, DS.shr, DS.callE, DS.callKE, DS.runFn, DS.orL, DS.yesT, DS.noOwn, DS.addD, DS.subD, DS.mulD, DS.divD, DS.modD, DS.powD, DS.negD, DS.ltD, DS.leD, DS.gtD, DS.geD, DS.isN, DS.isntN, DS.notD, DS.ixD, DS.slD, DS.slLs, DS.lenD, DS.absD, DS.intD, DS.tupleD, DS.listL, DS.allD, DS.anyD, DS.sumD, DS.minD, DS.maxD, DS.sortedL, DS.truD, DS.isiD, DS.tyD, DS.gId, DS.wipeE, DS.restE, DS.R.bind_ok, DS.R.bind_exc, DS.R.bind_bad, DS.R.map_ok, DS.R.of_some, DS.R.of_none, Option.bind_some, Option.bind_none, Option.map_some, Option.map_none, List.getElem?_cons_zero, List.getElem?_cons_succ, List.getElem?_nil, List.set_cons_zero, List.set_cons_succ, List.length_cons, List.length_nil, List.map_cons, List.map_nil, Option.getD_some, Option.getD_none, List.cons_append, List.nil_append, List.replicate_succ, List.replicate_zero, Nat.reduceAdd, Nat.reduceSub, decide_eq_true_eq, Bool.and_eq_true, Bool.or_eq_true, if_true, if_false, Bool.not_eq_true', Bool.false_eq_true, reduceIte, DS.eqD_int, DS.neD_int, DS.eqD_bl, DS.neD_bl, ne_eq, not_false_eq_true, not_true_eq_false, true_and, and_true, true_or, or_true, false_or, or_false, and_self, Int.reduceEq, Int.reduceAbs, Nat.reduceLT, Int.reduceLT, Int.reduceLE, Int.reduceNeg, Nat.reduceEqDiff, decide_true, decide_false, Bool.not_true, Bool.not_false, atI0] <;> rfl) (rt_of (by simp (config := { failIfUnchanged := false }) only [DS.nxS, DS.bkS, DS.ctS, DS.badS, DS.retS, DS.retN, DS.exprS, DS.setS, DS.setL, DS.asgS, DS.gN, DS.gT, DS.gsN, DS.gsC, DS.op1, DS.op2, DS.op1L, DS.op2L, DS.oV, DS.oS, DS.var, DS.cst, DS.deref, DS.derefD, DS.ofL, DS.lstE, DS.evA, DS.tupE, DS.asB, DS.truT, DS.andT, DS.orT, DS.notT, DS.andE, DS.orE, DS.notE, DS.ifE, DS.chn, DS.sl, DS.slL, DS.part, DS.lcE, DS.lcL, DS.itA, DS.itE, DS.itZ, DS.par2, DS.evP, DS.setIx, DS.mutE, DS.lstTok, DS.updTok, DS.shr, DS.callE, DS.callKE, DS.runFn, DS.orL, DS.yesT, DS.noOwn, DS.addD, DS.subD, DS.mulD, DS.divD, DS.modD, DS.powD, DS.negD, DS.ltD, DS.leD, DS.gtD, DS.geD, DS.isN, DS.isntN, DS.notD, DS.ixD, DS.slD, DS.slLs, DS.lenD, DS.absD, DS.intD, DS.tupleD, DS.listL, DS.allD, DS.anyD, DS.sumD, DS.minD, DS.maxD, DS.sortedL, DS.truD, DS.isiD, DS.tyD, DS.gId, DS.wipeE, DS.restE, DS.R.bind_ok, DS.R.bind_exc, DS.R.bind_bad, DS.R.map_ok, DS.R.of_some, DS.R.of_none, Option.bind_some, Option.bind_none, Option.map_some, Option.map_none, List.getElem?_cons_zero, List.getElem?_cons_succ, List.getElem?_nil, List.set_cons_zero, List.set_cons_succ, List.length_cons, List.length_nil, List.map_cons, List.map_nil, Option.getD_some, Option.getD_none, List.cons_append, List.nil_append, List.replicate_succ, List.replicate_zero, Nat.reduceAdd, Nat.reduceSub, decide_eq_true_eq, Bool.and_eq_true, Bool.or_eq_true, if_true, if_false, Bool.not_eq_true', Bool.false_eq_true, reduceIte, DS.eqD_int, DS.neD_int, DS.eqD_bl, DS.neD_bl, ne_eq, not_false_eq_true, not_true_eq_false, true_and, and_true, true_or, or_true, false_or, or_false, and_self, Int.reduceEq, Int.reduceAbs, Nat.reduceLT, Int.reduceLT, Int.reduceLE, Int.reduceNeg, Nat.reduceEqDiff, decide_true, decide_false, Bool.not_true, Bool.not_false, hs, hs2, hs3] <;> rfl))), _, _, 0, rfl, by omega, by omega⟩
end L30
namespace L30
open PySem PySem.Spec PyProof.Rows L2 DS
theorem atI_mem {α : Type} (l : List α) (r : Int) (h0 : 0 ≤ r) (h1 : r < l.length) : ∃ x, L2.atI l r = some x ∧ l[r.toNat]? = some x ∧ x ∈ l := by
  obtain ⟨j, rfl⟩ := Int.eq_ofNat_of_zero_le h0
  have hj : j < l.length := by omega
  exact ⟨l[j], L2.atI_nat (List.getElem?_eq_getElem hj), by simp [hj], List.getElem_mem hj⟩
/-- a spot as it is drawn -/
def Sp' (t : Int) : Prop := t = 0 ∨ (2 ≤ t ∧ t ≤ 12)
theorem of_ok {n : Nat} {hp : List Ob} (h : Bx n hp) (hn : n < 5000) (goods : List Int) (hg : goods ≠ []) (hl : goods.length < 1000) : ∃ x hp', F__law_of [.ref 0, .lst (goods.map .int)] hp = .ok (.int x) hp' ∧ Bx (n + 1) hp' ∧ x ∈ goods := by
  have hpos : 0 < goods.length := List.length_pos_iff.mpr hg
  obtain ⟨r, hp', e, hb, h0, h1⟩ := take_ok h hn goods.length (by omega) (by omega)
  obtain ⟨x, g1, g2, g3⟩ := atI_mem goods r h0 h1
  refine ⟨x, hp', ?_, hb, g3⟩
  have g4 : L2.atI (goods.map D.int) r = some (.int x) := by
    obtain ⟨j, rfl⟩ := Int.eq_ofNat_of_zero_le h0
    exact L2.atI_nat (by simp at g2; simp [g2])
  unfold F__law_of B__law_of
  refine fn_rt (rt_of (s1 := ⟨[.v (.ref 0), .v (.lst (goods.map .int))], hp'⟩) ?_)
  simp (config := { failIfUnchanged := false }) only [DS.nxS, DS.bkS, DS.ctS, DS.badS, DS.retS, DS.retN, DS.exprS, DS.setS, DS.setL, DS.asgS, DS.gN, DS.gT, DS.gsN, DS.gsC, DS.op1, DS.op2, DS.op1L, DS.op2L, DS.oV, DS.oS, DS.var, DS.cst, DS.deref, DS.derefD, DS.ofL, DS.lstE, DS.evA, DS.tupE, DS.asB, DS.truT, DS.andT, DS.orT, DS.notT, DS.andE, DS.orE, DS.notE, DS.ifE, DS.chn, DS.sl, DS.slL, DS.part, DS.lcE, DS.lcL, DS.itA, DS.itE, DS.itZ, DS.par2, DS.evP, DS.setIx, DS.mutE, DS.lstTok, DS.updTok, DS.shr, DS.callE, DS.callKE, DS.runFn, DS.orL, DS.yesT, DS.noOwn, DS.addD, DS.subD, DS.mulD, DS.divD, DS.modD, DS.powD, DS.negD, DS.ltD, DS.leD, DS.gtD, DS.geD, DS.isN, DS.isntN, DS.notD, DS.ixD, DS.slD, DS.slLs, DS.lenD, DS.absD, DS.intD, DS.tupleD, DS.listL, DS.allD, DS.anyD, DS.sumD, DS.minD, DS.maxD, DS.sortedL, DS.truD, DS.isiD, DS.tyD, DS.gId, DS.wipeE, DS.restE, DS.R.bind_ok, DS.R.bind_exc, DS.R.bind_bad, DS.R.map_ok, DS.R.of_some, DS.R.of_none, Option.bind_some, Option.bind_none, Option.map_some, Option.map_none, List.getElem?_cons_zero, List.getElem?_cons_succ, List.getElem?_nil, List.set_cons_zero, List.set_cons_succ, List.length_cons, List.length_nil, List.map_cons, List.map_nil, Option.getD_some, Option.getD_none, List.cons_append, List.nil_append, List.replicate_succ, List.replicate_zero, Nat.reduceAdd, Nat.reduceSub, decide_eq_true_eq, Bool.and_eq_true, Bool.or_eq_true, if_true, if_false, Bool.not_eq_true', Bool.false_eq_true, reduceIte, DS.eqD_int, DS.neD_int, DS.eqD_bl, DS.neD_bl, ne_eq, not_false_eq_true, not_true_eq_false, true_and, and_true, true_or, or_true, false_or, or_false, and_self, Int.reduceEq, Int.reduceAbs, Nat.reduceLT, Int.reduceLT, Int.reduceLE, Int.reduceNeg, Nat.reduceEqDiff, decide_true, decide_false, Bool.not_true, Bool.not_false, List.length_map, e]
  rw [g4]
  rfl
theorem turn_ok {n : Nat} {hp : List Ob} (h : Bx n hp) (hn : n < 4000) : ∃ x hp', F__law_turn [.ref 0, .int 12] hp = .ok (.int x) hp' ∧ Bx (n + 4) hp' ∧ Sp' x := by
  obtain ⟨r1, h1, e1, b1, l1, u1⟩ := take_ok h (by omega) 11 (by omega) (by omega)
  obtain ⟨r2, h2, e2, b2, l2, u2⟩ := take_ok b1 (by omega) 11 (by omega) (by omega)
  obtain ⟨r3, h3, e3, b3, l3, u3⟩ := take_ok b2 (by omega) 4 (by omega) (by omega)
  obtain ⟨x, h4, e4, b4, hx⟩ := of_ok b3 (by omega) [0, 2 + r1, 2 + r2, 2 + r3] (by simp) (by simp)
  refine ⟨x, h4, ?_, b4, ?_⟩
  · unfold F__law_turn B__law_turn
    refine fn_rt (rt_of (s1 := ⟨[.v (.ref 0), .v (.int 12)], h4⟩) ?_)
    have e4 : F__law_of [.ref 0, .lst [.int 0, .int (2 + r1), .int (2 + r2), .int (2 + r3)]] h3 = .ok (.int x) h4 := e4
    simp (config := { failIfUnchanged := false }) only [DS.nxS, DS.bkS, DS.ctS, DS.badS, DS.retS, DS.retN, DS.exprS, DS.setS, DS.setL, DS.asgS, DS.gN, DS.gT, DS.gsN, DS.gsC, DS.op1, DS.op2, DS.op1L, DS.op2L, DS.oV, DS.oS, DS.var, DS.cst, DS.deref, DS.derefD, DS.ofL, DS.lstE, DS.evA, DS.tupE, DS.asB, DS.truT, DS.andT, DS.orT, DS.notT, DS.andE, DS.orE, DS.notE, DS.ifE, DS.chn, DS.sl, DS.slL, DS.part, DS.lcE, DS.lcL, DS.itA, DS.itE, DS.itZ, DS.par2, DS.evP, DS.setIx, DS.mutE, DS.lstTok, DS.updTok, DS.shr, DS.callE, DS.callKE, DS.runFn, DS.orL, DS.yesT, DS.noOwn, DS.addD, DS.subD, DS.mulD, DS.divD, DS.modD, DS.powD, DS.negD, DS.ltD, DS.leD, DS.gtD, DS.geD, DS.isN, DS.isntN, DS.notD, DS.ixD, DS.slD, DS.slLs, DS.lenD, DS.absD, DS.intD, DS.tupleD, DS.listL, DS.allD, DS.anyD, DS.sumD, DS.minD, DS.maxD, DS.sortedL, DS.truD, DS.isiD, DS.tyD, DS.gId, DS.wipeE, DS.restE, DS.R.bind_ok, DS.R.bind_exc, DS.R.bind_bad, DS.R.map_ok, DS.R.of_some, DS.R.of_none, Option.bind_some, Option.bind_none, Option.map_some, Option.map_none, List.getElem?_cons_zero, List.getElem?_cons_succ, List.getElem?_nil, List.set_cons_zero, List.set_cons_succ, List.length_cons, List.length_nil, List.map_cons, List.map_nil, Option.getD_some, Option.getD_none, List.cons_append, List.nil_append, List.replicate_succ, List.replicate_zero, Nat.reduceAdd, Nat.reduceSub, decide_eq_true_eq, Bool.and_eq_true, Bool.or_eq_true, if_true, if_false, Bool.not_eq_true', Bool.false_eq_true, reduceIte, DS.eqD_int, DS.neD_int, DS.eqD_bl, DS.neD_bl, ne_eq, not_false_eq_true, not_true_eq_false, true_and, and_true, true_or, or_true, false_or, or_false, and_self, Int.reduceEq, Int.reduceAbs, Nat.reduceLT, Int.reduceLT, Int.reduceLE, Int.reduceNeg, Nat.reduceEqDiff, decide_true, decide_false, Bool.not_true, Bool.not_false, Int.reduceSub, e1, e2, e3, e4]
  · simp only [List.mem_cons, List.not_mem_nil, or_false] at hx
    unfold Sp'
    omega
/-- a comprehension that draws -/
theorem turns_loop (e0 e1 e2 : Slot) : ∀ (ds : List D) (acc : List D) (n : Nat) (hp : List Ob), Bx n hp → n + 4 * ds.length < 4000 → acc.length + ds.length < 1000 → ∃ (ts : List Int) (hp' : List Ob),
    lcL (gN 4) [4] yesT (callE F__law_turn [(var 0), (var 3)]) ds acc ⟨[.v (.ref 0), e1, e2, .v (.int 12), .un], hp⟩ = .ok (acc ++ ts.map .int) ⟨[.v (.ref 0), e1, e2, .v (.int 12), .un], hp'⟩ ∧ Bx (n + 4 * ds.length) hp' ∧ ts.length = ds.length ∧ ∀ t ∈ ts, Sp' t
  | [], acc, n, hp, h, _, _ => ⟨[], hp, by simp [lcL], h, rfl, fun t z => by simp at z⟩
  | d :: ds, acc, n, hp, h, hn, hl => by
    simp only [List.length_cons] at hn hl
    obtain ⟨x, hp1, e, b, hx⟩ := turn_ok h (by omega)
    obtain ⟨ts, hp2, e2', b2, hl2, hs⟩ := turns_loop e0 e1 e2 ds (acc ++ [.int x]) (n + 4) hp1 b (by omega) (by simp; omega)
    refine ⟨x :: ts, hp2, ?_, ?_, by simp [hl2], fun t z => ?_⟩
    · refine Eq.trans (lcL_cons (s1 := ⟨[.v (.ref 0), e1, e2, .v (.int 12), .v d], hp⟩) (s2 := ⟨[.v (.ref 0), e1, e2, .v (.int 12), .v d], hp⟩) (y := .int x) (s3 := ⟨[.v (.ref 0), e1, e2, .v (.int 12), .v d], hp1⟩) (by simp (config := { failIfUnchanged := false }) only [DS.nxS, DS.bkS, DS.ctS, DS.badS, DS.retS, DS.retN, DS.exprS, DS.setS, DS.setL, DS.asgS, DS.gN, DS.gT, DS.gsN, DS.gsC, DS.op1, DS.op2, DS.op1L, DS.op2L, DS.oV, DS.oS, DS.var, DS.cst, DS.deref, DS.derefD, DS.ofL, DS.lstE, DS.evA, DS.tupE, DS.asB, DS.truT, DS.andT, DS.orT, DS.notT, DS.andE, DS.orE, DS.notE, DS.ifE, DS.chn, DS.sl, DS.slL, DS.part, DS.lcE, DS.lcL, DS.itA, DS.itE, DS.itZ, DS.par2, DS.evP, DS.setIx, DS.mutE, DS.lstTok, DS.updTok, DS.shr, DS.callE, DS.callKE, DS.runFn, DS.orL, DS.yesT, DS.noOwn, DS.addD, DS.subD, DS.mulD, DS.divD, DS.modD, DS.powD, DS.negD, DS.ltD, DS.leD, DS.gtD, DS.geD, DS.isN, DS.isntN, DS.notD, DS.ixD, DS.slD, DS.slLs, DS.lenD, DS.absD, DS.intD, DS.tupleD, DS.listL, DS.allD, DS.anyD, DS.sumD, DS.minD, DS.maxD, DS.sortedL, DS.truD, DS.isiD, DS.tyD, DS.gId, DS.wipeE, DS.restE, DS.R.bind_ok, DS.R.bind_exc, DS.R.bind_bad, DS.R.map_ok, DS.R.of_some, DS.R.of_none, Option.bind_some, Option.bind_none, Option.map_some, Option.map_none, List.getElem?_cons_zero, List.getElem?_cons_succ, List.getElem?_nil, List.set_cons_zero, List.set_cons_succ, List.length_cons, List.length_nil, List.map_cons, List.map_nil, Option.getD_some, Option.getD_none, List.cons_append, List.nil_append, List.replicate_succ, List.replicate_zero, Nat.reduceAdd, Nat.reduceSub, decide_eq_true_eq, Bool.and_eq_true, Bool.or_eq_true, if_true, if_false, Bool.not_eq_true', Bool.false_eq_true, reduceIte, DS.eqD_int, DS.neD_int, DS.eqD_bl, DS.neD_bl, ne_eq, not_false_eq_true, not_true_eq_false, true_and, and_true, true_or, or_true, false_or, or_false, and_self, Int.reduceEq, Int.reduceAbs, Nat.reduceLT, Int.reduceLT, Int.reduceLE, Int.reduceNeg, Nat.reduceEqDiff, decide_true, decide_false, Bool.not_true, Bool.not_false] <;> rfl) (by rfl) (by simp (config := { failIfUnchanged := false }) only [DS.nxS, DS.bkS, DS.ctS, DS.badS, DS.retS, DS.retN, DS.exprS, DS.setS, DS.setL, DS.asgS, DS.gN, DS.gT, DS.gsN, DS.gsC, DS.op1, DS.op2, DS.op1L, DS.op2L, DS.oV, DS.oS, DS.var, DS.cst, DS.deref, DS.derefD, DS.ofL, DS.lstE, DS.evA, DS.tupE, DS.asB, DS.truT, DS.andT, DS.orT, DS.notT, DS.andE, DS.orE, DS.notE, DS.ifE, DS.chn, DS.sl, DS.slL, DS.part, DS.lcE, DS.lcL, DS.itA, DS.itE, DS.itZ, DS.par2, DS.evP, DS.setIx, DS.mutE, DS.lstTok, DS.updTok, DS.shr, DS.callE, DS.callKE, DS.runFn, DS.orL, DS.yesT, DS.noOwn, DS.addD, DS.subD, DS.mulD, DS.divD, DS.modD, DS.powD, DS.negD, DS.ltD, DS.leD, DS.gtD, DS.geD, DS.isN, DS.isntN, DS.notD, DS.ixD, DS.slD, DS.slLs, DS.lenD, DS.absD, DS.intD, DS.tupleD, DS.listL, DS.allD, DS.anyD, DS.sumD, DS.minD, DS.maxD, DS.sortedL, DS.truD, DS.isiD, DS.tyD, DS.gId, DS.wipeE, DS.restE, DS.R.bind_ok, DS.R.bind_exc, DS.R.bind_bad, DS.R.map_ok, DS.R.of_some, DS.R.of_none, Option.bind_some, Option.bind_none, Option.map_some, Option.map_none, List.getElem?_cons_zero, List.getElem?_cons_succ, List.getElem?_nil, List.set_cons_zero, List.set_cons_succ, List.length_cons, List.length_nil, List.map_cons, List.map_nil, Option.getD_some, Option.getD_none, List.cons_append, List.nil_append, List.replicate_succ, List.replicate_zero, Nat.reduceAdd, Nat.reduceSub, decide_eq_true_eq, Bool.and_eq_true, Bool.or_eq_true, if_true, if_false, Bool.not_eq_true', Bool.false_eq_true, reduceIte, DS.eqD_int, DS.neD_int, DS.eqD_bl, DS.neD_bl, ne_eq, not_false_eq_true, not_true_eq_false, true_and, and_true, true_or, or_true, false_or, or_false, and_self, Int.reduceEq, Int.reduceAbs, Nat.reduceLT, Int.reduceLT, Int.reduceLE, Int.reduceNeg, Nat.reduceEqDiff, decide_true, decide_false, Bool.not_true, Bool.not_false, e] <;> rfl) (by unfold LIM; omega)) ?_
      have e3 : (⟨wipeE [.v (.ref 0), e1, e2, .v (.int 12), .v d] [4], hp1⟩ : S) = ⟨[.v (.ref 0), e1, e2, .v (.int 12), .un], hp1⟩ := by simp (config := { failIfUnchanged := false }) only [DS.nxS, DS.bkS, DS.ctS, DS.badS, DS.retS, DS.retN, DS.exprS, DS.setS, DS.setL, DS.asgS, DS.gN, DS.gT, DS.gsN, DS.gsC, DS.op1, DS.op2, DS.op1L, DS.op2L, DS.oV, DS.oS, DS.var, DS.cst, DS.deref, DS.derefD, DS.ofL, DS.lstE, DS.evA, DS.tupE, DS.asB, DS.truT, DS.andT, DS.orT, DS.notT, DS.andE, DS.orE, DS.notE, DS.ifE, DS.chn, DS.sl, DS.slL, DS.part, DS.lcE, DS.lcL, DS.itA, DS.itE, DS.itZ, DS.par2, DS.evP, DS.setIx, DS.mutE, DS.lstTok, DS.updTok, DS.shr, DS.callE, DS.callKE, DS.runFn, DS.orL, DS.yesT, DS.noOwn, DS.addD, DS.subD, DS.mulD, DS.divD, DS.modD, DS.powD, DS.negD, DS.ltD, DS.leD, DS.gtD, DS.geD, DS.isN, DS.isntN, DS.notD, DS.ixD, DS.slD, DS.slLs, DS.lenD, DS.absD, DS.intD, DS.tupleD, DS.listL, DS.allD, DS.anyD, DS.sumD, DS.minD, DS.maxD, DS.sortedL, DS.truD, DS.isiD, DS.tyD, DS.gId, DS.wipeE, DS.restE, DS.R.bind_ok, DS.R.bind_exc, DS.R.bind_bad, DS.R.map_ok, DS.R.of_some, DS.R.of_none, Option.bind_some, Option.bind_none, Option.map_some, Option.map_none, List.getElem?_cons_zero, List.getElem?_cons_succ, List.getElem?_nil, List.set_cons_zero, List.set_cons_succ, List.length_cons, List.length_nil, List.map_cons, List.map_nil, Option.getD_some, Option.getD_none, List.cons_append, List.nil_append, List.replicate_succ, List.replicate_zero, Nat.reduceAdd, Nat.reduceSub, decide_eq_true_eq, Bool.and_eq_true, Bool.or_eq_true, if_true, if_false, Bool.not_eq_true', Bool.false_eq_true, reduceIte, DS.eqD_int, DS.neD_int, DS.eqD_bl, DS.neD_bl, ne_eq, not_false_eq_true, not_true_eq_false, true_and, and_true, true_or, or_true, false_or, or_false, and_self, Int.reduceEq, Int.reduceAbs, Nat.reduceLT, Int.reduceLT, Int.reduceLE, Int.reduceNeg, Nat.reduceEqDiff, decide_true, decide_false, Bool.not_true, Bool.not_false]
      show lcL _ _ _ _ _ _ ⟨wipeE [.v (.ref 0), e1, e2, .v (.int 12), .v d] [4], hp1⟩ = _
      rw [e3, e2', List.append_assoc]
      rfl
    · rw [List.length_cons, show n + 4 * (ds.length + 1) = n + 4 + 4 * ds.length by omega]
      exact b2
    · rcases List.mem_cons.mp z with z | z
      · rw [z]; exact hx
      · exact hs t z
/-- a drawn sheet -/
abbrev shD (h : Int) (ts : List Int) : D := .tup [.int h, .tup (ts.map .int)]
theorem sheet_ok {n : Nat} {hp : List Ob} (hb : Bx n hp) (hn : n < 3000) : ∃ h ts hp', F__law_sheet [.ref 0, .int 5, .int 8, .int 12] hp = .ok (shD h ts) hp' ∧ Bx (n + 34) hp' ∧ 0 ≤ h ∧ h ≤ 5 ∧ ts.length ≤ 8 ∧ ∀ t ∈ ts, Sp' t := by
  obtain ⟨h, h1, e1, b1, l1, u1⟩ := take_ok hb (by omega) 6 (by omega) (by omega)
  obtain ⟨r, h2, e2, b2, l2, u2⟩ := take_ok b1 (by omega) 9 (by omega) (by omega)
  obtain ⟨ts, h3, e3, b3, hl, hs⟩ := turns_loop .un (.v (.int 5)) (.v (.int 8)) (upTo 0 r.toNat) [] (n + 2) h2 b2 (by rw [upTo_len]; omega) (by rw [upTo_len]; simp; omega)
  rw [upTo_len] at hl b3
  refine ⟨h, ts, h3, ?_, b3.mono (by omega), l1, by omega, by omega, hs⟩
  have c1 : -(2 ^ 62) ≤ r := by omega
  have c2 : r < 2 ^ 62 := by omega
  have e4 : lcE (itR1 (callE F__law_take [(var 0), (op2 addD (oS 2) (oV (cst (.int 1))))])) (gN 4) [4] yesT (callE F__law_turn [(var 0), (var 3)]) ⟨[.v (.ref 0), .v (.int 5), .v (.int 8), .v (.int 12), .un], h1⟩ = .ok (ts.map .int) ⟨[.v (.ref 0), .v (.int 5), .v (.int 8), .v (.int 12), .un], h3⟩ :=
    lcE_of (s1 := ⟨[.v (.ref 0), .v (.int 5), .v (.int 8), .v (.int 12), .un], h2⟩) (itR1_ok (by simp (config := { failIfUnchanged := false }) only [DS.nxS, DS.bkS, DS.ctS, DS.badS, DS.retS, DS.retN, DS.exprS, DS.setS, DS.setL, DS.asgS, DS.gN, DS.gT, DS.gsN, DS.gsC, DS.op1, DS.op2, DS.op1L, DS.op2L, DS.oV, DS.oS, DS.var, DS.cst, DS.deref, DS.derefD, DS.ofL, DS.lstE, DS.evA, DS.tupE, DS.asB, DS.truT, DS.andT, DS.orT, DS.notT, DS.andE, DS.orE, DS.notE, DS.ifE, DS.chn, DS.sl, DS.slL, DS.part, DS.lcE, DS.lcL, DS.itA, DS.itE, DS.itZ, DS.par2, DS.evP, DS.setIx, DS.mutE, DS.lstTok, DS.updTok, DS.shr, DS.callE, DS.callKE, DS.runFn, DS.orL, DS.yesT, DS.noOwn, DS.addD, DS.subD, DS.mulD, DS.divD, DS.modD, DS.powD, DS.negD, DS.ltD, DS.leD, DS.gtD, DS.geD, DS.isN, DS.isntN, DS.notD, DS.ixD, DS.slD, DS.slLs, DS.lenD, DS.absD, DS.intD, DS.tupleD, DS.listL, DS.allD, DS.anyD, DS.sumD, DS.minD, DS.maxD, DS.sortedL, DS.truD, DS.isiD, DS.tyD, DS.gId, DS.wipeE, DS.restE, DS.R.bind_ok, DS.R.bind_exc, DS.R.bind_bad, DS.R.map_ok, DS.R.of_some, DS.R.of_none, Option.bind_some, Option.bind_none, Option.map_some, Option.map_none, List.getElem?_cons_zero, List.getElem?_cons_succ, List.getElem?_nil, List.set_cons_zero, List.set_cons_succ, List.length_cons, List.length_nil, List.map_cons, List.map_nil, Option.getD_some, Option.getD_none, List.cons_append, List.nil_append, List.replicate_succ, List.replicate_zero, Nat.reduceAdd, Nat.reduceSub, decide_eq_true_eq, Bool.and_eq_true, Bool.or_eq_true, if_true, if_false, Bool.not_eq_true', Bool.false_eq_true, reduceIte, DS.eqD_int, DS.neD_int, DS.eqD_bl, DS.neD_bl, ne_eq, not_false_eq_true, not_true_eq_false, true_and, and_true, true_or, or_true, false_or, or_false, and_self, Int.reduceEq, Int.reduceAbs, Nat.reduceLT, Int.reduceLT, Int.reduceLE, Int.reduceNeg, Nat.reduceEqDiff, decide_true, decide_false, Bool.not_true, Bool.not_false, Int.reduceAdd, e2] <;> rfl) c1 c2 rfl) (by rfl) e3
  unfold F__law_sheet B__law_sheet
  refine fn_rt (rt_of (s1 := ⟨[.v (.ref 0), .v (.int 5), .v (.int 8), .v (.int 12), .un], h3⟩) ?_)
  generalize hL : lcE (itR1 (callE F__law_take [(var 0), (op2 addD (oS 2) (oV (cst (.int 1))))])) (gN 4) [4] yesT (callE F__law_turn [(var 0), (var 3)]) = L at e4
  simp (config := { failIfUnchanged := false }) only [DS.nxS, DS.bkS, DS.ctS, DS.badS, DS.retS, DS.retN, DS.exprS, DS.setS, DS.setL, DS.asgS, DS.gN, DS.gT, DS.gsN, DS.gsC, DS.op1, DS.op2, DS.op1L, DS.op2L, DS.oV, DS.oS, DS.var, DS.cst, DS.deref, DS.derefD, DS.ofL, DS.lstE, DS.evA, DS.tupE, DS.asB, DS.truT, DS.andT, DS.orT, DS.notT, DS.andE, DS.orE, DS.notE, DS.ifE, DS.chn, DS.sl, DS.slL, DS.part, DS.lcE, DS.lcL, DS.itA, DS.itE, DS.itZ, DS.par2, DS.evP, DS.setIx, DS.mutE, DS.lstTok, DS.updTok, DS.shr, DS.callE, DS.callKE, DS.runFn, DS.orL, DS.yesT, DS.noOwn, DS.addD, DS.subD, DS.mulD, DS.divD, DS.modD, DS.powD, DS.negD, DS.ltD, DS.leD, DS.gtD, DS.geD, DS.isN, DS.isntN, DS.notD, DS.ixD, DS.slD, DS.slLs, DS.lenD, DS.absD, DS.intD, DS.tupleD, DS.listL, DS.allD, DS.anyD, DS.sumD, DS.minD, DS.maxD, DS.sortedL, DS.truD, DS.isiD, DS.tyD, DS.gId, DS.wipeE, DS.restE, DS.R.bind_ok, DS.R.bind_exc, DS.R.bind_bad, DS.R.map_ok, DS.R.of_some, DS.R.of_none, Option.bind_some, Option.bind_none, Option.map_some, Option.map_none, List.getElem?_cons_zero, List.getElem?_cons_succ, List.getElem?_nil, List.set_cons_zero, List.set_cons_succ, List.length_cons, List.length_nil, List.map_cons, List.map_nil, Option.getD_some, Option.getD_none, List.cons_append, List.nil_append, List.replicate_succ, List.replicate_zero, Nat.reduceAdd, Nat.reduceSub, decide_eq_true_eq, Bool.and_eq_true, Bool.or_eq_true, if_true, if_false, Bool.not_eq_true', Bool.false_eq_true, reduceIte, DS.eqD_int, DS.neD_int, DS.eqD_bl, DS.neD_bl, ne_eq, not_false_eq_true, not_true_eq_false, true_and, and_true, true_or, or_true, false_or, or_false, and_self, Int.reduceEq, Int.reduceAbs, Nat.reduceLT, Int.reduceLT, Int.reduceLE, Int.reduceNeg, Nat.reduceEqDiff, decide_true, decide_false, Bool.not_true, Bool.not_false, Int.reduceAdd, e1, e4]
end L30
namespace L30
open PySem PySem.Spec PyProof.Rows L2 DS
theorem erase_map {α β : Type} (f : α → β) : ∀ (l : List α) (j : Nat), (l.map f).eraseIdx j = (l.eraseIdx j).map f
  | [], _ => by simp
  | x :: l, 0 => by simp
  | x :: l, j + 1 => by
    show f x :: (l.map f).eraseIdx j = f x :: (l.eraseIdx j).map f
    rw [erase_map f l j]
theorem erase_perm {α : Type} {x : α} : ∀ {l : List α} {j : Nat}, l[j]? = some x → (x :: l.eraseIdx j).Perm l
  | [], _, h => by simp at h
  | y :: l, 0, h => by
    simp at h
    subst h
    exact List.Perm.refl _
  | y :: l, j + 1, h => by
    have ih := erase_perm (l := l) (j := j) (by simpa using h)
    exact (List.Perm.swap y x _).trans (ih.cons y)
theorem app_nat {xs : List Int} {x : Int} (h : (xs.map D.int).length < 1000) : DS.appF (xs.map .int) [.int x] = some (.non, (xs ++ [x]).map .int) := by
  show (if (xs.map D.int).length < LIM then _ else _) = _
  rw [if_pos (by unfold LIM; omega), List.map_append]
  rfl
theorem pick_loop (goods : D) (cnt : Int) (ds : List D) : ∀ (pool found : List Int) (n : Nat) (hp : List Ob) (e3 : DS.Slot), Bx n hp → n + ds.length < 4000 → pool.length = ds.length → found.length + ds.length < 1000 → ∃ (out : List Int) (hp' : List Ob) (e3' : DS.Slot),
    forL (gN 3) (exprS (mutE (oS 5) [(mutE (oS 4) [(callE F__law_take [(var 0), (op1 lenD (oS 4))])] popAtF)] appF)) ds ⟨[.v (.ref 0), .v goods, .v (.int cnt), e3, .ol (pool.map .int), .ol (found.map .int)], hp⟩ =
      .ok .nx ⟨[.v (.ref 0), .v goods, .v (.int cnt), e3', .ol [], .ol (out.map .int)], hp'⟩ ∧ Bx (n + ds.length) hp' ∧ out.Perm (found ++ pool) := by
  induction ds with
  | nil =>
    intro pool found n hp e3 h _ hl _
    have : pool = [] := List.length_eq_zero_iff.mp hl
    subst this
    exact ⟨found, hp, e3, rfl, h, by simp⟩
  | cons d ds ih =>
    intro pool found n hp e3 h hn hl hf
    simp only [List.length_cons] at hn hl hf
    obtain ⟨r, hp1, e, b, h0, h1⟩ := take_ok h (by omega) pool.length (by omega) (by omega)
    have hj : r.toNat < pool.length := by omega
    have gj : pool[r.toNat]? = some pool[r.toNat] := List.getElem?_eq_getElem hj
    generalize pool[r.toNat] = x at gj
    obtain ⟨out, hp2, e3', ih, b2, p⟩ := ih (pool.eraseIdx r.toNat) (found ++ [x]) (n + 1) hp1 (.v d) b (by omega) (by rw [List.length_eraseIdx_of_lt hj]; omega) (by rw [List.length_append, List.length_singleton]; omega)
    refine ⟨out, hp2, e3', ?_, ?_, p.trans ?_⟩
    · refine Eq.trans (forL_cons (s1 := ⟨[.v (.ref 0), .v goods, .v (.int cnt), .v d, .ol (pool.map .int), .ol (found.map .int)], hp⟩) (s2 := ⟨[.v (.ref 0), .v goods, .v (.int cnt), .v d, .ol ((pool.eraseIdx r.toNat).map .int), .ol ((found ++ [x]).map .int)], hp1⟩) (by simp (config := { failIfUnchanged := false }) only [DS.nxS, DS.bkS, DS.ctS, DS.badS, DS.retS, DS.retN, DS.exprS, DS.setS, DS.setL, DS.asgS, DS.gN, DS.gT, DS.gsN, DS.gsC, DS.op1, DS.op2, DS.op1L, DS.op2L, DS.oV, DS.oS, DS.var, DS.cst, DS.deref, DS.derefD, DS.ofL, DS.lstE, DS.evA, DS.tupE, DS.asB, DS.truT, DS.andT, DS.orT, DS.notT, DS.andE, DS.orE, DS.notE, DS.ifE, DS.chn, DS.sl, DS.slL, DS.part, DS.lcE, DS.lcL, DS.itA, DS.itE, DS.itZ, DS.par2, DS.evP, DS.setIx, DS.mutE, DS.lstTok, DS.updTok, DS.shr, DS.callE, DS.callKE, DS.runFn, DS.orL, DS.yesT, DS.noOwn, DS.addD, DS.subD, DS.mulD, DS.divD, DS.modD, DS.powD, DS.negD, DS.ltD, DS.leD, DS.gtD, DS.geD, DS.isN, DS.isntN, DS.notD, DS.ixD, DS.slD, DS.slLs, DS.lenD, DS.absD, DS.intD, DS.tupleD, DS.listL, DS.allD, DS.anyD, DS.sumD, DS.minD, DS.maxD, DS.sortedL, DS.truD, DS.isiD, DS.tyD, DS.gId, DS.wipeE, DS.restE, DS.R.bind_ok, DS.R.bind_exc, DS.R.bind_bad, DS.R.map_ok, DS.R.of_some, DS.R.of_none, Option.bind_some, Option.bind_none, Option.map_some, Option.map_none, List.getElem?_cons_zero, List.getElem?_cons_succ, List.getElem?_nil, List.set_cons_zero, List.set_cons_succ, List.length_cons, List.length_nil, List.map_cons, List.map_nil, Option.getD_some, Option.getD_none, List.cons_append, List.nil_append, List.replicate_succ, List.replicate_zero, Nat.reduceAdd, Nat.reduceSub, decide_eq_true_eq, Bool.and_eq_true, Bool.or_eq_true, if_true, if_false, Bool.not_eq_true', Bool.false_eq_true, reduceIte, DS.eqD_int, DS.neD_int, DS.eqD_bl, DS.neD_bl, ne_eq, not_false_eq_true, not_true_eq_false, true_and, and_true, true_or, or_true, false_or, or_false, and_self, Int.reduceEq, Int.reduceAbs, Nat.reduceLT, Int.reduceLT, Int.reduceLE, Int.reduceNeg, Nat.reduceEqDiff, decide_true, decide_false, Bool.not_true, Bool.not_false] <;> rfl) ?_) ih
      have q2 : (pool.map D.int)[r.toNat]? = some (.int x) := by rw [List.getElem?_map, gj]; rfl
      have q7 : popAtF (pool.map .int) [.int r] = some (.int x, (pool.eraseIdx r.toNat).map .int) := popAt_ok h0 (by rw [List.length_map]; exact h1) (by rw [List.length_map]; omega) q2 (erase_map _ _ _)
      have q8 : appF (found.map .int) [.int x] = some (.non, (found ++ [x]).map .int) := app_nat (by rw [List.length_map]; omega)
      simp (config := { failIfUnchanged := false }) only [DS.nxS, DS.bkS, DS.ctS, DS.badS, DS.retS, DS.retN, DS.exprS, DS.setS, DS.setL, DS.asgS, DS.gN, DS.gT, DS.gsN, DS.gsC, DS.op1, DS.op2, DS.op1L, DS.op2L, DS.oV, DS.oS, DS.var, DS.cst, DS.deref, DS.derefD, DS.ofL, DS.lstE, DS.evA, DS.tupE, DS.asB, DS.truT, DS.andT, DS.orT, DS.notT, DS.andE, DS.orE, DS.notE, DS.ifE, DS.chn, DS.sl, DS.slL, DS.part, DS.lcE, DS.lcL, DS.itA, DS.itE, DS.itZ, DS.par2, DS.evP, DS.setIx, DS.mutE, DS.lstTok, DS.updTok, DS.shr, DS.callE, DS.callKE, DS.runFn, DS.orL, DS.yesT, DS.noOwn, DS.addD, DS.subD, DS.mulD, DS.divD, DS.modD, DS.powD, DS.negD, DS.ltD, DS.leD, DS.gtD, DS.geD, DS.isN, DS.isntN, DS.notD, DS.ixD, DS.slD, DS.slLs, DS.lenD, DS.absD, DS.intD, DS.tupleD, DS.listL, DS.allD, DS.anyD, DS.sumD, DS.minD, DS.maxD, DS.sortedL, DS.truD, DS.isiD, DS.tyD, DS.gId, DS.wipeE, DS.restE, DS.R.bind_ok, DS.R.bind_exc, DS.R.bind_bad, DS.R.map_ok, DS.R.of_some, DS.R.of_none, Option.bind_some, Option.bind_none, Option.map_some, Option.map_none, List.getElem?_cons_zero, List.getElem?_cons_succ, List.getElem?_nil, List.set_cons_zero, List.set_cons_succ, List.length_cons, List.length_nil, List.map_cons, List.map_nil, Option.getD_some, Option.getD_none, List.cons_append, List.nil_append, List.replicate_succ, List.replicate_zero, Nat.reduceAdd, Nat.reduceSub, decide_eq_true_eq, Bool.and_eq_true, Bool.or_eq_true, if_true, if_false, Bool.not_eq_true', Bool.false_eq_true, reduceIte, DS.eqD_int, DS.neD_int, DS.eqD_bl, DS.neD_bl, ne_eq, not_false_eq_true, not_true_eq_false, true_and, and_true, true_or, or_true, false_or, or_false, and_self, Int.reduceEq, Int.reduceAbs, Nat.reduceLT, Int.reduceLT, Int.reduceLE, Int.reduceNeg, Nat.reduceEqDiff, decide_true, decide_false, Bool.not_true, Bool.not_false, List.length_map, e, q7, q8]
    · rw [List.length_cons, show n + (ds.length + 1) = n + 1 + ds.length by omega]
      exact b2
    · rw [List.append_assoc]
      exact List.Perm.append_left _ (erase_perm gj)
theorem pick_ok {n : Nat} {hp : List Ob} (h : Bx n hp) (ts : List Int) (hn : n + ts.length < 4000) (hl : ts.length < 1000) : ∃ (out : List Int) (hp' : List Ob), F__law_pick [.ref 0, .lst (ts.map .int), .int ts.length] hp = .ok (.lst (out.map .int)) hp' ∧ Bx (n + ts.length) hp' ∧ out.Perm ts := by
  obtain ⟨out, hp', e3, e, b, p⟩ := pick_loop (.lst (ts.map .int)) ts.length (upTo 0 ts.length) ts [] n hp .un h (by rw [upTo_len]; exact hn) (by rw [upTo_len]) (by rw [upTo_len]; simpa using hl)
  rw [upTo_len] at b
  refine ⟨out, hp', ?_, b, by simpa using p⟩
  unfold F__law_pick B__law_pick
  have c1 : -(2 ^ 62) ≤ (ts.length : Int) := by omega
  have c2 : (ts.length : Int) < 2 ^ 62 := by omega
  have c3 : ¬ ((ts.length : Int) < ts.length) := by omega
  refine fn_rt (sq_nx (s1 := ⟨[.v (.ref 0), .v (.lst (ts.map .int)), .v (.int ts.length), .un, .ol (ts.map .int), .ol []], hp⟩) (by simp (config := { failIfUnchanged := false }) only [DS.nxS, DS.bkS, DS.ctS, DS.badS, DS.retS, DS.retN, DS.exprS, DS.setS, DS.setL, DS.asgS, DS.gN, DS.gT, DS.gsN, DS.gsC, DS.op1, DS.op2, DS.op1L, DS.op2L, DS.oV, DS.oS, DS.var, DS.cst, DS.deref, DS.derefD, DS.ofL, DS.lstE, DS.evA, DS.tupE, DS.asB, DS.truT, DS.andT, DS.orT, DS.notT, DS.andE, DS.orE, DS.notE, DS.ifE, DS.chn, DS.sl, DS.slL, DS.part, DS.lcE, DS.lcL, DS.itA, DS.itE, DS.itZ, DS.par2, DS.evP, DS.setIx, DS.mutE, DS.lstTok, DS.updTok, DS.shr, DS.callE, DS.callKE, DS.runFn, DS.orL, DS.yesT, DS.noOwn, DS.addD, DS.subD, DS.mulD, DS.divD, DS.modD, DS.powD, DS.negD, DS.ltD, DS.leD, DS.gtD, DS.geD, DS.isN, DS.isntN, DS.notD, DS.ixD, DS.slD, DS.slLs, DS.lenD, DS.absD, DS.intD, DS.tupleD, DS.listL, DS.allD, DS.anyD, DS.sumD, DS.minD, DS.maxD, DS.sortedL, DS.truD, DS.isiD, DS.tyD, DS.gId, DS.wipeE, DS.restE, DS.R.bind_ok, DS.R.bind_exc, DS.R.bind_bad, DS.R.map_ok, DS.R.of_some, DS.R.of_none, Option.bind_some, Option.bind_none, Option.map_some, Option.map_none, List.getElem?_cons_zero, List.getElem?_cons_succ, List.getElem?_nil, List.set_cons_zero, List.set_cons_succ, List.length_cons, List.length_nil, List.map_cons, List.map_nil, Option.getD_some, Option.getD_none, List.cons_append, List.nil_append, List.replicate_succ, List.replicate_zero, Nat.reduceAdd, Nat.reduceSub, decide_eq_true_eq, Bool.and_eq_true, Bool.or_eq_true, if_true, if_false, Bool.not_eq_true', Bool.false_eq_true, reduceIte, DS.eqD_int, DS.neD_int, DS.eqD_bl, DS.neD_bl, ne_eq, not_false_eq_true, not_true_eq_false, true_and, and_true, true_or, or_true, false_or, or_false, and_self, Int.reduceEq, Int.reduceAbs, Nat.reduceLT, Int.reduceLT, Int.reduceLE, Int.reduceNeg, Nat.reduceEqDiff, decide_true, decide_false, Bool.not_true, Bool.not_false] <;> rfl) (sq_nx (for_of (ds := upTo 0 ts.length) (s1 := ⟨[.v (.ref 0), .v (.lst (ts.map .int)), .v (.int ts.length), .un, .ol (ts.map .int), .ol []], hp⟩) (itR1_ok (j := (ts.length : Int)) (by simp (config := { failIfUnchanged := false }) only [DS.nxS, DS.bkS, DS.ctS, DS.badS, DS.retS, DS.retN, DS.exprS, DS.setS, DS.setL, DS.asgS, DS.gN, DS.gT, DS.gsN, DS.gsC, DS.op1, DS.op2, DS.op1L, DS.op2L, DS.oV, DS.oS, DS.var, DS.cst, DS.deref, DS.derefD, DS.ofL, DS.lstE, DS.evA, DS.tupE, DS.asB, DS.truT, DS.andT, DS.orT, DS.notT, DS.andE, DS.orE, DS.notE, DS.ifE, DS.chn, DS.sl, DS.slL, DS.part, DS.lcE, DS.lcL, DS.itA, DS.itE, DS.itZ, DS.par2, DS.evP, DS.setIx, DS.mutE, DS.lstTok, DS.updTok, DS.shr, DS.callE, DS.callKE, DS.runFn, DS.orL, DS.yesT, DS.noOwn, DS.addD, DS.subD, DS.mulD, DS.divD, DS.modD, DS.powD, DS.negD, DS.ltD, DS.leD, DS.gtD, DS.geD, DS.isN, DS.isntN, DS.notD, DS.ixD, DS.slD, DS.slLs, DS.lenD, DS.absD, DS.intD, DS.tupleD, DS.listL, DS.allD, DS.anyD, DS.sumD, DS.minD, DS.maxD, DS.sortedL, DS.truD, DS.isiD, DS.tyD, DS.gId, DS.wipeE, DS.restE, DS.R.bind_ok, DS.R.bind_exc, DS.R.bind_bad, DS.R.map_ok, DS.R.of_some, DS.R.of_none, Option.bind_some, Option.bind_none, Option.map_some, Option.map_none, List.getElem?_cons_zero, List.getElem?_cons_succ, List.getElem?_nil, List.set_cons_zero, List.set_cons_succ, List.length_cons, List.length_nil, List.map_cons, List.map_nil, Option.getD_some, Option.getD_none, List.cons_append, List.nil_append, List.replicate_succ, List.replicate_zero, Nat.reduceAdd, Nat.reduceSub, decide_eq_true_eq, Bool.and_eq_true, Bool.or_eq_true, if_true, if_false, Bool.not_eq_true', Bool.false_eq_true, reduceIte, DS.eqD_int, DS.neD_int, DS.eqD_bl, DS.neD_bl, ne_eq, not_false_eq_true, not_true_eq_false, true_and, and_true, true_or, or_true, false_or, or_false, and_self, Int.reduceEq, Int.reduceAbs, Nat.reduceLT, Int.reduceLT, Int.reduceLE, Int.reduceNeg, Nat.reduceEqDiff, decide_true, decide_false, Bool.not_true, Bool.not_false, List.length_map, c3] <;> rfl) c1 c2 (Int.toNat_natCast _)) e) (rt_of (by simp (config := { failIfUnchanged := false }) only [DS.nxS, DS.bkS, DS.ctS, DS.badS, DS.retS, DS.retN, DS.exprS, DS.setS, DS.setL, DS.asgS, DS.gN, DS.gT, DS.gsN, DS.gsC, DS.op1, DS.op2, DS.op1L, DS.op2L, DS.oV, DS.oS, DS.var, DS.cst, DS.deref, DS.derefD, DS.ofL, DS.lstE, DS.evA, DS.tupE, DS.asB, DS.truT, DS.andT, DS.orT, DS.notT, DS.andE, DS.orE, DS.notE, DS.ifE, DS.chn, DS.sl, DS.slL, DS.part, DS.lcE, DS.lcL, DS.itA, DS.itE, DS.itZ, DS.par2, DS.evP, DS.setIx, DS.mutE, DS.lstTok, DS.updTok, DS.shr, DS.callE, DS.callKE, DS.runFn, DS.orL, DS.yesT, DS.noOwn, DS.addD, DS.subD, DS.mulD, DS.divD, DS.modD, DS.powD, DS.negD, DS.ltD, DS.leD, DS.gtD, DS.geD, DS.isN, DS.isntN, DS.notD, DS.ixD, DS.slD, DS.slLs, DS.lenD, DS.absD, DS.intD, DS.tupleD, DS.listL, DS.allD, DS.anyD, DS.sumD, DS.minD, DS.maxD, DS.sortedL, DS.truD, DS.isiD, DS.tyD, DS.gId, DS.wipeE, DS.restE, DS.R.bind_ok, DS.R.bind_exc, DS.R.bind_bad, DS.R.map_ok, DS.R.of_some, DS.R.of_none, Option.bind_some, Option.bind_none, Option.map_some, Option.map_none, List.getElem?_cons_zero, List.getElem?_cons_succ, List.getElem?_nil, List.set_cons_zero, List.set_cons_succ, List.length_cons, List.length_nil, List.map_cons, List.map_nil, Option.getD_some, Option.getD_none, List.cons_append, List.nil_append, List.replicate_succ, List.replicate_zero, Nat.reduceAdd, Nat.reduceSub, decide_eq_true_eq, Bool.and_eq_true, Bool.or_eq_true, if_true, if_false, Bool.not_eq_true', Bool.false_eq_true, reduceIte, DS.eqD_int, DS.neD_int, DS.eqD_bl, DS.neD_bl, ne_eq, not_false_eq_true, not_true_eq_false, true_and, and_true, true_or, or_true, false_or, or_false, and_self, Int.reduceEq, Int.reduceAbs, Nat.reduceLT, Int.reduceLT, Int.reduceLE, Int.reduceNeg, Nat.reduceEqDiff, decide_true, decide_false, Bool.not_true, Bool.not_false] <;> rfl))))
/-! ### deep lists, tuples -/
theorem lists_int (n : Nat) (i : Int) (hp : List Ob) : F__law_lists (n + 1) [.int i] hp = .ok (.int i) hp := by
  rw [F__law_lists_s]
  unfold B__law_lists
  exact fn_rt (rt_of (by simp (config := { failIfUnchanged := false }) only [DS.nxS, DS.bkS, DS.ctS, DS.badS, DS.retS, DS.retN, DS.exprS, DS.setS, DS.setL, DS.asgS, DS.gN, DS.gT, DS.gsN, DS.gsC, DS.op1, DS.op2, DS.op1L, DS.op2L, DS.oV, DS.oS, DS.var, DS.cst, DS.deref, DS.derefD, DS.ofL, DS.lstE, DS.evA, DS.tupE, DS.asB, DS.truT, DS.andT, DS.orT, DS.notT, DS.andE, DS.orE, DS.notE, DS.ifE, DS.chn, DS.sl, DS.slL, DS.part, DS.lcE, DS.lcL, DS.itA, DS.itE, DS.itZ, DS.par2, DS.evP, DS.setIx, DS.mutE, DS.lstTok, DS.updTok, DS.shr, DS.callE, DS.callKE, DS.runFn, DS.orL, DS.yesT, DS.noOwn, DS.addD, DS.subD, DS.mulD, DS.divD, DS.modD, DS.powD, DS.negD, DS.ltD, DS.leD, DS.gtD, DS.geD, DS.isN, DS.isntN, DS.notD, DS.ixD, DS.slD, DS.slLs, DS.lenD, DS.absD, DS.intD, DS.tupleD, DS.listL, DS.allD, DS.anyD, DS.sumD, DS.minD, DS.maxD, DS.sortedL, DS.truD, DS.isiD, DS.tyD, DS.gId, DS.wipeE, DS.restE, DS.R.bind_ok, DS.R.bind_exc, DS.R.bind_bad, DS.R.map_ok, DS.R.of_some, DS.R.of_none, Option.bind_some, Option.bind_none, Option.map_some, Option.map_none, List.getElem?_cons_zero, List.getElem?_cons_succ, List.getElem?_nil, List.set_cons_zero, List.set_cons_succ, List.length_cons, List.length_nil, List.map_cons, List.map_nil, Option.getD_some, Option.getD_none, List.cons_append, List.nil_append, List.replicate_succ, List.replicate_zero, Nat.reduceAdd, Nat.reduceSub, decide_eq_true_eq, Bool.and_eq_true, Bool.or_eq_true, if_true, if_false, Bool.not_eq_true', Bool.false_eq_true, reduceIte, DS.eqD_int, DS.neD_int, DS.eqD_bl, DS.neD_bl, ne_eq, not_false_eq_true, not_true_eq_false, true_and, and_true, true_or, or_true, false_or, or_false, and_self, Int.reduceEq, Int.reduceAbs, Nat.reduceLT, Int.reduceLT, Int.reduceLE, Int.reduceNeg, Nat.reduceEqDiff, decide_true, decide_false, Bool.not_true, Bool.not_false, List.any_cons, List.any_nil, show Ty.sub .int .lst = false by decide, show Ty.sub .int .tup = false by decide, Bool.or_false] <;> rfl))
theorem lists_loop (n : Nat) (e0 : Slot) (hp : List Ob) : ∀ (ts : List Int) (acc : List D), acc.length + ts.length < 1000 → lcL (gN 1) [1] yesT (callE (F__law_lists (n + 1)) [(var 1)]) (ts.map .int) acc ⟨[e0, .un], hp⟩ = .ok (acc ++ ts.map .int) ⟨[e0, .un], hp⟩
  | [], acc, _ => by simp [lcL]
  | t :: ts, acc, h => by
    simp only [List.length_cons] at h
    refine Eq.trans (lcL_cons (s1 := ⟨[e0, .v (.int t)], hp⟩) (s2 := ⟨[e0, .v (.int t)], hp⟩) (y := .int t) (s3 := ⟨[e0, .v (.int t)], hp⟩) (by simp (config := { failIfUnchanged := false }) only [DS.nxS, DS.bkS, DS.ctS, DS.badS, DS.retS, DS.retN, DS.exprS, DS.setS, DS.setL, DS.asgS, DS.gN, DS.gT, DS.gsN, DS.gsC, DS.op1, DS.op2, DS.op1L, DS.op2L, DS.oV, DS.oS, DS.var, DS.cst, DS.deref, DS.derefD, DS.ofL, DS.lstE, DS.evA, DS.tupE, DS.asB, DS.truT, DS.andT, DS.orT, DS.notT, DS.andE, DS.orE, DS.notE, DS.ifE, DS.chn, DS.sl, DS.slL, DS.part, DS.lcE, DS.lcL, DS.itA, DS.itE, DS.itZ, DS.par2, DS.evP, DS.setIx, DS.mutE, DS.lstTok, DS.updTok, DS.shr, DS.callE, DS.callKE, DS.runFn, DS.orL, DS.yesT, DS.noOwn, DS.addD, DS.subD, DS.mulD, DS.divD, DS.modD, DS.powD, DS.negD, DS.ltD, DS.leD, DS.gtD, DS.geD, DS.isN, DS.isntN, DS.notD, DS.ixD, DS.slD, DS.slLs, DS.lenD, DS.absD, DS.intD, DS.tupleD, DS.listL, DS.allD, DS.anyD, DS.sumD, DS.minD, DS.maxD, DS.sortedL, DS.truD, DS.isiD, DS.tyD, DS.gId, DS.wipeE, DS.restE, DS.R.bind_ok, DS.R.bind_exc, DS.R.bind_bad, DS.R.map_ok, DS.R.of_some, DS.R.of_none, Option.bind_some, Option.bind_none, Option.map_some, Option.map_none, List.getElem?_cons_zero, List.getElem?_cons_succ, List.getElem?_nil, List.set_cons_zero, List.set_cons_succ, List.length_cons, List.length_nil, List.map_cons, List.map_nil, Option.getD_some, Option.getD_none, List.cons_append, List.nil_append, List.replicate_succ, List.replicate_zero, Nat.reduceAdd, Nat.reduceSub, decide_eq_true_eq, Bool.and_eq_true, Bool.or_eq_true, if_true, if_false, Bool.not_eq_true', Bool.false_eq_true, reduceIte, DS.eqD_int, DS.neD_int, DS.eqD_bl, DS.neD_bl, ne_eq, not_false_eq_true, not_true_eq_false, true_and, and_true, true_or, or_true, false_or, or_false, and_self, Int.reduceEq, Int.reduceAbs, Nat.reduceLT, Int.reduceLT, Int.reduceLE, Int.reduceNeg, Nat.reduceEqDiff, decide_true, decide_false, Bool.not_true, Bool.not_false] <;> rfl) (by rfl) (by simp (config := { failIfUnchanged := false }) only [DS.nxS, DS.bkS, DS.ctS, DS.badS, DS.retS, DS.retN, DS.exprS, DS.setS, DS.setL, DS.asgS, DS.gN, DS.gT, DS.gsN, DS.gsC, DS.op1, DS.op2, DS.op1L, DS.op2L, DS.oV, DS.oS, DS.var, DS.cst, DS.deref, DS.derefD, DS.ofL, DS.lstE, DS.evA, DS.tupE, DS.asB, DS.truT, DS.andT, DS.orT, DS.notT, DS.andE, DS.orE, DS.notE, DS.ifE, DS.chn, DS.sl, DS.slL, DS.part, DS.lcE, DS.lcL, DS.itA, DS.itE, DS.itZ, DS.par2, DS.evP, DS.setIx, DS.mutE, DS.lstTok, DS.updTok, DS.shr, DS.callE, DS.callKE, DS.runFn, DS.orL, DS.yesT, DS.noOwn, DS.addD, DS.subD, DS.mulD, DS.divD, DS.modD, DS.powD, DS.negD, DS.ltD, DS.leD, DS.gtD, DS.geD, DS.isN, DS.isntN, DS.notD, DS.ixD, DS.slD, DS.slLs, DS.lenD, DS.absD, DS.intD, DS.tupleD, DS.listL, DS.allD, DS.anyD, DS.sumD, DS.minD, DS.maxD, DS.sortedL, DS.truD, DS.isiD, DS.tyD, DS.gId, DS.wipeE, DS.restE, DS.R.bind_ok, DS.R.bind_exc, DS.R.bind_bad, DS.R.map_ok, DS.R.of_some, DS.R.of_none, Option.bind_some, Option.bind_none, Option.map_some, Option.map_none, List.getElem?_cons_zero, List.getElem?_cons_succ, List.getElem?_nil, List.set_cons_zero, List.set_cons_succ, List.length_cons, List.length_nil, List.map_cons, List.map_nil, Option.getD_some, Option.getD_none, List.cons_append, List.nil_append, List.replicate_succ, List.replicate_zero, Nat.reduceAdd, Nat.reduceSub, decide_eq_true_eq, Bool.and_eq_true, Bool.or_eq_true, if_true, if_false, Bool.not_eq_true', Bool.false_eq_true, reduceIte, DS.eqD_int, DS.neD_int, DS.eqD_bl, DS.neD_bl, ne_eq, not_false_eq_true, not_true_eq_false, true_and, and_true, true_or, or_true, false_or, or_false, and_self, Int.reduceEq, Int.reduceAbs, Nat.reduceLT, Int.reduceLT, Int.reduceLE, Int.reduceNeg, Nat.reduceEqDiff, decide_true, decide_false, Bool.not_true, Bool.not_false, lists_int] <;> rfl) (by unfold LIM; omega)) ?_
    refine Eq.trans (lists_loop n e0 hp ts (acc ++ [.int t]) (by simp; omega)) ?_
    rw [List.append_assoc]
    rfl
end L30
namespace L30
open PySem PySem.Spec PyProof.Rows L2 DS
theorem any2 (a b c : Ty) : [b, c].any a.sub = (a.sub b || a.sub c) := by simp
theorem any1 (a b : Ty) : [b].any a.sub = a.sub b := by simp
theorem lists_ints (n : Nat) (ts : List Int) (hl : ts.length < 900) (hp : List Ob) : F__law_lists (n + 2) [.tup (ts.map .int)] hp = .ok (.lst (ts.map .int)) hp := by
  rw [F__law_lists_s]
  unfold B__law_lists
  have e : lcE (itA (var 0)) (gN 1) [1] yesT (callE (F__law_lists (n + 1)) [(var 1)]) ⟨[.v (.tup (ts.map .int)), .un], hp⟩ = .ok (ts.map .int) ⟨[.v (.tup (ts.map .int)), .un], hp⟩ :=
    lcE_of (s1 := ⟨[.v (.tup (ts.map .int)), .un], hp⟩) (by simp (config := { failIfUnchanged := false }) only [DS.nxS, DS.bkS, DS.ctS, DS.badS, DS.retS, DS.retN, DS.exprS, DS.setS, DS.setL, DS.asgS, DS.gN, DS.gT, DS.gsN, DS.gsC, DS.op1, DS.op2, DS.op1L, DS.op2L, DS.oV, DS.oS, DS.var, DS.cst, DS.deref, DS.derefD, DS.ofL, DS.lstE, DS.evA, DS.tupE, DS.asB, DS.truT, DS.andT, DS.orT, DS.notT, DS.andE, DS.orE, DS.notE, DS.ifE, DS.chn, DS.sl, DS.slL, DS.part, DS.lcE, DS.lcL, DS.itA, DS.itE, DS.itZ, DS.par2, DS.evP, DS.setIx, DS.mutE, DS.lstTok, DS.updTok, DS.shr, DS.callE, DS.callKE, DS.runFn, DS.orL, DS.yesT, DS.noOwn, DS.addD, DS.subD, DS.mulD, DS.divD, DS.modD, DS.powD, DS.negD, DS.ltD, DS.leD, DS.gtD, DS.geD, DS.isN, DS.isntN, DS.notD, DS.ixD, DS.slD, DS.slLs, DS.lenD, DS.absD, DS.intD, DS.tupleD, DS.listL, DS.allD, DS.anyD, DS.sumD, DS.minD, DS.maxD, DS.sortedL, DS.truD, DS.isiD, DS.tyD, DS.gId, DS.wipeE, DS.restE, DS.R.bind_ok, DS.R.bind_exc, DS.R.bind_bad, DS.R.map_ok, DS.R.of_some, DS.R.of_none, Option.bind_some, Option.bind_none, Option.map_some, Option.map_none, List.getElem?_cons_zero, List.getElem?_cons_succ, List.getElem?_nil, List.set_cons_zero, List.set_cons_succ, List.length_cons, List.length_nil, List.map_cons, List.map_nil, Option.getD_some, Option.getD_none, List.cons_append, List.nil_append, List.replicate_succ, List.replicate_zero, Nat.reduceAdd, Nat.reduceSub, decide_eq_true_eq, Bool.and_eq_true, Bool.or_eq_true, if_true, if_false, Bool.not_eq_true', Bool.false_eq_true, reduceIte, DS.eqD_int, DS.neD_int, DS.eqD_bl, DS.neD_bl, ne_eq, not_false_eq_true, not_true_eq_false, true_and, and_true, true_or, or_true, false_or, or_false, and_self, Int.reduceEq, Int.reduceAbs, Nat.reduceLT, Int.reduceLT, Int.reduceLE, Int.reduceNeg, Nat.reduceEqDiff, decide_true, decide_false, Bool.not_true, Bool.not_false] <;> rfl) (by rfl) (lists_loop n _ hp ts [] (by simp; omega))
  refine fn_rt (rt_of (s1 := ⟨[.v (.tup (ts.map .int)), .un], hp⟩) ?_)
  generalize lcE (itA (var 0)) (gN 1) [1] yesT (callE (F__law_lists (n + 1)) [(var 1)]) = L at e
  simp (config := { failIfUnchanged := false }) only [DS.nxS, DS.bkS, DS.ctS, DS.badS, DS.retS, DS.retN, DS.exprS, DS.setS, DS.setL, DS.asgS, DS.gN, DS.gT, DS.gsN, DS.gsC, DS.op1, DS.op2, DS.op1L, DS.op2L, DS.oV, DS.oS, DS.var, DS.cst, DS.deref, DS.derefD, DS.ofL, DS.lstE, DS.evA, DS.tupE, DS.asB, DS.truT, DS.andT, DS.orT, DS.notT, DS.andE, DS.orE, DS.notE, DS.ifE, DS.chn, DS.sl, DS.slL, DS.part, DS.lcE, DS.lcL, DS.itA, DS.itE, DS.itZ, DS.par2, DS.evP, DS.setIx, DS.mutE, DS.lstTok, DS.updTok, DS.shr, DS.callE, DS.callKE, DS.runFn, DS.orL, DS.yesT, DS.noOwn, DS.addD, DS.subD, DS.mulD, DS.divD, DS.modD, DS.powD, DS.negD, DS.ltD, DS.leD, DS.gtD, DS.geD, DS.isN, DS.isntN, DS.notD, DS.ixD, DS.slD, DS.slLs, DS.lenD, DS.absD, DS.intD, DS.tupleD, DS.listL, DS.allD, DS.anyD, DS.sumD, DS.minD, DS.maxD, DS.sortedL, DS.truD, DS.isiD, DS.tyD, DS.gId, DS.wipeE, DS.restE, DS.R.bind_ok, DS.R.bind_exc, DS.R.bind_bad, DS.R.map_ok, DS.R.of_some, DS.R.of_none, Option.bind_some, Option.bind_none, Option.map_some, Option.map_none, List.getElem?_cons_zero, List.getElem?_cons_succ, List.getElem?_nil, List.set_cons_zero, List.set_cons_succ, List.length_cons, List.length_nil, List.map_cons, List.map_nil, Option.getD_some, Option.getD_none, List.cons_append, List.nil_append, List.replicate_succ, List.replicate_zero, Nat.reduceAdd, Nat.reduceSub, decide_eq_true_eq, Bool.and_eq_true, Bool.or_eq_true, if_true, if_false, Bool.not_eq_true', Bool.false_eq_true, reduceIte, DS.eqD_int, DS.neD_int, DS.eqD_bl, DS.neD_bl, ne_eq, not_false_eq_true, not_true_eq_false, true_and, and_true, true_or, or_true, false_or, or_false, and_self, Int.reduceEq, Int.reduceAbs, Nat.reduceLT, Int.reduceLT, Int.reduceLE, Int.reduceNeg, Nat.reduceEqDiff, decide_true, decide_false, Bool.not_true, Bool.not_false, any2, show Ty.sub .tup .lst = false by decide, show Ty.sub .tup .tup = true by decide, Bool.or_true, e]
theorem lists_sheet (n : Nat) (h : Int) (ts : List Int) (hl : ts.length < 900) (hp : List Ob) : F__law_lists (n + 3) [shD h ts] hp = .ok (.lst [.int h, .lst (ts.map .int)]) hp := by
  rw [F__law_lists_s]
  unfold B__law_lists
  have e : lcE (itA (var 0)) (gN 1) [1] yesT (callE (F__law_lists (n + 2)) [(var 1)]) ⟨[.v (shD h ts), .un], hp⟩ = .ok [.int h, .lst (ts.map .int)] ⟨[.v (shD h ts), .un], hp⟩ := by
    refine lcE_of (s1 := ⟨[.v (shD h ts), .un], hp⟩) (s2 := ⟨[.v (shD h ts), .un], hp⟩) (by simp (config := { failIfUnchanged := false }) only [DS.nxS, DS.bkS, DS.ctS, DS.badS, DS.retS, DS.retN, DS.exprS, DS.setS, DS.setL, DS.asgS, DS.gN, DS.gT, DS.gsN, DS.gsC, DS.op1, DS.op2, DS.op1L, DS.op2L, DS.oV, DS.oS, DS.var, DS.cst, DS.deref, DS.derefD, DS.ofL, DS.lstE, DS.evA, DS.tupE, DS.asB, DS.truT, DS.andT, DS.orT, DS.notT, DS.andE, DS.orE, DS.notE, DS.ifE, DS.chn, DS.sl, DS.slL, DS.part, DS.lcE, DS.lcL, DS.itA, DS.itE, DS.itZ, DS.par2, DS.evP, DS.setIx, DS.mutE, DS.lstTok, DS.updTok, DS.shr, DS.callE, DS.callKE, DS.runFn, DS.orL, DS.yesT, DS.noOwn, DS.addD, DS.subD, DS.mulD, DS.divD, DS.modD, DS.powD, DS.negD, DS.ltD, DS.leD, DS.gtD, DS.geD, DS.isN, DS.isntN, DS.notD, DS.ixD, DS.slD, DS.slLs, DS.lenD, DS.absD, DS.intD, DS.tupleD, DS.listL, DS.allD, DS.anyD, DS.sumD, DS.minD, DS.maxD, DS.sortedL, DS.truD, DS.isiD, DS.tyD, DS.gId, DS.wipeE, DS.restE, DS.R.bind_ok, DS.R.bind_exc, DS.R.bind_bad, DS.R.map_ok, DS.R.of_some, DS.R.of_none, Option.bind_some, Option.bind_none, Option.map_some, Option.map_none, List.getElem?_cons_zero, List.getElem?_cons_succ, List.getElem?_nil, List.set_cons_zero, List.set_cons_succ, List.length_cons, List.length_nil, List.map_cons, List.map_nil, Option.getD_some, Option.getD_none, List.cons_append, List.nil_append, List.replicate_succ, List.replicate_zero, Nat.reduceAdd, Nat.reduceSub, decide_eq_true_eq, Bool.and_eq_true, Bool.or_eq_true, if_true, if_false, Bool.not_eq_true', Bool.false_eq_true, reduceIte, DS.eqD_int, DS.neD_int, DS.eqD_bl, DS.neD_bl, ne_eq, not_false_eq_true, not_true_eq_false, true_and, and_true, true_or, or_true, false_or, or_false, and_self, Int.reduceEq, Int.reduceAbs, Nat.reduceLT, Int.reduceLT, Int.reduceLE, Int.reduceNeg, Nat.reduceEqDiff, decide_true, decide_false, Bool.not_true, Bool.not_false] <;> rfl) (by rfl) ?_
    refine Eq.trans (lcL_cons (s1 := ⟨[.v (shD h ts), .v (.int h)], hp⟩) (s2 := ⟨[.v (shD h ts), .v (.int h)], hp⟩) (y := .int h) (s3 := ⟨[.v (shD h ts), .v (.int h)], hp⟩) (by simp (config := { failIfUnchanged := false }) only [DS.nxS, DS.bkS, DS.ctS, DS.badS, DS.retS, DS.retN, DS.exprS, DS.setS, DS.setL, DS.asgS, DS.gN, DS.gT, DS.gsN, DS.gsC, DS.op1, DS.op2, DS.op1L, DS.op2L, DS.oV, DS.oS, DS.var, DS.cst, DS.deref, DS.derefD, DS.ofL, DS.lstE, DS.evA, DS.tupE, DS.asB, DS.truT, DS.andT, DS.orT, DS.notT, DS.andE, DS.orE, DS.notE, DS.ifE, DS.chn, DS.sl, DS.slL, DS.part, DS.lcE, DS.lcL, DS.itA, DS.itE, DS.itZ, DS.par2, DS.evP, DS.setIx, DS.mutE, DS.lstTok, DS.updTok, DS.shr, DS.callE, DS.callKE, DS.runFn, DS.orL, DS.yesT, DS.noOwn, DS.addD, DS.subD, DS.mulD, DS.divD, DS.modD, DS.powD, DS.negD, DS.ltD, DS.leD, DS.gtD, DS.geD, DS.isN, DS.isntN, DS.notD, DS.ixD, DS.slD, DS.slLs, DS.lenD, DS.absD, DS.intD, DS.tupleD, DS.listL, DS.allD, DS.anyD, DS.sumD, DS.minD, DS.maxD, DS.sortedL, DS.truD, DS.isiD, DS.tyD, DS.gId, DS.wipeE, DS.restE, DS.R.bind_ok, DS.R.bind_exc, DS.R.bind_bad, DS.R.map_ok, DS.R.of_some, DS.R.of_none, Option.bind_some, Option.bind_none, Option.map_some, Option.map_none, List.getElem?_cons_zero, List.getElem?_cons_succ, List.getElem?_nil, List.set_cons_zero, List.set_cons_succ, List.length_cons, List.length_nil, List.map_cons, List.map_nil, Option.getD_some, Option.getD_none, List.cons_append, List.nil_append, List.replicate_succ, List.replicate_zero, Nat.reduceAdd, Nat.reduceSub, decide_eq_true_eq, Bool.and_eq_true, Bool.or_eq_true, if_true, if_false, Bool.not_eq_true', Bool.false_eq_true, reduceIte, DS.eqD_int, DS.neD_int, DS.eqD_bl, DS.neD_bl, ne_eq, not_false_eq_true, not_true_eq_false, true_and, and_true, true_or, or_true, false_or, or_false, and_self, Int.reduceEq, Int.reduceAbs, Nat.reduceLT, Int.reduceLT, Int.reduceLE, Int.reduceNeg, Nat.reduceEqDiff, decide_true, decide_false, Bool.not_true, Bool.not_false] <;> rfl) (by rfl) (by simp (config := { failIfUnchanged := false }) only [DS.nxS, DS.bkS, DS.ctS, DS.badS, DS.retS, DS.retN, DS.exprS, DS.setS, DS.setL, DS.asgS, DS.gN, DS.gT, DS.gsN, DS.gsC, DS.op1, DS.op2, DS.op1L, DS.op2L, DS.oV, DS.oS, DS.var, DS.cst, DS.deref, DS.derefD, DS.ofL, DS.lstE, DS.evA, DS.tupE, DS.asB, DS.truT, DS.andT, DS.orT, DS.notT, DS.andE, DS.orE, DS.notE, DS.ifE, DS.chn, DS.sl, DS.slL, DS.part, DS.lcE, DS.lcL, DS.itA, DS.itE, DS.itZ, DS.par2, DS.evP, DS.setIx, DS.mutE, DS.lstTok, DS.updTok, DS.shr, DS.callE, DS.callKE, DS.runFn, DS.orL, DS.yesT, DS.noOwn, DS.addD, DS.subD, DS.mulD, DS.divD, DS.modD, DS.powD, DS.negD, DS.ltD, DS.leD, DS.gtD, DS.geD, DS.isN, DS.isntN, DS.notD, DS.ixD, DS.slD, DS.slLs, DS.lenD, DS.absD, DS.intD, DS.tupleD, DS.listL, DS.allD, DS.anyD, DS.sumD, DS.minD, DS.maxD, DS.sortedL, DS.truD, DS.isiD, DS.tyD, DS.gId, DS.wipeE, DS.restE, DS.R.bind_ok, DS.R.bind_exc, DS.R.bind_bad, DS.R.map_ok, DS.R.of_some, DS.R.of_none, Option.bind_some, Option.bind_none, Option.map_some, Option.map_none, List.getElem?_cons_zero, List.getElem?_cons_succ, List.getElem?_nil, List.set_cons_zero, List.set_cons_succ, List.length_cons, List.length_nil, List.map_cons, List.map_nil, Option.getD_some, Option.getD_none, List.cons_append, List.nil_append, List.replicate_succ, List.replicate_zero, Nat.reduceAdd, Nat.reduceSub, decide_eq_true_eq, Bool.and_eq_true, Bool.or_eq_true, if_true, if_false, Bool.not_eq_true', Bool.false_eq_true, reduceIte, DS.eqD_int, DS.neD_int, DS.eqD_bl, DS.neD_bl, ne_eq, not_false_eq_true, not_true_eq_false, true_and, and_true, true_or, or_true, false_or, or_false, and_self, Int.reduceEq, Int.reduceAbs, Nat.reduceLT, Int.reduceLT, Int.reduceLE, Int.reduceNeg, Nat.reduceEqDiff, decide_true, decide_false, Bool.not_true, Bool.not_false, lists_int] <;> rfl) (by unfold LIM; simp)) ?_
    refine Eq.trans (lcL_cons (s1 := ⟨[.v (shD h ts), .v (.tup (ts.map .int))], hp⟩) (s2 := ⟨[.v (shD h ts), .v (.tup (ts.map .int))], hp⟩) (y := .lst (ts.map .int)) (s3 := ⟨[.v (shD h ts), .v (.tup (ts.map .int))], hp⟩) (by simp (config := { failIfUnchanged := false }) only [DS.nxS, DS.bkS, DS.ctS, DS.badS, DS.retS, DS.retN, DS.exprS, DS.setS, DS.setL, DS.asgS, DS.gN, DS.gT, DS.gsN, DS.gsC, DS.op1, DS.op2, DS.op1L, DS.op2L, DS.oV, DS.oS, DS.var, DS.cst, DS.deref, DS.derefD, DS.ofL, DS.lstE, DS.evA, DS.tupE, DS.asB, DS.truT, DS.andT, DS.orT, DS.notT, DS.andE, DS.orE, DS.notE, DS.ifE, DS.chn, DS.sl, DS.slL, DS.part, DS.lcE, DS.lcL, DS.itA, DS.itE, DS.itZ, DS.par2, DS.evP, DS.setIx, DS.mutE, DS.lstTok, DS.updTok, DS.shr, DS.callE, DS.callKE, DS.runFn, DS.orL, DS.yesT, DS.noOwn, DS.addD, DS.subD, DS.mulD, DS.divD, DS.modD, DS.powD, DS.negD, DS.ltD, DS.leD, DS.gtD, DS.geD, DS.isN, DS.isntN, DS.notD, DS.ixD, DS.slD, DS.slLs, DS.lenD, DS.absD, DS.intD, DS.tupleD, DS.listL, DS.allD, DS.anyD, DS.sumD, DS.minD, DS.maxD, DS.sortedL, DS.truD, DS.isiD, DS.tyD, DS.gId, DS.wipeE, DS.restE, DS.R.bind_ok, DS.R.bind_exc, DS.R.bind_bad, DS.R.map_ok, DS.R.of_some, DS.R.of_none, Option.bind_some, Option.bind_none, Option.map_some, Option.map_none, List.getElem?_cons_zero, List.getElem?_cons_succ, List.getElem?_nil, List.set_cons_zero, List.set_cons_succ, List.length_cons, List.length_nil, List.map_cons, List.map_nil, Option.getD_some, Option.getD_none, List.cons_append, List.nil_append, List.replicate_succ, List.replicate_zero, Nat.reduceAdd, Nat.reduceSub, decide_eq_true_eq, Bool.and_eq_true, Bool.or_eq_true, if_true, if_false, Bool.not_eq_true', Bool.false_eq_true, reduceIte, DS.eqD_int, DS.neD_int, DS.eqD_bl, DS.neD_bl, ne_eq, not_false_eq_true, not_true_eq_false, true_and, and_true, true_or, or_true, false_or, or_false, and_self, Int.reduceEq, Int.reduceAbs, Nat.reduceLT, Int.reduceLT, Int.reduceLE, Int.reduceNeg, Nat.reduceEqDiff, decide_true, decide_false, Bool.not_true, Bool.not_false] <;> rfl) (by rfl) (by simp (config := { failIfUnchanged := false }) only [DS.nxS, DS.bkS, DS.ctS, DS.badS, DS.retS, DS.retN, DS.exprS, DS.setS, DS.setL, DS.asgS, DS.gN, DS.gT, DS.gsN, DS.gsC, DS.op1, DS.op2, DS.op1L, DS.op2L, DS.oV, DS.oS, DS.var, DS.cst, DS.deref, DS.derefD, DS.ofL, DS.lstE, DS.evA, DS.tupE, DS.asB, DS.truT, DS.andT, DS.orT, DS.notT, DS.andE, DS.orE, DS.notE, DS.ifE, DS.chn, DS.sl, DS.slL, DS.part, DS.lcE, DS.lcL, DS.itA, DS.itE, DS.itZ, DS.par2, DS.evP, DS.setIx, DS.mutE, DS.lstTok, DS.updTok, DS.shr, DS.callE, DS.callKE, DS.runFn, DS.orL, DS.yesT, DS.noOwn, DS.addD, DS.subD, DS.mulD, DS.divD, DS.modD, DS.powD, DS.negD, DS.ltD, DS.leD, DS.gtD, DS.geD, DS.isN, DS.isntN, DS.notD, DS.ixD, DS.slD, DS.slLs, DS.lenD, DS.absD, DS.intD, DS.tupleD, DS.listL, DS.allD, DS.anyD, DS.sumD, DS.minD, DS.maxD, DS.sortedL, DS.truD, DS.isiD, DS.tyD, DS.gId, DS.wipeE, DS.restE, DS.R.bind_ok, DS.R.bind_exc, DS.R.bind_bad, DS.R.map_ok, DS.R.of_some, DS.R.of_none, Option.bind_some, Option.bind_none, Option.map_some, Option.map_none, List.getElem?_cons_zero, List.getElem?_cons_succ, List.getElem?_nil, List.set_cons_zero, List.set_cons_succ, List.length_cons, List.length_nil, List.map_cons, List.map_nil, Option.getD_some, Option.getD_none, List.cons_append, List.nil_append, List.replicate_succ, List.replicate_zero, Nat.reduceAdd, Nat.reduceSub, decide_eq_true_eq, Bool.and_eq_true, Bool.or_eq_true, if_true, if_false, Bool.not_eq_true', Bool.false_eq_true, reduceIte, DS.eqD_int, DS.neD_int, DS.eqD_bl, DS.neD_bl, ne_eq, not_false_eq_true, not_true_eq_false, true_and, and_true, true_or, or_true, false_or, or_false, and_self, Int.reduceEq, Int.reduceAbs, Nat.reduceLT, Int.reduceLT, Int.reduceLE, Int.reduceNeg, Nat.reduceEqDiff, decide_true, decide_false, Bool.not_true, Bool.not_false, lists_ints n ts hl] <;> rfl) (by unfold LIM; simp)) ?_
    rfl
  refine fn_rt (rt_of (s1 := ⟨[.v (shD h ts), .un], hp⟩) ?_)
  generalize lcE (itA (var 0)) (gN 1) [1] yesT (callE (F__law_lists (n + 2)) [(var 1)]) = L at e
  simp (config := { failIfUnchanged := false }) only [DS.nxS, DS.bkS, DS.ctS, DS.badS, DS.retS, DS.retN, DS.exprS, DS.setS, DS.setL, DS.asgS, DS.gN, DS.gT, DS.gsN, DS.gsC, DS.op1, DS.op2, DS.op1L, DS.op2L, DS.oV, DS.oS, DS.var, DS.cst, DS.deref, DS.derefD, DS.ofL, DS.lstE, DS.evA, DS.tupE, DS.asB, DS.truT, DS.andT, DS.orT, DS.notT, DS.andE, DS.orE, DS.notE, DS.ifE, DS.chn, DS.sl, DS.slL, DS.part, DS.lcE, DS.lcL, DS.itA, DS.itE, DS.itZ, DS.par2, DS.evP, DS.setIx, DS.mutE, DS.lstTok, DS.updTok, DS.shr, DS.callE, DS.callKE, DS.runFn, DS.orL, DS.yesT, DS.noOwn, DS.addD, DS.subD, DS.mulD, DS.divD, DS.modD, DS.powD, DS.negD, DS.ltD, DS.leD, DS.gtD, DS.geD, DS.isN, DS.isntN, DS.notD, DS.ixD, DS.slD, DS.slLs, DS.lenD, DS.absD, DS.intD, DS.tupleD, DS.listL, DS.allD, DS.anyD, DS.sumD, DS.minD, DS.maxD, DS.sortedL, DS.truD, DS.isiD, DS.tyD, DS.gId, DS.wipeE, DS.restE, DS.R.bind_ok, DS.R.bind_exc, DS.R.bind_bad, DS.R.map_ok, DS.R.of_some, DS.R.of_none, Option.bind_some, Option.bind_none, Option.map_some, Option.map_none, List.getElem?_cons_zero, List.getElem?_cons_succ, List.getElem?_nil, List.set_cons_zero, List.set_cons_succ, List.length_cons, List.length_nil, List.map_cons, List.map_nil, Option.getD_some, Option.getD_none, List.cons_append, List.nil_append, List.replicate_succ, List.replicate_zero, Nat.reduceAdd, Nat.reduceSub, decide_eq_true_eq, Bool.and_eq_true, Bool.or_eq_true, if_true, if_false, Bool.not_eq_true', Bool.false_eq_true, reduceIte, DS.eqD_int, DS.neD_int, DS.eqD_bl, DS.neD_bl, ne_eq, not_false_eq_true, not_true_eq_false, true_and, and_true, true_or, or_true, false_or, or_false, and_self, Int.reduceEq, Int.reduceAbs, Nat.reduceLT, Int.reduceLT, Int.reduceLE, Int.reduceNeg, Nat.reduceEqDiff, decide_true, decide_false, Bool.not_true, Bool.not_false, any2, show Ty.sub .tup .lst = false by decide, show Ty.sub .tup .tup = true by decide, Bool.or_true, e]
/-! ### tupled -/
theorem tupled_int (n : Nat) (i : Int) (hp : List Ob) : F_tupled (n + 1) [.int i] hp = .ok (.int i) hp := by
  rw [F_tupled_s]
  unfold B_tupled
  exact fn_rt (rt_of (by simp (config := { failIfUnchanged := false }) only [DS.nxS, DS.bkS, DS.ctS, DS.badS, DS.retS, DS.retN, DS.exprS, DS.setS, DS.setL, DS.asgS, DS.gN, DS.gT, DS.gsN, DS.gsC, DS.op1, DS.op2, DS.op1L, DS.op2L, DS.oV, DS.oS, DS.var, DS.cst, DS.deref, DS.derefD, DS.ofL, DS.lstE, DS.evA, DS.tupE, DS.asB, DS.truT, DS.andT, DS.orT, DS.notT, DS.andE, DS.orE, DS.notE, DS.ifE, DS.chn, DS.sl, DS.slL, DS.part, DS.lcE, DS.lcL, DS.itA, DS.itE, DS.itZ, DS.par2, DS.evP, DS.setIx, DS.mutE, DS.lstTok, DS.updTok, DS.shr, DS.callE, DS.callKE, DS.runFn, DS.orL, DS.yesT, DS.noOwn, DS.addD, DS.subD, DS.mulD, DS.divD, DS.modD, DS.powD, DS.negD, DS.ltD, DS.leD, DS.gtD, DS.geD, DS.isN, DS.isntN, DS.notD, DS.ixD, DS.slD, DS.slLs, DS.lenD, DS.absD, DS.intD, DS.tupleD, DS.listL, DS.allD, DS.anyD, DS.sumD, DS.minD, DS.maxD, DS.sortedL, DS.truD, DS.isiD, DS.tyD, DS.gId, DS.wipeE, DS.restE, DS.R.bind_ok, DS.R.bind_exc, DS.R.bind_bad, DS.R.map_ok, DS.R.of_some, DS.R.of_none, Option.bind_some, Option.bind_none, Option.map_some, Option.map_none, List.getElem?_cons_zero, List.getElem?_cons_succ, List.getElem?_nil, List.set_cons_zero, List.set_cons_succ, List.length_cons, List.length_nil, List.map_cons, List.map_nil, Option.getD_some, Option.getD_none, List.cons_append, List.nil_append, List.replicate_succ, List.replicate_zero, Nat.reduceAdd, Nat.reduceSub, decide_eq_true_eq, Bool.and_eq_true, Bool.or_eq_true, if_true, if_false, Bool.not_eq_true', Bool.false_eq_true, reduceIte, DS.eqD_int, DS.neD_int, DS.eqD_bl, DS.neD_bl, ne_eq, not_false_eq_true, not_true_eq_false, true_and, and_true, true_or, or_true, false_or, or_false, and_self, Int.reduceEq, Int.reduceAbs, Nat.reduceLT, Int.reduceLT, Int.reduceLE, Int.reduceNeg, Nat.reduceEqDiff, decide_true, decide_false, Bool.not_true, Bool.not_false, any2, show Ty.sub .int .lst = false by decide, show Ty.sub .int .tup = false by decide, Bool.or_false] <;> rfl))
theorem tupled_loop (n : Nat) (e0 : DS.Slot) (hp : List Ob) : ∀ (ts : List Int) (acc : List D), acc.length + ts.length < 1000 → lcL (gN 1) [1] yesT (callE (F_tupled (n + 1)) [(var 1)]) (ts.map .int) acc ⟨[e0, .un], hp⟩ = .ok (acc ++ ts.map .int) ⟨[e0, .un], hp⟩
  | [], acc, _ => by simp [lcL]
  | t :: ts, acc, h => by
    simp only [List.length_cons] at h
    refine Eq.trans (lcL_cons (s1 := ⟨[e0, .v (.int t)], hp⟩) (s2 := ⟨[e0, .v (.int t)], hp⟩) (y := .int t) (s3 := ⟨[e0, .v (.int t)], hp⟩) (by simp (config := { failIfUnchanged := false }) only [DS.nxS, DS.bkS, DS.ctS, DS.badS, DS.retS, DS.retN, DS.exprS, DS.setS, DS.setL, DS.asgS, DS.gN, DS.gT, DS.gsN, DS.gsC, DS.op1, DS.op2, DS.op1L, DS.op2L, DS.oV, DS.oS, DS.var, DS.cst, DS.deref, DS.derefD, DS.ofL, DS.lstE, DS.evA, DS.tupE, DS.asB, DS.truT, DS.andT, DS.orT, DS.notT, DS.andE, DS.orE, DS.notE, DS.ifE, DS.chn, DS.sl, DS.slL, DS.part, DS.lcE, DS.lcL, DS.itA, DS.itE, DS.itZ, DS.par2, DS.evP, DS.setIx, DS.mutE, DS.lstTok, DS.updTok, DS.shr, DS.callE, DS.callKE, DS.runFn, DS.orL, DS.yesT, DS.noOwn, DS.addD, DS.subD, DS.mulD, DS.divD, DS.modD, DS.powD, DS.negD, DS.ltD, DS.leD, DS.gtD, DS.geD, DS.isN, DS.isntN, DS.notD, DS.ixD, DS.slD, DS.slLs, DS.lenD, DS.absD, DS.intD, DS.tupleD, DS.listL, DS.allD, DS.anyD, DS.sumD, DS.minD, DS.maxD, DS.sortedL, DS.truD, DS.isiD, DS.tyD, DS.gId, DS.wipeE, DS.restE, DS.R.bind_ok, DS.R.bind_exc, DS.R.bind_bad, DS.R.map_ok, DS.R.of_some, DS.R.of_none, Option.bind_some, Option.bind_none, Option.map_some, Option.map_none, List.getElem?_cons_zero, List.getElem?_cons_succ, List.getElem?_nil, List.set_cons_zero, List.set_cons_succ, List.length_cons, List.length_nil, List.map_cons, List.map_nil, Option.getD_some, Option.getD_none, List.cons_append, List.nil_append, List.replicate_succ, List.replicate_zero, Nat.reduceAdd, Nat.reduceSub, decide_eq_true_eq, Bool.and_eq_true, Bool.or_eq_true, if_true, if_false, Bool.not_eq_true', Bool.false_eq_true, reduceIte, DS.eqD_int, DS.neD_int, DS.eqD_bl, DS.neD_bl, ne_eq, not_false_eq_true, not_true_eq_false, true_and, and_true, true_or, or_true, false_or, or_false, and_self, Int.reduceEq, Int.reduceAbs, Nat.reduceLT, Int.reduceLT, Int.reduceLE, Int.reduceNeg, Nat.reduceEqDiff, decide_true, decide_false, Bool.not_true, Bool.not_false] <;> rfl) (by rfl) (by simp (config := { failIfUnchanged := false }) only [DS.nxS, DS.bkS, DS.ctS, DS.badS, DS.retS, DS.retN, DS.exprS, DS.setS, DS.setL, DS.asgS, DS.gN, DS.gT, DS.gsN, DS.gsC, DS.op1, DS.op2, DS.op1L, DS.op2L, DS.oV, DS.oS, DS.var, DS.cst, DS.deref, DS.derefD, DS.ofL, DS.lstE, DS.evA, DS.tupE, DS.asB, DS.truT, DS.andT, DS.orT, DS.notT, DS.andE, DS.orE, DS.notE, DS.ifE, DS.chn, DS.sl, DS.slL, DS.part, DS.lcE, DS.lcL, DS.itA, DS.itE, DS.itZ, DS.par2, DS.evP, DS.setIx, DS.mutE, DS.lstTok, DS.updTok, DS.shr, DS.callE, DS.callKE, DS.runFn, DS.orL, DS.yesT, DS.noOwn, DS.addD, DS.subD, DS.mulD, DS.divD, DS.modD, DS.powD, DS.negD, DS.ltD, DS.leD, DS.gtD, DS.geD, DS.isN, DS.isntN, DS.notD, DS.ixD, DS.slD, DS.slLs, DS.lenD, DS.absD, DS.intD, DS.tupleD, DS.listL, DS.allD, DS.anyD, DS.sumD, DS.minD, DS.maxD, DS.sortedL, DS.truD, DS.isiD, DS.tyD, DS.gId, DS.wipeE, DS.restE, DS.R.bind_ok, DS.R.bind_exc, DS.R.bind_bad, DS.R.map_ok, DS.R.of_some, DS.R.of_none, Option.bind_some, Option.bind_none, Option.map_some, Option.map_none, List.getElem?_cons_zero, List.getElem?_cons_succ, List.getElem?_nil, List.set_cons_zero, List.set_cons_succ, List.length_cons, List.length_nil, List.map_cons, List.map_nil, Option.getD_some, Option.getD_none, List.cons_append, List.nil_append, List.replicate_succ, List.replicate_zero, Nat.reduceAdd, Nat.reduceSub, decide_eq_true_eq, Bool.and_eq_true, Bool.or_eq_true, if_true, if_false, Bool.not_eq_true', Bool.false_eq_true, reduceIte, DS.eqD_int, DS.neD_int, DS.eqD_bl, DS.neD_bl, ne_eq, not_false_eq_true, not_true_eq_false, true_and, and_true, true_or, or_true, false_or, or_false, and_self, Int.reduceEq, Int.reduceAbs, Nat.reduceLT, Int.reduceLT, Int.reduceLE, Int.reduceNeg, Nat.reduceEqDiff, decide_true, decide_false, Bool.not_true, Bool.not_false, tupled_int] <;> rfl) (by unfold LIM; omega)) ?_
    refine Eq.trans (tupled_loop n e0 hp ts (acc ++ [.int t]) (by simp; omega)) ?_
    rw [List.append_assoc]
    rfl
/-- a list or a tuple of ints -/
def Seq' (d : D) (xs : List D) : Prop := d = .lst xs ∨ d = .tup xs
theorem tupled_seq (n : Nat) (d : D) (xs ys : List D) (hd : Seq' d xs) (hp : List Ob) (hl : lcL (gN 1) [1] yesT (callE (F_tupled n) [(var 1)]) xs [] ⟨[.v d, .un], hp⟩ = .ok ys ⟨[.v d, .un], hp⟩) : F_tupled (n + 1) [d] hp = .ok (.tup ys) hp := by
  rw [F_tupled_s]
  unfold B_tupled
  have e : lcE (itA (var 0)) (gN 1) [1] yesT (callE (F_tupled n) [(var 1)]) ⟨[.v d, .un], hp⟩ = .ok ys ⟨[.v d, .un], hp⟩ :=
    lcE_of (s1 := ⟨[.v d, .un], hp⟩) (by rcases hd with rfl | rfl <;> simp (config := { failIfUnchanged := false }) only [DS.nxS, DS.bkS, DS.ctS, DS.badS, DS.retS, DS.retN, DS.exprS, DS.setS, DS.setL, DS.asgS, DS.gN, DS.gT, DS.gsN, DS.gsC, DS.op1, DS.op2, DS.op1L, DS.op2L, DS.oV, DS.oS, DS.var, DS.cst, DS.deref, DS.derefD, DS.ofL, DS.lstE, DS.evA, DS.tupE, DS.asB, DS.truT, DS.andT, DS.orT, DS.notT, DS.andE, DS.orE, DS.notE, DS.ifE, DS.chn, DS.sl, DS.slL, DS.part, DS.lcE, DS.lcL, DS.itA, DS.itE, DS.itZ, DS.par2, DS.evP, DS.setIx, DS.mutE, DS.lstTok, DS.updTok, DS.shr, DS.callE, DS.callKE, DS.runFn, DS.orL, DS.yesT, DS.noOwn, DS.addD, DS.subD, DS.mulD, DS.divD, DS.modD, DS.powD, DS.negD, DS.ltD, DS.leD, DS.gtD, DS.geD, DS.isN, DS.isntN, DS.notD, DS.ixD, DS.slD, DS.slLs, DS.lenD, DS.absD, DS.intD, DS.tupleD, DS.listL, DS.allD, DS.anyD, DS.sumD, DS.minD, DS.maxD, DS.sortedL, DS.truD, DS.isiD, DS.tyD, DS.gId, DS.wipeE, DS.restE, DS.R.bind_ok, DS.R.bind_exc, DS.R.bind_bad, DS.R.map_ok, DS.R.of_some, DS.R.of_none, Option.bind_some, Option.bind_none, Option.map_some, Option.map_none, List.getElem?_cons_zero, List.getElem?_cons_succ, List.getElem?_nil, List.set_cons_zero, List.set_cons_succ, List.length_cons, List.length_nil, List.map_cons, List.map_nil, Option.getD_some, Option.getD_none, List.cons_append, List.nil_append, List.replicate_succ, List.replicate_zero, Nat.reduceAdd, Nat.reduceSub, decide_eq_true_eq, Bool.and_eq_true, Bool.or_eq_true, if_true, if_false, Bool.not_eq_true', Bool.false_eq_true, reduceIte, DS.eqD_int, DS.neD_int, DS.eqD_bl, DS.neD_bl, ne_eq, not_false_eq_true, not_true_eq_false, true_and, and_true, true_or, or_true, false_or, or_false, and_self, Int.reduceEq, Int.reduceAbs, Nat.reduceLT, Int.reduceLT, Int.reduceLE, Int.reduceNeg, Nat.reduceEqDiff, decide_true, decide_false, Bool.not_true, Bool.not_false] <;> rfl) (by rfl) hl
  refine fn_rt (rt_of (s1 := ⟨[.v d, .un], hp⟩) ?_)
  generalize lcE (itA (var 0)) (gN 1) [1] yesT (callE (F_tupled n) [(var 1)]) = L at e
  rcases hd with rfl | rfl
  · simp (config := { failIfUnchanged := false }) only [DS.nxS, DS.bkS, DS.ctS, DS.badS, DS.retS, DS.retN, DS.exprS, DS.setS, DS.setL, DS.asgS, DS.gN, DS.gT, DS.gsN, DS.gsC, DS.op1, DS.op2, DS.op1L, DS.op2L, DS.oV, DS.oS, DS.var, DS.cst, DS.deref, DS.derefD, DS.ofL, DS.lstE, DS.evA, DS.tupE, DS.asB, DS.truT, DS.andT, DS.orT, DS.notT, DS.andE, DS.orE, DS.notE, DS.ifE, DS.chn, DS.sl, DS.slL, DS.part, DS.lcE, DS.lcL, DS.itA, DS.itE, DS.itZ, DS.par2, DS.evP, DS.setIx, DS.mutE, DS.lstTok, DS.updTok, DS.shr, DS.callE, DS.callKE, DS.runFn, DS.orL, DS.yesT, DS.noOwn, DS.addD, DS.subD, DS.mulD, DS.divD, DS.modD, DS.powD, DS.negD, DS.ltD, DS.leD, DS.gtD, DS.geD, DS.isN, DS.isntN, DS.notD, DS.ixD, DS.slD, DS.slLs, DS.lenD, DS.absD, DS.intD, DS.tupleD, DS.listL, DS.allD, DS.anyD, DS.sumD, DS.minD, DS.maxD, DS.sortedL, DS.truD, DS.isiD, DS.tyD, DS.gId, DS.wipeE, DS.restE, DS.R.bind_ok, DS.R.bind_exc, DS.R.bind_bad, DS.R.map_ok, DS.R.of_some, DS.R.of_none, Option.bind_some, Option.bind_none, Option.map_some, Option.map_none, List.getElem?_cons_zero, List.getElem?_cons_succ, List.getElem?_nil, List.set_cons_zero, List.set_cons_succ, List.length_cons, List.length_nil, List.map_cons, List.map_nil, Option.getD_some, Option.getD_none, List.cons_append, List.nil_append, List.replicate_succ, List.replicate_zero, Nat.reduceAdd, Nat.reduceSub, decide_eq_true_eq, Bool.and_eq_true, Bool.or_eq_true, if_true, if_false, Bool.not_eq_true', Bool.false_eq_true, reduceIte, DS.eqD_int, DS.neD_int, DS.eqD_bl, DS.neD_bl, ne_eq, not_false_eq_true, not_true_eq_false, true_and, and_true, true_or, or_true, false_or, or_false, and_self, Int.reduceEq, Int.reduceAbs, Nat.reduceLT, Int.reduceLT, Int.reduceLE, Int.reduceNeg, Nat.reduceEqDiff, decide_true, decide_false, Bool.not_true, Bool.not_false, any2, show Ty.sub .lst .lst = true by decide, show Ty.sub .lst .tup = false by decide, Bool.or_false, e]
  · simp (config := { failIfUnchanged := false }) only [DS.nxS, DS.bkS, DS.ctS, DS.badS, DS.retS, DS.retN, DS.exprS, DS.setS, DS.setL, DS.asgS, DS.gN, DS.gT, DS.gsN, DS.gsC, DS.op1, DS.op2, DS.op1L, DS.op2L, DS.oV, DS.oS, DS.var, DS.cst, DS.deref, DS.derefD, DS.ofL, DS.lstE, DS.evA, DS.tupE, DS.asB, DS.truT, DS.andT, DS.orT, DS.notT, DS.andE, DS.orE, DS.notE, DS.ifE, DS.chn, DS.sl, DS.slL, DS.part, DS.lcE, DS.lcL, DS.itA, DS.itE, DS.itZ, DS.par2, DS.evP, DS.setIx, DS.mutE, DS.lstTok, DS.updTok, DS.shr, DS.callE, DS.callKE, DS.runFn, DS.orL, DS.yesT, DS.noOwn, DS.addD, DS.subD, DS.mulD, DS.divD, DS.modD, DS.powD, DS.negD, DS.ltD, DS.leD, DS.gtD, DS.geD, DS.isN, DS.isntN, DS.notD, DS.ixD, DS.slD, DS.slLs, DS.lenD, DS.absD, DS.intD, DS.tupleD, DS.listL, DS.allD, DS.anyD, DS.sumD, DS.minD, DS.maxD, DS.sortedL, DS.truD, DS.isiD, DS.tyD, DS.gId, DS.wipeE, DS.restE, DS.R.bind_ok, DS.R.bind_exc, DS.R.bind_bad, DS.R.map_ok, DS.R.of_some, DS.R.of_none, Option.bind_some, Option.bind_none, Option.map_some, Option.map_none, List.getElem?_cons_zero, List.getElem?_cons_succ, List.getElem?_nil, List.set_cons_zero, List.set_cons_succ, List.length_cons, List.length_nil, List.map_cons, List.map_nil, Option.getD_some, Option.getD_none, List.cons_append, List.nil_append, List.replicate_succ, List.replicate_zero, Nat.reduceAdd, Nat.reduceSub, decide_eq_true_eq, Bool.and_eq_true, Bool.or_eq_true, if_true, if_false, Bool.not_eq_true', Bool.false_eq_true, reduceIte, DS.eqD_int, DS.neD_int, DS.eqD_bl, DS.neD_bl, ne_eq, not_false_eq_true, not_true_eq_false, true_and, and_true, true_or, or_true, false_or, or_false, and_self, Int.reduceEq, Int.reduceAbs, Nat.reduceLT, Int.reduceLT, Int.reduceLE, Int.reduceNeg, Nat.reduceEqDiff, decide_true, decide_false, Bool.not_true, Bool.not_false, any2, show Ty.sub .tup .lst = false by decide, show Ty.sub .tup .tup = true by decide, Bool.or_true, e]
/-- a sheet as it may be told -/
def ShT (d : D) (h : Int) (ts : List Int) : Prop := ∃ x, Seq' d [.int h, x] ∧ Seq' x (ts.map .int)
theorem tupled_sheet (n : Nat) (d : D) (h : Int) (ts : List Int) (hd : ShT d h ts) (hl : ts.length < 900) (hp : List Ob) : F_tupled (n + 3) [d] hp = .ok (shD h ts) hp := by
  obtain ⟨x, h1, h2⟩ := hd
  refine tupled_seq (n + 2) d _ _ h1 hp ?_
  have e : F_tupled (n + 2) [x] hp = .ok (.tup (ts.map .int)) hp := tupled_seq (n + 1) x _ _ h2 hp (tupled_loop n _ hp ts [] (by simp; omega))
  refine Eq.trans (lcL_cons (s1 := ⟨[.v d, .v (.int h)], hp⟩) (s2 := ⟨[.v d, .v (.int h)], hp⟩) (y := .int h) (s3 := ⟨[.v d, .v (.int h)], hp⟩) (by simp (config := { failIfUnchanged := false }) only [DS.nxS, DS.bkS, DS.ctS, DS.badS, DS.retS, DS.retN, DS.exprS, DS.setS, DS.setL, DS.asgS, DS.gN, DS.gT, DS.gsN, DS.gsC, DS.op1, DS.op2, DS.op1L, DS.op2L, DS.oV, DS.oS, DS.var, DS.cst, DS.deref, DS.derefD, DS.ofL, DS.lstE, DS.evA, DS.tupE, DS.asB, DS.truT, DS.andT, DS.orT, DS.notT, DS.andE, DS.orE, DS.notE, DS.ifE, DS.chn, DS.sl, DS.slL, DS.part, DS.lcE, DS.lcL, DS.itA, DS.itE, DS.itZ, DS.par2, DS.evP, DS.setIx, DS.mutE, DS.lstTok, DS.updTok, DS.shr, DS.callE, DS.callKE, DS.runFn, DS.orL, DS.yesT, DS.noOwn, DS.addD, DS.subD, DS.mulD, DS.divD, DS.modD, DS.powD, DS.negD, DS.ltD, DS.leD, DS.gtD, DS.geD, DS.isN, DS.isntN, DS.notD, DS.ixD, DS.slD, DS.slLs, DS.lenD, DS.absD, DS.intD, DS.tupleD, DS.listL, DS.allD, DS.anyD, DS.sumD, DS.minD, DS.maxD, DS.sortedL, DS.truD, DS.isiD, DS.tyD, DS.gId, DS.wipeE, DS.restE, DS.R.bind_ok, DS.R.bind_exc, DS.R.bind_bad, DS.R.map_ok, DS.R.of_some, DS.R.of_none, Option.bind_some, Option.bind_none, Option.map_some, Option.map_none, List.getElem?_cons_zero, List.getElem?_cons_succ, List.getElem?_nil, List.set_cons_zero, List.set_cons_succ, List.length_cons, List.length_nil, List.map_cons, List.map_nil, Option.getD_some, Option.getD_none, List.cons_append, List.nil_append, List.replicate_succ, List.replicate_zero, Nat.reduceAdd, Nat.reduceSub, decide_eq_true_eq, Bool.and_eq_true, Bool.or_eq_true, if_true, if_false, Bool.not_eq_true', Bool.false_eq_true, reduceIte, DS.eqD_int, DS.neD_int, DS.eqD_bl, DS.neD_bl, ne_eq, not_false_eq_true, not_true_eq_false, true_and, and_true, true_or, or_true, false_or, or_false, and_self, Int.reduceEq, Int.reduceAbs, Nat.reduceLT, Int.reduceLT, Int.reduceLE, Int.reduceNeg, Nat.reduceEqDiff, decide_true, decide_false, Bool.not_true, Bool.not_false] <;> rfl) (by rfl) (by simp (config := { failIfUnchanged := false }) only [DS.nxS, DS.bkS, DS.ctS, DS.badS, DS.retS, DS.retN, DS.exprS, DS.setS, DS.setL, DS.asgS, DS.gN, DS.gT, DS.gsN, DS.gsC, DS.op1, DS.op2, DS.op1L, DS.op2L, DS.oV, DS.oS, DS.var, DS.cst, DS.deref, DS.derefD, DS.ofL, DS.lstE, DS.evA, DS.tupE, DS.asB, DS.truT, DS.andT, DS.orT, DS.notT, DS.andE, DS.orE, DS.notE, DS.ifE, DS.chn, DS.sl, DS.slL, DS.part, DS.lcE, DS.lcL, DS.itA, DS.itE, DS.itZ, DS.par2, DS.evP, DS.setIx, DS.mutE, DS.lstTok, DS.updTok, DS.shr, DS.callE, DS.callKE, DS.runFn, DS.orL, DS.yesT, DS.noOwn, DS.addD, DS.subD, DS.mulD, DS.divD, DS.modD, DS.powD, DS.negD, DS.ltD, DS.leD, DS.gtD, DS.geD, DS.isN, DS.isntN, DS.notD, DS.ixD, DS.slD, DS.slLs, DS.lenD, DS.absD, DS.intD, DS.tupleD, DS.listL, DS.allD, DS.anyD, DS.sumD, DS.minD, DS.maxD, DS.sortedL, DS.truD, DS.isiD, DS.tyD, DS.gId, DS.wipeE, DS.restE, DS.R.bind_ok, DS.R.bind_exc, DS.R.bind_bad, DS.R.map_ok, DS.R.of_some, DS.R.of_none, Option.bind_some, Option.bind_none, Option.map_some, Option.map_none, List.getElem?_cons_zero, List.getElem?_cons_succ, List.getElem?_nil, List.set_cons_zero, List.set_cons_succ, List.length_cons, List.length_nil, List.map_cons, List.map_nil, Option.getD_some, Option.getD_none, List.cons_append, List.nil_append, List.replicate_succ, List.replicate_zero, Nat.reduceAdd, Nat.reduceSub, decide_eq_true_eq, Bool.and_eq_true, Bool.or_eq_true, if_true, if_false, Bool.not_eq_true', Bool.false_eq_true, reduceIte, DS.eqD_int, DS.neD_int, DS.eqD_bl, DS.neD_bl, ne_eq, not_false_eq_true, not_true_eq_false, true_and, and_true, true_or, or_true, false_or, or_false, and_self, Int.reduceEq, Int.reduceAbs, Nat.reduceLT, Int.reduceLT, Int.reduceLE, Int.reduceNeg, Nat.reduceEqDiff, decide_true, decide_false, Bool.not_true, Bool.not_false, tupled_int] <;> rfl) (by unfold LIM; simp)) ?_
  refine Eq.trans (lcL_cons (s1 := ⟨[.v d, .v x], hp⟩) (s2 := ⟨[.v d, .v x], hp⟩) (y := .tup (ts.map .int)) (s3 := ⟨[.v d, .v x], hp⟩) (by simp (config := { failIfUnchanged := false }) only [DS.nxS, DS.bkS, DS.ctS, DS.badS, DS.retS, DS.retN, DS.exprS, DS.setS, DS.setL, DS.asgS, DS.gN, DS.gT, DS.gsN, DS.gsC, DS.op1, DS.op2, DS.op1L, DS.op2L, DS.oV, DS.oS, DS.var, DS.cst, DS.deref, DS.derefD, DS.ofL, DS.lstE, DS.evA, DS.tupE, DS.asB, DS.truT, DS.andT, DS.orT, DS.notT, DS.andE, DS.orE, DS.notE, DS.ifE, DS.chn, DS.sl, DS.slL, DS.part, DS.lcE, DS.lcL, DS.itA, DS.itE, DS.itZ, DS.par2, DS.evP, DS.setIx, DS.mutE, DS.lstTok, DS.updTok, DS.shr, DS.callE, DS.callKE, DS.runFn, DS.orL, DS.yesT, DS.noOwn, DS.addD, DS.subD, DS.mulD, DS.divD, DS.modD, DS.powD, DS.negD, DS.ltD, DS.leD, DS.gtD, DS.geD, DS.isN, DS.isntN, DS.notD, DS.ixD, DS.slD, DS.slLs, DS.lenD, DS.absD, DS.intD, DS.tupleD, DS.listL, DS.allD, DS.anyD, DS.sumD, DS.minD, DS.maxD, DS.sortedL, DS.truD, DS.isiD, DS.tyD, DS.gId, DS.wipeE, DS.restE, DS.R.bind_ok, DS.R.bind_exc, DS.R.bind_bad, DS.R.map_ok, DS.R.of_some, DS.R.of_none, Option.bind_some, Option.bind_none, Option.map_some, Option.map_none, List.getElem?_cons_zero, List.getElem?_cons_succ, List.getElem?_nil, List.set_cons_zero, List.set_cons_succ, List.length_cons, List.length_nil, List.map_cons, List.map_nil, Option.getD_some, Option.getD_none, List.cons_append, List.nil_append, List.replicate_succ, List.replicate_zero, Nat.reduceAdd, Nat.reduceSub, decide_eq_true_eq, Bool.and_eq_true, Bool.or_eq_true, if_true, if_false, Bool.not_eq_true', Bool.false_eq_true, reduceIte, DS.eqD_int, DS.neD_int, DS.eqD_bl, DS.neD_bl, ne_eq, not_false_eq_true, not_true_eq_false, true_and, and_true, true_or, or_true, false_or, or_false, and_self, Int.reduceEq, Int.reduceAbs, Nat.reduceLT, Int.reduceLT, Int.reduceLE, Int.reduceNeg, Nat.reduceEqDiff, decide_true, decide_false, Bool.not_true, Bool.not_false] <;> rfl) (by rfl) (by simp (config := { failIfUnchanged := false }) only [DS.nxS, DS.bkS, DS.ctS, DS.badS, DS.retS, DS.retN, DS.exprS, DS.setS, DS.setL, DS.asgS, DS.gN, DS.gT, DS.gsN, DS.gsC, DS.op1, DS.op2, DS.op1L, DS.op2L, DS.oV, DS.oS, DS.var, DS.cst, DS.deref, DS.derefD, DS.ofL, DS.lstE, DS.evA, DS.tupE, DS.asB, DS.truT, DS.andT, DS.orT, DS.notT, DS.andE, DS.orE, DS.notE, DS.ifE, DS.chn, DS.sl, DS.slL, DS.part, DS.lcE, DS.lcL, DS.itA, DS.itE, DS.itZ, DS.par2, DS.evP, DS.setIx, DS.mutE, DS.lstTok, DS.updTok, DS.shr, DS.callE, DS.callKE, DS.runFn, DS.orL, DS.yesT, DS.noOwn, DS.addD, DS.subD, DS.mulD, DS.divD, DS.modD, DS.powD, DS.negD, DS.ltD, DS.leD, DS.gtD, DS.geD, DS.isN, DS.isntN, DS.notD, DS.ixD, DS.slD, DS.slLs, DS.lenD, DS.absD, DS.intD, DS.tupleD, DS.listL, DS.allD, DS.anyD, DS.sumD, DS.minD, DS.maxD, DS.sortedL, DS.truD, DS.isiD, DS.tyD, DS.gId, DS.wipeE, DS.restE, DS.R.bind_ok, DS.R.bind_exc, DS.R.bind_bad, DS.R.map_ok, DS.R.of_some, DS.R.of_none, Option.bind_some, Option.bind_none, Option.map_some, Option.map_none, List.getElem?_cons_zero, List.getElem?_cons_succ, List.getElem?_nil, List.set_cons_zero, List.set_cons_succ, List.length_cons, List.length_nil, List.map_cons, List.map_nil, Option.getD_some, Option.getD_none, List.cons_append, List.nil_append, List.replicate_succ, List.replicate_zero, Nat.reduceAdd, Nat.reduceSub, decide_eq_true_eq, Bool.and_eq_true, Bool.or_eq_true, if_true, if_false, Bool.not_eq_true', Bool.false_eq_true, reduceIte, DS.eqD_int, DS.neD_int, DS.eqD_bl, DS.neD_bl, ne_eq, not_false_eq_true, not_true_eq_false, true_and, and_true, true_or, or_true, false_or, or_false, and_self, Int.reduceEq, Int.reduceAbs, Nat.reduceLT, Int.reduceLT, Int.reduceLE, Int.reduceNeg, Nat.reduceEqDiff, decide_true, decide_false, Bool.not_true, Bool.not_false, e] <;> rfl) (by unfold LIM; simp)) ?_
  rfl
end L30
/-! the mathematics of shares -/
namespace L30
def low (a b : Int) : Int × Int := (a / (Int.gcd a b : Int), b / (Int.gcd a b : Int))
theorem low_scale (a b : Int) {d : Int} (hd : 0 < d) : low (a * d) (b * d) = low a b := by
  unfold low
  have e : (Int.gcd (a * d) (b * d) : Int) = (Int.gcd a b : Int) * d := by
    rw [Int.gcd_mul_right]
    have : (d.natAbs : Int) = d := by omega
    rw [Int.natCast_mul, this]
  rw [e, Int.mul_ediv_mul_of_pos_left _ _ hd, Int.mul_ediv_mul_of_pos_left _ _ hd]
theorem low_eq {a b c d : Int} (hb : 0 < b) (hd : 0 < d) (h : a * d = c * b) : low a b = low c d := by
  rw [← low_scale a b hd, ← low_scale c d hb, h, Int.mul_comm b d]
def wt (U t : Int) : Int := if 0 < t then U / t else 0
def ovr (h U : Int) : List Int → Int
  | [] => (2 - 2 * h) * U
  | t :: ts => ovr h U ts + (wt U t - U)
def prodP : List Int → Int
  | [] => 1
  | t :: ts => (if 0 < t then t else 1) * prodP ts
def DivAll (U : Int) (ts : List Int) : Prop := ∀ t ∈ ts, 0 < t → t ∣ U
theorem wt_cross {U V t : Int} (hU : 0 < t → t ∣ U) (hV : 0 < t → t ∣ V) : wt U t * V = wt V t * U := by
  unfold wt
  split
  · rename_i ht
    obtain ⟨a, rfl⟩ := hU ht
    obtain ⟨b, rfl⟩ := hV ht
    rw [Int.mul_ediv_cancel_left _ (by omega), Int.mul_ediv_cancel_left _ (by omega), Int.mul_left_comm, Int.mul_comm b, Int.mul_assoc]
  · rw [Int.zero_mul, Int.zero_mul]
theorem ovr_cross (h : Int) {U V : Int} : ∀ {ts : List Int}, DivAll U ts → DivAll V ts → ovr h U ts * V = ovr h V ts * U
  | [], _, _ => by
    simp only [ovr]
    rw [Int.mul_assoc, Int.mul_assoc, Int.mul_comm U V]
  | t :: ts, hU, hV => by
    simp only [ovr]
    have ih := ovr_cross h (ts := ts) (fun x hx => hU x (List.mem_cons_of_mem _ hx)) (fun x hx => hV x (List.mem_cons_of_mem _ hx))
    have w := wt_cross (hU t List.mem_cons_self) (hV t List.mem_cons_self)
    rw [Int.add_mul, Int.add_mul, Int.sub_mul, Int.sub_mul, ih, w, Int.mul_comm U V]
theorem prodP_pos : ∀ ts : List Int, 0 < prodP ts
  | [] => by decide
  | t :: ts => by
    simp only [prodP]
    exact Int.mul_pos (by split <;> omega) (prodP_pos ts)
theorem prodP_div : ∀ ts : List Int, DivAll (prodP ts) ts
  | [] => fun t h => by simp at h
  | t :: ts => fun x hx hp => by
    simp only [prodP]
    rcases List.mem_cons.mp hx with e | hx
    · subst e
      rw [if_pos hp]
      exact Int.dvd_mul_right _ _
    · exact Int.dvd_trans (prodP_div ts x hx hp) (Int.dvd_mul_left _ _)
/-- THE share -/
def shr (h : Int) (ts : List Int) : Int × Int := low (ovr h (prodP ts) ts) (prodP ts)
theorem shr_of (h : Int) {U : Int} {ts : List Int} (hU : 0 < U) (hd : DivAll U ts) : low (ovr h U ts) U = shr h ts :=
  low_eq hU (prodP_pos ts) (ovr_cross h hd (prodP_div ts))
theorem ovr_perm (h U : Int) {ts us : List Int} (p : ts.Perm us) : ovr h U ts = ovr h U us := by
  induction p with
  | nil => rfl
  | cons x _ ih => simp only [ovr, ih]
  | swap x y l => simp only [ovr]; omega
  | trans _ _ h1 h2 => rw [h1, h2]
theorem shr_perm (h : Int) {ts us : List Int} (p : ts.Perm us) : shr h ts = shr h us := by
  have e : shr h us = low (ovr h (prodP ts) us) (prodP ts) := (shr_of h (prodP_pos ts) fun t ht hp => prodP_div ts t (p.mem_iff.mpr ht) hp).symm
  rw [e, ← ovr_perm h _ p]
  rfl
/-- what a share comes from -/
theorem low_back (a b : Int) (hb : 0 < b) : ∃ g : Int, 0 < g ∧ a = (low a b).1 * g ∧ b = (low a b).2 * g ∧ 0 < (low a b).2 ∧ (low a b).2 ≤ b ∧ Int.gcd (low a b).1 (low a b).2 = 1 := by
  have hg : 0 < Int.gcd a b := Int.gcd_pos_of_ne_zero_right _ (by omega)
  have hg' : (0 : Int) < (Int.gcd a b : Int) := by omega
  have h1 : a = (low a b).1 * (Int.gcd a b : Int) := (Int.ediv_mul_cancel (Int.gcd_dvd_left _ _)).symm
  have h2 : b = (low a b).2 * (Int.gcd a b : Int) := (Int.ediv_mul_cancel (Int.gcd_dvd_right _ _)).symm
  have h3 : 0 < (low a b).2 := by
    apply Int.pos_of_mul_pos_left (b := (Int.gcd a b : Int))
    · rw [← h2]; exact hb
    · exact hg'
  refine ⟨_, hg', h1, h2, h3, ?_, ?_⟩
  · exact Int.le_trans (Int.le_of_eq rfl) (Int.ediv_le_self _ (by omega))
  · have e : Int.gcd a b = Int.gcd (low a b).1 (low a b).2 * Int.gcd a b := by
      have q := Int.gcd_mul_right (low a b).1 (Int.gcd a b : Int) (low a b).2
      rw [← h1, ← h2, Int.natAbs_natCast] at q
      exact q
    exact Nat.eq_of_mul_eq_mul_right hg (by rw [← e, Nat.one_mul])
/-- moved by so many wholes -/
theorem low_move (a b n : Int) (hb : 0 < b) : low (a - n * b) b = ((low a b).1 - n * (low a b).2, (low a b).2) := by
  obtain ⟨g, hg, h1, h2, h3, _, h5⟩ := low_back a b hb
  generalize low a b = p at h1 h2 h3 h5
  obtain ⟨x, y⟩ := p
  simp only at h1 h2 h3 h5 ⊢
  subst h1 h2
  have e : x * g - n * (y * g) = (x - n * y) * g := by rw [Int.sub_mul, Int.mul_assoc]
  rw [e, low_scale _ _ hg]
  have hc : Int.gcd (x - n * y) y = 1 := by
    rw [Int.gcd_sub_mul_right_left]
    exact h5
  unfold low
  rw [hc]
  simp
theorem ovr_up (h U : Int) : ∀ ts : List Int, ovr (h + 1) U ts = ovr h U ts - 2 * U
  | [] => by
    simp only [ovr]
    rw [← Int.sub_mul]
    congr 1
    omega
  | t :: ts => by
    simp only [ovr, ovr_up h U ts]
    omega
theorem shr_up (h : Int) (ts : List Int) : shr (h + 1) ts = ((shr h ts).1 - 2 * (shr h ts).2, (shr h ts).2) := by
  unfold shr
  rw [ovr_up, low_move _ _ _ (prodP_pos ts)]
theorem shr_zero (h : Int) (ts : List Int) : shr h (0 :: ts) = ((shr h ts).1 - (shr h ts).2, (shr h ts).2) := by
  have e : prodP (0 :: ts) = prodP ts := by simp [prodP]
  unfold shr
  rw [e]
  have e2 : ovr h (prodP ts) (0 :: ts) = ovr h (prodP ts) ts - 1 * prodP ts := by
    simp only [ovr, wt]
    rw [if_neg (by omega)]
    omega
  rw [e2, low_move _ _ _ (prodP_pos ts)]
  simp
theorem ovr_mul (h U k : Int) : ∀ {ts : List Int}, DivAll U ts → ovr h (U * k) ts = ovr h U ts * k
  | [], _ => by simp only [ovr]; rw [Int.mul_assoc]
  | t :: ts, hd => by
    simp only [ovr]
    rw [ovr_mul h U k fun x hx => hd x (List.mem_cons_of_mem _ hx), Int.add_mul, Int.sub_mul]
    have w : wt (U * k) t = wt U t * k := by
      unfold wt
      split
      · rename_i ht
        rw [Int.mul_ediv_assoc' _ (hd t List.mem_cons_self ht)]
      · rw [Int.zero_mul]
    rw [w]
/-- one spot more -/
theorem shr_snoc (h : Int) (ts : List Int) (k : Int) (hk : 0 < k) : shr h (ts ++ [k]) = low ((shr h ts).1 * k - (shr h ts).2 * (k - 1)) ((shr h ts).2 * k) := by
  rw [shr_perm h (show (ts ++ [k]).Perm (k :: ts) by simpa using (List.perm_append_comm (l₁ := ts) (l₂ := [k])))]
  have e : prodP (k :: ts) = prodP ts * k := by simp only [prodP]; rw [if_pos hk, Int.mul_comm]
  have e2 : ovr h (prodP ts * k) (k :: ts) = ovr h (prodP ts) ts * k - prodP ts * (k - 1) := by
    simp only [ovr, wt]
    rw [if_pos hk, ovr_mul h _ k (prodP_div ts), Int.mul_ediv_cancel _ (by omega), Int.mul_sub]
    omega
  obtain ⟨g, hg, h1, h2, h3, _, _⟩ := low_back (ovr h (prodP ts) ts) (prodP ts) (prodP_pos ts)
  unfold shr
  rw [e, e2]
  generalize low (ovr h (prodP ts) ts) (prodP ts) = p at h1 h2 h3
  obtain ⟨x, y⟩ := p
  simp only at h1 h2 h3 ⊢
  rw [h1, h2]
  have e3 : x * g * k - y * g * (k - 1) = (x * k - y * (k - 1)) * g := by
    rw [Int.sub_mul, Int.mul_right_comm x g k, Int.mul_right_comm y g (k - 1)]
  have e4 : y * g * k = y * k * g := Int.mul_right_comm y g k
  rw [e3, e4, low_scale _ _ hg]
/-- bounds -/
theorem prodP_le : ∀ {ts : List Int}, (∀ t ∈ ts, t ≤ 12) → prodP ts ≤ 12 ^ ts.length
  | [], _ => by simp [prodP]
  | t :: ts, h => by
    simp only [prodP, List.length_cons]
    have ih := prodP_le (ts := ts) fun x hx => h x (List.mem_cons_of_mem _ hx)
    have h1 := h t List.mem_cons_self
    have hp := prodP_pos ts
    rw [Int.pow_succ, Int.mul_comm]
    have h2 : (if 0 < t then t else 1) ≤ 12 := by split <;> omega
    have h3 : 0 ≤ (if 0 < t then t else 1 : Int) := by split <;> omega
    exact Int.mul_le_mul ih h2 h3 (by omega)
theorem ovr_le (h U : Int) (hU : 0 < U) (hh : 0 ≤ h) : ∀ ts : List Int, ovr h U ts ≤ 2 * U
  | [] => by
    simp only [ovr]
    exact Int.mul_le_mul_of_nonneg_right (by omega) (by omega)
  | t :: ts => by
    simp only [ovr]
    have ih := ovr_le h U hU hh ts
    have : wt U t ≤ U := by
      unfold wt
      split
      · exact Int.ediv_le_self _ (by omega)
      · omega
    omega
end L30
namespace L30
open PySem PySem.Spec PyProof.Rows L2 DS
structure Vs (h : Int) (ts : List Int) : Prop where
  h0 : 0 ≤ h
  h5 : h ≤ 5
  l : ts.length ≤ 8
  a : ∀ t ∈ ts, Sp' t
theorem Vs.perm {h : Int} {ts us : List Int} (v : Vs h ts) (p : us.Perm ts) : Vs h us := ⟨v.h0, v.h5, by rw [p.length_eq]; exact v.l, fun t ht => v.a t (p.mem_iff.mp ht)⟩
theorem ii : Ty.sub .int .int = true := by decide
theorem ib : Ty.sub .int .bl = false := by decide
theorem tt' : Ty.sub .tup .tup = true := by decide
theorem is_number_ok (i : Int) (hp : List Ob) : F_is_number [.int i] hp = .ok (.bl true) hp := by
  unfold F_is_number B_is_number
  exact fn_rt (rt_of (by simp (config := { failIfUnchanged := false }) only [DS.nxS, DS.bkS, DS.ctS, DS.badS, DS.retS, DS.retN, DS.exprS, DS.setS, DS.setL, DS.asgS, DS.gN, DS.gT, DS.gsN, DS.gsC, DS.op1, DS.op2, DS.op1L, DS.op2L, DS.oV, DS.oS, DS.var, DS.cst, DS.deref, DS.derefD, DS.ofL, DS.lstE, DS.evA, DS.tupE, DS.asB, DS.truT, DS.andT, DS.orT, DS.notT, DS.andE, DS.orE, DS.notE, DS.ifE, DS.chn, DS.sl, DS.slL, DS.part, DS.lcE, DS.lcL, DS.itA, DS.itE, DS.itZ, DS.par2, DS.evP, DS.setIx, DS.mutE, DS.lstTok, DS.updTok, DS.shr, DS.callE, DS.callKE, DS.runFn, DS.orL, DS.yesT, DS.noOwn, DS.addD, DS.subD, DS.mulD, DS.divD, DS.modD, DS.powD, DS.negD, DS.ltD, DS.leD, DS.gtD, DS.geD, DS.isN, DS.isntN, DS.notD, DS.ixD, DS.slD, DS.slLs, DS.lenD, DS.absD, DS.intD, DS.tupleD, DS.listL, DS.allD, DS.anyD, DS.sumD, DS.minD, DS.maxD, DS.sortedL, DS.truD, DS.isiD, DS.tyD, DS.gId, DS.wipeE, DS.restE, DS.R.bind_ok, DS.R.bind_exc, DS.R.bind_bad, DS.R.map_ok, DS.R.of_some, DS.R.of_none, Option.bind_some, Option.bind_none, Option.map_some, Option.map_none, List.getElem?_cons_zero, List.getElem?_cons_succ, List.getElem?_nil, List.set_cons_zero, List.set_cons_succ, List.length_cons, List.length_nil, List.map_cons, List.map_nil, Option.getD_some, Option.getD_none, List.cons_append, List.nil_append, List.replicate_succ, List.replicate_zero, Nat.reduceAdd, Nat.reduceSub, decide_eq_true_eq, Bool.and_eq_true, Bool.or_eq_true, if_true, if_false, Bool.not_eq_true', Bool.false_eq_true, reduceIte, DS.eqD_int, DS.neD_int, DS.eqD_bl, DS.neD_bl, ne_eq, not_false_eq_true, not_true_eq_false, true_and, and_true, true_or, or_true, false_or, or_false, and_self, Int.reduceEq, Int.reduceAbs, Nat.reduceLT, Int.reduceLT, Int.reduceLE, Int.reduceNeg, Nat.reduceEqDiff, decide_true, decide_false, Bool.not_true, Bool.not_false, any1, ii, ib] <;> rfl))
theorem is_within_ok (t a b : Int) (h1 : a ≤ t) (h2 : t ≤ b) (hp : List Ob) : F_is_within [.int t, .int a, .int b] hp = .ok (.bl true) hp := by
  unfold F_is_within B_is_within
  exact fn_rt (rt_of (by simp (config := { failIfUnchanged := false }) only [DS.nxS, DS.bkS, DS.ctS, DS.badS, DS.retS, DS.retN, DS.exprS, DS.setS, DS.setL, DS.asgS, DS.gN, DS.gT, DS.gsN, DS.gsC, DS.op1, DS.op2, DS.op1L, DS.op2L, DS.oV, DS.oS, DS.var, DS.cst, DS.deref, DS.derefD, DS.ofL, DS.lstE, DS.evA, DS.tupE, DS.asB, DS.truT, DS.andT, DS.orT, DS.notT, DS.andE, DS.orE, DS.notE, DS.ifE, DS.chn, DS.sl, DS.slL, DS.part, DS.lcE, DS.lcL, DS.itA, DS.itE, DS.itZ, DS.par2, DS.evP, DS.setIx, DS.mutE, DS.lstTok, DS.updTok, DS.shr, DS.callE, DS.callKE, DS.runFn, DS.orL, DS.yesT, DS.noOwn, DS.addD, DS.subD, DS.mulD, DS.divD, DS.modD, DS.powD, DS.negD, DS.ltD, DS.leD, DS.gtD, DS.geD, DS.isN, DS.isntN, DS.notD, DS.ixD, DS.slD, DS.slLs, DS.lenD, DS.absD, DS.intD, DS.tupleD, DS.listL, DS.allD, DS.anyD, DS.sumD, DS.minD, DS.maxD, DS.sortedL, DS.truD, DS.isiD, DS.tyD, DS.gId, DS.wipeE, DS.restE, DS.R.bind_ok, DS.R.bind_exc, DS.R.bind_bad, DS.R.map_ok, DS.R.of_some, DS.R.of_none, Option.bind_some, Option.bind_none, Option.map_some, Option.map_none, List.getElem?_cons_zero, List.getElem?_cons_succ, List.getElem?_nil, List.set_cons_zero, List.set_cons_succ, List.length_cons, List.length_nil, List.map_cons, List.map_nil, Option.getD_some, Option.getD_none, List.cons_append, List.nil_append, List.replicate_succ, List.replicate_zero, Nat.reduceAdd, Nat.reduceSub, decide_eq_true_eq, Bool.and_eq_true, Bool.or_eq_true, if_true, if_false, Bool.not_eq_true', Bool.false_eq_true, reduceIte, DS.eqD_int, DS.neD_int, DS.eqD_bl, DS.neD_bl, ne_eq, not_false_eq_true, not_true_eq_false, true_and, and_true, true_or, or_true, false_or, or_false, and_self, Int.reduceEq, Int.reduceAbs, Nat.reduceLT, Int.reduceLT, Int.reduceLE, Int.reduceNeg, Nat.reduceEqDiff, decide_true, decide_false, Bool.not_true, Bool.not_false, is_number_ok, h1, h2] <;> rfl))
theorem is_turn_ok (t : Int) (h : Sp' t) (hp : List Ob) : F_is_turn [.int t] hp = .ok (.bl true) hp := by
  have h1 : t ≠ 1 := by unfold Sp' at h; omega
  unfold F_is_turn B_is_turn
  exact fn_rt (rt_of (by simp (config := { failIfUnchanged := false }) only [DS.nxS, DS.bkS, DS.ctS, DS.badS, DS.retS, DS.retN, DS.exprS, DS.setS, DS.setL, DS.asgS, DS.gN, DS.gT, DS.gsN, DS.gsC, DS.op1, DS.op2, DS.op1L, DS.op2L, DS.oV, DS.oS, DS.var, DS.cst, DS.deref, DS.derefD, DS.ofL, DS.lstE, DS.evA, DS.tupE, DS.asB, DS.truT, DS.andT, DS.orT, DS.notT, DS.andE, DS.orE, DS.notE, DS.ifE, DS.chn, DS.sl, DS.slL, DS.part, DS.lcE, DS.lcL, DS.itA, DS.itE, DS.itZ, DS.par2, DS.evP, DS.setIx, DS.mutE, DS.lstTok, DS.updTok, DS.shr, DS.callE, DS.callKE, DS.runFn, DS.orL, DS.yesT, DS.noOwn, DS.addD, DS.subD, DS.mulD, DS.divD, DS.modD, DS.powD, DS.negD, DS.ltD, DS.leD, DS.gtD, DS.geD, DS.isN, DS.isntN, DS.notD, DS.ixD, DS.slD, DS.slLs, DS.lenD, DS.absD, DS.intD, DS.tupleD, DS.listL, DS.allD, DS.anyD, DS.sumD, DS.minD, DS.maxD, DS.sortedL, DS.truD, DS.isiD, DS.tyD, DS.gId, DS.wipeE, DS.restE, DS.R.bind_ok, DS.R.bind_exc, DS.R.bind_bad, DS.R.map_ok, DS.R.of_some, DS.R.of_none, Option.bind_some, Option.bind_none, Option.map_some, Option.map_none, List.getElem?_cons_zero, List.getElem?_cons_succ, List.getElem?_nil, List.set_cons_zero, List.set_cons_succ, List.length_cons, List.length_nil, List.map_cons, List.map_nil, Option.getD_some, Option.getD_none, List.cons_append, List.nil_append, List.replicate_succ, List.replicate_zero, Nat.reduceAdd, Nat.reduceSub, decide_eq_true_eq, Bool.and_eq_true, Bool.or_eq_true, if_true, if_false, Bool.not_eq_true', Bool.false_eq_true, reduceIte, DS.eqD_int, DS.neD_int, DS.eqD_bl, DS.neD_bl, ne_eq, not_false_eq_true, not_true_eq_false, true_and, and_true, true_or, or_true, false_or, or_false, and_self, Int.reduceEq, Int.reduceAbs, Nat.reduceLT, Int.reduceLT, Int.reduceLE, Int.reduceNeg, Nat.reduceEqDiff, decide_true, decide_false, Bool.not_true, Bool.not_false, is_within_ok t 0 12 (by unfold Sp' at h; omega) (by unfold Sp' at h; omega), h1] <;> rfl))
theorem is_long_ok (xs : List D) (hp : List Ob) : F_is_long [.tup xs, .int xs.length] hp = .ok (.bl true) hp := by
  unfold F_is_long B_is_long
  exact fn_rt (rt_of (by simp (config := { failIfUnchanged := false }) only [DS.nxS, DS.bkS, DS.ctS, DS.badS, DS.retS, DS.retN, DS.exprS, DS.setS, DS.setL, DS.asgS, DS.gN, DS.gT, DS.gsN, DS.gsC, DS.op1, DS.op2, DS.op1L, DS.op2L, DS.oV, DS.oS, DS.var, DS.cst, DS.deref, DS.derefD, DS.ofL, DS.lstE, DS.evA, DS.tupE, DS.asB, DS.truT, DS.andT, DS.orT, DS.notT, DS.andE, DS.orE, DS.notE, DS.ifE, DS.chn, DS.sl, DS.slL, DS.part, DS.lcE, DS.lcL, DS.itA, DS.itE, DS.itZ, DS.par2, DS.evP, DS.setIx, DS.mutE, DS.lstTok, DS.updTok, DS.shr, DS.callE, DS.callKE, DS.runFn, DS.orL, DS.yesT, DS.noOwn, DS.addD, DS.subD, DS.mulD, DS.divD, DS.modD, DS.powD, DS.negD, DS.ltD, DS.leD, DS.gtD, DS.geD, DS.isN, DS.isntN, DS.notD, DS.ixD, DS.slD, DS.slLs, DS.lenD, DS.absD, DS.intD, DS.tupleD, DS.listL, DS.allD, DS.anyD, DS.sumD, DS.minD, DS.maxD, DS.sortedL, DS.truD, DS.isiD, DS.tyD, DS.gId, DS.wipeE, DS.restE, DS.R.bind_ok, DS.R.bind_exc, DS.R.bind_bad, DS.R.map_ok, DS.R.of_some, DS.R.of_none, Option.bind_some, Option.bind_none, Option.map_some, Option.map_none, List.getElem?_cons_zero, List.getElem?_cons_succ, List.getElem?_nil, List.set_cons_zero, List.set_cons_succ, List.length_cons, List.length_nil, List.map_cons, List.map_nil, Option.getD_some, Option.getD_none, List.cons_append, List.nil_append, List.replicate_succ, List.replicate_zero, Nat.reduceAdd, Nat.reduceSub, decide_eq_true_eq, Bool.and_eq_true, Bool.or_eq_true, if_true, if_false, Bool.not_eq_true', Bool.false_eq_true, reduceIte, DS.eqD_int, DS.neD_int, DS.eqD_bl, DS.neD_bl, ne_eq, not_false_eq_true, not_true_eq_false, true_and, and_true, true_or, or_true, false_or, or_false, and_self, Int.reduceEq, Int.reduceAbs, Nat.reduceLT, Int.reduceLT, Int.reduceLE, Int.reduceNeg, Nat.reduceEqDiff, decide_true, decide_false, Bool.not_true, Bool.not_false, any1, tt'] <;> rfl))
theorem turns_are (e0 : DS.Slot) (hp : List Ob) : ∀ (ts : List Int) (acc : List D), acc.length + ts.length < 1000 → (∀ t ∈ ts, Sp' t) → lcL (gN 1) [1] yesT (callE F_is_turn [(var 1)]) (ts.map .int) acc ⟨[e0, .un], hp⟩ = .ok (acc ++ ts.map fun _ => .bl true) ⟨[e0, .un], hp⟩
  | [], acc, _, _ => by simp [lcL]
  | t :: ts, acc, h, ha => by
    simp only [List.length_cons] at h
    refine Eq.trans (lcL_cons (s1 := ⟨[e0, .v (.int t)], hp⟩) (s2 := ⟨[e0, .v (.int t)], hp⟩) (y := .bl true) (s3 := ⟨[e0, .v (.int t)], hp⟩) (by simp (config := { failIfUnchanged := false }) only [DS.nxS, DS.bkS, DS.ctS, DS.badS, DS.retS, DS.retN, DS.exprS, DS.setS, DS.setL, DS.asgS, DS.gN, DS.gT, DS.gsN, DS.gsC, DS.op1, DS.op2, DS.op1L, DS.op2L, DS.oV, DS.oS, DS.var, DS.cst, DS.deref, DS.derefD, DS.ofL, DS.lstE, DS.evA, DS.tupE, DS.asB, DS.truT, DS.andT, DS.orT, DS.notT, DS.andE, DS.orE, DS.notE, DS.ifE, DS.chn, DS.sl, DS.slL, DS.part, DS.lcE, DS.lcL, DS.itA, DS.itE, DS.itZ, DS.par2, DS.evP, DS.setIx, DS.mutE, DS.lstTok, DS.updTok, DS.shr, DS.callE, DS.callKE, DS.runFn, DS.orL, DS.yesT, DS.noOwn, DS.addD, DS.subD, DS.mulD, DS.divD, DS.modD, DS.powD, DS.negD, DS.ltD, DS.leD, DS.gtD, DS.geD, DS.isN, DS.isntN, DS.notD, DS.ixD, DS.slD, DS.slLs, DS.lenD, DS.absD, DS.intD, DS.tupleD, DS.listL, DS.allD, DS.anyD, DS.sumD, DS.minD, DS.maxD, DS.sortedL, DS.truD, DS.isiD, DS.tyD, DS.gId, DS.wipeE, DS.restE, DS.R.bind_ok, DS.R.bind_exc, DS.R.bind_bad, DS.R.map_ok, DS.R.of_some, DS.R.of_none, Option.bind_some, Option.bind_none, Option.map_some, Option.map_none, List.getElem?_cons_zero, List.getElem?_cons_succ, List.getElem?_nil, List.set_cons_zero, List.set_cons_succ, List.length_cons, List.length_nil, List.map_cons, List.map_nil, Option.getD_some, Option.getD_none, List.cons_append, List.nil_append, List.replicate_succ, List.replicate_zero, Nat.reduceAdd, Nat.reduceSub, decide_eq_true_eq, Bool.and_eq_true, Bool.or_eq_true, if_true, if_false, Bool.not_eq_true', Bool.false_eq_true, reduceIte, DS.eqD_int, DS.neD_int, DS.eqD_bl, DS.neD_bl, ne_eq, not_false_eq_true, not_true_eq_false, true_and, and_true, true_or, or_true, false_or, or_false, and_self, Int.reduceEq, Int.reduceAbs, Nat.reduceLT, Int.reduceLT, Int.reduceLE, Int.reduceNeg, Nat.reduceEqDiff, decide_true, decide_false, Bool.not_true, Bool.not_false] <;> rfl) (by rfl) (by simp (config := { failIfUnchanged := false }) only [DS.nxS, DS.bkS, DS.ctS, DS.badS, DS.retS, DS.retN, DS.exprS, DS.setS, DS.setL, DS.asgS, DS.gN, DS.gT, DS.gsN, DS.gsC, DS.op1, DS.op2, DS.op1L, DS.op2L, DS.oV, DS.oS, DS.var, DS.cst, DS.deref, DS.derefD, DS.ofL, DS.lstE, DS.evA, DS.tupE, DS.asB, DS.truT, DS.andT, DS.orT, DS.notT, DS.andE, DS.orE, DS.notE, DS.ifE, DS.chn, DS.sl, DS.slL, DS.part, DS.lcE, DS.lcL, DS.itA, DS.itE, DS.itZ, DS.par2, DS.evP, DS.setIx, DS.mutE, DS.lstTok, DS.updTok, DS.shr, DS.callE, DS.callKE, DS.runFn, DS.orL, DS.yesT, DS.noOwn, DS.addD, DS.subD, DS.mulD, DS.divD, DS.modD, DS.powD, DS.negD, DS.ltD, DS.leD, DS.gtD, DS.geD, DS.isN, DS.isntN, DS.notD, DS.ixD, DS.slD, DS.slLs, DS.lenD, DS.absD, DS.intD, DS.tupleD, DS.listL, DS.allD, DS.anyD, DS.sumD, DS.minD, DS.maxD, DS.sortedL, DS.truD, DS.isiD, DS.tyD, DS.gId, DS.wipeE, DS.restE, DS.R.bind_ok, DS.R.bind_exc, DS.R.bind_bad, DS.R.map_ok, DS.R.of_some, DS.R.of_none, Option.bind_some, Option.bind_none, Option.map_some, Option.map_none, List.getElem?_cons_zero, List.getElem?_cons_succ, List.getElem?_nil, List.set_cons_zero, List.set_cons_succ, List.length_cons, List.length_nil, List.map_cons, List.map_nil, Option.getD_some, Option.getD_none, List.cons_append, List.nil_append, List.replicate_succ, List.replicate_zero, Nat.reduceAdd, Nat.reduceSub, decide_eq_true_eq, Bool.and_eq_true, Bool.or_eq_true, if_true, if_false, Bool.not_eq_true', Bool.false_eq_true, reduceIte, DS.eqD_int, DS.neD_int, DS.eqD_bl, DS.neD_bl, ne_eq, not_false_eq_true, not_true_eq_false, true_and, and_true, true_or, or_true, false_or, or_false, and_self, Int.reduceEq, Int.reduceAbs, Nat.reduceLT, Int.reduceLT, Int.reduceLE, Int.reduceNeg, Nat.reduceEqDiff, decide_true, decide_false, Bool.not_true, Bool.not_false, is_turn_ok t (ha t List.mem_cons_self)] <;> rfl) (by unfold LIM; omega)) ?_
    refine Eq.trans (turns_are e0 hp ts (acc ++ [.bl true]) (by simp; omega) fun x hx => ha x (List.mem_cons_of_mem _ hx)) ?_
    rw [List.append_assoc]
    rfl
theorem bls_true : ∀ ts : List Int, toBls (ts.map fun _ => D.bl true) = some (ts.map fun _ => true)
  | [] => rfl
  | t :: ts => by
    show (toBls (ts.map fun _ => D.bl true)).map _ = _
    rw [bls_true ts]
    rfl
theorem all_true (ts : List Int) : (ts.map fun _ => true).all id = true := by
  induction ts with
  | nil => rfl
  | cons t ts ih => simp [ih]
theorem is_sheet_ok {h : Int} {ts : List Int} (v : Vs h ts) (hp : List Ob) : F_is_sheet [shD h ts] hp = .ok (.bl true) hp := by
  have hl := v.l
  have e : lcE (itA (op2 ixD (oS 0) (oV (cst (.int 1))))) (gN 1) [1] yesT (callE F_is_turn [(var 1)]) ⟨[.v (shD h ts), .un], hp⟩ = .ok (ts.map fun _ => .bl true) ⟨[.v (shD h ts), .un], hp⟩ :=
    lcE_of (s1 := ⟨[.v (shD h ts), .un], hp⟩) (by simp (config := { failIfUnchanged := false }) only [DS.nxS, DS.bkS, DS.ctS, DS.badS, DS.retS, DS.retN, DS.exprS, DS.setS, DS.setL, DS.asgS, DS.gN, DS.gT, DS.gsN, DS.gsC, DS.op1, DS.op2, DS.op1L, DS.op2L, DS.oV, DS.oS, DS.var, DS.cst, DS.deref, DS.derefD, DS.ofL, DS.lstE, DS.evA, DS.tupE, DS.asB, DS.truT, DS.andT, DS.orT, DS.notT, DS.andE, DS.orE, DS.notE, DS.ifE, DS.chn, DS.sl, DS.slL, DS.part, DS.lcE, DS.lcL, DS.itA, DS.itE, DS.itZ, DS.par2, DS.evP, DS.setIx, DS.mutE, DS.lstTok, DS.updTok, DS.shr, DS.callE, DS.callKE, DS.runFn, DS.orL, DS.yesT, DS.noOwn, DS.addD, DS.subD, DS.mulD, DS.divD, DS.modD, DS.powD, DS.negD, DS.ltD, DS.leD, DS.gtD, DS.geD, DS.isN, DS.isntN, DS.notD, DS.ixD, DS.slD, DS.slLs, DS.lenD, DS.absD, DS.intD, DS.tupleD, DS.listL, DS.allD, DS.anyD, DS.sumD, DS.minD, DS.maxD, DS.sortedL, DS.truD, DS.isiD, DS.tyD, DS.gId, DS.wipeE, DS.restE, DS.R.bind_ok, DS.R.bind_exc, DS.R.bind_bad, DS.R.map_ok, DS.R.of_some, DS.R.of_none, Option.bind_some, Option.bind_none, Option.map_some, Option.map_none, List.getElem?_cons_zero, List.getElem?_cons_succ, List.getElem?_nil, List.set_cons_zero, List.set_cons_succ, List.length_cons, List.length_nil, List.map_cons, List.map_nil, Option.getD_some, Option.getD_none, List.cons_append, List.nil_append, List.replicate_succ, List.replicate_zero, Nat.reduceAdd, Nat.reduceSub, decide_eq_true_eq, Bool.and_eq_true, Bool.or_eq_true, if_true, if_false, Bool.not_eq_true', Bool.false_eq_true, reduceIte, DS.eqD_int, DS.neD_int, DS.eqD_bl, DS.neD_bl, ne_eq, not_false_eq_true, not_true_eq_false, true_and, and_true, true_or, or_true, false_or, or_false, and_self, Int.reduceEq, Int.reduceAbs, Nat.reduceLT, Int.reduceLT, Int.reduceLE, Int.reduceNeg, Nat.reduceEqDiff, decide_true, decide_false, Bool.not_true, Bool.not_false, atI1] <;> rfl) (by rfl) (turns_are _ hp ts [] (by simp; omega) v.a)
  have e2 : F_is_long [shD h ts, .int 2] hp = .ok (.bl true) hp := is_long_ok [.int h, .tup (ts.map .int)] hp
  have e3 := is_within_ok h 0 5 v.h0 v.h5 hp
  have e4 : ((ts.length : Int) ≤ 8) := by omega
  unfold F_is_sheet B_is_sheet
  refine fn_rt (sq_nx (if_ff (s1 := ⟨[.v (shD h ts), .un], hp⟩) (by simp (config := { failIfUnchanged := false }) only [DS.nxS, DS.bkS, DS.ctS, DS.badS, DS.retS, DS.retN, DS.exprS, DS.setS, DS.setL, DS.asgS, DS.gN, DS.gT, DS.gsN, DS.gsC, DS.op1, DS.op2, DS.op1L, DS.op2L, DS.oV, DS.oS, DS.var, DS.cst, DS.deref, DS.derefD, DS.ofL, DS.lstE, DS.evA, DS.tupE, DS.asB, DS.truT, DS.andT, DS.orT, DS.notT, DS.andE, DS.orE, DS.notE, DS.ifE, DS.chn, DS.sl, DS.slL, DS.part, DS.lcE, DS.lcL, DS.itA, DS.itE, DS.itZ, DS.par2, DS.evP, DS.setIx, DS.mutE, DS.lstTok, DS.updTok, DS.shr, DS.callE, DS.callKE, DS.runFn, DS.orL, DS.yesT, DS.noOwn, DS.addD, DS.subD, DS.mulD, DS.divD, DS.modD, DS.powD, DS.negD, DS.ltD, DS.leD, DS.gtD, DS.geD, DS.isN, DS.isntN, DS.notD, DS.ixD, DS.slD, DS.slLs, DS.lenD, DS.absD, DS.intD, DS.tupleD, DS.listL, DS.allD, DS.anyD, DS.sumD, DS.minD, DS.maxD, DS.sortedL, DS.truD, DS.isiD, DS.tyD, DS.gId, DS.wipeE, DS.restE, DS.R.bind_ok, DS.R.bind_exc, DS.R.bind_bad, DS.R.map_ok, DS.R.of_some, DS.R.of_none, Option.bind_some, Option.bind_none, Option.map_some, Option.map_none, List.getElem?_cons_zero, List.getElem?_cons_succ, List.getElem?_nil, List.set_cons_zero, List.set_cons_succ, List.length_cons, List.length_nil, List.map_cons, List.map_nil, Option.getD_some, Option.getD_none, List.cons_append, List.nil_append, List.replicate_succ, List.replicate_zero, Nat.reduceAdd, Nat.reduceSub, decide_eq_true_eq, Bool.and_eq_true, Bool.or_eq_true, if_true, if_false, Bool.not_eq_true', Bool.false_eq_true, reduceIte, DS.eqD_int, DS.neD_int, DS.eqD_bl, DS.neD_bl, ne_eq, not_false_eq_true, not_true_eq_false, true_and, and_true, true_or, or_true, false_or, or_false, and_self, Int.reduceEq, Int.reduceAbs, Nat.reduceLT, Int.reduceLT, Int.reduceLE, Int.reduceNeg, Nat.reduceEqDiff, decide_true, decide_false, Bool.not_true, Bool.not_false, atI0, atI1, e2, e3, any1, tt'] <;> rfl) (by simp (config := { failIfUnchanged := false }) only [DS.nxS, DS.bkS, DS.ctS, DS.badS, DS.retS, DS.retN, DS.exprS, DS.setS, DS.setL, DS.asgS, DS.gN, DS.gT, DS.gsN, DS.gsC, DS.op1, DS.op2, DS.op1L, DS.op2L, DS.oV, DS.oS, DS.var, DS.cst, DS.deref, DS.derefD, DS.ofL, DS.lstE, DS.evA, DS.tupE, DS.asB, DS.truT, DS.andT, DS.orT, DS.notT, DS.andE, DS.orE, DS.notE, DS.ifE, DS.chn, DS.sl, DS.slL, DS.part, DS.lcE, DS.lcL, DS.itA, DS.itE, DS.itZ, DS.par2, DS.evP, DS.setIx, DS.mutE, DS.lstTok, DS.updTok, DS.shr, DS.callE, DS.callKE, DS.runFn, DS.orL, DS.yesT, DS.noOwn, DS.addD, DS.subD, DS.mulD, DS.divD, DS.modD, DS.powD, DS.negD, DS.ltD, DS.leD, DS.gtD, DS.geD, DS.isN, DS.isntN, DS.notD, DS.ixD, DS.slD, DS.slLs, DS.lenD, DS.absD, DS.intD, DS.tupleD, DS.listL, DS.allD, DS.anyD, DS.sumD, DS.minD, DS.maxD, DS.sortedL, DS.truD, DS.isiD, DS.tyD, DS.gId, DS.wipeE, DS.restE, DS.R.bind_ok, DS.R.bind_exc, DS.R.bind_bad, DS.R.map_ok, DS.R.of_some, DS.R.of_none, Option.bind_some, Option.bind_none, Option.map_some, Option.map_none, List.getElem?_cons_zero, List.getElem?_cons_succ, List.getElem?_nil, List.set_cons_zero, List.set_cons_succ, List.length_cons, List.length_nil, List.map_cons, List.map_nil, Option.getD_some, Option.getD_none, List.cons_append, List.nil_append, List.replicate_succ, List.replicate_zero, Nat.reduceAdd, Nat.reduceSub, decide_eq_true_eq, Bool.and_eq_true, Bool.or_eq_true, if_true, if_false, Bool.not_eq_true', Bool.false_eq_true, reduceIte, DS.eqD_int, DS.neD_int, DS.eqD_bl, DS.neD_bl, ne_eq, not_false_eq_true, not_true_eq_false, true_and, and_true, true_or, or_true, false_or, or_false, and_self, Int.reduceEq, Int.reduceAbs, Nat.reduceLT, Int.reduceLT, Int.reduceLE, Int.reduceNeg, Nat.reduceEqDiff, decide_true, decide_false, Bool.not_true, Bool.not_false] <;> rfl)) (rt_of (s1 := ⟨[.v (shD h ts), .un], hp⟩) ?_))
  generalize lcE (itA (op2 ixD (oS 0) (oV (cst (.int 1))))) (gN 1) [1] yesT (callE F_is_turn [(var 1)]) = L at e
  simp (config := { failIfUnchanged := false }) only [DS.nxS, DS.bkS, DS.ctS, DS.badS, DS.retS, DS.retN, DS.exprS, DS.setS, DS.setL, DS.asgS, DS.gN, DS.gT, DS.gsN, DS.gsC, DS.op1, DS.op2, DS.op1L, DS.op2L, DS.oV, DS.oS, DS.var, DS.cst, DS.deref, DS.derefD, DS.ofL, DS.lstE, DS.evA, DS.tupE, DS.asB, DS.truT, DS.andT, DS.orT, DS.notT, DS.andE, DS.orE, DS.notE, DS.ifE, DS.chn, DS.sl, DS.slL, DS.part, DS.lcE, DS.lcL, DS.itA, DS.itE, DS.itZ, DS.par2, DS.evP, DS.setIx, DS.mutE, DS.lstTok, DS.updTok, DS.shr, DS.callE, DS.callKE, DS.runFn, DS.orL, DS.yesT, DS.noOwn, DS.addD, DS.subD, DS.mulD, DS.divD, DS.modD, DS.powD, DS.negD, DS.ltD, DS.leD, DS.gtD, DS.geD, DS.isN, DS.isntN, DS.notD, DS.ixD, DS.slD, DS.slLs, DS.lenD, DS.absD, DS.intD, DS.tupleD, DS.listL, DS.allD, DS.anyD, DS.sumD, DS.minD, DS.maxD, DS.sortedL, DS.truD, DS.isiD, DS.tyD, DS.gId, DS.wipeE, DS.restE, DS.R.bind_ok, DS.R.bind_exc, DS.R.bind_bad, DS.R.map_ok, DS.R.of_some, DS.R.of_none, Option.bind_some, Option.bind_none, Option.map_some, Option.map_none, List.getElem?_cons_zero, List.getElem?_cons_succ, List.getElem?_nil, List.set_cons_zero, List.set_cons_succ, List.length_cons, List.length_nil, List.map_cons, List.map_nil, Option.getD_some, Option.getD_none, List.cons_append, List.nil_append, List.replicate_succ, List.replicate_zero, Nat.reduceAdd, Nat.reduceSub, decide_eq_true_eq, Bool.and_eq_true, Bool.or_eq_true, if_true, if_false, Bool.not_eq_true', Bool.false_eq_true, reduceIte, DS.eqD_int, DS.neD_int, DS.eqD_bl, DS.neD_bl, ne_eq, not_false_eq_true, not_true_eq_false, true_and, and_true, true_or, or_true, false_or, or_false, and_self, Int.reduceEq, Int.reduceAbs, Nat.reduceLT, Int.reduceLT, Int.reduceLE, Int.reduceNeg, Nat.reduceEqDiff, decide_true, decide_false, Bool.not_true, Bool.not_false, atI1, List.length_map, e4, e, bls_true, all_true]
theorem sure_ok {d : D} {h : Int} {ts : List Int} (hd : ShT d h ts) (v : Vs h ts) (hp : List Ob) : F_sure_sheet [d] hp = .ok (shD h ts) hp := by
  have hl := v.l
  have e := tupled_sheet 5 d h ts hd (by omega) hp
  unfold F_sure_sheet B_sure_sheet
  exact fn_rt (sq_nx (s1 := ⟨[.v d, .v (shD h ts)], hp⟩) (by simp (config := { failIfUnchanged := false }) only [DS.nxS, DS.bkS, DS.ctS, DS.badS, DS.retS, DS.retN, DS.exprS, DS.setS, DS.setL, DS.asgS, DS.gN, DS.gT, DS.gsN, DS.gsC, DS.op1, DS.op2, DS.op1L, DS.op2L, DS.oV, DS.oS, DS.var, DS.cst, DS.deref, DS.derefD, DS.ofL, DS.lstE, DS.evA, DS.tupE, DS.asB, DS.truT, DS.andT, DS.orT, DS.notT, DS.andE, DS.orE, DS.notE, DS.ifE, DS.chn, DS.sl, DS.slL, DS.part, DS.lcE, DS.lcL, DS.itA, DS.itE, DS.itZ, DS.par2, DS.evP, DS.setIx, DS.mutE, DS.lstTok, DS.updTok, DS.shr, DS.callE, DS.callKE, DS.runFn, DS.orL, DS.yesT, DS.noOwn, DS.addD, DS.subD, DS.mulD, DS.divD, DS.modD, DS.powD, DS.negD, DS.ltD, DS.leD, DS.gtD, DS.geD, DS.isN, DS.isntN, DS.notD, DS.ixD, DS.slD, DS.slLs, DS.lenD, DS.absD, DS.intD, DS.tupleD, DS.listL, DS.allD, DS.anyD, DS.sumD, DS.minD, DS.maxD, DS.sortedL, DS.truD, DS.isiD, DS.tyD, DS.gId, DS.wipeE, DS.restE, DS.R.bind_ok, DS.R.bind_exc, DS.R.bind_bad, DS.R.map_ok, DS.R.of_some, DS.R.of_none, Option.bind_some, Option.bind_none, Option.map_some, Option.map_none, List.getElem?_cons_zero, List.getElem?_cons_succ, List.getElem?_nil, List.set_cons_zero, List.set_cons_succ, List.length_cons, List.length_nil, List.map_cons, List.map_nil, Option.getD_some, Option.getD_none, List.cons_append, List.nil_append, List.replicate_succ, List.replicate_zero, Nat.reduceAdd, Nat.reduceSub, decide_eq_true_eq, Bool.and_eq_true, Bool.or_eq_true, if_true, if_false, Bool.not_eq_true', Bool.false_eq_true, reduceIte, DS.eqD_int, DS.neD_int, DS.eqD_bl, DS.neD_bl, ne_eq, not_false_eq_true, not_true_eq_false, true_and, and_true, true_or, or_true, false_or, or_false, and_self, Int.reduceEq, Int.reduceAbs, Nat.reduceLT, Int.reduceLT, Int.reduceLE, Int.reduceNeg, Nat.reduceEqDiff, decide_true, decide_false, Bool.not_true, Bool.not_false, e] <;> rfl) (sq_nx (if_ff (s1 := ⟨[.v d, .v (shD h ts)], hp⟩) (by simp (config := { failIfUnchanged := false }) only [DS.nxS, DS.bkS, DS.ctS, DS.badS, DS.retS, DS.retN, DS.exprS, DS.setS, DS.setL, DS.asgS, DS.gN, DS.gT, DS.gsN, DS.gsC, DS.op1, DS.op2, DS.op1L, DS.op2L, DS.oV, DS.oS, DS.var, DS.cst, DS.deref, DS.derefD, DS.ofL, DS.lstE, DS.evA, DS.tupE, DS.asB, DS.truT, DS.andT, DS.orT, DS.notT, DS.andE, DS.orE, DS.notE, DS.ifE, DS.chn, DS.sl, DS.slL, DS.part, DS.lcE, DS.lcL, DS.itA, DS.itE, DS.itZ, DS.par2, DS.evP, DS.setIx, DS.mutE, DS.lstTok, DS.updTok, DS.shr, DS.callE, DS.callKE, DS.runFn, DS.orL, DS.yesT, DS.noOwn, DS.addD, DS.subD, DS.mulD, DS.divD, DS.modD, DS.powD, DS.negD, DS.ltD, DS.leD, DS.gtD, DS.geD, DS.isN, DS.isntN, DS.notD, DS.ixD, DS.slD, DS.slLs, DS.lenD, DS.absD, DS.intD, DS.tupleD, DS.listL, DS.allD, DS.anyD, DS.sumD, DS.minD, DS.maxD, DS.sortedL, DS.truD, DS.isiD, DS.tyD, DS.gId, DS.wipeE, DS.restE, DS.R.bind_ok, DS.R.bind_exc, DS.R.bind_bad, DS.R.map_ok, DS.R.of_some, DS.R.of_none, Option.bind_some, Option.bind_none, Option.map_some, Option.map_none, List.getElem?_cons_zero, List.getElem?_cons_succ, List.getElem?_nil, List.set_cons_zero, List.set_cons_succ, List.length_cons, List.length_nil, List.map_cons, List.map_nil, Option.getD_some, Option.getD_none, List.cons_append, List.nil_append, List.replicate_succ, List.replicate_zero, Nat.reduceAdd, Nat.reduceSub, decide_eq_true_eq, Bool.and_eq_true, Bool.or_eq_true, if_true, if_false, Bool.not_eq_true', Bool.false_eq_true, reduceIte, DS.eqD_int, DS.neD_int, DS.eqD_bl, DS.neD_bl, ne_eq, not_false_eq_true, not_true_eq_false, true_and, and_true, true_or, or_true, false_or, or_false, and_self, Int.reduceEq, Int.reduceAbs, Nat.reduceLT, Int.reduceLT, Int.reduceLE, Int.reduceNeg, Nat.reduceEqDiff, decide_true, decide_false, Bool.not_true, Bool.not_false, is_sheet_ok v] <;> rfl) (by simp (config := { failIfUnchanged := false }) only [DS.nxS, DS.bkS, DS.ctS, DS.badS, DS.retS, DS.retN, DS.exprS, DS.setS, DS.setL, DS.asgS, DS.gN, DS.gT, DS.gsN, DS.gsC, DS.op1, DS.op2, DS.op1L, DS.op2L, DS.oV, DS.oS, DS.var, DS.cst, DS.deref, DS.derefD, DS.ofL, DS.lstE, DS.evA, DS.tupE, DS.asB, DS.truT, DS.andT, DS.orT, DS.notT, DS.andE, DS.orE, DS.notE, DS.ifE, DS.chn, DS.sl, DS.slL, DS.part, DS.lcE, DS.lcL, DS.itA, DS.itE, DS.itZ, DS.par2, DS.evP, DS.setIx, DS.mutE, DS.lstTok, DS.updTok, DS.shr, DS.callE, DS.callKE, DS.runFn, DS.orL, DS.yesT, DS.noOwn, DS.addD, DS.subD, DS.mulD, DS.divD, DS.modD, DS.powD, DS.negD, DS.ltD, DS.leD, DS.gtD, DS.geD, DS.isN, DS.isntN, DS.notD, DS.ixD, DS.slD, DS.slLs, DS.lenD, DS.absD, DS.intD, DS.tupleD, DS.listL, DS.allD, DS.anyD, DS.sumD, DS.minD, DS.maxD, DS.sortedL, DS.truD, DS.isiD, DS.tyD, DS.gId, DS.wipeE, DS.restE, DS.R.bind_ok, DS.R.bind_exc, DS.R.bind_bad, DS.R.map_ok, DS.R.of_some, DS.R.of_none, Option.bind_some, Option.bind_none, Option.map_some, Option.map_none, List.getElem?_cons_zero, List.getElem?_cons_succ, List.getElem?_nil, List.set_cons_zero, List.set_cons_succ, List.length_cons, List.length_nil, List.map_cons, List.map_nil, Option.getD_some, Option.getD_none, List.cons_append, List.nil_append, List.replicate_succ, List.replicate_zero, Nat.reduceAdd, Nat.reduceSub, decide_eq_true_eq, Bool.and_eq_true, Bool.or_eq_true, if_true, if_false, Bool.not_eq_true', Bool.false_eq_true, reduceIte, DS.eqD_int, DS.neD_int, DS.eqD_bl, DS.neD_bl, ne_eq, not_false_eq_true, not_true_eq_false, true_and, and_true, true_or, or_true, false_or, or_false, and_self, Int.reduceEq, Int.reduceAbs, Nat.reduceLT, Int.reduceLT, Int.reduceLE, Int.reduceNeg, Nat.reduceEqDiff, decide_true, decide_false, Bool.not_true, Bool.not_false] <;> rfl)) (rt_of (by simp (config := { failIfUnchanged := false }) only [DS.nxS, DS.bkS, DS.ctS, DS.badS, DS.retS, DS.retN, DS.exprS, DS.setS, DS.setL, DS.asgS, DS.gN, DS.gT, DS.gsN, DS.gsC, DS.op1, DS.op2, DS.op1L, DS.op2L, DS.oV, DS.oS, DS.var, DS.cst, DS.deref, DS.derefD, DS.ofL, DS.lstE, DS.evA, DS.tupE, DS.asB, DS.truT, DS.andT, DS.orT, DS.notT, DS.andE, DS.orE, DS.notE, DS.ifE, DS.chn, DS.sl, DS.slL, DS.part, DS.lcE, DS.lcL, DS.itA, DS.itE, DS.itZ, DS.par2, DS.evP, DS.setIx, DS.mutE, DS.lstTok, DS.updTok, DS.shr, DS.callE, DS.callKE, DS.runFn, DS.orL, DS.yesT, DS.noOwn, DS.addD, DS.subD, DS.mulD, DS.divD, DS.modD, DS.powD, DS.negD, DS.ltD, DS.leD, DS.gtD, DS.geD, DS.isN, DS.isntN, DS.notD, DS.ixD, DS.slD, DS.slLs, DS.lenD, DS.absD, DS.intD, DS.tupleD, DS.listL, DS.allD, DS.anyD, DS.sumD, DS.minD, DS.maxD, DS.sortedL, DS.truD, DS.isiD, DS.tyD, DS.gId, DS.wipeE, DS.restE, DS.R.bind_ok, DS.R.bind_exc, DS.R.bind_bad, DS.R.map_ok, DS.R.of_some, DS.R.of_none, Option.bind_some, Option.bind_none, Option.map_some, Option.map_none, List.getElem?_cons_zero, List.getElem?_cons_succ, List.getElem?_nil, List.set_cons_zero, List.set_cons_succ, List.length_cons, List.length_nil, List.map_cons, List.map_nil, Option.getD_some, Option.getD_none, List.cons_append, List.nil_append, List.replicate_succ, List.replicate_zero, Nat.reduceAdd, Nat.reduceSub, decide_eq_true_eq, Bool.and_eq_true, Bool.or_eq_true, if_true, if_false, Bool.not_eq_true', Bool.false_eq_true, reduceIte, DS.eqD_int, DS.neD_int, DS.eqD_bl, DS.neD_bl, ne_eq, not_false_eq_true, not_true_eq_false, true_and, and_true, true_or, or_true, false_or, or_false, and_self, Int.reduceEq, Int.reduceAbs, Nat.reduceLT, Int.reduceLT, Int.reduceLE, Int.reduceNeg, Nat.reduceEqDiff, decide_true, decide_false, Bool.not_true, Bool.not_false] <;> rfl))))
/-! ### shares -/
theorem fdiv_pos {a b : Int} (h : 0 ≤ b) : a.fdiv b = a / b := Int.fdiv_eq_ediv_of_nonneg a h
theorem natAbs_lt {a : Int} {n : Nat} (h0 : 0 ≤ a) (h : a < n) : a.natAbs < n := by omega
theorem lm_ok (u t : Int) (hu : 0 < u) (ht : 0 < t) (ht2 : t ≤ 12) (hp : List Ob) : F_least_multiple [.int u, .int t] hp = .ok (.int (u / (Int.gcd u t : Int) * t)) hp := by
  have g1 : 0 < Int.gcd u t := Int.gcd_pos_of_ne_zero_right _ (by omega)
  have g2 : (Int.gcd u t : Int) ≤ t := Int.le_of_dvd ht (Int.gcd_dvd_right _ _)
  have g3 : (Int.gcd u t : Int) ≠ 0 := by omega
  have g4 : (Int.gcd u t : Int).natAbs < 1073741824 := by omega
  have g5 : DS.small64 t = true := sm_lit _ (by omega)
  unfold F_least_multiple B_least_multiple
  exact fn_rt (rt_of (by simp (config := { failIfUnchanged := false }) only [DS.nxS, DS.bkS, DS.ctS, DS.badS, DS.retS, DS.retN, DS.exprS, DS.setS, DS.setL, DS.asgS, DS.gN, DS.gT, DS.gsN, DS.gsC, DS.op1, DS.op2, DS.op1L, DS.op2L, DS.oV, DS.oS, DS.var, DS.cst, DS.deref, DS.derefD, DS.ofL, DS.lstE, DS.evA, DS.tupE, DS.asB, DS.truT, DS.andT, DS.orT, DS.notT, DS.andE, DS.orE, DS.notE, DS.ifE, DS.chn, DS.sl, DS.slL, DS.part, DS.lcE, DS.lcL, DS.itA, DS.itE, DS.itZ, DS.par2, DS.evP, DS.setIx, DS.mutE, DS.lstTok, DS.updTok, DS.shr, DS.callE, DS.callKE, DS.runFn, DS.orL, DS.yesT, DS.noOwn, DS.addD, DS.subD, DS.mulD, DS.divD, DS.modD, DS.powD, DS.negD, DS.ltD, DS.leD, DS.gtD, DS.geD, DS.isN, DS.isntN, DS.notD, DS.ixD, DS.slD, DS.slLs, DS.lenD, DS.absD, DS.intD, DS.tupleD, DS.listL, DS.allD, DS.anyD, DS.sumD, DS.minD, DS.maxD, DS.sortedL, DS.truD, DS.isiD, DS.tyD, DS.gId, DS.wipeE, DS.restE, DS.R.bind_ok, DS.R.bind_exc, DS.R.bind_bad, DS.R.map_ok, DS.R.of_some, DS.R.of_none, Option.bind_some, Option.bind_none, Option.map_some, Option.map_none, List.getElem?_cons_zero, List.getElem?_cons_succ, List.getElem?_nil, List.set_cons_zero, List.set_cons_succ, List.length_cons, List.length_nil, List.map_cons, List.map_nil, Option.getD_some, Option.getD_none, List.cons_append, List.nil_append, List.replicate_succ, List.replicate_zero, Nat.reduceAdd, Nat.reduceSub, decide_eq_true_eq, Bool.and_eq_true, Bool.or_eq_true, if_true, if_false, Bool.not_eq_true', Bool.false_eq_true, reduceIte, DS.eqD_int, DS.neD_int, DS.eqD_bl, DS.neD_bl, ne_eq, not_false_eq_true, not_true_eq_false, true_and, and_true, true_or, or_true, false_or, or_false, and_self, Int.reduceEq, Int.reduceAbs, Nat.reduceLT, Int.reduceLT, Int.reduceLE, Int.reduceNeg, Nat.reduceEqDiff, decide_true, decide_false, Bool.not_true, Bool.not_false, F_common_ok, g3, g4, g5, fdiv_pos (show (0 : Int) ≤ (Int.gcd u t : Int) by omega)] <;> rfl))
theorem lm_math {u t : Int} (hu : 0 < u) (ht : 0 < t) (ht2 : t ≤ 12) : 0 < u / (Int.gcd u t : Int) * t ∧ u / (Int.gcd u t : Int) * t ≤ u * 12 ∧ u ∣ u / (Int.gcd u t : Int) * t ∧ t ∣ u / (Int.gcd u t : Int) * t := by
  have g1 : 0 < Int.gcd u t := Int.gcd_pos_of_ne_zero_right _ (by omega)
  have gd : (Int.gcd u t : Int) ∣ u := Int.gcd_dvd_left _ _
  have gt : (Int.gcd u t : Int) ∣ t := Int.gcd_dvd_right _ _
  have hq : 0 < u / (Int.gcd u t : Int) := Int.ediv_pos_of_pos_of_dvd hu (by omega) gd
  refine ⟨Int.mul_pos hq ht, ?_, ?_, Int.dvd_mul_left _ _⟩
  · exact Int.mul_le_mul (Int.ediv_le_self _ (by omega)) ht2 (by omega) (by omega)
  · obtain ⟨s, hs⟩ := gt
    refine ⟨s, ?_⟩
    have h2 : u / (Int.gcd u t : Int) * t = u / (Int.gcd u t : Int) * ((Int.gcd u t : Int) * s) := by rw [← hs]
    rw [h2, ← Int.mul_assoc, Int.ediv_mul_cancel gd]
theorem under_loop (sh e3 : DS.Slot) (hp : List Ob) : ∀ (ts : List Int) (u : Int) (e2 : DS.Slot), 0 < u → (∀ t ∈ ts, Sp' t) → ∃ (U : Int) (e2' : DS.Slot),
    forL (gN 2) (setS 1 (ifE (asB (op2 gtD (oS 2) (oV (cst (.int 0))))) (callE F_least_multiple [(var 1), (var 2)]) (var 1))) (ts.map .int) ⟨[sh, .v (.int u), e2, e3], hp⟩ = .ok .nx ⟨[sh, .v (.int U), e2', e3], hp⟩ ∧ 0 < U ∧ U ≤ u * 12 ^ ts.length ∧ u ∣ U ∧ DivAll U ts
  | [], u, e2, hu, _ => ⟨u, e2, rfl, hu, by simp, Int.dvd_refl _, fun t h => by simp at h⟩
  | t :: ts, u, e2, hu, ha => by
    have h1 := ha t List.mem_cons_self
    by_cases ht : 0 < t
    · have ht2 : t ≤ 12 := by unfold Sp' at h1; omega
      obtain ⟨m1, m2, m3, m4⟩ := lm_math hu ht ht2
      obtain ⟨U, e2', ih, p1, p2, p3, p4⟩ := under_loop sh e3 hp ts (u / (Int.gcd u t : Int) * t) (.v (.int t)) m1 fun x hx => ha x (List.mem_cons_of_mem _ hx)
      refine ⟨U, e2', ?_, p1, ?_, Int.dvd_trans m3 p3, fun x hx hp' => ?_⟩
      · exact Eq.trans (forL_cons (s1 := ⟨[sh, .v (.int u), .v (.int t), e3], hp⟩) (s2 := ⟨[sh, .v (.int (u / (Int.gcd u t : Int) * t)), .v (.int t), e3], hp⟩) (by simp (config := { failIfUnchanged := false }) only [DS.nxS, DS.bkS, DS.ctS, DS.badS, DS.retS, DS.retN, DS.exprS, DS.setS, DS.setL, DS.asgS, DS.gN, DS.gT, DS.gsN, DS.gsC, DS.op1, DS.op2, DS.op1L, DS.op2L, DS.oV, DS.oS, DS.var, DS.cst, DS.deref, DS.derefD, DS.ofL, DS.lstE, DS.evA, DS.tupE, DS.asB, DS.truT, DS.andT, DS.orT, DS.notT, DS.andE, DS.orE, DS.notE, DS.ifE, DS.chn, DS.sl, DS.slL, DS.part, DS.lcE, DS.lcL, DS.itA, DS.itE, DS.itZ, DS.par2, DS.evP, DS.setIx, DS.mutE, DS.lstTok, DS.updTok, DS.shr, DS.callE, DS.callKE, DS.runFn, DS.orL, DS.yesT, DS.noOwn, DS.addD, DS.subD, DS.mulD, DS.divD, DS.modD, DS.powD, DS.negD, DS.ltD, DS.leD, DS.gtD, DS.geD, DS.isN, DS.isntN, DS.notD, DS.ixD, DS.slD, DS.slLs, DS.lenD, DS.absD, DS.intD, DS.tupleD, DS.listL, DS.allD, DS.anyD, DS.sumD, DS.minD, DS.maxD, DS.sortedL, DS.truD, DS.isiD, DS.tyD, DS.gId, DS.wipeE, DS.restE, DS.R.bind_ok, DS.R.bind_exc, DS.R.bind_bad, DS.R.map_ok, DS.R.of_some, DS.R.of_none, Option.bind_some, Option.bind_none, Option.map_some, Option.map_none, List.getElem?_cons_zero, List.getElem?_cons_succ, List.getElem?_nil, List.set_cons_zero, List.set_cons_succ, List.length_cons, List.length_nil, List.map_cons, List.map_nil, Option.getD_some, Option.getD_none, List.cons_append, List.nil_append, List.replicate_succ, List.replicate_zero, Nat.reduceAdd, Nat.reduceSub, decide_eq_true_eq, Bool.and_eq_true, Bool.or_eq_true, if_true, if_false, Bool.not_eq_true', Bool.false_eq_true, reduceIte, DS.eqD_int, DS.neD_int, DS.eqD_bl, DS.neD_bl, ne_eq, not_false_eq_true, not_true_eq_false, true_and, and_true, true_or, or_true, false_or, or_false, and_self, Int.reduceEq, Int.reduceAbs, Nat.reduceLT, Int.reduceLT, Int.reduceLE, Int.reduceNeg, Nat.reduceEqDiff, decide_true, decide_false, Bool.not_true, Bool.not_false] <;> rfl) (by simp (config := { failIfUnchanged := false }) only [DS.nxS, DS.bkS, DS.ctS, DS.badS, DS.retS, DS.retN, DS.exprS, DS.setS, DS.setL, DS.asgS, DS.gN, DS.gT, DS.gsN, DS.gsC, DS.op1, DS.op2, DS.op1L, DS.op2L, DS.oV, DS.oS, DS.var, DS.cst, DS.deref, DS.derefD, DS.ofL, DS.lstE, DS.evA, DS.tupE, DS.asB, DS.truT, DS.andT, DS.orT, DS.notT, DS.andE, DS.orE, DS.notE, DS.ifE, DS.chn, DS.sl, DS.slL, DS.part, DS.lcE, DS.lcL, DS.itA, DS.itE, DS.itZ, DS.par2, DS.evP, DS.setIx, DS.mutE, DS.lstTok, DS.updTok, DS.shr, DS.callE, DS.callKE, DS.runFn, DS.orL, DS.yesT, DS.noOwn, DS.addD, DS.subD, DS.mulD, DS.divD, DS.modD, DS.powD, DS.negD, DS.ltD, DS.leD, DS.gtD, DS.geD, DS.isN, DS.isntN, DS.notD, DS.ixD, DS.slD, DS.slLs, DS.lenD, DS.absD, DS.intD, DS.tupleD, DS.listL, DS.allD, DS.anyD, DS.sumD, DS.minD, DS.maxD, DS.sortedL, DS.truD, DS.isiD, DS.tyD, DS.gId, DS.wipeE, DS.restE, DS.R.bind_ok, DS.R.bind_exc, DS.R.bind_bad, DS.R.map_ok, DS.R.of_some, DS.R.of_none, Option.bind_some, Option.bind_none, Option.map_some, Option.map_none, List.getElem?_cons_zero, List.getElem?_cons_succ, List.getElem?_nil, List.set_cons_zero, List.set_cons_succ, List.length_cons, List.length_nil, List.map_cons, List.map_nil, Option.getD_some, Option.getD_none, List.cons_append, List.nil_append, List.replicate_succ, List.replicate_zero, Nat.reduceAdd, Nat.reduceSub, decide_eq_true_eq, Bool.and_eq_true, Bool.or_eq_true, if_true, if_false, Bool.not_eq_true', Bool.false_eq_true, reduceIte, DS.eqD_int, DS.neD_int, DS.eqD_bl, DS.neD_bl, ne_eq, not_false_eq_true, not_true_eq_false, true_and, and_true, true_or, or_true, false_or, or_false, and_self, Int.reduceEq, Int.reduceAbs, Nat.reduceLT, Int.reduceLT, Int.reduceLE, Int.reduceNeg, Nat.reduceEqDiff, decide_true, decide_false, Bool.not_true, Bool.not_false, ht, lm_ok u t hu ht ht2] <;> rfl)) ih
      · rw [List.length_cons, Int.pow_succ]
        refine Int.le_trans p2 ?_
        have hpw : (0 : Int) ≤ 12 ^ ts.length := Int.pow_nonneg (by omega)
        have e : u * 12 * 12 ^ ts.length = u * (12 ^ ts.length * 12) := by rw [Int.mul_assoc, Int.mul_comm 12]
        rw [← e]
        exact Int.mul_le_mul_of_nonneg_right m2 hpw
      · rcases List.mem_cons.mp hx with e | hx
        · rw [e]; exact Int.dvd_trans m4 p3
        · exact p4 x hx hp'
    · obtain ⟨U, e2', ih, p1, p2, p3, p4⟩ := under_loop sh e3 hp ts u (.v (.int t)) hu fun x hx => ha x (List.mem_cons_of_mem _ hx)
      refine ⟨U, e2', ?_, p1, ?_, p3, fun x hx hp' => ?_⟩
      · exact Eq.trans (forL_cons (s1 := ⟨[sh, .v (.int u), .v (.int t), e3], hp⟩) (s2 := ⟨[sh, .v (.int u), .v (.int t), e3], hp⟩) (by simp (config := { failIfUnchanged := false }) only [DS.nxS, DS.bkS, DS.ctS, DS.badS, DS.retS, DS.retN, DS.exprS, DS.setS, DS.setL, DS.asgS, DS.gN, DS.gT, DS.gsN, DS.gsC, DS.op1, DS.op2, DS.op1L, DS.op2L, DS.oV, DS.oS, DS.var, DS.cst, DS.deref, DS.derefD, DS.ofL, DS.lstE, DS.evA, DS.tupE, DS.asB, DS.truT, DS.andT, DS.orT, DS.notT, DS.andE, DS.orE, DS.notE, DS.ifE, DS.chn, DS.sl, DS.slL, DS.part, DS.lcE, DS.lcL, DS.itA, DS.itE, DS.itZ, DS.par2, DS.evP, DS.setIx, DS.mutE, DS.lstTok, DS.updTok, DS.shr, DS.callE, DS.callKE, DS.runFn, DS.orL, DS.yesT, DS.noOwn, DS.addD, DS.subD, DS.mulD, DS.divD, DS.modD, DS.powD, DS.negD, DS.ltD, DS.leD, DS.gtD, DS.geD, DS.isN, DS.isntN, DS.notD, DS.ixD, DS.slD, DS.slLs, DS.lenD, DS.absD, DS.intD, DS.tupleD, DS.listL, DS.allD, DS.anyD, DS.sumD, DS.minD, DS.maxD, DS.sortedL, DS.truD, DS.isiD, DS.tyD, DS.gId, DS.wipeE, DS.restE, DS.R.bind_ok, DS.R.bind_exc, DS.R.bind_bad, DS.R.map_ok, DS.R.of_some, DS.R.of_none, Option.bind_some, Option.bind_none, Option.map_some, Option.map_none, List.getElem?_cons_zero, List.getElem?_cons_succ, List.getElem?_nil, List.set_cons_zero, List.set_cons_succ, List.length_cons, List.length_nil, List.map_cons, List.map_nil, Option.getD_some, Option.getD_none, List.cons_append, List.nil_append, List.replicate_succ, List.replicate_zero, Nat.reduceAdd, Nat.reduceSub, decide_eq_true_eq, Bool.and_eq_true, Bool.or_eq_true, if_true, if_false, Bool.not_eq_true', Bool.false_eq_true, reduceIte, DS.eqD_int, DS.neD_int, DS.eqD_bl, DS.neD_bl, ne_eq, not_false_eq_true, not_true_eq_false, true_and, and_true, true_or, or_true, false_or, or_false, and_self, Int.reduceEq, Int.reduceAbs, Nat.reduceLT, Int.reduceLT, Int.reduceLE, Int.reduceNeg, Nat.reduceEqDiff, decide_true, decide_false, Bool.not_true, Bool.not_false] <;> rfl) (by simp (config := { failIfUnchanged := false }) only [DS.nxS, DS.bkS, DS.ctS, DS.badS, DS.retS, DS.retN, DS.exprS, DS.setS, DS.setL, DS.asgS, DS.gN, DS.gT, DS.gsN, DS.gsC, DS.op1, DS.op2, DS.op1L, DS.op2L, DS.oV, DS.oS, DS.var, DS.cst, DS.deref, DS.derefD, DS.ofL, DS.lstE, DS.evA, DS.tupE, DS.asB, DS.truT, DS.andT, DS.orT, DS.notT, DS.andE, DS.orE, DS.notE, DS.ifE, DS.chn, DS.sl, DS.slL, DS.part, DS.lcE, DS.lcL, DS.itA, DS.itE, DS.itZ, DS.par2, DS.evP, DS.setIx, DS.mutE, DS.lstTok, DS.updTok, DS.shr, DS.callE, DS.callKE, DS.runFn, DS.orL, DS.yesT, DS.noOwn, DS.addD, DS.subD, DS.mulD, DS.divD, DS.modD, DS.powD, DS.negD, DS.ltD, DS.leD, DS.gtD, DS.geD, DS.isN, DS.isntN, DS.notD, DS.ixD, DS.slD, DS.slLs, DS.lenD, DS.absD, DS.intD, DS.tupleD, DS.listL, DS.allD, DS.anyD, DS.sumD, DS.minD, DS.maxD, DS.sortedL, DS.truD, DS.isiD, DS.tyD, DS.gId, DS.wipeE, DS.restE, DS.R.bind_ok, DS.R.bind_exc, DS.R.bind_bad, DS.R.map_ok, DS.R.of_some, DS.R.of_none, Option.bind_some, Option.bind_none, Option.map_some, Option.map_none, List.getElem?_cons_zero, List.getElem?_cons_succ, List.getElem?_nil, List.set_cons_zero, List.set_cons_succ, List.length_cons, List.length_nil, List.map_cons, List.map_nil, Option.getD_some, Option.getD_none, List.cons_append, List.nil_append, List.replicate_succ, List.replicate_zero, Nat.reduceAdd, Nat.reduceSub, decide_eq_true_eq, Bool.and_eq_true, Bool.or_eq_true, if_true, if_false, Bool.not_eq_true', Bool.false_eq_true, reduceIte, DS.eqD_int, DS.neD_int, DS.eqD_bl, DS.neD_bl, ne_eq, not_false_eq_true, not_true_eq_false, true_and, and_true, true_or, or_true, false_or, or_false, and_self, Int.reduceEq, Int.reduceAbs, Nat.reduceLT, Int.reduceLT, Int.reduceLE, Int.reduceNeg, Nat.reduceEqDiff, decide_true, decide_false, Bool.not_true, Bool.not_false, ht] <;> rfl)) ih
      · rw [List.length_cons, Int.pow_succ]
        have hpw : (0 : Int) ≤ 12 ^ ts.length := Int.pow_nonneg (by omega)
        have h2 : u * 12 ^ ts.length ≤ u * (12 ^ ts.length * 12) := Int.mul_le_mul_of_nonneg_left (by omega) (by omega)
        exact Int.le_trans p2 h2
      · rcases List.mem_cons.mp hx with e | hx
        · rw [e] at hp'; exact absurd hp' ht
        · exact p4 x hx hp'
theorem over_loop (sh : DS.Slot) (hp : List Ob) (U : Int) : ∀ (ts : List Int) (o : Int) (e2 : DS.Slot), (∀ t ∈ ts, Sp' t) → ∃ (e2' : DS.Slot),
    forL (gN 2) (setS 3 (op2 addD (oV (op2 subD (oS 3) (oS 1))) (oV (ifE (asB (op2 gtD (oS 2) (oV (cst (.int 0))))) (op2 divD (oS 1) (oS 2)) (cst (.int 0)))))) (ts.map .int) ⟨[sh, .v (.int U), e2, .v (.int o)], hp⟩ = .ok .nx ⟨[sh, .v (.int U), e2', .v (.int (o + (ovr 1 U ts)))], hp⟩
  | [], o, e2, _ => ⟨e2, by simp [forL, ovr]⟩
  | t :: ts, o, e2, ha => by
    have h1 := ha t List.mem_cons_self
    obtain ⟨e2', ih⟩ := over_loop sh hp U ts (o - U + wt U t) (.v (.int t)) fun x hx => ha x (List.mem_cons_of_mem _ hx)
    refine ⟨e2', ?_⟩
    have e : o + ovr 1 U (t :: ts) = o - U + wt U t + ovr 1 U ts := by simp only [ovr]; omega
    rw [e]
    refine Eq.trans (forL_cons (s1 := ⟨[sh, .v (.int U), .v (.int t), .v (.int o)], hp⟩) (s2 := ⟨[sh, .v (.int U), .v (.int t), .v (.int (o - U + wt U t))], hp⟩) (by simp (config := { failIfUnchanged := false }) only [DS.nxS, DS.bkS, DS.ctS, DS.badS, DS.retS, DS.retN, DS.exprS, DS.setS, DS.setL, DS.asgS, DS.gN, DS.gT, DS.gsN, DS.gsC, DS.op1, DS.op2, DS.op1L, DS.op2L, DS.oV, DS.oS, DS.var, DS.cst, DS.deref, DS.derefD, DS.ofL, DS.lstE, DS.evA, DS.tupE, DS.asB, DS.truT, DS.andT, DS.orT, DS.notT, DS.andE, DS.orE, DS.notE, DS.ifE, DS.chn, DS.sl, DS.slL, DS.part, DS.lcE, DS.lcL, DS.itA, DS.itE, DS.itZ, DS.par2, DS.evP, DS.setIx, DS.mutE, DS.lstTok, DS.updTok, DS.shr, DS.callE, DS.callKE, DS.runFn, DS.orL, DS.yesT, DS.noOwn, DS.addD, DS.subD, DS.mulD, DS.divD, DS.modD, DS.powD, DS.negD, DS.ltD, DS.leD, DS.gtD, DS.geD, DS.isN, DS.isntN, DS.notD, DS.ixD, DS.slD, DS.slLs, DS.lenD, DS.absD, DS.intD, DS.tupleD, DS.listL, DS.allD, DS.anyD, DS.sumD, DS.minD, DS.maxD, DS.sortedL, DS.truD, DS.isiD, DS.tyD, DS.gId, DS.wipeE, DS.restE, DS.R.bind_ok, DS.R.bind_exc, DS.R.bind_bad, DS.R.map_ok, DS.R.of_some, DS.R.of_none, Option.bind_some, Option.bind_none, Option.map_some, Option.map_none, List.getElem?_cons_zero, List.getElem?_cons_succ, List.getElem?_nil, List.set_cons_zero, List.set_cons_succ, List.length_cons, List.length_nil, List.map_cons, List.map_nil, Option.getD_some, Option.getD_none, List.cons_append, List.nil_append, List.replicate_succ, List.replicate_zero, Nat.reduceAdd, Nat.reduceSub, decide_eq_true_eq, Bool.and_eq_true, Bool.or_eq_true, if_true, if_false, Bool.not_eq_true', Bool.false_eq_true, reduceIte, DS.eqD_int, DS.neD_int, DS.eqD_bl, DS.neD_bl, ne_eq, not_false_eq_true, not_true_eq_false, true_and, and_true, true_or, or_true, false_or, or_false, and_self, Int.reduceEq, Int.reduceAbs, Nat.reduceLT, Int.reduceLT, Int.reduceLE, Int.reduceNeg, Nat.reduceEqDiff, decide_true, decide_false, Bool.not_true, Bool.not_false] <;> rfl) ?_) ih
    unfold wt
    by_cases ht : 0 < t
    · have h2 : t ≠ 0 := by omega
      have h3 : t.natAbs < 1073741824 := by unfold Sp' at h1; omega
      simp (config := { failIfUnchanged := false }) only [DS.nxS, DS.bkS, DS.ctS, DS.badS, DS.retS, DS.retN, DS.exprS, DS.setS, DS.setL, DS.asgS, DS.gN, DS.gT, DS.gsN, DS.gsC, DS.op1, DS.op2, DS.op1L, DS.op2L, DS.oV, DS.oS, DS.var, DS.cst, DS.deref, DS.derefD, DS.ofL, DS.lstE, DS.evA, DS.tupE, DS.asB, DS.truT, DS.andT, DS.orT, DS.notT, DS.andE, DS.orE, DS.notE, DS.ifE, DS.chn, DS.sl, DS.slL, DS.part, DS.lcE, DS.lcL, DS.itA, DS.itE, DS.itZ, DS.par2, DS.evP, DS.setIx, DS.mutE, DS.lstTok, DS.updTok, DS.shr, DS.callE, DS.callKE, DS.runFn, DS.orL, DS.yesT, DS.noOwn, DS.addD, DS.subD, DS.mulD, DS.divD, DS.modD, DS.powD, DS.negD, DS.ltD, DS.leD, DS.gtD, DS.geD, DS.isN, DS.isntN, DS.notD, DS.ixD, DS.slD, DS.slLs, DS.lenD, DS.absD, DS.intD, DS.tupleD, DS.listL, DS.allD, DS.anyD, DS.sumD, DS.minD, DS.maxD, DS.sortedL, DS.truD, DS.isiD, DS.tyD, DS.gId, DS.wipeE, DS.restE, DS.R.bind_ok, DS.R.bind_exc, DS.R.bind_bad, DS.R.map_ok, DS.R.of_some, DS.R.of_none, Option.bind_some, Option.bind_none, Option.map_some, Option.map_none, List.getElem?_cons_zero, List.getElem?_cons_succ, List.getElem?_nil, List.set_cons_zero, List.set_cons_succ, List.length_cons, List.length_nil, List.map_cons, List.map_nil, Option.getD_some, Option.getD_none, List.cons_append, List.nil_append, List.replicate_succ, List.replicate_zero, Nat.reduceAdd, Nat.reduceSub, decide_eq_true_eq, Bool.and_eq_true, Bool.or_eq_true, if_true, if_false, Bool.not_eq_true', Bool.false_eq_true, reduceIte, DS.eqD_int, DS.neD_int, DS.eqD_bl, DS.neD_bl, ne_eq, not_false_eq_true, not_true_eq_false, true_and, and_true, true_or, or_true, false_or, or_false, and_self, Int.reduceEq, Int.reduceAbs, Nat.reduceLT, Int.reduceLT, Int.reduceLE, Int.reduceNeg, Nat.reduceEqDiff, decide_true, decide_false, Bool.not_true, Bool.not_false, ht, h2, h3, fdiv_pos (show (0 : Int) ≤ t by omega)]
    · simp (config := { failIfUnchanged := false }) only [DS.nxS, DS.bkS, DS.ctS, DS.badS, DS.retS, DS.retN, DS.exprS, DS.setS, DS.setL, DS.asgS, DS.gN, DS.gT, DS.gsN, DS.gsC, DS.op1, DS.op2, DS.op1L, DS.op2L, DS.oV, DS.oS, DS.var, DS.cst, DS.deref, DS.derefD, DS.ofL, DS.lstE, DS.evA, DS.tupE, DS.asB, DS.truT, DS.andT, DS.orT, DS.notT, DS.andE, DS.orE, DS.notE, DS.ifE, DS.chn, DS.sl, DS.slL, DS.part, DS.lcE, DS.lcL, DS.itA, DS.itE, DS.itZ, DS.par2, DS.evP, DS.setIx, DS.mutE, DS.lstTok, DS.updTok, DS.shr, DS.callE, DS.callKE, DS.runFn, DS.orL, DS.yesT, DS.noOwn, DS.addD, DS.subD, DS.mulD, DS.divD, DS.modD, DS.powD, DS.negD, DS.ltD, DS.leD, DS.gtD, DS.geD, DS.isN, DS.isntN, DS.notD, DS.ixD, DS.slD, DS.slLs, DS.lenD, DS.absD, DS.intD, DS.tupleD, DS.listL, DS.allD, DS.anyD, DS.sumD, DS.minD, DS.maxD, DS.sortedL, DS.truD, DS.isiD, DS.tyD, DS.gId, DS.wipeE, DS.restE, DS.R.bind_ok, DS.R.bind_exc, DS.R.bind_bad, DS.R.map_ok, DS.R.of_some, DS.R.of_none, Option.bind_some, Option.bind_none, Option.map_some, Option.map_none, List.getElem?_cons_zero, List.getElem?_cons_succ, List.getElem?_nil, List.set_cons_zero, List.set_cons_succ, List.length_cons, List.length_nil, List.map_cons, List.map_nil, Option.getD_some, Option.getD_none, List.cons_append, List.nil_append, List.replicate_succ, List.replicate_zero, Nat.reduceAdd, Nat.reduceSub, decide_eq_true_eq, Bool.and_eq_true, Bool.or_eq_true, if_true, if_false, Bool.not_eq_true', Bool.false_eq_true, reduceIte, DS.eqD_int, DS.neD_int, DS.eqD_bl, DS.neD_bl, ne_eq, not_false_eq_true, not_true_eq_false, true_and, and_true, true_or, or_true, false_or, or_false, and_self, Int.reduceEq, Int.reduceAbs, Nat.reduceLT, Int.reduceLT, Int.reduceLE, Int.reduceNeg, Nat.reduceEqDiff, decide_true, decide_false, Bool.not_true, Bool.not_false, ht]
theorem ovr_one (h U : Int) : ∀ ts : List Int, (2 - 2 * h) * U + ovr 1 U ts = ovr h U ts
  | [] => by simp [ovr]
  | t :: ts => by
    have := ovr_one h U ts
    simp only [ovr]
    omega
theorem lowest_ok (a b : Int) (hb : 0 < b) (hb2 : b < 1073741824) (hp : List Ob) : F_lowest [.int a, .int b] hp = .ok (.tup [.int (low a b).1, .int (low a b).2]) hp := by
  have g1 : 0 < Int.gcd a b := Int.gcd_pos_of_ne_zero_right _ (by omega)
  have g2 : (Int.gcd a b : Int) ≤ b := Int.le_of_dvd hb (Int.gcd_dvd_right _ _)
  have g3 : (Int.gcd a b : Int) ≠ 0 := by omega
  have g4 : (Int.gcd a b : Int).natAbs < 1073741824 := by omega
  unfold F_lowest B_lowest
  exact fn_rt (sq_nx (s1 := ⟨[.v (.int a), .v (.int b), .v (.int (Int.gcd a b))], hp⟩) (by simp (config := { failIfUnchanged := false }) only [DS.nxS, DS.bkS, DS.ctS, DS.badS, DS.retS, DS.retN, DS.exprS, DS.setS, DS.setL, DS.asgS, DS.gN, DS.gT, DS.gsN, DS.gsC, DS.op1, DS.op2, DS.op1L, DS.op2L, DS.oV, DS.oS, DS.var, DS.cst, DS.deref, DS.derefD, DS.ofL, DS.lstE, DS.evA, DS.tupE, DS.asB, DS.truT, DS.andT, DS.orT, DS.notT, DS.andE, DS.orE, DS.notE, DS.ifE, DS.chn, DS.sl, DS.slL, DS.part, DS.lcE, DS.lcL, DS.itA, DS.itE, DS.itZ, DS.par2, DS.evP, DS.setIx, DS.mutE, DS.lstTok, DS.updTok, DS.shr, DS.callE, DS.callKE, DS.runFn, DS.orL, DS.yesT, DS.noOwn, DS.addD, DS.subD, DS.mulD, DS.divD, DS.modD, DS.powD, DS.negD, DS.ltD, DS.leD, DS.gtD, DS.geD, DS.isN, DS.isntN, DS.notD, DS.ixD, DS.slD, DS.slLs, DS.lenD, DS.absD, DS.intD, DS.tupleD, DS.listL, DS.allD, DS.anyD, DS.sumD, DS.minD, DS.maxD, DS.sortedL, DS.truD, DS.isiD, DS.tyD, DS.gId, DS.wipeE, DS.restE, DS.R.bind_ok, DS.R.bind_exc, DS.R.bind_bad, DS.R.map_ok, DS.R.of_some, DS.R.of_none, Option.bind_some, Option.bind_none, Option.map_some, Option.map_none, List.getElem?_cons_zero, List.getElem?_cons_succ, List.getElem?_nil, List.set_cons_zero, List.set_cons_succ, List.length_cons, List.length_nil, List.map_cons, List.map_nil, Option.getD_some, Option.getD_none, List.cons_append, List.nil_append, List.replicate_succ, List.replicate_zero, Nat.reduceAdd, Nat.reduceSub, decide_eq_true_eq, Bool.and_eq_true, Bool.or_eq_true, if_true, if_false, Bool.not_eq_true', Bool.false_eq_true, reduceIte, DS.eqD_int, DS.neD_int, DS.eqD_bl, DS.neD_bl, ne_eq, not_false_eq_true, not_true_eq_false, true_and, and_true, true_or, or_true, false_or, or_false, and_self, Int.reduceEq, Int.reduceAbs, Nat.reduceLT, Int.reduceLT, Int.reduceLE, Int.reduceNeg, Nat.reduceEqDiff, decide_true, decide_false, Bool.not_true, Bool.not_false, F_common_ok] <;> rfl) (rt_of (by simp (config := { failIfUnchanged := false }) only [DS.nxS, DS.bkS, DS.ctS, DS.badS, DS.retS, DS.retN, DS.exprS, DS.setS, DS.setL, DS.asgS, DS.gN, DS.gT, DS.gsN, DS.gsC, DS.op1, DS.op2, DS.op1L, DS.op2L, DS.oV, DS.oS, DS.var, DS.cst, DS.deref, DS.derefD, DS.ofL, DS.lstE, DS.evA, DS.tupE, DS.asB, DS.truT, DS.andT, DS.orT, DS.notT, DS.andE, DS.orE, DS.notE, DS.ifE, DS.chn, DS.sl, DS.slL, DS.part, DS.lcE, DS.lcL, DS.itA, DS.itE, DS.itZ, DS.par2, DS.evP, DS.setIx, DS.mutE, DS.lstTok, DS.updTok, DS.shr, DS.callE, DS.callKE, DS.runFn, DS.orL, DS.yesT, DS.noOwn, DS.addD, DS.subD, DS.mulD, DS.divD, DS.modD, DS.powD, DS.negD, DS.ltD, DS.leD, DS.gtD, DS.geD, DS.isN, DS.isntN, DS.notD, DS.ixD, DS.slD, DS.slLs, DS.lenD, DS.absD, DS.intD, DS.tupleD, DS.listL, DS.allD, DS.anyD, DS.sumD, DS.minD, DS.maxD, DS.sortedL, DS.truD, DS.isiD, DS.tyD, DS.gId, DS.wipeE, DS.restE, DS.R.bind_ok, DS.R.bind_exc, DS.R.bind_bad, DS.R.map_ok, DS.R.of_some, DS.R.of_none, Option.bind_some, Option.bind_none, Option.map_some, Option.map_none, List.getElem?_cons_zero, List.getElem?_cons_succ, List.getElem?_nil, List.set_cons_zero, List.set_cons_succ, List.length_cons, List.length_nil, List.map_cons, List.map_nil, Option.getD_some, Option.getD_none, List.cons_append, List.nil_append, List.replicate_succ, List.replicate_zero, Nat.reduceAdd, Nat.reduceSub, decide_eq_true_eq, Bool.and_eq_true, Bool.or_eq_true, if_true, if_false, Bool.not_eq_true', Bool.false_eq_true, reduceIte, DS.eqD_int, DS.neD_int, DS.eqD_bl, DS.neD_bl, ne_eq, not_false_eq_true, not_true_eq_false, true_and, and_true, true_or, or_true, false_or, or_false, and_self, Int.reduceEq, Int.reduceAbs, Nat.reduceLT, Int.reduceLT, Int.reduceLE, Int.reduceNeg, Nat.reduceEqDiff, decide_true, decide_false, Bool.not_true, Bool.not_false, g3, g4, fdiv_pos (show (0 : Int) ≤ (Int.gcd a b : Int) by omega)] <;> rfl)))
theorem pow12 {n : Nat} (h : n ≤ 8) : (12 : Int) ^ n ≤ 429981696 := by
  have h2 : (12 : Nat) ^ n ≤ 12 ^ 8 := Nat.pow_le_pow_right (by omega) h
  have h3 : ((12 ^ n : Nat) : Int) ≤ ((12 ^ 8 : Nat) : Int) := by exact_mod_cast h2
  rw [Int.natCast_pow] at h3
  exact h3
theorem share_in_ok {h : Int} {ts : List Int} (v : Vs h ts) (hp : List Ob) : F_share_in [shD h ts] hp = .ok (.tup [.int (shr h ts).1, .int (shr h ts).2]) hp := by
  obtain ⟨U, e2, l1, p1, p2, p3, p4⟩ := under_loop (.v (shD h ts)) .un hp ts 1 .un (by omega) v.a
  obtain ⟨e2', l2⟩ := over_loop (.v (shD h ts)) hp U ts ((2 - 2 * h) * U) e2 v.a
  rw [ovr_one] at l2
  have hU : U < 1073741824 := by
    have := pow12 v.l
    omega
  have hs : DS.small64 (2 - 2 * h) = true := sm_lit _ (by have := v.h0; have := v.h5; omega)
  have hs2 : DS.small64 2 = true := by decide
  rw [← shr_of h p1 p4]
  unfold F_share_in B_share_in
  refine fn_rt (sq_nx (s1 := ⟨[.v (shD h ts), .v (.int 1), .un, .un], hp⟩) (by simp (config := { failIfUnchanged := false }) only [DS.nxS, DS.bkS, DS.ctS, DS.badS, DS.retS, DS.retN, DS.exprS, DS.setS, DS.setL, DS.asgS, DS.gN, DS.gT, DS.gsN, DS.gsC, DS.op1, DS.op2, DS.op1L, DS.op2L, DS.oV, DS.oS, DS.var, DS.cst, DS.deref, DS.derefD, DS.ofL, DS.lstE, DS.evA, DS.tupE, DS.asB, DS.truT, DS.andT, DS.orT, DS.notT, DS.andE, DS.orE, DS.notE, DS.ifE, DS.chn, DS.sl, DS.slL, DS.part, DS.lcE, DS.lcL, DS.itA, DS.itE, DS.itZ, DS.par2, DS.evP, DS.setIx, DS.mutE, DS.lstTok, DS.updTok, DS.shr, DS.callE, DS.callKE, DS.runFn, DS.orL, DS.yesT, DS.noOwn, DS.addD, DS.subD, DS.mulD, DS.divD, DS.modD, DS.powD, DS.negD, DS.ltD, DS.leD, DS.gtD, DS.geD, DS.isN, DS.isntN, DS.notD, DS.ixD, DS.slD, DS.slLs, DS.lenD, DS.absD, DS.intD, DS.tupleD, DS.listL, DS.allD, DS.anyD, DS.sumD, DS.minD, DS.maxD, DS.sortedL, DS.truD, DS.isiD, DS.tyD, DS.gId, DS.wipeE, DS.restE, DS.R.bind_ok, DS.R.bind_exc, DS.R.bind_bad, DS.R.map_ok, DS.R.of_some, DS.R.of_none, Option.bind_some, Option.bind_none, Option.map_some, Option.map_none, List.getElem?_cons_zero, List.getElem?_cons_succ, List.getElem?_nil, List.set_cons_zero, List.set_cons_succ, List.length_cons, List.length_nil, List.map_cons, List.map_nil, Option.getD_some, Option.getD_none, List.cons_append, List.nil_append, List.replicate_succ, List.replicate_zero, Nat.reduceAdd, Nat.reduceSub, decide_eq_true_eq, Bool.and_eq_true, Bool.or_eq_true, if_true, if_false, Bool.not_eq_true', Bool.false_eq_true, reduceIte, DS.eqD_int, DS.neD_int, DS.eqD_bl, DS.neD_bl, ne_eq, not_false_eq_true, not_true_eq_false, true_and, and_true, true_or, or_true, false_or, or_false, and_self, Int.reduceEq, Int.reduceAbs, Nat.reduceLT, Int.reduceLT, Int.reduceLE, Int.reduceNeg, Nat.reduceEqDiff, decide_true, decide_false, Bool.not_true, Bool.not_false] <;> rfl) (sq_nx (for_of (ds := ts.map .int) (s1 := ⟨[.v (shD h ts), .v (.int 1), .un, .un], hp⟩) (by simp (config := { failIfUnchanged := false }) only [DS.nxS, DS.bkS, DS.ctS, DS.badS, DS.retS, DS.retN, DS.exprS, DS.setS, DS.setL, DS.asgS, DS.gN, DS.gT, DS.gsN, DS.gsC, DS.op1, DS.op2, DS.op1L, DS.op2L, DS.oV, DS.oS, DS.var, DS.cst, DS.deref, DS.derefD, DS.ofL, DS.lstE, DS.evA, DS.tupE, DS.asB, DS.truT, DS.andT, DS.orT, DS.notT, DS.andE, DS.orE, DS.notE, DS.ifE, DS.chn, DS.sl, DS.slL, DS.part, DS.lcE, DS.lcL, DS.itA, DS.itE, DS.itZ, DS.par2, DS.evP, DS.setIx, DS.mutE, DS.lstTok, DS.updTok, DS.shr, DS.callE, DS.callKE, DS.runFn, DS.orL, DS.yesT, DS.noOwn, DS.addD, DS.subD, DS.mulD, DS.divD, DS.modD, DS.powD, DS.negD, DS.ltD, DS.leD, DS.gtD, DS.geD, DS.isN, DS.isntN, DS.notD, DS.ixD, DS.slD, DS.slLs, DS.lenD, DS.absD, DS.intD, DS.tupleD, DS.listL, DS.allD, DS.anyD, DS.sumD, DS.minD, DS.maxD, DS.sortedL, DS.truD, DS.isiD, DS.tyD, DS.gId, DS.wipeE, DS.restE, DS.R.bind_ok, DS.R.bind_exc, DS.R.bind_bad, DS.R.map_ok, DS.R.of_some, DS.R.of_none, Option.bind_some, Option.bind_none, Option.map_some, Option.map_none, List.getElem?_cons_zero, List.getElem?_cons_succ, List.getElem?_nil, List.set_cons_zero, List.set_cons_succ, List.length_cons, List.length_nil, List.map_cons, List.map_nil, Option.getD_some, Option.getD_none, List.cons_append, List.nil_append, List.replicate_succ, List.replicate_zero, Nat.reduceAdd, Nat.reduceSub, decide_eq_true_eq, Bool.and_eq_true, Bool.or_eq_true, if_true, if_false, Bool.not_eq_true', Bool.false_eq_true, reduceIte, DS.eqD_int, DS.neD_int, DS.eqD_bl, DS.neD_bl, ne_eq, not_false_eq_true, not_true_eq_false, true_and, and_true, true_or, or_true, false_or, or_false, and_self, Int.reduceEq, Int.reduceAbs, Nat.reduceLT, Int.reduceLT, Int.reduceLE, Int.reduceNeg, Nat.reduceEqDiff, decide_true, decide_false, Bool.not_true, Bool.not_false, atI1] <;> rfl) l1)
    (sq_nx (s1 := ⟨[.v (shD h ts), .v (.int U), e2, .v (.int ((2 - 2 * h) * U))], hp⟩) (by simp (config := { failIfUnchanged := false }) only [DS.nxS, DS.bkS, DS.ctS, DS.badS, DS.retS, DS.retN, DS.exprS, DS.setS, DS.setL, DS.asgS, DS.gN, DS.gT, DS.gsN, DS.gsC, DS.op1, DS.op2, DS.op1L, DS.op2L, DS.oV, DS.oS, DS.var, DS.cst, DS.deref, DS.derefD, DS.ofL, DS.lstE, DS.evA, DS.tupE, DS.asB, DS.truT, DS.andT, DS.orT, DS.notT, DS.andE, DS.orE, DS.notE, DS.ifE, DS.chn, DS.sl, DS.slL, DS.part, DS.lcE, DS.lcL, DS.itA, DS.itE, DS.itZ, DS.par2, DS.evP, DS.setIx, DS.mutE, DS.lstTok, DS.updTok, DS.shr, DS.callE, DS.callKE, DS.runFn, DS.orL, DS.yesT, DS.noOwn, DS.addD, DS.subD, DS.mulD, DS.divD, DS.modD, DS.powD, DS.negD, DS.ltD, DS.leD, DS.gtD, DS.geD, DS.isN, DS.isntN, DS.notD, DS.ixD, DS.slD, DS.slLs, DS.lenD, DS.absD, DS.intD, DS.tupleD, DS.listL, DS.allD, DS.anyD, DS.sumD, DS.minD, DS.maxD, DS.sortedL, DS.truD, DS.isiD, DS.tyD, DS.gId, DS.wipeE, DS.restE, DS.R.bind_ok, DS.R.bind_exc, DS.R.bind_bad, DS.R.map_ok, DS.R.of_some, DS.R.of_none, Option.bind_some, Option.bind_none, Option.map_some, Option.map_none, List.getElem?_cons_zero, List.getElem?_cons_succ, List.getElem?_nil, List.set_cons_zero, List.set_cons_succ, List.length_cons, List.length_nil, List.map_cons, List.map_nil, Option.getD_some, Option.getD_none, List.cons_append, List.nil_append, List.replicate_succ, List.replicate_zero, Nat.reduceAdd, Nat.reduceSub, decide_eq_true_eq, Bool.and_eq_true, Bool.or_eq_true, if_true, if_false, Bool.not_eq_true', Bool.false_eq_true, reduceIte, DS.eqD_int, DS.neD_int, DS.eqD_bl, DS.neD_bl, ne_eq, not_false_eq_true, not_true_eq_false, true_and, and_true, true_or, or_true, false_or, or_false, and_self, Int.reduceEq, Int.reduceAbs, Nat.reduceLT, Int.reduceLT, Int.reduceLE, Int.reduceNeg, Nat.reduceEqDiff, decide_true, decide_false, Bool.not_true, Bool.not_false, atI0, hs, hs2] <;> rfl) (sq_nx (for_of (ds := ts.map .int) (s1 := ⟨[.v (shD h ts), .v (.int U), e2, .v (.int ((2 - 2 * h) * U))], hp⟩) (by simp (config := { failIfUnchanged := false }) only [DS.nxS, DS.bkS, DS.ctS, DS.badS, DS.retS, DS.retN, DS.exprS, DS.setS, DS.setL, DS.asgS, DS.gN, DS.gT, DS.gsN, DS.gsC, DS.op1, DS.op2, DS.op1L, DS.op2L, DS.oV, DS.oS, DS.var, DS.cst, DS.deref, DS.derefD, DS.ofL, DS.lstE, DS.evA, DS.tupE, DS.asB, DS.truT, DS.andT, DS.orT, DS.notT, DS.andE, DS.orE, DS.notE, DS.ifE, DS.chn, DS.sl, DS.slL, DS.part, DS.lcE, DS.lcL, DS.itA, DS.itE, DS.itZ, DS.par2, DS.evP, DS.setIx, DS.mutE, DS.lstTok, DS.updTok, DS.shr, DS.callE, DS.callKE, DS.runFn, DS.orL, DS.yesT, DS.noOwn, DS.addD, DS.subD, DS.mulD, DS.divD, DS.modD, DS.powD, DS.negD, DS.ltD, DS.leD, DS.gtD, DS.geD, DS.isN, DS.isntN, DS.notD, DS.ixD, DS.slD, DS.slLs, DS.lenD, DS.absD, DS.intD, DS.tupleD, DS.listL, DS.allD, DS.anyD, DS.sumD, DS.minD, DS.maxD, DS.sortedL, DS.truD, DS.isiD, DS.tyD, DS.gId, DS.wipeE, DS.restE, DS.R.bind_ok, DS.R.bind_exc, DS.R.bind_bad, DS.R.map_ok, DS.R.of_some, DS.R.of_none, Option.bind_some, Option.bind_none, Option.map_some, Option.map_none, List.getElem?_cons_zero, List.getElem?_cons_succ, List.getElem?_nil, List.set_cons_zero, List.set_cons_succ, List.length_cons, List.length_nil, List.map_cons, List.map_nil, Option.getD_some, Option.getD_none, List.cons_append, List.nil_append, List.replicate_succ, List.replicate_zero, Nat.reduceAdd, Nat.reduceSub, decide_eq_true_eq, Bool.and_eq_true, Bool.or_eq_true, if_true, if_false, Bool.not_eq_true', Bool.false_eq_true, reduceIte, DS.eqD_int, DS.neD_int, DS.eqD_bl, DS.neD_bl, ne_eq, not_false_eq_true, not_true_eq_false, true_and, and_true, true_or, or_true, false_or, or_false, and_self, Int.reduceEq, Int.reduceAbs, Nat.reduceLT, Int.reduceLT, Int.reduceLE, Int.reduceNeg, Nat.reduceEqDiff, decide_true, decide_false, Bool.not_true, Bool.not_false, atI1] <;> rfl) l2) (rt_of (by simp (config := { failIfUnchanged := false }) only [DS.nxS, DS.bkS, DS.ctS, DS.badS, DS.retS, DS.retN, DS.exprS, DS.setS, DS.setL, DS.asgS, DS.gN, DS.gT, DS.gsN, DS.gsC, DS.op1, DS.op2, DS.op1L, DS.op2L, DS.oV, DS.oS, DS.var, DS.cst, DS.deref, DS.derefD, DS.ofL, DS.lstE, DS.evA, DS.tupE, DS.asB, DS.truT, DS.andT, DS.orT, DS.notT, DS.andE, DS.orE, DS.notE, DS.ifE, DS.chn, DS.sl, DS.slL, DS.part, DS.lcE, DS.lcL, DS.itA, DS.itE, DS.itZ, DS.par2, DS.evP, DS.setIx, DS.mutE, DS.lstTok, DS.updTok, DS.shr, DS.callE, DS.callKE, DS.runFn, DS.orL, DS.yesT, DS.noOwn, DS.addD, DS.subD, DS.mulD, DS.divD, DS.modD, DS.powD, DS.negD, DS.ltD, DS.leD, DS.gtD, DS.geD, DS.isN, DS.isntN, DS.notD, DS.ixD, DS.slD, DS.slLs, DS.lenD, DS.absD, DS.intD, DS.tupleD, DS.listL, DS.allD, DS.anyD, DS.sumD, DS.minD, DS.maxD, DS.sortedL, DS.truD, DS.isiD, DS.tyD, DS.gId, DS.wipeE, DS.restE, DS.R.bind_ok, DS.R.bind_exc, DS.R.bind_bad, DS.R.map_ok, DS.R.of_some, DS.R.of_none, Option.bind_some, Option.bind_none, Option.map_some, Option.map_none, List.getElem?_cons_zero, List.getElem?_cons_succ, List.getElem?_nil, List.set_cons_zero, List.set_cons_succ, List.length_cons, List.length_nil, List.map_cons, List.map_nil, Option.getD_some, Option.getD_none, List.cons_append, List.nil_append, List.replicate_succ, List.replicate_zero, Nat.reduceAdd, Nat.reduceSub, decide_eq_true_eq, Bool.and_eq_true, Bool.or_eq_true, if_true, if_false, Bool.not_eq_true', Bool.false_eq_true, reduceIte, DS.eqD_int, DS.neD_int, DS.eqD_bl, DS.neD_bl, ne_eq, not_false_eq_true, not_true_eq_false, true_and, and_true, true_or, or_true, false_or, or_false, and_self, Int.reduceEq, Int.reduceAbs, Nat.reduceLT, Int.reduceLT, Int.reduceLE, Int.reduceNeg, Nat.reduceEqDiff, decide_true, decide_false, Bool.not_true, Bool.not_false, lowest_ok _ U p1 hU] <;> rfl))))))
end L30
namespace L30
open PySem PySem.Spec PyProof.Rows L2 DS
theorem slim_ok (a b : Int) (hb : 0 < b) (hb2 : b < 1073741824) (hp : List Ob) : F__law_slim [.int a, .int b] hp = .ok (.tup [.int (low a b).1, .int (low a b).2]) hp := by
  have g1 : 0 < Int.gcd a b := Int.gcd_pos_of_ne_zero_right _ (by omega)
  have g2 : (Int.gcd a b : Int) ≤ b := Int.le_of_dvd hb (Int.gcd_dvd_right _ _)
  have g3 : (Int.gcd a b : Int) ≠ 0 := by omega
  have g4 : (Int.gcd a b : Int).natAbs < 1073741824 := by omega
  unfold F__law_slim B__law_slim
  exact fn_rt (sq_nx (s1 := ⟨[.v (.int a), .v (.int b), .v (.int (Int.gcd a b))], hp⟩) (by simp (config := { failIfUnchanged := false }) only [DS.nxS, DS.bkS, DS.ctS, DS.badS, DS.retS, DS.retN, DS.exprS, DS.setS, DS.setL, DS.asgS, DS.gN, DS.gT, DS.gsN, DS.gsC, DS.op1, DS.op2, DS.op1L, DS.op2L, DS.oV, DS.oS, DS.var, DS.cst, DS.deref, DS.derefD, DS.ofL, DS.lstE, DS.evA, DS.tupE, DS.asB, DS.truT, DS.andT, DS.orT, DS.notT, DS.andE, DS.orE, DS.notE, DS.ifE, DS.chn, DS.sl, DS.slL, DS.part, DS.lcE, DS.lcL, DS.itA, DS.itE, DS.itZ, DS.par2, DS.evP, DS.setIx, DS.mutE, DS.lstTok, DS.updTok, DS.shr, DS.callE, DS.callKE, DS.runFn, DS.orL, DS.yesT, DS.noOwn, DS.addD, DS.subD, DS.mulD, DS.divD, DS.modD, DS.powD, DS.negD, DS.ltD, DS.leD, DS.gtD, DS.geD, DS.isN, DS.isntN, DS.notD, DS.ixD, DS.slD, DS.slLs, DS.lenD, DS.absD, DS.intD, DS.tupleD, DS.listL, DS.allD, DS.anyD, DS.sumD, DS.minD, DS.maxD, DS.sortedL, DS.truD, DS.isiD, DS.tyD, DS.gId, DS.wipeE, DS.restE, DS.R.bind_ok, DS.R.bind_exc, DS.R.bind_bad, DS.R.map_ok, DS.R.of_some, DS.R.of_none, Option.bind_some, Option.bind_none, Option.map_some, Option.map_none, List.getElem?_cons_zero, List.getElem?_cons_succ, List.getElem?_nil, List.set_cons_zero, List.set_cons_succ, List.length_cons, List.length_nil, List.map_cons, List.map_nil, Option.getD_some, Option.getD_none, List.cons_append, List.nil_append, List.replicate_succ, List.replicate_zero, Nat.reduceAdd, Nat.reduceSub, decide_eq_true_eq, Bool.and_eq_true, Bool.or_eq_true, if_true, if_false, Bool.not_eq_true', Bool.false_eq_true, reduceIte, DS.eqD_int, DS.neD_int, DS.eqD_bl, DS.neD_bl, ne_eq, not_false_eq_true, not_true_eq_false, true_and, and_true, true_or, or_true, false_or, or_false, and_self, Int.reduceEq, Int.reduceAbs, Nat.reduceLT, Int.reduceLT, Int.reduceLE, Int.reduceNeg, Nat.reduceEqDiff, decide_true, decide_false, Bool.not_true, Bool.not_false, F__law_common_ok] <;> rfl) (rt_of (by simp (config := { failIfUnchanged := false }) only [DS.nxS, DS.bkS, DS.ctS, DS.badS, DS.retS, DS.retN, DS.exprS, DS.setS, DS.setL, DS.asgS, DS.gN, DS.gT, DS.gsN, DS.gsC, DS.op1, DS.op2, DS.op1L, DS.op2L, DS.oV, DS.oS, DS.var, DS.cst, DS.deref, DS.derefD, DS.ofL, DS.lstE, DS.evA, DS.tupE, DS.asB, DS.truT, DS.andT, DS.orT, DS.notT, DS.andE, DS.orE, DS.notE, DS.ifE, DS.chn, DS.sl, DS.slL, DS.part, DS.lcE, DS.lcL, DS.itA, DS.itE, DS.itZ, DS.par2, DS.evP, DS.setIx, DS.mutE, DS.lstTok, DS.updTok, DS.shr, DS.callE, DS.callKE, DS.runFn, DS.orL, DS.yesT, DS.noOwn, DS.addD, DS.subD, DS.mulD, DS.divD, DS.modD, DS.powD, DS.negD, DS.ltD, DS.leD, DS.gtD, DS.geD, DS.isN, DS.isntN, DS.notD, DS.ixD, DS.slD, DS.slLs, DS.lenD, DS.absD, DS.intD, DS.tupleD, DS.listL, DS.allD, DS.anyD, DS.sumD, DS.minD, DS.maxD, DS.sortedL, DS.truD, DS.isiD, DS.tyD, DS.gId, DS.wipeE, DS.restE, DS.R.bind_ok, DS.R.bind_exc, DS.R.bind_bad, DS.R.map_ok, DS.R.of_some, DS.R.of_none, Option.bind_some, Option.bind_none, Option.map_some, Option.map_none, List.getElem?_cons_zero, List.getElem?_cons_succ, List.getElem?_nil, List.set_cons_zero, List.set_cons_succ, List.length_cons, List.length_nil, List.map_cons, List.map_nil, Option.getD_some, Option.getD_none, List.cons_append, List.nil_append, List.replicate_succ, List.replicate_zero, Nat.reduceAdd, Nat.reduceSub, decide_eq_true_eq, Bool.and_eq_true, Bool.or_eq_true, if_true, if_false, Bool.not_eq_true', Bool.false_eq_true, reduceIte, DS.eqD_int, DS.neD_int, DS.eqD_bl, DS.neD_bl, ne_eq, not_false_eq_true, not_true_eq_false, true_and, and_true, true_or, or_true, false_or, or_false, and_self, Int.reduceEq, Int.reduceAbs, Nat.reduceLT, Int.reduceLT, Int.reduceLE, Int.reduceNeg, Nat.reduceEqDiff, decide_true, decide_false, Bool.not_true, Bool.not_false, g3, g4, fdiv_pos (show (0 : Int) ≤ (Int.gcd a b : Int) by omega)] <;> rfl)))
theorem prod_loop (sh e3 : DS.Slot) (hp : List Ob) : ∀ (ts : List Int) (u : Int) (e2 : DS.Slot), (∀ t ∈ ts, Sp' t) → e2.isOwn = false → ∃ (e2' : DS.Slot), e2'.isOwn = false ∧
    forL (gN 2) (setS 1 (ifE (asB (op2 gtD (oS 2) (oV (cst (.int 0))))) (op2 mulD (oS 1) (oS 2)) (var 1))) (ts.map .int) ⟨[sh, .v (.int u), e2, e3], hp⟩ = .ok .nx ⟨[sh, .v (.int (u * prodP ts)), e2', e3], hp⟩
  | [], u, e2, _, hq => ⟨e2, hq, by simp [forL, prodP]⟩
  | t :: ts, u, e2, ha, hq => by
    have h1 := ha t List.mem_cons_self
    have h2 : DS.small64 t = true := sm_lit _ (by unfold Sp' at h1; omega)
    by_cases ht : 0 < t
    · obtain ⟨e2', hq', ih⟩ := prod_loop sh e3 hp ts (u * t) (.v (.int t)) (fun x hx => ha x (List.mem_cons_of_mem _ hx)) rfl
      refine ⟨e2', hq', ?_⟩
      have e : u * prodP (t :: ts) = u * t * prodP ts := by simp only [prodP]; rw [if_pos ht, Int.mul_assoc]
      rw [e]
      exact Eq.trans (forL_cons (s1 := ⟨[sh, .v (.int u), .v (.int t), e3], hp⟩) (s2 := ⟨[sh, .v (.int (u * t)), .v (.int t), e3], hp⟩) (by simp (config := { failIfUnchanged := false }) only [DS.nxS, DS.bkS, DS.ctS, DS.badS, DS.retS, DS.retN, DS.exprS, DS.setS, DS.setL, DS.asgS, DS.gN, DS.gT, DS.gsN, DS.gsC, DS.op1, DS.op2, DS.op1L, DS.op2L, DS.oV, DS.oS, DS.var, DS.cst, DS.deref, DS.derefD, DS.ofL, DS.lstE, DS.evA, DS.tupE, DS.asB, DS.truT, DS.andT, DS.orT, DS.notT, DS.andE, DS.orE, DS.notE, DS.ifE, DS.chn, DS.sl, DS.slL, DS.part, DS.lcE, DS.lcL, DS.itA, DS.itE, DS.itZ, DS.par2, DS.evP, DS.setIx, DS.mutE, DS.lstTok, DS.updTok, DS.shr, DS.callE, DS.callKE, DS.runFn, DS.orL, DS.yesT, DS.noOwn, DS.addD, DS.subD, DS.mulD, DS.divD, DS.modD, DS.powD, DS.negD, DS.ltD, DS.leD, DS.gtD, DS.geD, DS.isN, DS.isntN, DS.notD, DS.ixD, DS.slD, DS.slLs, DS.lenD, DS.absD, DS.intD, DS.tupleD, DS.listL, DS.allD, DS.anyD, DS.sumD, DS.minD, DS.maxD, DS.sortedL, DS.truD, DS.isiD, DS.tyD, DS.gId, DS.wipeE, DS.restE, DS.R.bind_ok, DS.R.bind_exc, DS.R.bind_bad, DS.R.map_ok, DS.R.of_some, DS.R.of_none, Option.bind_some, Option.bind_none, Option.map_some, Option.map_none, List.getElem?_cons_zero, List.getElem?_cons_succ, List.getElem?_nil, List.set_cons_zero, List.set_cons_succ, List.length_cons, List.length_nil, List.map_cons, List.map_nil, Option.getD_some, Option.getD_none, List.cons_append, List.nil_append, List.replicate_succ, List.replicate_zero, Nat.reduceAdd, Nat.reduceSub, decide_eq_true_eq, Bool.and_eq_true, Bool.or_eq_true, if_true, if_false, Bool.not_eq_true', Bool.false_eq_true, reduceIte, DS.eqD_int, DS.neD_int, DS.eqD_bl, DS.neD_bl, ne_eq, not_false_eq_true, not_true_eq_false, true_and, and_true, true_or, or_true, false_or, or_false, and_self, Int.reduceEq, Int.reduceAbs, Nat.reduceLT, Int.reduceLT, Int.reduceLE, Int.reduceNeg, Nat.reduceEqDiff, decide_true, decide_false, Bool.not_true, Bool.not_false] <;> rfl) (by simp (config := { failIfUnchanged := false }) only [DS.nxS, DS.bkS, DS.ctS, DS.badS, DS.retS, DS.retN, DS.exprS, DS.setS, DS.setL, DS.asgS, DS.gN, DS.gT, DS.gsN, DS.gsC, DS.op1, DS.op2, DS.op1L, DS.op2L, DS.oV, DS.oS, DS.var, DS.cst, DS.deref, DS.derefD, DS.ofL, DS.lstE, DS.evA, DS.tupE, DS.asB, DS.truT, DS.andT, DS.orT, DS.notT, DS.andE, DS.orE, DS.notE, DS.ifE, DS.chn, DS.sl, DS.slL, DS.part, DS.lcE, DS.lcL, DS.itA, DS.itE, DS.itZ, DS.par2, DS.evP, DS.setIx, DS.mutE, DS.lstTok, DS.updTok, DS.shr, DS.callE, DS.callKE, DS.runFn, DS.orL, DS.yesT, DS.noOwn, DS.addD, DS.subD, DS.mulD, DS.divD, DS.modD, DS.powD, DS.negD, DS.ltD, DS.leD, DS.gtD, DS.geD, DS.isN, DS.isntN, DS.notD, DS.ixD, DS.slD, DS.slLs, DS.lenD, DS.absD, DS.intD, DS.tupleD, DS.listL, DS.allD, DS.anyD, DS.sumD, DS.minD, DS.maxD, DS.sortedL, DS.truD, DS.isiD, DS.tyD, DS.gId, DS.wipeE, DS.restE, DS.R.bind_ok, DS.R.bind_exc, DS.R.bind_bad, DS.R.map_ok, DS.R.of_some, DS.R.of_none, Option.bind_some, Option.bind_none, Option.map_some, Option.map_none, List.getElem?_cons_zero, List.getElem?_cons_succ, List.getElem?_nil, List.set_cons_zero, List.set_cons_succ, List.length_cons, List.length_nil, List.map_cons, List.map_nil, Option.getD_some, Option.getD_none, List.cons_append, List.nil_append, List.replicate_succ, List.replicate_zero, Nat.reduceAdd, Nat.reduceSub, decide_eq_true_eq, Bool.and_eq_true, Bool.or_eq_true, if_true, if_false, Bool.not_eq_true', Bool.false_eq_true, reduceIte, DS.eqD_int, DS.neD_int, DS.eqD_bl, DS.neD_bl, ne_eq, not_false_eq_true, not_true_eq_false, true_and, and_true, true_or, or_true, false_or, or_false, and_self, Int.reduceEq, Int.reduceAbs, Nat.reduceLT, Int.reduceLT, Int.reduceLE, Int.reduceNeg, Nat.reduceEqDiff, decide_true, decide_false, Bool.not_true, Bool.not_false, ht, h2] <;> rfl)) ih
    · obtain ⟨e2', hq', ih⟩ := prod_loop sh e3 hp ts u (.v (.int t)) (fun x hx => ha x (List.mem_cons_of_mem _ hx)) rfl
      refine ⟨e2', hq', ?_⟩
      have e : u * prodP (t :: ts) = u * prodP ts := by simp only [prodP]; rw [if_neg ht, Int.one_mul]
      rw [e]
      exact Eq.trans (forL_cons (s1 := ⟨[sh, .v (.int u), .v (.int t), e3], hp⟩) (s2 := ⟨[sh, .v (.int u), .v (.int t), e3], hp⟩) (by simp (config := { failIfUnchanged := false }) only [DS.nxS, DS.bkS, DS.ctS, DS.badS, DS.retS, DS.retN, DS.exprS, DS.setS, DS.setL, DS.asgS, DS.gN, DS.gT, DS.gsN, DS.gsC, DS.op1, DS.op2, DS.op1L, DS.op2L, DS.oV, DS.oS, DS.var, DS.cst, DS.deref, DS.derefD, DS.ofL, DS.lstE, DS.evA, DS.tupE, DS.asB, DS.truT, DS.andT, DS.orT, DS.notT, DS.andE, DS.orE, DS.notE, DS.ifE, DS.chn, DS.sl, DS.slL, DS.part, DS.lcE, DS.lcL, DS.itA, DS.itE, DS.itZ, DS.par2, DS.evP, DS.setIx, DS.mutE, DS.lstTok, DS.updTok, DS.shr, DS.callE, DS.callKE, DS.runFn, DS.orL, DS.yesT, DS.noOwn, DS.addD, DS.subD, DS.mulD, DS.divD, DS.modD, DS.powD, DS.negD, DS.ltD, DS.leD, DS.gtD, DS.geD, DS.isN, DS.isntN, DS.notD, DS.ixD, DS.slD, DS.slLs, DS.lenD, DS.absD, DS.intD, DS.tupleD, DS.listL, DS.allD, DS.anyD, DS.sumD, DS.minD, DS.maxD, DS.sortedL, DS.truD, DS.isiD, DS.tyD, DS.gId, DS.wipeE, DS.restE, DS.R.bind_ok, DS.R.bind_exc, DS.R.bind_bad, DS.R.map_ok, DS.R.of_some, DS.R.of_none, Option.bind_some, Option.bind_none, Option.map_some, Option.map_none, List.getElem?_cons_zero, List.getElem?_cons_succ, List.getElem?_nil, List.set_cons_zero, List.set_cons_succ, List.length_cons, List.length_nil, List.map_cons, List.map_nil, Option.getD_some, Option.getD_none, List.cons_append, List.nil_append, List.replicate_succ, List.replicate_zero, Nat.reduceAdd, Nat.reduceSub, decide_eq_true_eq, Bool.and_eq_true, Bool.or_eq_true, if_true, if_false, Bool.not_eq_true', Bool.false_eq_true, reduceIte, DS.eqD_int, DS.neD_int, DS.eqD_bl, DS.neD_bl, ne_eq, not_false_eq_true, not_true_eq_false, true_and, and_true, true_or, or_true, false_or, or_false, and_self, Int.reduceEq, Int.reduceAbs, Nat.reduceLT, Int.reduceLT, Int.reduceLE, Int.reduceNeg, Nat.reduceEqDiff, decide_true, decide_false, Bool.not_true, Bool.not_false] <;> rfl) (by simp (config := { failIfUnchanged := false }) only [DS.nxS, DS.bkS, DS.ctS, DS.badS, DS.retS, DS.retN, DS.exprS, DS.setS, DS.setL, DS.asgS, DS.gN, DS.gT, DS.gsN, DS.gsC, DS.op1, DS.op2, DS.op1L, DS.op2L, DS.oV, DS.oS, DS.var, DS.cst, DS.deref, DS.derefD, DS.ofL, DS.lstE, DS.evA, DS.tupE, DS.asB, DS.truT, DS.andT, DS.orT, DS.notT, DS.andE, DS.orE, DS.notE, DS.ifE, DS.chn, DS.sl, DS.slL, DS.part, DS.lcE, DS.lcL, DS.itA, DS.itE, DS.itZ, DS.par2, DS.evP, DS.setIx, DS.mutE, DS.lstTok, DS.updTok, DS.shr, DS.callE, DS.callKE, DS.runFn, DS.orL, DS.yesT, DS.noOwn, DS.addD, DS.subD, DS.mulD, DS.divD, DS.modD, DS.powD, DS.negD, DS.ltD, DS.leD, DS.gtD, DS.geD, DS.isN, DS.isntN, DS.notD, DS.ixD, DS.slD, DS.slLs, DS.lenD, DS.absD, DS.intD, DS.tupleD, DS.listL, DS.allD, DS.anyD, DS.sumD, DS.minD, DS.maxD, DS.sortedL, DS.truD, DS.isiD, DS.tyD, DS.gId, DS.wipeE, DS.restE, DS.R.bind_ok, DS.R.bind_exc, DS.R.bind_bad, DS.R.map_ok, DS.R.of_some, DS.R.of_none, Option.bind_some, Option.bind_none, Option.map_some, Option.map_none, List.getElem?_cons_zero, List.getElem?_cons_succ, List.getElem?_nil, List.set_cons_zero, List.set_cons_succ, List.length_cons, List.length_nil, List.map_cons, List.map_nil, Option.getD_some, Option.getD_none, List.cons_append, List.nil_append, List.replicate_succ, List.replicate_zero, Nat.reduceAdd, Nat.reduceSub, decide_eq_true_eq, Bool.and_eq_true, Bool.or_eq_true, if_true, if_false, Bool.not_eq_true', Bool.false_eq_true, reduceIte, DS.eqD_int, DS.neD_int, DS.eqD_bl, DS.neD_bl, ne_eq, not_false_eq_true, not_true_eq_false, true_and, and_true, true_or, or_true, false_or, or_false, and_self, Int.reduceEq, Int.reduceAbs, Nat.reduceLT, Int.reduceLT, Int.reduceLE, Int.reduceNeg, Nat.reduceEqDiff, decide_true, decide_false, Bool.not_true, Bool.not_false, ht] <;> rfl)) ih
/-- the parts of the positive ones -/
def parts (U : Int) : List Int → List Int
  | [] => []
  | t :: ts => if 0 < t then U / t :: parts U ts else parts U ts
theorem parts_len (U : Int) : ∀ ts, (parts U ts).length ≤ ts.length
  | [] => Nat.le_refl _
  | t :: ts => by
    have := parts_len U ts
    simp only [parts]
    split <;> simp only [List.length_cons] <;> omega
theorem parts_loop (sh e3 : DS.Slot) (hp : List Ob) (U : Int) : ∀ (ts : List Int) (acc : List D), acc.length + ts.length < 1000 → (∀ t ∈ ts, Sp' t) →
    lcL (gN 2) [2] (asB (op2 gtD (oS 2) (oV (cst (.int 0))))) (op2 divD (oS 1) (oS 2)) (ts.map .int) acc ⟨[sh, .v (.int U), .un, e3], hp⟩ = .ok (acc ++ (parts U ts).map .int) ⟨[sh, .v (.int U), .un, e3], hp⟩
  | [], acc, _, _ => by simp [lcL, parts]
  | t :: ts, acc, h, ha => by
    simp only [List.length_cons] at h
    have h1 := ha t List.mem_cons_self
    by_cases ht : 0 < t
    · have h2 : t ≠ 0 := by omega
      have h3 : t.natAbs < 1073741824 := by unfold Sp' at h1; omega
      refine Eq.trans (lcL_cons (s1 := ⟨[sh, .v (.int U), .v (.int t), e3], hp⟩) (s2 := ⟨[sh, .v (.int U), .v (.int t), e3], hp⟩) (y := .int (U / t)) (s3 := ⟨[sh, .v (.int U), .v (.int t), e3], hp⟩) (by simp (config := { failIfUnchanged := false }) only [DS.nxS, DS.bkS, DS.ctS, DS.badS, DS.retS, DS.retN, DS.exprS, DS.setS, DS.setL, DS.asgS, DS.gN, DS.gT, DS.gsN, DS.gsC, DS.op1, DS.op2, DS.op1L, DS.op2L, DS.oV, DS.oS, DS.var, DS.cst, DS.deref, DS.derefD, DS.ofL, DS.lstE, DS.evA, DS.tupE, DS.asB, DS.truT, DS.andT, DS.orT, DS.notT, DS.andE, DS.orE, DS.notE, DS.ifE, DS.chn, DS.sl, DS.slL, DS.part, DS.lcE, DS.lcL, DS.itA, DS.itE, DS.itZ, DS.par2, DS.evP, DS.setIx, DS.mutE, DS.lstTok, DS.updTok, DS.shr, DS.callE, DS.callKE, DS.runFn, DS.orL, DS.yesT, DS.noOwn, DS.addD, DS.subD, DS.mulD, DS.divD, DS.modD, DS.powD, DS.negD, DS.ltD, DS.leD, DS.gtD, DS.geD, DS.isN, DS.isntN, DS.notD, DS.ixD, DS.slD, DS.slLs, DS.lenD, DS.absD, DS.intD, DS.tupleD, DS.listL, DS.allD, DS.anyD, DS.sumD, DS.minD, DS.maxD, DS.sortedL, DS.truD, DS.isiD, DS.tyD, DS.gId, DS.wipeE, DS.restE, DS.R.bind_ok, DS.R.bind_exc, DS.R.bind_bad, DS.R.map_ok, DS.R.of_some, DS.R.of_none, Option.bind_some, Option.bind_none, Option.map_some, Option.map_none, List.getElem?_cons_zero, List.getElem?_cons_succ, List.getElem?_nil, List.set_cons_zero, List.set_cons_succ, List.length_cons, List.length_nil, List.map_cons, List.map_nil, Option.getD_some, Option.getD_none, List.cons_append, List.nil_append, List.replicate_succ, List.replicate_zero, Nat.reduceAdd, Nat.reduceSub, decide_eq_true_eq, Bool.and_eq_true, Bool.or_eq_true, if_true, if_false, Bool.not_eq_true', Bool.false_eq_true, reduceIte, DS.eqD_int, DS.neD_int, DS.eqD_bl, DS.neD_bl, ne_eq, not_false_eq_true, not_true_eq_false, true_and, and_true, true_or, or_true, false_or, or_false, and_self, Int.reduceEq, Int.reduceAbs, Nat.reduceLT, Int.reduceLT, Int.reduceLE, Int.reduceNeg, Nat.reduceEqDiff, decide_true, decide_false, Bool.not_true, Bool.not_false] <;> rfl) (by simp (config := { failIfUnchanged := false }) only [DS.nxS, DS.bkS, DS.ctS, DS.badS, DS.retS, DS.retN, DS.exprS, DS.setS, DS.setL, DS.asgS, DS.gN, DS.gT, DS.gsN, DS.gsC, DS.op1, DS.op2, DS.op1L, DS.op2L, DS.oV, DS.oS, DS.var, DS.cst, DS.deref, DS.derefD, DS.ofL, DS.lstE, DS.evA, DS.tupE, DS.asB, DS.truT, DS.andT, DS.orT, DS.notT, DS.andE, DS.orE, DS.notE, DS.ifE, DS.chn, DS.sl, DS.slL, DS.part, DS.lcE, DS.lcL, DS.itA, DS.itE, DS.itZ, DS.par2, DS.evP, DS.setIx, DS.mutE, DS.lstTok, DS.updTok, DS.shr, DS.callE, DS.callKE, DS.runFn, DS.orL, DS.yesT, DS.noOwn, DS.addD, DS.subD, DS.mulD, DS.divD, DS.modD, DS.powD, DS.negD, DS.ltD, DS.leD, DS.gtD, DS.geD, DS.isN, DS.isntN, DS.notD, DS.ixD, DS.slD, DS.slLs, DS.lenD, DS.absD, DS.intD, DS.tupleD, DS.listL, DS.allD, DS.anyD, DS.sumD, DS.minD, DS.maxD, DS.sortedL, DS.truD, DS.isiD, DS.tyD, DS.gId, DS.wipeE, DS.restE, DS.R.bind_ok, DS.R.bind_exc, DS.R.bind_bad, DS.R.map_ok, DS.R.of_some, DS.R.of_none, Option.bind_some, Option.bind_none, Option.map_some, Option.map_none, List.getElem?_cons_zero, List.getElem?_cons_succ, List.getElem?_nil, List.set_cons_zero, List.set_cons_succ, List.length_cons, List.length_nil, List.map_cons, List.map_nil, Option.getD_some, Option.getD_none, List.cons_append, List.nil_append, List.replicate_succ, List.replicate_zero, Nat.reduceAdd, Nat.reduceSub, decide_eq_true_eq, Bool.and_eq_true, Bool.or_eq_true, if_true, if_false, Bool.not_eq_true', Bool.false_eq_true, reduceIte, DS.eqD_int, DS.neD_int, DS.eqD_bl, DS.neD_bl, ne_eq, not_false_eq_true, not_true_eq_false, true_and, and_true, true_or, or_true, false_or, or_false, and_self, Int.reduceEq, Int.reduceAbs, Nat.reduceLT, Int.reduceLT, Int.reduceLE, Int.reduceNeg, Nat.reduceEqDiff, decide_true, decide_false, Bool.not_true, Bool.not_false, ht] <;> rfl) (by simp (config := { failIfUnchanged := false }) only [DS.nxS, DS.bkS, DS.ctS, DS.badS, DS.retS, DS.retN, DS.exprS, DS.setS, DS.setL, DS.asgS, DS.gN, DS.gT, DS.gsN, DS.gsC, DS.op1, DS.op2, DS.op1L, DS.op2L, DS.oV, DS.oS, DS.var, DS.cst, DS.deref, DS.derefD, DS.ofL, DS.lstE, DS.evA, DS.tupE, DS.asB, DS.truT, DS.andT, DS.orT, DS.notT, DS.andE, DS.orE, DS.notE, DS.ifE, DS.chn, DS.sl, DS.slL, DS.part, DS.lcE, DS.lcL, DS.itA, DS.itE, DS.itZ, DS.par2, DS.evP, DS.setIx, DS.mutE, DS.lstTok, DS.updTok, DS.shr, DS.callE, DS.callKE, DS.runFn, DS.orL, DS.yesT, DS.noOwn, DS.addD, DS.subD, DS.mulD, DS.divD, DS.modD, DS.powD, DS.negD, DS.ltD, DS.leD, DS.gtD, DS.geD, DS.isN, DS.isntN, DS.notD, DS.ixD, DS.slD, DS.slLs, DS.lenD, DS.absD, DS.intD, DS.tupleD, DS.listL, DS.allD, DS.anyD, DS.sumD, DS.minD, DS.maxD, DS.sortedL, DS.truD, DS.isiD, DS.tyD, DS.gId, DS.wipeE, DS.restE, DS.R.bind_ok, DS.R.bind_exc, DS.R.bind_bad, DS.R.map_ok, DS.R.of_some, DS.R.of_none, Option.bind_some, Option.bind_none, Option.map_some, Option.map_none, List.getElem?_cons_zero, List.getElem?_cons_succ, List.getElem?_nil, List.set_cons_zero, List.set_cons_succ, List.length_cons, List.length_nil, List.map_cons, List.map_nil, Option.getD_some, Option.getD_none, List.cons_append, List.nil_append, List.replicate_succ, List.replicate_zero, Nat.reduceAdd, Nat.reduceSub, decide_eq_true_eq, Bool.and_eq_true, Bool.or_eq_true, if_true, if_false, Bool.not_eq_true', Bool.false_eq_true, reduceIte, DS.eqD_int, DS.neD_int, DS.eqD_bl, DS.neD_bl, ne_eq, not_false_eq_true, not_true_eq_false, true_and, and_true, true_or, or_true, false_or, or_false, and_self, Int.reduceEq, Int.reduceAbs, Nat.reduceLT, Int.reduceLT, Int.reduceLE, Int.reduceNeg, Nat.reduceEqDiff, decide_true, decide_false, Bool.not_true, Bool.not_false, h2, h3, fdiv_pos (show (0 : Int) ≤ t by omega)] <;> rfl) (by unfold LIM; omega)) ?_
      refine Eq.trans (parts_loop sh e3 hp U ts (acc ++ [.int (U / t)]) (by simp; omega) fun x hx => ha x (List.mem_cons_of_mem _ hx)) ?_
      simp only [parts]
      rw [if_pos ht, List.append_assoc]
      rfl
    · refine Eq.trans (lcL_skip (s1 := ⟨[sh, .v (.int U), .v (.int t), e3], hp⟩) (s2 := ⟨[sh, .v (.int U), .v (.int t), e3], hp⟩) (by simp (config := { failIfUnchanged := false }) only [DS.nxS, DS.bkS, DS.ctS, DS.badS, DS.retS, DS.retN, DS.exprS, DS.setS, DS.setL, DS.asgS, DS.gN, DS.gT, DS.gsN, DS.gsC, DS.op1, DS.op2, DS.op1L, DS.op2L, DS.oV, DS.oS, DS.var, DS.cst, DS.deref, DS.derefD, DS.ofL, DS.lstE, DS.evA, DS.tupE, DS.asB, DS.truT, DS.andT, DS.orT, DS.notT, DS.andE, DS.orE, DS.notE, DS.ifE, DS.chn, DS.sl, DS.slL, DS.part, DS.lcE, DS.lcL, DS.itA, DS.itE, DS.itZ, DS.par2, DS.evP, DS.setIx, DS.mutE, DS.lstTok, DS.updTok, DS.shr, DS.callE, DS.callKE, DS.runFn, DS.orL, DS.yesT, DS.noOwn, DS.addD, DS.subD, DS.mulD, DS.divD, DS.modD, DS.powD, DS.negD, DS.ltD, DS.leD, DS.gtD, DS.geD, DS.isN, DS.isntN, DS.notD, DS.ixD, DS.slD, DS.slLs, DS.lenD, DS.absD, DS.intD, DS.tupleD, DS.listL, DS.allD, DS.anyD, DS.sumD, DS.minD, DS.maxD, DS.sortedL, DS.truD, DS.isiD, DS.tyD, DS.gId, DS.wipeE, DS.restE, DS.R.bind_ok, DS.R.bind_exc, DS.R.bind_bad, DS.R.map_ok, DS.R.of_some, DS.R.of_none, Option.bind_some, Option.bind_none, Option.map_some, Option.map_none, List.getElem?_cons_zero, List.getElem?_cons_succ, List.getElem?_nil, List.set_cons_zero, List.set_cons_succ, List.length_cons, List.length_nil, List.map_cons, List.map_nil, Option.getD_some, Option.getD_none, List.cons_append, List.nil_append, List.replicate_succ, List.replicate_zero, Nat.reduceAdd, Nat.reduceSub, decide_eq_true_eq, Bool.and_eq_true, Bool.or_eq_true, if_true, if_false, Bool.not_eq_true', Bool.false_eq_true, reduceIte, DS.eqD_int, DS.neD_int, DS.eqD_bl, DS.neD_bl, ne_eq, not_false_eq_true, not_true_eq_false, true_and, and_true, true_or, or_true, false_or, or_false, and_self, Int.reduceEq, Int.reduceAbs, Nat.reduceLT, Int.reduceLT, Int.reduceLE, Int.reduceNeg, Nat.reduceEqDiff, decide_true, decide_false, Bool.not_true, Bool.not_false] <;> rfl) (by simp (config := { failIfUnchanged := false }) only [DS.nxS, DS.bkS, DS.ctS, DS.badS, DS.retS, DS.retN, DS.exprS, DS.setS, DS.setL, DS.asgS, DS.gN, DS.gT, DS.gsN, DS.gsC, DS.op1, DS.op2, DS.op1L, DS.op2L, DS.oV, DS.oS, DS.var, DS.cst, DS.deref, DS.derefD, DS.ofL, DS.lstE, DS.evA, DS.tupE, DS.asB, DS.truT, DS.andT, DS.orT, DS.notT, DS.andE, DS.orE, DS.notE, DS.ifE, DS.chn, DS.sl, DS.slL, DS.part, DS.lcE, DS.lcL, DS.itA, DS.itE, DS.itZ, DS.par2, DS.evP, DS.setIx, DS.mutE, DS.lstTok, DS.updTok, DS.shr, DS.callE, DS.callKE, DS.runFn, DS.orL, DS.yesT, DS.noOwn, DS.addD, DS.subD, DS.mulD, DS.divD, DS.modD, DS.powD, DS.negD, DS.ltD, DS.leD, DS.gtD, DS.geD, DS.isN, DS.isntN, DS.notD, DS.ixD, DS.slD, DS.slLs, DS.lenD, DS.absD, DS.intD, DS.tupleD, DS.listL, DS.allD, DS.anyD, DS.sumD, DS.minD, DS.maxD, DS.sortedL, DS.truD, DS.isiD, DS.tyD, DS.gId, DS.wipeE, DS.restE, DS.R.bind_ok, DS.R.bind_exc, DS.R.bind_bad, DS.R.map_ok, DS.R.of_some, DS.R.of_none, Option.bind_some, Option.bind_none, Option.map_some, Option.map_none, List.getElem?_cons_zero, List.getElem?_cons_succ, List.getElem?_nil, List.set_cons_zero, List.set_cons_succ, List.length_cons, List.length_nil, List.map_cons, List.map_nil, Option.getD_some, Option.getD_none, List.cons_append, List.nil_append, List.replicate_succ, List.replicate_zero, Nat.reduceAdd, Nat.reduceSub, decide_eq_true_eq, Bool.and_eq_true, Bool.or_eq_true, if_true, if_false, Bool.not_eq_true', Bool.false_eq_true, reduceIte, DS.eqD_int, DS.neD_int, DS.eqD_bl, DS.neD_bl, ne_eq, not_false_eq_true, not_true_eq_false, true_and, and_true, true_or, or_true, false_or, or_false, and_self, Int.reduceEq, Int.reduceAbs, Nat.reduceLT, Int.reduceLT, Int.reduceLE, Int.reduceNeg, Nat.reduceEqDiff, decide_true, decide_false, Bool.not_true, Bool.not_false, ht] <;> rfl)) ?_
      refine Eq.trans (parts_loop sh e3 hp U ts acc (by omega) fun x hx => ha x (List.mem_cons_of_mem _ hx)) ?_
      simp only [parts]
      rw [if_neg ht]
theorem parts_sum (h U : Int) : ∀ ts : List Int, (2 - 2 * h - (ts.length : Int)) * U + (parts U ts).sum = ovr h U ts
  | [] => by simp [parts, ovr]
  | t :: ts => by
    have ih := parts_sum h U ts
    simp only [ovr, parts, wt, List.length_cons]
    rw [← ih]
    have e : (2 - 2 * h - ((ts.length + 1 : Nat) : Int)) * U = (2 - 2 * h - (ts.length : Int)) * U - U := by
      rw [show (2 - 2 * h - ((ts.length + 1 : Nat) : Int)) = (2 - 2 * h - (ts.length : Int)) - 1 by omega, Int.sub_mul, Int.one_mul]
    rw [e]
    split
    · rw [List.sum_cons]
      omega
    · omega
theorem sp12 {ts : List Int} (h : ∀ t ∈ ts, Sp' t) : ∀ t ∈ ts, t ≤ 12 := fun t ht => by
  have := h t ht
  unfold Sp' at this
  omega
theorem law_share_ok {h : Int} {ts : List Int} (v : Vs h ts) (hp : List Ob) : F__law_share [shD h ts] hp = .ok (.tup [.int (shr h ts).1, .int (shr h ts).2]) hp := by
  obtain ⟨e2, hq, l1⟩ := prod_loop (.v (shD h ts)) .un hp ts 1 .un v.a rfl
  rw [Int.one_mul] at l1
  have hP := prodP_pos ts
  have hl := v.l
  have hPl : prodP ts < 1073741824 := by
    have h1 := prodP_le (sp12 v.a)
    have h2 := pow12 v.l
    omega
  have hs : DS.small64 (2 - 2 * h - (ts.length : Int)) = true := sm_lit _ (by have := v.h0; have := v.h5; omega)
  have hs2 : DS.small64 2 = true := by decide
  have e : lcE (itA (op2 ixD (oS 0) (oV (cst (.int 1))))) (gN 2) [2] (asB (op2 gtD (oS 2) (oV (cst (.int 0))))) (op2 divD (oS 1) (oS 2)) ⟨[.v (shD h ts), .v (.int (prodP ts)), e2, .un], hp⟩ = .ok ((parts (prodP ts) ts).map .int) ⟨[.v (shD h ts), .v (.int (prodP ts)), e2, .un], hp⟩ :=
    lcE_of (s1 := ⟨[.v (shD h ts), .v (.int (prodP ts)), e2, .un], hp⟩) (s2 := ⟨[.v (shD h ts), .v (.int (prodP ts)), .un, .un], hp⟩) (by simp (config := { failIfUnchanged := false }) only [DS.nxS, DS.bkS, DS.ctS, DS.badS, DS.retS, DS.retN, DS.exprS, DS.setS, DS.setL, DS.asgS, DS.gN, DS.gT, DS.gsN, DS.gsC, DS.op1, DS.op2, DS.op1L, DS.op2L, DS.oV, DS.oS, DS.var, DS.cst, DS.deref, DS.derefD, DS.ofL, DS.lstE, DS.evA, DS.tupE, DS.asB, DS.truT, DS.andT, DS.orT, DS.notT, DS.andE, DS.orE, DS.notE, DS.ifE, DS.chn, DS.sl, DS.slL, DS.part, DS.lcE, DS.lcL, DS.itA, DS.itE, DS.itZ, DS.par2, DS.evP, DS.setIx, DS.mutE, DS.lstTok, DS.updTok, DS.shr, DS.callE, DS.callKE, DS.runFn, DS.orL, DS.yesT, DS.noOwn, DS.addD, DS.subD, DS.mulD, DS.divD, DS.modD, DS.powD, DS.negD, DS.ltD, DS.leD, DS.gtD, DS.geD, DS.isN, DS.isntN, DS.notD, DS.ixD, DS.slD, DS.slLs, DS.lenD, DS.absD, DS.intD, DS.tupleD, DS.listL, DS.allD, DS.anyD, DS.sumD, DS.minD, DS.maxD, DS.sortedL, DS.truD, DS.isiD, DS.tyD, DS.gId, DS.wipeE, DS.restE, DS.R.bind_ok, DS.R.bind_exc, DS.R.bind_bad, DS.R.map_ok, DS.R.of_some, DS.R.of_none, Option.bind_some, Option.bind_none, Option.map_some, Option.map_none, List.getElem?_cons_zero, List.getElem?_cons_succ, List.getElem?_nil, List.set_cons_zero, List.set_cons_succ, List.length_cons, List.length_nil, List.map_cons, List.map_nil, Option.getD_some, Option.getD_none, List.cons_append, List.nil_append, List.replicate_succ, List.replicate_zero, Nat.reduceAdd, Nat.reduceSub, decide_eq_true_eq, Bool.and_eq_true, Bool.or_eq_true, if_true, if_false, Bool.not_eq_true', Bool.false_eq_true, reduceIte, DS.eqD_int, DS.neD_int, DS.eqD_bl, DS.neD_bl, ne_eq, not_false_eq_true, not_true_eq_false, true_and, and_true, true_or, or_true, false_or, or_false, and_self, Int.reduceEq, Int.reduceAbs, Nat.reduceLT, Int.reduceLT, Int.reduceLE, Int.reduceNeg, Nat.reduceEqDiff, decide_true, decide_false, Bool.not_true, Bool.not_false, atI1] <;> rfl) (by simp [noOwn, hq]) (parts_loop _ _ hp _ ts [] (by simp; omega) v.a)
  have eo := parts_sum h (prodP ts) ts
  unfold F__law_share B__law_share
  refine fn_rt (sq_nx (s1 := ⟨[.v (shD h ts), .v (.int 1), .un, .un], hp⟩) (by simp (config := { failIfUnchanged := false }) only [DS.nxS, DS.bkS, DS.ctS, DS.badS, DS.retS, DS.retN, DS.exprS, DS.setS, DS.setL, DS.asgS, DS.gN, DS.gT, DS.gsN, DS.gsC, DS.op1, DS.op2, DS.op1L, DS.op2L, DS.oV, DS.oS, DS.var, DS.cst, DS.deref, DS.derefD, DS.ofL, DS.lstE, DS.evA, DS.tupE, DS.asB, DS.truT, DS.andT, DS.orT, DS.notT, DS.andE, DS.orE, DS.notE, DS.ifE, DS.chn, DS.sl, DS.slL, DS.part, DS.lcE, DS.lcL, DS.itA, DS.itE, DS.itZ, DS.par2, DS.evP, DS.setIx, DS.mutE, DS.lstTok, DS.updTok, DS.shr, DS.callE, DS.callKE, DS.runFn, DS.orL, DS.yesT, DS.noOwn, DS.addD, DS.subD, DS.mulD, DS.divD, DS.modD, DS.powD, DS.negD, DS.ltD, DS.leD, DS.gtD, DS.geD, DS.isN, DS.isntN, DS.notD, DS.ixD, DS.slD, DS.slLs, DS.lenD, DS.absD, DS.intD, DS.tupleD, DS.listL, DS.allD, DS.anyD, DS.sumD, DS.minD, DS.maxD, DS.sortedL, DS.truD, DS.isiD, DS.tyD, DS.gId, DS.wipeE, DS.restE, DS.R.bind_ok, DS.R.bind_exc, DS.R.bind_bad, DS.R.map_ok, DS.R.of_some, DS.R.of_none, Option.bind_some, Option.bind_none, Option.map_some, Option.map_none, List.getElem?_cons_zero, List.getElem?_cons_succ, List.getElem?_nil, List.set_cons_zero, List.set_cons_succ, List.length_cons, List.length_nil, List.map_cons, List.map_nil, Option.getD_some, Option.getD_none, List.cons_append, List.nil_append, List.replicate_succ, List.replicate_zero, Nat.reduceAdd, Nat.reduceSub, decide_eq_true_eq, Bool.and_eq_true, Bool.or_eq_true, if_true, if_false, Bool.not_eq_true', Bool.false_eq_true, reduceIte, DS.eqD_int, DS.neD_int, DS.eqD_bl, DS.neD_bl, ne_eq, not_false_eq_true, not_true_eq_false, true_and, and_true, true_or, or_true, false_or, or_false, and_self, Int.reduceEq, Int.reduceAbs, Nat.reduceLT, Int.reduceLT, Int.reduceLE, Int.reduceNeg, Nat.reduceEqDiff, decide_true, decide_false, Bool.not_true, Bool.not_false] <;> rfl) (sq_nx (for_of (ds := ts.map .int) (s1 := ⟨[.v (shD h ts), .v (.int 1), .un, .un], hp⟩) (by simp (config := { failIfUnchanged := false }) only [DS.nxS, DS.bkS, DS.ctS, DS.badS, DS.retS, DS.retN, DS.exprS, DS.setS, DS.setL, DS.asgS, DS.gN, DS.gT, DS.gsN, DS.gsC, DS.op1, DS.op2, DS.op1L, DS.op2L, DS.oV, DS.oS, DS.var, DS.cst, DS.deref, DS.derefD, DS.ofL, DS.lstE, DS.evA, DS.tupE, DS.asB, DS.truT, DS.andT, DS.orT, DS.notT, DS.andE, DS.orE, DS.notE, DS.ifE, DS.chn, DS.sl, DS.slL, DS.part, DS.lcE, DS.lcL, DS.itA, DS.itE, DS.itZ, DS.par2, DS.evP, DS.setIx, DS.mutE, DS.lstTok, DS.updTok, DS.shr, DS.callE, DS.callKE, DS.runFn, DS.orL, DS.yesT, DS.noOwn, DS.addD, DS.subD, DS.mulD, DS.divD, DS.modD, DS.powD, DS.negD, DS.ltD, DS.leD, DS.gtD, DS.geD, DS.isN, DS.isntN, DS.notD, DS.ixD, DS.slD, DS.slLs, DS.lenD, DS.absD, DS.intD, DS.tupleD, DS.listL, DS.allD, DS.anyD, DS.sumD, DS.minD, DS.maxD, DS.sortedL, DS.truD, DS.isiD, DS.tyD, DS.gId, DS.wipeE, DS.restE, DS.R.bind_ok, DS.R.bind_exc, DS.R.bind_bad, DS.R.map_ok, DS.R.of_some, DS.R.of_none, Option.bind_some, Option.bind_none, Option.map_some, Option.map_none, List.getElem?_cons_zero, List.getElem?_cons_succ, List.getElem?_nil, List.set_cons_zero, List.set_cons_succ, List.length_cons, List.length_nil, List.map_cons, List.map_nil, Option.getD_some, Option.getD_none, List.cons_append, List.nil_append, List.replicate_succ, List.replicate_zero, Nat.reduceAdd, Nat.reduceSub, decide_eq_true_eq, Bool.and_eq_true, Bool.or_eq_true, if_true, if_false, Bool.not_eq_true', Bool.false_eq_true, reduceIte, DS.eqD_int, DS.neD_int, DS.eqD_bl, DS.neD_bl, ne_eq, not_false_eq_true, not_true_eq_false, true_and, and_true, true_or, or_true, false_or, or_false, and_self, Int.reduceEq, Int.reduceAbs, Nat.reduceLT, Int.reduceLT, Int.reduceLE, Int.reduceNeg, Nat.reduceEqDiff, decide_true, decide_false, Bool.not_true, Bool.not_false, atI1] <;> rfl) l1)
    (sq_nx (s1 := ⟨[.v (shD h ts), .v (.int (prodP ts)), e2, .v (.int (ovr h (prodP ts) ts))], hp⟩) ?_ (rt_of (by simp (config := { failIfUnchanged := false }) only [DS.nxS, DS.bkS, DS.ctS, DS.badS, DS.retS, DS.retN, DS.exprS, DS.setS, DS.setL, DS.asgS, DS.gN, DS.gT, DS.gsN, DS.gsC, DS.op1, DS.op2, DS.op1L, DS.op2L, DS.oV, DS.oS, DS.var, DS.cst, DS.deref, DS.derefD, DS.ofL, DS.lstE, DS.evA, DS.tupE, DS.asB, DS.truT, DS.andT, DS.orT, DS.notT, DS.andE, DS.orE, DS.notE, DS.ifE, DS.chn, DS.sl, DS.slL, DS.part, DS.lcE, DS.lcL, DS.itA, DS.itE, DS.itZ, DS.par2, DS.evP, DS.setIx, DS.mutE, DS.lstTok, DS.updTok, DS.shr, DS.callE, DS.callKE, DS.runFn, DS.orL, DS.yesT, DS.noOwn, DS.addD, DS.subD, DS.mulD, DS.divD, DS.modD, DS.powD, DS.negD, DS.ltD, DS.leD, DS.gtD, DS.geD, DS.isN, DS.isntN, DS.notD, DS.ixD, DS.slD, DS.slLs, DS.lenD, DS.absD, DS.intD, DS.tupleD, DS.listL, DS.allD, DS.anyD, DS.sumD, DS.minD, DS.maxD, DS.sortedL, DS.truD, DS.isiD, DS.tyD, DS.gId, DS.wipeE, DS.restE, DS.R.bind_ok, DS.R.bind_exc, DS.R.bind_bad, DS.R.map_ok, DS.R.of_some, DS.R.of_none, Option.bind_some, Option.bind_none, Option.map_some, Option.map_none, List.getElem?_cons_zero, List.getElem?_cons_succ, List.getElem?_nil, List.set_cons_zero, List.set_cons_succ, List.length_cons, List.length_nil, List.map_cons, List.map_nil, Option.getD_some, Option.getD_none, List.cons_append, List.nil_append, List.replicate_succ, List.replicate_zero, Nat.reduceAdd, Nat.reduceSub, decide_eq_true_eq, Bool.and_eq_true, Bool.or_eq_true, if_true, if_false, Bool.not_eq_true', Bool.false_eq_true, reduceIte, DS.eqD_int, DS.neD_int, DS.eqD_bl, DS.neD_bl, ne_eq, not_false_eq_true, not_true_eq_false, true_and, and_true, true_or, or_true, false_or, or_false, and_self, Int.reduceEq, Int.reduceAbs, Nat.reduceLT, Int.reduceLT, Int.reduceLE, Int.reduceNeg, Nat.reduceEqDiff, decide_true, decide_false, Bool.not_true, Bool.not_false, slim_ok _ _ hP hPl] <;> rfl)))))
  generalize lcE (itA (op2 ixD (oS 0) (oV (cst (.int 1))))) (gN 2) [2] (asB (op2 gtD (oS 2) (oV (cst (.int 0))))) (op2 divD (oS 1) (oS 2)) = L at e
  simp (config := { failIfUnchanged := false }) only [DS.nxS, DS.bkS, DS.ctS, DS.badS, DS.retS, DS.retN, DS.exprS, DS.setS, DS.setL, DS.asgS, DS.gN, DS.gT, DS.gsN, DS.gsC, DS.op1, DS.op2, DS.op1L, DS.op2L, DS.oV, DS.oS, DS.var, DS.cst, DS.deref, DS.derefD, DS.ofL, DS.lstE, DS.evA, DS.tupE, DS.asB, DS.truT, DS.andT, DS.orT, DS.notT, DS.andE, DS.orE, DS.notE, DS.ifE, DS.chn, DS.sl, DS.slL, DS.part, DS.lcE, DS.lcL, DS.itA, DS.itE, DS.itZ, DS.par2, DS.evP, DS.setIx, DS.mutE, DS.lstTok, DS.updTok, DS.shr, DS.callE, DS.callKE, DS.runFn, DS.orL, DS.yesT, DS.noOwn, DS.addD, DS.subD, DS.mulD, DS.divD, DS.modD, DS.powD, DS.negD, DS.ltD, DS.leD, DS.gtD, DS.geD, DS.isN, DS.isntN, DS.notD, DS.ixD, DS.slD, DS.slLs, DS.lenD, DS.absD, DS.intD, DS.tupleD, DS.listL, DS.allD, DS.anyD, DS.sumD, DS.minD, DS.maxD, DS.sortedL, DS.truD, DS.isiD, DS.tyD, DS.gId, DS.wipeE, DS.restE, DS.R.bind_ok, DS.R.bind_exc, DS.R.bind_bad, DS.R.map_ok, DS.R.of_some, DS.R.of_none, Option.bind_some, Option.bind_none, Option.map_some, Option.map_none, List.getElem?_cons_zero, List.getElem?_cons_succ, List.getElem?_nil, List.set_cons_zero, List.set_cons_succ, List.length_cons, List.length_nil, List.map_cons, List.map_nil, Option.getD_some, Option.getD_none, List.cons_append, List.nil_append, List.replicate_succ, List.replicate_zero, Nat.reduceAdd, Nat.reduceSub, decide_eq_true_eq, Bool.and_eq_true, Bool.or_eq_true, if_true, if_false, Bool.not_eq_true', Bool.false_eq_true, reduceIte, DS.eqD_int, DS.neD_int, DS.eqD_bl, DS.neD_bl, ne_eq, not_false_eq_true, not_true_eq_false, true_and, and_true, true_or, or_true, false_or, or_false, and_self, Int.reduceEq, Int.reduceAbs, Nat.reduceLT, Int.reduceLT, Int.reduceLE, Int.reduceNeg, Nat.reduceEqDiff, decide_true, decide_false, Bool.not_true, Bool.not_false, atI0, atI1, hs, hs2, List.length_map, e, toInts_map, eo]
/-! ### odd ones, kinds, sizes -/
def oddB (h : Int) (ts : List Int) : Bool := decide (h = 0) && match ts with
  | [_] => true
  | [a, b] => !decide (a = b)
  | _ => false
def kindS (h : Int) (ts : List Int) : Str := if oddB h ts = true then "odd" else if 0 < (shr h ts).1 then "finite" else if (shr h ts).1 = 0 then "flat" else "bent"
def sizeD (h : Int) (ts : List Int) : D := if oddB h ts = true then (match ts with
  | [a, b] => .int (Int.gcd a b)
  | _ => .int 1) else if 0 < (shr h ts).1 then .int (2 * (shr h ts).2 / (shr h ts).1) else .non
theorem len3 {a b c : Int} {ts : List Int} : ¬ (((a :: b :: c :: ts).length : Int) = 1) ∧ ¬ (((a :: b :: c :: ts).length : Int) = 2) := by simp only [List.length_cons]; omega
theorem law_odd_ok (h : Int) (ts : List Int) (hp : List Ob) : F__law_odd [shD h ts] hp = .ok (.bl (oddB h ts)) hp := by
  unfold F__law_odd B__law_odd
  refine fn_rt (rt_of (s1 := ⟨[.v (shD h ts)], hp⟩) ?_)
  by_cases h0 : h = 0
  · match ts with
    | [] => simp (config := { failIfUnchanged := false }) only [DS.nxS, DS.bkS, DS.ctS, DS.badS, DS.retS, DS.retN, DS.exprS, DS.setS, DS.setL, DS.asgS, DS.gN, DS.gT, DS.gsN, DS.gsC, DS.op1, DS.op2, DS.op1L, DS.op2L, DS.oV, DS.oS, DS.var, DS.cst, DS.deref, DS.derefD, DS.ofL, DS.lstE, DS.evA, DS.tupE, DS.asB, DS.truT, DS.andT, DS.orT, DS.notT, DS.andE, DS.orE, DS.notE, DS.ifE, DS.chn, DS.sl, DS.slL, DS.part, DS.lcE, DS.lcL, DS.itA, DS.itE, DS.itZ, DS.par2, DS.evP, DS.setIx, DS.mutE, DS.lstTok, DS.updTok, DS.shr, DS.callE, DS.callKE, DS.runFn, DS.orL, DS.yesT, DS.noOwn, DS.addD, DS.subD, DS.mulD, DS.divD, DS.modD, DS.powD, DS.negD, DS.ltD, DS.leD, DS.gtD, DS.geD, DS.isN, DS.isntN, DS.notD, DS.ixD, DS.slD, DS.slLs, DS.lenD, DS.absD, DS.intD, DS.tupleD, DS.listL, DS.allD, DS.anyD, DS.sumD, DS.minD, DS.maxD, DS.sortedL, DS.truD, DS.isiD, DS.tyD, DS.gId, DS.wipeE, DS.restE, DS.R.bind_ok, DS.R.bind_exc, DS.R.bind_bad, DS.R.map_ok, DS.R.of_some, DS.R.of_none, Option.bind_some, Option.bind_none, Option.map_some, Option.map_none, List.getElem?_cons_zero, List.getElem?_cons_succ, List.getElem?_nil, List.set_cons_zero, List.set_cons_succ, List.length_cons, List.length_nil, List.map_cons, List.map_nil, Option.getD_some, Option.getD_none, List.cons_append, List.nil_append, List.replicate_succ, List.replicate_zero, Nat.reduceAdd, Nat.reduceSub, decide_eq_true_eq, Bool.and_eq_true, Bool.or_eq_true, if_true, if_false, Bool.not_eq_true', Bool.false_eq_true, reduceIte, DS.eqD_int, DS.neD_int, DS.eqD_bl, DS.neD_bl, ne_eq, not_false_eq_true, not_true_eq_false, true_and, and_true, true_or, or_true, false_or, or_false, and_self, Int.reduceEq, Int.reduceAbs, Nat.reduceLT, Int.reduceLT, Int.reduceLE, Int.reduceNeg, Nat.reduceEqDiff, decide_true, decide_false, Bool.not_true, Bool.not_false, atI0, atI1, h0] <;> simp [oddB, h0]
    | [a] => simp (config := { failIfUnchanged := false }) only [DS.nxS, DS.bkS, DS.ctS, DS.badS, DS.retS, DS.retN, DS.exprS, DS.setS, DS.setL, DS.asgS, DS.gN, DS.gT, DS.gsN, DS.gsC, DS.op1, DS.op2, DS.op1L, DS.op2L, DS.oV, DS.oS, DS.var, DS.cst, DS.deref, DS.derefD, DS.ofL, DS.lstE, DS.evA, DS.tupE, DS.asB, DS.truT, DS.andT, DS.orT, DS.notT, DS.andE, DS.orE, DS.notE, DS.ifE, DS.chn, DS.sl, DS.slL, DS.part, DS.lcE, DS.lcL, DS.itA, DS.itE, DS.itZ, DS.par2, DS.evP, DS.setIx, DS.mutE, DS.lstTok, DS.updTok, DS.shr, DS.callE, DS.callKE, DS.runFn, DS.orL, DS.yesT, DS.noOwn, DS.addD, DS.subD, DS.mulD, DS.divD, DS.modD, DS.powD, DS.negD, DS.ltD, DS.leD, DS.gtD, DS.geD, DS.isN, DS.isntN, DS.notD, DS.ixD, DS.slD, DS.slLs, DS.lenD, DS.absD, DS.intD, DS.tupleD, DS.listL, DS.allD, DS.anyD, DS.sumD, DS.minD, DS.maxD, DS.sortedL, DS.truD, DS.isiD, DS.tyD, DS.gId, DS.wipeE, DS.restE, DS.R.bind_ok, DS.R.bind_exc, DS.R.bind_bad, DS.R.map_ok, DS.R.of_some, DS.R.of_none, Option.bind_some, Option.bind_none, Option.map_some, Option.map_none, List.getElem?_cons_zero, List.getElem?_cons_succ, List.getElem?_nil, List.set_cons_zero, List.set_cons_succ, List.length_cons, List.length_nil, List.map_cons, List.map_nil, Option.getD_some, Option.getD_none, List.cons_append, List.nil_append, List.replicate_succ, List.replicate_zero, Nat.reduceAdd, Nat.reduceSub, decide_eq_true_eq, Bool.and_eq_true, Bool.or_eq_true, if_true, if_false, Bool.not_eq_true', Bool.false_eq_true, reduceIte, DS.eqD_int, DS.neD_int, DS.eqD_bl, DS.neD_bl, ne_eq, not_false_eq_true, not_true_eq_false, true_and, and_true, true_or, or_true, false_or, or_false, and_self, Int.reduceEq, Int.reduceAbs, Nat.reduceLT, Int.reduceLT, Int.reduceLE, Int.reduceNeg, Nat.reduceEqDiff, decide_true, decide_false, Bool.not_true, Bool.not_false, atI0, atI1, h0] <;> simp [oddB, h0]
    | [a, b] => simp (config := { failIfUnchanged := false }) only [DS.nxS, DS.bkS, DS.ctS, DS.badS, DS.retS, DS.retN, DS.exprS, DS.setS, DS.setL, DS.asgS, DS.gN, DS.gT, DS.gsN, DS.gsC, DS.op1, DS.op2, DS.op1L, DS.op2L, DS.oV, DS.oS, DS.var, DS.cst, DS.deref, DS.derefD, DS.ofL, DS.lstE, DS.evA, DS.tupE, DS.asB, DS.truT, DS.andT, DS.orT, DS.notT, DS.andE, DS.orE, DS.notE, DS.ifE, DS.chn, DS.sl, DS.slL, DS.part, DS.lcE, DS.lcL, DS.itA, DS.itE, DS.itZ, DS.par2, DS.evP, DS.setIx, DS.mutE, DS.lstTok, DS.updTok, DS.shr, DS.callE, DS.callKE, DS.runFn, DS.orL, DS.yesT, DS.noOwn, DS.addD, DS.subD, DS.mulD, DS.divD, DS.modD, DS.powD, DS.negD, DS.ltD, DS.leD, DS.gtD, DS.geD, DS.isN, DS.isntN, DS.notD, DS.ixD, DS.slD, DS.slLs, DS.lenD, DS.absD, DS.intD, DS.tupleD, DS.listL, DS.allD, DS.anyD, DS.sumD, DS.minD, DS.maxD, DS.sortedL, DS.truD, DS.isiD, DS.tyD, DS.gId, DS.wipeE, DS.restE, DS.R.bind_ok, DS.R.bind_exc, DS.R.bind_bad, DS.R.map_ok, DS.R.of_some, DS.R.of_none, Option.bind_some, Option.bind_none, Option.map_some, Option.map_none, List.getElem?_cons_zero, List.getElem?_cons_succ, List.getElem?_nil, List.set_cons_zero, List.set_cons_succ, List.length_cons, List.length_nil, List.map_cons, List.map_nil, Option.getD_some, Option.getD_none, List.cons_append, List.nil_append, List.replicate_succ, List.replicate_zero, Nat.reduceAdd, Nat.reduceSub, decide_eq_true_eq, Bool.and_eq_true, Bool.or_eq_true, if_true, if_false, Bool.not_eq_true', Bool.false_eq_true, reduceIte, DS.eqD_int, DS.neD_int, DS.eqD_bl, DS.neD_bl, ne_eq, not_false_eq_true, not_true_eq_false, true_and, and_true, true_or, or_true, false_or, or_false, and_self, Int.reduceEq, Int.reduceAbs, Nat.reduceLT, Int.reduceLT, Int.reduceLE, Int.reduceNeg, Nat.reduceEqDiff, decide_true, decide_false, Bool.not_true, Bool.not_false, atI0, atI1, h0] <;> simp [oddB, h0]
    | a :: b :: c :: ts =>
      have h1 := (len3 (a := a) (b := b) (c := c) (ts := ts)).1
      have h2 := (len3 (a := a) (b := b) (c := c) (ts := ts)).2
      simp only [List.length_cons] at h1 h2
      simp (config := { failIfUnchanged := false }) only [DS.nxS, DS.bkS, DS.ctS, DS.badS, DS.retS, DS.retN, DS.exprS, DS.setS, DS.setL, DS.asgS, DS.gN, DS.gT, DS.gsN, DS.gsC, DS.op1, DS.op2, DS.op1L, DS.op2L, DS.oV, DS.oS, DS.var, DS.cst, DS.deref, DS.derefD, DS.ofL, DS.lstE, DS.evA, DS.tupE, DS.asB, DS.truT, DS.andT, DS.orT, DS.notT, DS.andE, DS.orE, DS.notE, DS.ifE, DS.chn, DS.sl, DS.slL, DS.part, DS.lcE, DS.lcL, DS.itA, DS.itE, DS.itZ, DS.par2, DS.evP, DS.setIx, DS.mutE, DS.lstTok, DS.updTok, DS.shr, DS.callE, DS.callKE, DS.runFn, DS.orL, DS.yesT, DS.noOwn, DS.addD, DS.subD, DS.mulD, DS.divD, DS.modD, DS.powD, DS.negD, DS.ltD, DS.leD, DS.gtD, DS.geD, DS.isN, DS.isntN, DS.notD, DS.ixD, DS.slD, DS.slLs, DS.lenD, DS.absD, DS.intD, DS.tupleD, DS.listL, DS.allD, DS.anyD, DS.sumD, DS.minD, DS.maxD, DS.sortedL, DS.truD, DS.isiD, DS.tyD, DS.gId, DS.wipeE, DS.restE, DS.R.bind_ok, DS.R.bind_exc, DS.R.bind_bad, DS.R.map_ok, DS.R.of_some, DS.R.of_none, Option.bind_some, Option.bind_none, Option.map_some, Option.map_none, List.getElem?_cons_zero, List.getElem?_cons_succ, List.getElem?_nil, List.set_cons_zero, List.set_cons_succ, List.length_cons, List.length_nil, List.map_cons, List.map_nil, Option.getD_some, Option.getD_none, List.cons_append, List.nil_append, List.replicate_succ, List.replicate_zero, Nat.reduceAdd, Nat.reduceSub, decide_eq_true_eq, Bool.and_eq_true, Bool.or_eq_true, if_true, if_false, Bool.not_eq_true', Bool.false_eq_true, reduceIte, DS.eqD_int, DS.neD_int, DS.eqD_bl, DS.neD_bl, ne_eq, not_false_eq_true, not_true_eq_false, true_and, and_true, true_or, or_true, false_or, or_false, and_self, Int.reduceEq, Int.reduceAbs, Nat.reduceLT, Int.reduceLT, Int.reduceLE, Int.reduceNeg, Nat.reduceEqDiff, decide_true, decide_false, Bool.not_true, Bool.not_false, atI0, atI1, h0, List.length_map, h1, h2] <;> simp [oddB, h0]
  · simp (config := { failIfUnchanged := false }) only [DS.nxS, DS.bkS, DS.ctS, DS.badS, DS.retS, DS.retN, DS.exprS, DS.setS, DS.setL, DS.asgS, DS.gN, DS.gT, DS.gsN, DS.gsC, DS.op1, DS.op2, DS.op1L, DS.op2L, DS.oV, DS.oS, DS.var, DS.cst, DS.deref, DS.derefD, DS.ofL, DS.lstE, DS.evA, DS.tupE, DS.asB, DS.truT, DS.andT, DS.orT, DS.notT, DS.andE, DS.orE, DS.notE, DS.ifE, DS.chn, DS.sl, DS.slL, DS.part, DS.lcE, DS.lcL, DS.itA, DS.itE, DS.itZ, DS.par2, DS.evP, DS.setIx, DS.mutE, DS.lstTok, DS.updTok, DS.shr, DS.callE, DS.callKE, DS.runFn, DS.orL, DS.yesT, DS.noOwn, DS.addD, DS.subD, DS.mulD, DS.divD, DS.modD, DS.powD, DS.negD, DS.ltD, DS.leD, DS.gtD, DS.geD, DS.isN, DS.isntN, DS.notD, DS.ixD, DS.slD, DS.slLs, DS.lenD, DS.absD, DS.intD, DS.tupleD, DS.listL, DS.allD, DS.anyD, DS.sumD, DS.minD, DS.maxD, DS.sortedL, DS.truD, DS.isiD, DS.tyD, DS.gId, DS.wipeE, DS.restE, DS.R.bind_ok, DS.R.bind_exc, DS.R.bind_bad, DS.R.map_ok, DS.R.of_some, DS.R.of_none, Option.bind_some, Option.bind_none, Option.map_some, Option.map_none, List.getElem?_cons_zero, List.getElem?_cons_succ, List.getElem?_nil, List.set_cons_zero, List.set_cons_succ, List.length_cons, List.length_nil, List.map_cons, List.map_nil, Option.getD_some, Option.getD_none, List.cons_append, List.nil_append, List.replicate_succ, List.replicate_zero, Nat.reduceAdd, Nat.reduceSub, decide_eq_true_eq, Bool.and_eq_true, Bool.or_eq_true, if_true, if_false, Bool.not_eq_true', Bool.false_eq_true, reduceIte, DS.eqD_int, DS.neD_int, DS.eqD_bl, DS.neD_bl, ne_eq, not_false_eq_true, not_true_eq_false, true_and, and_true, true_or, or_true, false_or, or_false, and_self, Int.reduceEq, Int.reduceAbs, Nat.reduceLT, Int.reduceLT, Int.reduceLE, Int.reduceNeg, Nat.reduceEqDiff, decide_true, decide_false, Bool.not_true, Bool.not_false, atI0, atI1, h0] <;> simp [oddB, h0]
end L30
namespace L30
open PySem PySem.Spec PyProof.Rows L2 DS
theorem is_odd_in_ok {h : Int} (hh : 0 ≤ h) (ts : List Int) (hp : List Ob) : F_is_odd_in [shD h ts] hp = .ok (.bl (oddB h ts)) hp := by
  unfold F_is_odd_in B_is_odd_in
  by_cases h0 : 0 < h
  · have h1 : h ≠ 0 := by omega
    have e : oddB h ts = false := by simp [oddB, h1]
    rw [e]
    exact fn_rt (sq_rt (if_tt (by simp (config := { failIfUnchanged := false }) only [DS.nxS, DS.bkS, DS.ctS, DS.badS, DS.retS, DS.retN, DS.exprS, DS.setS, DS.setL, DS.asgS, DS.gN, DS.gT, DS.gsN, DS.gsC, DS.op1, DS.op2, DS.op1L, DS.op2L, DS.oV, DS.oS, DS.var, DS.cst, DS.deref, DS.derefD, DS.ofL, DS.lstE, DS.evA, DS.tupE, DS.asB, DS.truT, DS.andT, DS.orT, DS.notT, DS.andE, DS.orE, DS.notE, DS.ifE, DS.chn, DS.sl, DS.slL, DS.part, DS.lcE, DS.lcL, DS.itA, DS.itE, DS.itZ, DS.par2, DS.evP, DS.setIx, DS.mutE, DS.lstTok, DS.updTok, DS.shr, DS.callE, DS.callKE, DS.runFn, DS.orL, DS.yesT, DS.noOwn, DS.addD, DS.subD, DS.mulD, DS.divD, DS.modD, DS.powD, DS.negD, DS.ltD, DS.leD, DS.gtD, DS.geD, DS.isN, DS.isntN, DS.notD, DS.ixD, DS.slD, DS.slLs, DS.lenD, DS.absD, DS.intD, DS.tupleD, DS.listL, DS.allD, DS.anyD, DS.sumD, DS.minD, DS.maxD, DS.sortedL, DS.truD, DS.isiD, DS.tyD, DS.gId, DS.wipeE, DS.restE, DS.R.bind_ok, DS.R.bind_exc, DS.R.bind_bad, DS.R.map_ok, DS.R.of_some, DS.R.of_none, Option.bind_some, Option.bind_none, Option.map_some, Option.map_none, List.getElem?_cons_zero, List.getElem?_cons_succ, List.getElem?_nil, List.set_cons_zero, List.set_cons_succ, List.length_cons, List.length_nil, List.map_cons, List.map_nil, Option.getD_some, Option.getD_none, List.cons_append, List.nil_append, List.replicate_succ, List.replicate_zero, Nat.reduceAdd, Nat.reduceSub, decide_eq_true_eq, Bool.and_eq_true, Bool.or_eq_true, if_true, if_false, Bool.not_eq_true', Bool.false_eq_true, reduceIte, DS.eqD_int, DS.neD_int, DS.eqD_bl, DS.neD_bl, ne_eq, not_false_eq_true, not_true_eq_false, true_and, and_true, true_or, or_true, false_or, or_false, and_self, Int.reduceEq, Int.reduceAbs, Nat.reduceLT, Int.reduceLT, Int.reduceLE, Int.reduceNeg, Nat.reduceEqDiff, decide_true, decide_false, Bool.not_true, Bool.not_false, atI0, h0] <;> rfl) (rt_of (by simp (config := { failIfUnchanged := false }) only [DS.nxS, DS.bkS, DS.ctS, DS.badS, DS.retS, DS.retN, DS.exprS, DS.setS, DS.setL, DS.asgS, DS.gN, DS.gT, DS.gsN, DS.gsC, DS.op1, DS.op2, DS.op1L, DS.op2L, DS.oV, DS.oS, DS.var, DS.cst, DS.deref, DS.derefD, DS.ofL, DS.lstE, DS.evA, DS.tupE, DS.asB, DS.truT, DS.andT, DS.orT, DS.notT, DS.andE, DS.orE, DS.notE, DS.ifE, DS.chn, DS.sl, DS.slL, DS.part, DS.lcE, DS.lcL, DS.itA, DS.itE, DS.itZ, DS.par2, DS.evP, DS.setIx, DS.mutE, DS.lstTok, DS.updTok, DS.shr, DS.callE, DS.callKE, DS.runFn, DS.orL, DS.yesT, DS.noOwn, DS.addD, DS.subD, DS.mulD, DS.divD, DS.modD, DS.powD, DS.negD, DS.ltD, DS.leD, DS.gtD, DS.geD, DS.isN, DS.isntN, DS.notD, DS.ixD, DS.slD, DS.slLs, DS.lenD, DS.absD, DS.intD, DS.tupleD, DS.listL, DS.allD, DS.anyD, DS.sumD, DS.minD, DS.maxD, DS.sortedL, DS.truD, DS.isiD, DS.tyD, DS.gId, DS.wipeE, DS.restE, DS.R.bind_ok, DS.R.bind_exc, DS.R.bind_bad, DS.R.map_ok, DS.R.of_some, DS.R.of_none, Option.bind_some, Option.bind_none, Option.map_some, Option.map_none, List.getElem?_cons_zero, List.getElem?_cons_succ, List.getElem?_nil, List.set_cons_zero, List.set_cons_succ, List.length_cons, List.length_nil, List.map_cons, List.map_nil, Option.getD_some, Option.getD_none, List.cons_append, List.nil_append, List.replicate_succ, List.replicate_zero, Nat.reduceAdd, Nat.reduceSub, decide_eq_true_eq, Bool.and_eq_true, Bool.or_eq_true, if_true, if_false, Bool.not_eq_true', Bool.false_eq_true, reduceIte, DS.eqD_int, DS.neD_int, DS.eqD_bl, DS.neD_bl, ne_eq, not_false_eq_true, not_true_eq_false, true_and, and_true, true_or, or_true, false_or, or_false, and_self, Int.reduceEq, Int.reduceAbs, Nat.reduceLT, Int.reduceLT, Int.reduceLE, Int.reduceNeg, Nat.reduceEqDiff, decide_true, decide_false, Bool.not_true, Bool.not_false] <;> rfl))))
  · have h1 : h = 0 := by omega
    refine fn_rt (sq_nx (if_ff (s1 := ⟨[.v (shD h ts)], hp⟩) (by simp (config := { failIfUnchanged := false }) only [DS.nxS, DS.bkS, DS.ctS, DS.badS, DS.retS, DS.retN, DS.exprS, DS.setS, DS.setL, DS.asgS, DS.gN, DS.gT, DS.gsN, DS.gsC, DS.op1, DS.op2, DS.op1L, DS.op2L, DS.oV, DS.oS, DS.var, DS.cst, DS.deref, DS.derefD, DS.ofL, DS.lstE, DS.evA, DS.tupE, DS.asB, DS.truT, DS.andT, DS.orT, DS.notT, DS.andE, DS.orE, DS.notE, DS.ifE, DS.chn, DS.sl, DS.slL, DS.part, DS.lcE, DS.lcL, DS.itA, DS.itE, DS.itZ, DS.par2, DS.evP, DS.setIx, DS.mutE, DS.lstTok, DS.updTok, DS.shr, DS.callE, DS.callKE, DS.runFn, DS.orL, DS.yesT, DS.noOwn, DS.addD, DS.subD, DS.mulD, DS.divD, DS.modD, DS.powD, DS.negD, DS.ltD, DS.leD, DS.gtD, DS.geD, DS.isN, DS.isntN, DS.notD, DS.ixD, DS.slD, DS.slLs, DS.lenD, DS.absD, DS.intD, DS.tupleD, DS.listL, DS.allD, DS.anyD, DS.sumD, DS.minD, DS.maxD, DS.sortedL, DS.truD, DS.isiD, DS.tyD, DS.gId, DS.wipeE, DS.restE, DS.R.bind_ok, DS.R.bind_exc, DS.R.bind_bad, DS.R.map_ok, DS.R.of_some, DS.R.of_none, Option.bind_some, Option.bind_none, Option.map_some, Option.map_none, List.getElem?_cons_zero, List.getElem?_cons_succ, List.getElem?_nil, List.set_cons_zero, List.set_cons_succ, List.length_cons, List.length_nil, List.map_cons, List.map_nil, Option.getD_some, Option.getD_none, List.cons_append, List.nil_append, List.replicate_succ, List.replicate_zero, Nat.reduceAdd, Nat.reduceSub, decide_eq_true_eq, Bool.and_eq_true, Bool.or_eq_true, if_true, if_false, Bool.not_eq_true', Bool.false_eq_true, reduceIte, DS.eqD_int, DS.neD_int, DS.eqD_bl, DS.neD_bl, ne_eq, not_false_eq_true, not_true_eq_false, true_and, and_true, true_or, or_true, false_or, or_false, and_self, Int.reduceEq, Int.reduceAbs, Nat.reduceLT, Int.reduceLT, Int.reduceLE, Int.reduceNeg, Nat.reduceEqDiff, decide_true, decide_false, Bool.not_true, Bool.not_false, atI0, h0] <;> rfl) (by simp (config := { failIfUnchanged := false }) only [DS.nxS, DS.bkS, DS.ctS, DS.badS, DS.retS, DS.retN, DS.exprS, DS.setS, DS.setL, DS.asgS, DS.gN, DS.gT, DS.gsN, DS.gsC, DS.op1, DS.op2, DS.op1L, DS.op2L, DS.oV, DS.oS, DS.var, DS.cst, DS.deref, DS.derefD, DS.ofL, DS.lstE, DS.evA, DS.tupE, DS.asB, DS.truT, DS.andT, DS.orT, DS.notT, DS.andE, DS.orE, DS.notE, DS.ifE, DS.chn, DS.sl, DS.slL, DS.part, DS.lcE, DS.lcL, DS.itA, DS.itE, DS.itZ, DS.par2, DS.evP, DS.setIx, DS.mutE, DS.lstTok, DS.updTok, DS.shr, DS.callE, DS.callKE, DS.runFn, DS.orL, DS.yesT, DS.noOwn, DS.addD, DS.subD, DS.mulD, DS.divD, DS.modD, DS.powD, DS.negD, DS.ltD, DS.leD, DS.gtD, DS.geD, DS.isN, DS.isntN, DS.notD, DS.ixD, DS.slD, DS.slLs, DS.lenD, DS.absD, DS.intD, DS.tupleD, DS.listL, DS.allD, DS.anyD, DS.sumD, DS.minD, DS.maxD, DS.sortedL, DS.truD, DS.isiD, DS.tyD, DS.gId, DS.wipeE, DS.restE, DS.R.bind_ok, DS.R.bind_exc, DS.R.bind_bad, DS.R.map_ok, DS.R.of_some, DS.R.of_none, Option.bind_some, Option.bind_none, Option.map_some, Option.map_none, List.getElem?_cons_zero, List.getElem?_cons_succ, List.getElem?_nil, List.set_cons_zero, List.set_cons_succ, List.length_cons, List.length_nil, List.map_cons, List.map_nil, Option.getD_some, Option.getD_none, List.cons_append, List.nil_append, List.replicate_succ, List.replicate_zero, Nat.reduceAdd, Nat.reduceSub, decide_eq_true_eq, Bool.and_eq_true, Bool.or_eq_true, if_true, if_false, Bool.not_eq_true', Bool.false_eq_true, reduceIte, DS.eqD_int, DS.neD_int, DS.eqD_bl, DS.neD_bl, ne_eq, not_false_eq_true, not_true_eq_false, true_and, and_true, true_or, or_true, false_or, or_false, and_self, Int.reduceEq, Int.reduceAbs, Nat.reduceLT, Int.reduceLT, Int.reduceLE, Int.reduceNeg, Nat.reduceEqDiff, decide_true, decide_false, Bool.not_true, Bool.not_false] <;> rfl)) (rt_of (s1 := ⟨[.v (shD h ts)], hp⟩) ?_))
    match ts with
    | [] => simp (config := { failIfUnchanged := false }) only [DS.nxS, DS.bkS, DS.ctS, DS.badS, DS.retS, DS.retN, DS.exprS, DS.setS, DS.setL, DS.asgS, DS.gN, DS.gT, DS.gsN, DS.gsC, DS.op1, DS.op2, DS.op1L, DS.op2L, DS.oV, DS.oS, DS.var, DS.cst, DS.deref, DS.derefD, DS.ofL, DS.lstE, DS.evA, DS.tupE, DS.asB, DS.truT, DS.andT, DS.orT, DS.notT, DS.andE, DS.orE, DS.notE, DS.ifE, DS.chn, DS.sl, DS.slL, DS.part, DS.lcE, DS.lcL, DS.itA, DS.itE, DS.itZ, DS.par2, DS.evP, DS.setIx, DS.mutE, DS.lstTok, DS.updTok, DS.shr, DS.callE, DS.callKE, DS.runFn, DS.orL, DS.yesT, DS.noOwn, DS.addD, DS.subD, DS.mulD, DS.divD, DS.modD, DS.powD, DS.negD, DS.ltD, DS.leD, DS.gtD, DS.geD, DS.isN, DS.isntN, DS.notD, DS.ixD, DS.slD, DS.slLs, DS.lenD, DS.absD, DS.intD, DS.tupleD, DS.listL, DS.allD, DS.anyD, DS.sumD, DS.minD, DS.maxD, DS.sortedL, DS.truD, DS.isiD, DS.tyD, DS.gId, DS.wipeE, DS.restE, DS.R.bind_ok, DS.R.bind_exc, DS.R.bind_bad, DS.R.map_ok, DS.R.of_some, DS.R.of_none, Option.bind_some, Option.bind_none, Option.map_some, Option.map_none, List.getElem?_cons_zero, List.getElem?_cons_succ, List.getElem?_nil, List.set_cons_zero, List.set_cons_succ, List.length_cons, List.length_nil, List.map_cons, List.map_nil, Option.getD_some, Option.getD_none, List.cons_append, List.nil_append, List.replicate_succ, List.replicate_zero, Nat.reduceAdd, Nat.reduceSub, decide_eq_true_eq, Bool.and_eq_true, Bool.or_eq_true, if_true, if_false, Bool.not_eq_true', Bool.false_eq_true, reduceIte, DS.eqD_int, DS.neD_int, DS.eqD_bl, DS.neD_bl, ne_eq, not_false_eq_true, not_true_eq_false, true_and, and_true, true_or, or_true, false_or, or_false, and_self, Int.reduceEq, Int.reduceAbs, Nat.reduceLT, Int.reduceLT, Int.reduceLE, Int.reduceNeg, Nat.reduceEqDiff, decide_true, decide_false, Bool.not_true, Bool.not_false, atI0, atI1] <;> simp [oddB, h1]
    | [a] => simp (config := { failIfUnchanged := false }) only [DS.nxS, DS.bkS, DS.ctS, DS.badS, DS.retS, DS.retN, DS.exprS, DS.setS, DS.setL, DS.asgS, DS.gN, DS.gT, DS.gsN, DS.gsC, DS.op1, DS.op2, DS.op1L, DS.op2L, DS.oV, DS.oS, DS.var, DS.cst, DS.deref, DS.derefD, DS.ofL, DS.lstE, DS.evA, DS.tupE, DS.asB, DS.truT, DS.andT, DS.orT, DS.notT, DS.andE, DS.orE, DS.notE, DS.ifE, DS.chn, DS.sl, DS.slL, DS.part, DS.lcE, DS.lcL, DS.itA, DS.itE, DS.itZ, DS.par2, DS.evP, DS.setIx, DS.mutE, DS.lstTok, DS.updTok, DS.shr, DS.callE, DS.callKE, DS.runFn, DS.orL, DS.yesT, DS.noOwn, DS.addD, DS.subD, DS.mulD, DS.divD, DS.modD, DS.powD, DS.negD, DS.ltD, DS.leD, DS.gtD, DS.geD, DS.isN, DS.isntN, DS.notD, DS.ixD, DS.slD, DS.slLs, DS.lenD, DS.absD, DS.intD, DS.tupleD, DS.listL, DS.allD, DS.anyD, DS.sumD, DS.minD, DS.maxD, DS.sortedL, DS.truD, DS.isiD, DS.tyD, DS.gId, DS.wipeE, DS.restE, DS.R.bind_ok, DS.R.bind_exc, DS.R.bind_bad, DS.R.map_ok, DS.R.of_some, DS.R.of_none, Option.bind_some, Option.bind_none, Option.map_some, Option.map_none, List.getElem?_cons_zero, List.getElem?_cons_succ, List.getElem?_nil, List.set_cons_zero, List.set_cons_succ, List.length_cons, List.length_nil, List.map_cons, List.map_nil, Option.getD_some, Option.getD_none, List.cons_append, List.nil_append, List.replicate_succ, List.replicate_zero, Nat.reduceAdd, Nat.reduceSub, decide_eq_true_eq, Bool.and_eq_true, Bool.or_eq_true, if_true, if_false, Bool.not_eq_true', Bool.false_eq_true, reduceIte, DS.eqD_int, DS.neD_int, DS.eqD_bl, DS.neD_bl, ne_eq, not_false_eq_true, not_true_eq_false, true_and, and_true, true_or, or_true, false_or, or_false, and_self, Int.reduceEq, Int.reduceAbs, Nat.reduceLT, Int.reduceLT, Int.reduceLE, Int.reduceNeg, Nat.reduceEqDiff, decide_true, decide_false, Bool.not_true, Bool.not_false, atI0, atI1] <;> simp [oddB, h1]
    | [a, b] => simp (config := { failIfUnchanged := false }) only [DS.nxS, DS.bkS, DS.ctS, DS.badS, DS.retS, DS.retN, DS.exprS, DS.setS, DS.setL, DS.asgS, DS.gN, DS.gT, DS.gsN, DS.gsC, DS.op1, DS.op2, DS.op1L, DS.op2L, DS.oV, DS.oS, DS.var, DS.cst, DS.deref, DS.derefD, DS.ofL, DS.lstE, DS.evA, DS.tupE, DS.asB, DS.truT, DS.andT, DS.orT, DS.notT, DS.andE, DS.orE, DS.notE, DS.ifE, DS.chn, DS.sl, DS.slL, DS.part, DS.lcE, DS.lcL, DS.itA, DS.itE, DS.itZ, DS.par2, DS.evP, DS.setIx, DS.mutE, DS.lstTok, DS.updTok, DS.shr, DS.callE, DS.callKE, DS.runFn, DS.orL, DS.yesT, DS.noOwn, DS.addD, DS.subD, DS.mulD, DS.divD, DS.modD, DS.powD, DS.negD, DS.ltD, DS.leD, DS.gtD, DS.geD, DS.isN, DS.isntN, DS.notD, DS.ixD, DS.slD, DS.slLs, DS.lenD, DS.absD, DS.intD, DS.tupleD, DS.listL, DS.allD, DS.anyD, DS.sumD, DS.minD, DS.maxD, DS.sortedL, DS.truD, DS.isiD, DS.tyD, DS.gId, DS.wipeE, DS.restE, DS.R.bind_ok, DS.R.bind_exc, DS.R.bind_bad, DS.R.map_ok, DS.R.of_some, DS.R.of_none, Option.bind_some, Option.bind_none, Option.map_some, Option.map_none, List.getElem?_cons_zero, List.getElem?_cons_succ, List.getElem?_nil, List.set_cons_zero, List.set_cons_succ, List.length_cons, List.length_nil, List.map_cons, List.map_nil, Option.getD_some, Option.getD_none, List.cons_append, List.nil_append, List.replicate_succ, List.replicate_zero, Nat.reduceAdd, Nat.reduceSub, decide_eq_true_eq, Bool.and_eq_true, Bool.or_eq_true, if_true, if_false, Bool.not_eq_true', Bool.false_eq_true, reduceIte, DS.eqD_int, DS.neD_int, DS.eqD_bl, DS.neD_bl, ne_eq, not_false_eq_true, not_true_eq_false, true_and, and_true, true_or, or_true, false_or, or_false, and_self, Int.reduceEq, Int.reduceAbs, Nat.reduceLT, Int.reduceLT, Int.reduceLE, Int.reduceNeg, Nat.reduceEqDiff, decide_true, decide_false, Bool.not_true, Bool.not_false, atI0, atI1] <;> simp [oddB, h1]
    | a :: b :: c :: ts =>
      have h2 := (len3 (a := a) (b := b) (c := c) (ts := ts)).1
      have h3 := (len3 (a := a) (b := b) (c := c) (ts := ts)).2
      simp only [List.length_cons] at h2 h3
      simp (config := { failIfUnchanged := false }) only [DS.nxS, DS.bkS, DS.ctS, DS.badS, DS.retS, DS.retN, DS.exprS, DS.setS, DS.setL, DS.asgS, DS.gN, DS.gT, DS.gsN, DS.gsC, DS.op1, DS.op2, DS.op1L, DS.op2L, DS.oV, DS.oS, DS.var, DS.cst, DS.deref, DS.derefD, DS.ofL, DS.lstE, DS.evA, DS.tupE, DS.asB, DS.truT, DS.andT, DS.orT, DS.notT, DS.andE, DS.orE, DS.notE, DS.ifE, DS.chn, DS.sl, DS.slL, DS.part, DS.lcE, DS.lcL, DS.itA, DS.itE, DS.itZ, DS.par2, DS.evP, DS.setIx, DS.mutE, DS.lstTok, DS.updTok, DS.shr, DS.callE, DS.callKE, DS.runFn, DS.orL, DS.yesT, DS.noOwn, DS.addD, DS.subD, DS.mulD, DS.divD, DS.modD, DS.powD, DS.negD, DS.ltD, DS.leD, DS.gtD, DS.geD, DS.isN, DS.isntN, DS.notD, DS.ixD, DS.slD, DS.slLs, DS.lenD, DS.absD, DS.intD, DS.tupleD, DS.listL, DS.allD, DS.anyD, DS.sumD, DS.minD, DS.maxD, DS.sortedL, DS.truD, DS.isiD, DS.tyD, DS.gId, DS.wipeE, DS.restE, DS.R.bind_ok, DS.R.bind_exc, DS.R.bind_bad, DS.R.map_ok, DS.R.of_some, DS.R.of_none, Option.bind_some, Option.bind_none, Option.map_some, Option.map_none, List.getElem?_cons_zero, List.getElem?_cons_succ, List.getElem?_nil, List.set_cons_zero, List.set_cons_succ, List.length_cons, List.length_nil, List.map_cons, List.map_nil, Option.getD_some, Option.getD_none, List.cons_append, List.nil_append, List.replicate_succ, List.replicate_zero, Nat.reduceAdd, Nat.reduceSub, decide_eq_true_eq, Bool.and_eq_true, Bool.or_eq_true, if_true, if_false, Bool.not_eq_true', Bool.false_eq_true, reduceIte, DS.eqD_int, DS.neD_int, DS.eqD_bl, DS.neD_bl, ne_eq, not_false_eq_true, not_true_eq_false, true_and, and_true, true_or, or_true, false_or, or_false, and_self, Int.reduceEq, Int.reduceAbs, Nat.reduceLT, Int.reduceLT, Int.reduceLE, Int.reduceNeg, Nat.reduceEqDiff, decide_true, decide_false, Bool.not_true, Bool.not_false, atI0, atI1, List.length_map, h2, h3] <;> simp [oddB, h1]
theorem kind_in_ok {h : Int} {ts : List Int} (v : Vs h ts) (hp : List Ob) : F_sheet_kind_in [shD h ts] hp = .ok (.str (kindS h ts)) hp := by
  unfold F_sheet_kind_in B_sheet_kind_in kindS
  cases q : oddB h ts with
  | true => exact fn_rt (sq_rt (if_tt (by simp (config := { failIfUnchanged := false }) only [DS.nxS, DS.bkS, DS.ctS, DS.badS, DS.retS, DS.retN, DS.exprS, DS.setS, DS.setL, DS.asgS, DS.gN, DS.gT, DS.gsN, DS.gsC, DS.op1, DS.op2, DS.op1L, DS.op2L, DS.oV, DS.oS, DS.var, DS.cst, DS.deref, DS.derefD, DS.ofL, DS.lstE, DS.evA, DS.tupE, DS.asB, DS.truT, DS.andT, DS.orT, DS.notT, DS.andE, DS.orE, DS.notE, DS.ifE, DS.chn, DS.sl, DS.slL, DS.part, DS.lcE, DS.lcL, DS.itA, DS.itE, DS.itZ, DS.par2, DS.evP, DS.setIx, DS.mutE, DS.lstTok, DS.updTok, DS.shr, DS.callE, DS.callKE, DS.runFn, DS.orL, DS.yesT, DS.noOwn, DS.addD, DS.subD, DS.mulD, DS.divD, DS.modD, DS.powD, DS.negD, DS.ltD, DS.leD, DS.gtD, DS.geD, DS.isN, DS.isntN, DS.notD, DS.ixD, DS.slD, DS.slLs, DS.lenD, DS.absD, DS.intD, DS.tupleD, DS.listL, DS.allD, DS.anyD, DS.sumD, DS.minD, DS.maxD, DS.sortedL, DS.truD, DS.isiD, DS.tyD, DS.gId, DS.wipeE, DS.restE, DS.R.bind_ok, DS.R.bind_exc, DS.R.bind_bad, DS.R.map_ok, DS.R.of_some, DS.R.of_none, Option.bind_some, Option.bind_none, Option.map_some, Option.map_none, List.getElem?_cons_zero, List.getElem?_cons_succ, List.getElem?_nil, List.set_cons_zero, List.set_cons_succ, List.length_cons, List.length_nil, List.map_cons, List.map_nil, Option.getD_some, Option.getD_none, List.cons_append, List.nil_append, List.replicate_succ, List.replicate_zero, Nat.reduceAdd, Nat.reduceSub, decide_eq_true_eq, Bool.and_eq_true, Bool.or_eq_true, if_true, if_false, Bool.not_eq_true', Bool.false_eq_true, reduceIte, DS.eqD_int, DS.neD_int, DS.eqD_bl, DS.neD_bl, ne_eq, not_false_eq_true, not_true_eq_false, true_and, and_true, true_or, or_true, false_or, or_false, and_self, Int.reduceEq, Int.reduceAbs, Nat.reduceLT, Int.reduceLT, Int.reduceLE, Int.reduceNeg, Nat.reduceEqDiff, decide_true, decide_false, Bool.not_true, Bool.not_false, is_odd_in_ok v.h0, q] <;> rfl) (rt_of (by simp (config := { failIfUnchanged := false }) only [DS.nxS, DS.bkS, DS.ctS, DS.badS, DS.retS, DS.retN, DS.exprS, DS.setS, DS.setL, DS.asgS, DS.gN, DS.gT, DS.gsN, DS.gsC, DS.op1, DS.op2, DS.op1L, DS.op2L, DS.oV, DS.oS, DS.var, DS.cst, DS.deref, DS.derefD, DS.ofL, DS.lstE, DS.evA, DS.tupE, DS.asB, DS.truT, DS.andT, DS.orT, DS.notT, DS.andE, DS.orE, DS.notE, DS.ifE, DS.chn, DS.sl, DS.slL, DS.part, DS.lcE, DS.lcL, DS.itA, DS.itE, DS.itZ, DS.par2, DS.evP, DS.setIx, DS.mutE, DS.lstTok, DS.updTok, DS.shr, DS.callE, DS.callKE, DS.runFn, DS.orL, DS.yesT, DS.noOwn, DS.addD, DS.subD, DS.mulD, DS.divD, DS.modD, DS.powD, DS.negD, DS.ltD, DS.leD, DS.gtD, DS.geD, DS.isN, DS.isntN, DS.notD, DS.ixD, DS.slD, DS.slLs, DS.lenD, DS.absD, DS.intD, DS.tupleD, DS.listL, DS.allD, DS.anyD, DS.sumD, DS.minD, DS.maxD, DS.sortedL, DS.truD, DS.isiD, DS.tyD, DS.gId, DS.wipeE, DS.restE, DS.R.bind_ok, DS.R.bind_exc, DS.R.bind_bad, DS.R.map_ok, DS.R.of_some, DS.R.of_none, Option.bind_some, Option.bind_none, Option.map_some, Option.map_none, List.getElem?_cons_zero, List.getElem?_cons_succ, List.getElem?_nil, List.set_cons_zero, List.set_cons_succ, List.length_cons, List.length_nil, List.map_cons, List.map_nil, Option.getD_some, Option.getD_none, List.cons_append, List.nil_append, List.replicate_succ, List.replicate_zero, Nat.reduceAdd, Nat.reduceSub, decide_eq_true_eq, Bool.and_eq_true, Bool.or_eq_true, if_true, if_false, Bool.not_eq_true', Bool.false_eq_true, reduceIte, DS.eqD_int, DS.neD_int, DS.eqD_bl, DS.neD_bl, ne_eq, not_false_eq_true, not_true_eq_false, true_and, and_true, true_or, or_true, false_or, or_false, and_self, Int.reduceEq, Int.reduceAbs, Nat.reduceLT, Int.reduceLT, Int.reduceLE, Int.reduceNeg, Nat.reduceEqDiff, decide_true, decide_false, Bool.not_true, Bool.not_false] <;> rfl))))
  | false =>
    refine fn_rt (sq_nx (if_ff (s1 := ⟨[.v (shD h ts), .un], hp⟩) (by simp (config := { failIfUnchanged := false }) only [DS.nxS, DS.bkS, DS.ctS, DS.badS, DS.retS, DS.retN, DS.exprS, DS.setS, DS.setL, DS.asgS, DS.gN, DS.gT, DS.gsN, DS.gsC, DS.op1, DS.op2, DS.op1L, DS.op2L, DS.oV, DS.oS, DS.var, DS.cst, DS.deref, DS.derefD, DS.ofL, DS.lstE, DS.evA, DS.tupE, DS.asB, DS.truT, DS.andT, DS.orT, DS.notT, DS.andE, DS.orE, DS.notE, DS.ifE, DS.chn, DS.sl, DS.slL, DS.part, DS.lcE, DS.lcL, DS.itA, DS.itE, DS.itZ, DS.par2, DS.evP, DS.setIx, DS.mutE, DS.lstTok, DS.updTok, DS.shr, DS.callE, DS.callKE, DS.runFn, DS.orL, DS.yesT, DS.noOwn, DS.addD, DS.subD, DS.mulD, DS.divD, DS.modD, DS.powD, DS.negD, DS.ltD, DS.leD, DS.gtD, DS.geD, DS.isN, DS.isntN, DS.notD, DS.ixD, DS.slD, DS.slLs, DS.lenD, DS.absD, DS.intD, DS.tupleD, DS.listL, DS.allD, DS.anyD, DS.sumD, DS.minD, DS.maxD, DS.sortedL, DS.truD, DS.isiD, DS.tyD, DS.gId, DS.wipeE, DS.restE, DS.R.bind_ok, DS.R.bind_exc, DS.R.bind_bad, DS.R.map_ok, DS.R.of_some, DS.R.of_none, Option.bind_some, Option.bind_none, Option.map_some, Option.map_none, List.getElem?_cons_zero, List.getElem?_cons_succ, List.getElem?_nil, List.set_cons_zero, List.set_cons_succ, List.length_cons, List.length_nil, List.map_cons, List.map_nil, Option.getD_some, Option.getD_none, List.cons_append, List.nil_append, List.replicate_succ, List.replicate_zero, Nat.reduceAdd, Nat.reduceSub, decide_eq_true_eq, Bool.and_eq_true, Bool.or_eq_true, if_true, if_false, Bool.not_eq_true', Bool.false_eq_true, reduceIte, DS.eqD_int, DS.neD_int, DS.eqD_bl, DS.neD_bl, ne_eq, not_false_eq_true, not_true_eq_false, true_and, and_true, true_or, or_true, false_or, or_false, and_self, Int.reduceEq, Int.reduceAbs, Nat.reduceLT, Int.reduceLT, Int.reduceLE, Int.reduceNeg, Nat.reduceEqDiff, decide_true, decide_false, Bool.not_true, Bool.not_false, is_odd_in_ok v.h0, q] <;> rfl) (by simp (config := { failIfUnchanged := false }) only [DS.nxS, DS.bkS, DS.ctS, DS.badS, DS.retS, DS.retN, DS.exprS, DS.setS, DS.setL, DS.asgS, DS.gN, DS.gT, DS.gsN, DS.gsC, DS.op1, DS.op2, DS.op1L, DS.op2L, DS.oV, DS.oS, DS.var, DS.cst, DS.deref, DS.derefD, DS.ofL, DS.lstE, DS.evA, DS.tupE, DS.asB, DS.truT, DS.andT, DS.orT, DS.notT, DS.andE, DS.orE, DS.notE, DS.ifE, DS.chn, DS.sl, DS.slL, DS.part, DS.lcE, DS.lcL, DS.itA, DS.itE, DS.itZ, DS.par2, DS.evP, DS.setIx, DS.mutE, DS.lstTok, DS.updTok, DS.shr, DS.callE, DS.callKE, DS.runFn, DS.orL, DS.yesT, DS.noOwn, DS.addD, DS.subD, DS.mulD, DS.divD, DS.modD, DS.powD, DS.negD, DS.ltD, DS.leD, DS.gtD, DS.geD, DS.isN, DS.isntN, DS.notD, DS.ixD, DS.slD, DS.slLs, DS.lenD, DS.absD, DS.intD, DS.tupleD, DS.listL, DS.allD, DS.anyD, DS.sumD, DS.minD, DS.maxD, DS.sortedL, DS.truD, DS.isiD, DS.tyD, DS.gId, DS.wipeE, DS.restE, DS.R.bind_ok, DS.R.bind_exc, DS.R.bind_bad, DS.R.map_ok, DS.R.of_some, DS.R.of_none, Option.bind_some, Option.bind_none, Option.map_some, Option.map_none, List.getElem?_cons_zero, List.getElem?_cons_succ, List.getElem?_nil, List.set_cons_zero, List.set_cons_succ, List.length_cons, List.length_nil, List.map_cons, List.map_nil, Option.getD_some, Option.getD_none, List.cons_append, List.nil_append, List.replicate_succ, List.replicate_zero, Nat.reduceAdd, Nat.reduceSub, decide_eq_true_eq, Bool.and_eq_true, Bool.or_eq_true, if_true, if_false, Bool.not_eq_true', Bool.false_eq_true, reduceIte, DS.eqD_int, DS.neD_int, DS.eqD_bl, DS.neD_bl, ne_eq, not_false_eq_true, not_true_eq_false, true_and, and_true, true_or, or_true, false_or, or_false, and_self, Int.reduceEq, Int.reduceAbs, Nat.reduceLT, Int.reduceLT, Int.reduceLE, Int.reduceNeg, Nat.reduceEqDiff, decide_true, decide_false, Bool.not_true, Bool.not_false] <;> rfl)) (sq_nx (s1 := ⟨[.v (shD h ts), .v (.int (shr h ts).1)], hp⟩) (by simp (config := { failIfUnchanged := false }) only [DS.nxS, DS.bkS, DS.ctS, DS.badS, DS.retS, DS.retN, DS.exprS, DS.setS, DS.setL, DS.asgS, DS.gN, DS.gT, DS.gsN, DS.gsC, DS.op1, DS.op2, DS.op1L, DS.op2L, DS.oV, DS.oS, DS.var, DS.cst, DS.deref, DS.derefD, DS.ofL, DS.lstE, DS.evA, DS.tupE, DS.asB, DS.truT, DS.andT, DS.orT, DS.notT, DS.andE, DS.orE, DS.notE, DS.ifE, DS.chn, DS.sl, DS.slL, DS.part, DS.lcE, DS.lcL, DS.itA, DS.itE, DS.itZ, DS.par2, DS.evP, DS.setIx, DS.mutE, DS.lstTok, DS.updTok, DS.shr, DS.callE, DS.callKE, DS.runFn, DS.orL, DS.yesT, DS.noOwn, DS.addD, DS.subD, DS.mulD, DS.divD, DS.modD, DS.powD, DS.negD, DS.ltD, DS.leD, DS.gtD, DS.geD, DS.isN, DS.isntN, DS.notD, DS.ixD, DS.slD, DS.slLs, DS.lenD, DS.absD, DS.intD, DS.tupleD, DS.listL, DS.allD, DS.anyD, DS.sumD, DS.minD, DS.maxD, DS.sortedL, DS.truD, DS.isiD, DS.tyD, DS.gId, DS.wipeE, DS.restE, DS.R.bind_ok, DS.R.bind_exc, DS.R.bind_bad, DS.R.map_ok, DS.R.of_some, DS.R.of_none, Option.bind_some, Option.bind_none, Option.map_some, Option.map_none, List.getElem?_cons_zero, List.getElem?_cons_succ, List.getElem?_nil, List.set_cons_zero, List.set_cons_succ, List.length_cons, List.length_nil, List.map_cons, List.map_nil, Option.getD_some, Option.getD_none, List.cons_append, List.nil_append, List.replicate_succ, List.replicate_zero, Nat.reduceAdd, Nat.reduceSub, decide_eq_true_eq, Bool.and_eq_true, Bool.or_eq_true, if_true, if_false, Bool.not_eq_true', Bool.false_eq_true, reduceIte, DS.eqD_int, DS.neD_int, DS.eqD_bl, DS.neD_bl, ne_eq, not_false_eq_true, not_true_eq_false, true_and, and_true, true_or, or_true, false_or, or_false, and_self, Int.reduceEq, Int.reduceAbs, Nat.reduceLT, Int.reduceLT, Int.reduceLE, Int.reduceNeg, Nat.reduceEqDiff, decide_true, decide_false, Bool.not_true, Bool.not_false, share_in_ok v, atI0] <;> rfl) (rt_of (s1 := ⟨[.v (shD h ts), .v (.int (shr h ts).1)], hp⟩) ?_)))
    by_cases h1 : 0 < (shr h ts).1
    · simp (config := { failIfUnchanged := false }) only [DS.nxS, DS.bkS, DS.ctS, DS.badS, DS.retS, DS.retN, DS.exprS, DS.setS, DS.setL, DS.asgS, DS.gN, DS.gT, DS.gsN, DS.gsC, DS.op1, DS.op2, DS.op1L, DS.op2L, DS.oV, DS.oS, DS.var, DS.cst, DS.deref, DS.derefD, DS.ofL, DS.lstE, DS.evA, DS.tupE, DS.asB, DS.truT, DS.andT, DS.orT, DS.notT, DS.andE, DS.orE, DS.notE, DS.ifE, DS.chn, DS.sl, DS.slL, DS.part, DS.lcE, DS.lcL, DS.itA, DS.itE, DS.itZ, DS.par2, DS.evP, DS.setIx, DS.mutE, DS.lstTok, DS.updTok, DS.shr, DS.callE, DS.callKE, DS.runFn, DS.orL, DS.yesT, DS.noOwn, DS.addD, DS.subD, DS.mulD, DS.divD, DS.modD, DS.powD, DS.negD, DS.ltD, DS.leD, DS.gtD, DS.geD, DS.isN, DS.isntN, DS.notD, DS.ixD, DS.slD, DS.slLs, DS.lenD, DS.absD, DS.intD, DS.tupleD, DS.listL, DS.allD, DS.anyD, DS.sumD, DS.minD, DS.maxD, DS.sortedL, DS.truD, DS.isiD, DS.tyD, DS.gId, DS.wipeE, DS.restE, DS.R.bind_ok, DS.R.bind_exc, DS.R.bind_bad, DS.R.map_ok, DS.R.of_some, DS.R.of_none, Option.bind_some, Option.bind_none, Option.map_some, Option.map_none, List.getElem?_cons_zero, List.getElem?_cons_succ, List.getElem?_nil, List.set_cons_zero, List.set_cons_succ, List.length_cons, List.length_nil, List.map_cons, List.map_nil, Option.getD_some, Option.getD_none, List.cons_append, List.nil_append, List.replicate_succ, List.replicate_zero, Nat.reduceAdd, Nat.reduceSub, decide_eq_true_eq, Bool.and_eq_true, Bool.or_eq_true, if_true, if_false, Bool.not_eq_true', Bool.false_eq_true, reduceIte, DS.eqD_int, DS.neD_int, DS.eqD_bl, DS.neD_bl, ne_eq, not_false_eq_true, not_true_eq_false, true_and, and_true, true_or, or_true, false_or, or_false, and_self, Int.reduceEq, Int.reduceAbs, Nat.reduceLT, Int.reduceLT, Int.reduceLE, Int.reduceNeg, Nat.reduceEqDiff, decide_true, decide_false, Bool.not_true, Bool.not_false, h1]
    · by_cases h2 : (shr h ts).1 = 0
      · simp (config := { failIfUnchanged := false }) only [DS.nxS, DS.bkS, DS.ctS, DS.badS, DS.retS, DS.retN, DS.exprS, DS.setS, DS.setL, DS.asgS, DS.gN, DS.gT, DS.gsN, DS.gsC, DS.op1, DS.op2, DS.op1L, DS.op2L, DS.oV, DS.oS, DS.var, DS.cst, DS.deref, DS.derefD, DS.ofL, DS.lstE, DS.evA, DS.tupE, DS.asB, DS.truT, DS.andT, DS.orT, DS.notT, DS.andE, DS.orE, DS.notE, DS.ifE, DS.chn, DS.sl, DS.slL, DS.part, DS.lcE, DS.lcL, DS.itA, DS.itE, DS.itZ, DS.par2, DS.evP, DS.setIx, DS.mutE, DS.lstTok, DS.updTok, DS.shr, DS.callE, DS.callKE, DS.runFn, DS.orL, DS.yesT, DS.noOwn, DS.addD, DS.subD, DS.mulD, DS.divD, DS.modD, DS.powD, DS.negD, DS.ltD, DS.leD, DS.gtD, DS.geD, DS.isN, DS.isntN, DS.notD, DS.ixD, DS.slD, DS.slLs, DS.lenD, DS.absD, DS.intD, DS.tupleD, DS.listL, DS.allD, DS.anyD, DS.sumD, DS.minD, DS.maxD, DS.sortedL, DS.truD, DS.isiD, DS.tyD, DS.gId, DS.wipeE, DS.restE, DS.R.bind_ok, DS.R.bind_exc, DS.R.bind_bad, DS.R.map_ok, DS.R.of_some, DS.R.of_none, Option.bind_some, Option.bind_none, Option.map_some, Option.map_none, List.getElem?_cons_zero, List.getElem?_cons_succ, List.getElem?_nil, List.set_cons_zero, List.set_cons_succ, List.length_cons, List.length_nil, List.map_cons, List.map_nil, Option.getD_some, Option.getD_none, List.cons_append, List.nil_append, List.replicate_succ, List.replicate_zero, Nat.reduceAdd, Nat.reduceSub, decide_eq_true_eq, Bool.and_eq_true, Bool.or_eq_true, if_true, if_false, Bool.not_eq_true', Bool.false_eq_true, reduceIte, DS.eqD_int, DS.neD_int, DS.eqD_bl, DS.neD_bl, ne_eq, not_false_eq_true, not_true_eq_false, true_and, and_true, true_or, or_true, false_or, or_false, and_self, Int.reduceEq, Int.reduceAbs, Nat.reduceLT, Int.reduceLT, Int.reduceLE, Int.reduceNeg, Nat.reduceEqDiff, decide_true, decide_false, Bool.not_true, Bool.not_false, h1, h2]
      · simp (config := { failIfUnchanged := false }) only [DS.nxS, DS.bkS, DS.ctS, DS.badS, DS.retS, DS.retN, DS.exprS, DS.setS, DS.setL, DS.asgS, DS.gN, DS.gT, DS.gsN, DS.gsC, DS.op1, DS.op2, DS.op1L, DS.op2L, DS.oV, DS.oS, DS.var, DS.cst, DS.deref, DS.derefD, DS.ofL, DS.lstE, DS.evA, DS.tupE, DS.asB, DS.truT, DS.andT, DS.orT, DS.notT, DS.andE, DS.orE, DS.notE, DS.ifE, DS.chn, DS.sl, DS.slL, DS.part, DS.lcE, DS.lcL, DS.itA, DS.itE, DS.itZ, DS.par2, DS.evP, DS.setIx, DS.mutE, DS.lstTok, DS.updTok, DS.shr, DS.callE, DS.callKE, DS.runFn, DS.orL, DS.yesT, DS.noOwn, DS.addD, DS.subD, DS.mulD, DS.divD, DS.modD, DS.powD, DS.negD, DS.ltD, DS.leD, DS.gtD, DS.geD, DS.isN, DS.isntN, DS.notD, DS.ixD, DS.slD, DS.slLs, DS.lenD, DS.absD, DS.intD, DS.tupleD, DS.listL, DS.allD, DS.anyD, DS.sumD, DS.minD, DS.maxD, DS.sortedL, DS.truD, DS.isiD, DS.tyD, DS.gId, DS.wipeE, DS.restE, DS.R.bind_ok, DS.R.bind_exc, DS.R.bind_bad, DS.R.map_ok, DS.R.of_some, DS.R.of_none, Option.bind_some, Option.bind_none, Option.map_some, Option.map_none, List.getElem?_cons_zero, List.getElem?_cons_succ, List.getElem?_nil, List.set_cons_zero, List.set_cons_succ, List.length_cons, List.length_nil, List.map_cons, List.map_nil, Option.getD_some, Option.getD_none, List.cons_append, List.nil_append, List.replicate_succ, List.replicate_zero, Nat.reduceAdd, Nat.reduceSub, decide_eq_true_eq, Bool.and_eq_true, Bool.or_eq_true, if_true, if_false, Bool.not_eq_true', Bool.false_eq_true, reduceIte, DS.eqD_int, DS.neD_int, DS.eqD_bl, DS.neD_bl, ne_eq, not_false_eq_true, not_true_eq_false, true_and, and_true, true_or, or_true, false_or, or_false, and_self, Int.reduceEq, Int.reduceAbs, Nat.reduceLT, Int.reduceLT, Int.reduceLE, Int.reduceNeg, Nat.reduceEqDiff, decide_true, decide_false, Bool.not_true, Bool.not_false, h1, h2]
theorem odd_shape {h : Int} {ts : List Int} (q : oddB h ts = true) : h = 0 ∧ ((∃ a, ts = [a]) ∨ ∃ a b, ts = [a, b] ∧ a ≠ b) := by
  unfold oddB at q
  rw [Bool.and_eq_true, decide_eq_true_eq] at q
  refine ⟨q.1, ?_⟩
  have q2 := q.2
  match ts with
  | [] => simp at q2
  | [a] => exact .inl ⟨a, rfl⟩
  | [a, b] => exact .inr ⟨a, b, rfl, by simpa using q2⟩
  | a :: b :: c :: ts => simp at q2
theorem shr_bound {h : Int} {ts : List Int} (v : Vs h ts) : 0 < (shr h ts).2 ∧ (shr h ts).2 ≤ 429981696 ∧ (shr h ts).1 ≤ 2 * (shr h ts).2 := by
  have h1 := prodP_le (sp12 v.a)
  have h2 := pow12 v.l
  obtain ⟨g, hg, e1, e2, p, l, _⟩ := low_back (ovr h (prodP ts) ts) (prodP ts) (prodP_pos ts)
  have h3 := ovr_le h (prodP ts) (prodP_pos ts) v.h0 ts
  refine ⟨p, by show (low _ _).2 ≤ _; omega, ?_⟩
  show (low _ _).1 ≤ 2 * (low _ _).2
  have h4 : (low (ovr h (prodP ts) ts) (prodP ts)).1 * g ≤ 2 * (low (ovr h (prodP ts) ts) (prodP ts)).2 * g := by
    rw [← e1, Int.mul_assoc, ← e2]
    exact h3
  exact Int.le_of_mul_le_mul_right h4 hg
theorem size_in_ok {h : Int} {ts : List Int} (v : Vs h ts) (hp : List Ob) : F_size_in [shD h ts] hp = .ok (sizeD h ts) hp := by
  obtain ⟨b1, b2, b3⟩ := shr_bound v
  have hs2 : DS.small64 2 = true := by decide
  unfold F_size_in B_size_in sizeD
  cases q : oddB h ts with
  | true =>
    obtain ⟨rfl, ⟨a, rfl⟩ | ⟨a, b, rfl, _⟩⟩ := odd_shape q
    · exact fn_rt (sq_rt (if_tt (by simp (config := { failIfUnchanged := false }) only [DS.nxS, DS.bkS, DS.ctS, DS.badS, DS.retS, DS.retN, DS.exprS, DS.setS, DS.setL, DS.asgS, DS.gN, DS.gT, DS.gsN, DS.gsC, DS.op1, DS.op2, DS.op1L, DS.op2L, DS.oV, DS.oS, DS.var, DS.cst, DS.deref, DS.derefD, DS.ofL, DS.lstE, DS.evA, DS.tupE, DS.asB, DS.truT, DS.andT, DS.orT, DS.notT, DS.andE, DS.orE, DS.notE, DS.ifE, DS.chn, DS.sl, DS.slL, DS.part, DS.lcE, DS.lcL, DS.itA, DS.itE, DS.itZ, DS.par2, DS.evP, DS.setIx, DS.mutE, DS.lstTok, DS.updTok, DS.shr, DS.callE, DS.callKE, DS.runFn, DS.orL, DS.yesT, DS.noOwn, DS.addD, DS.subD, DS.mulD, DS.divD, DS.modD, DS.powD, DS.negD, DS.ltD, DS.leD, DS.gtD, DS.geD, DS.isN, DS.isntN, DS.notD, DS.ixD, DS.slD, DS.slLs, DS.lenD, DS.absD, DS.intD, DS.tupleD, DS.listL, DS.allD, DS.anyD, DS.sumD, DS.minD, DS.maxD, DS.sortedL, DS.truD, DS.isiD, DS.tyD, DS.gId, DS.wipeE, DS.restE, DS.R.bind_ok, DS.R.bind_exc, DS.R.bind_bad, DS.R.map_ok, DS.R.of_some, DS.R.of_none, Option.bind_some, Option.bind_none, Option.map_some, Option.map_none, List.getElem?_cons_zero, List.getElem?_cons_succ, List.getElem?_nil, List.set_cons_zero, List.set_cons_succ, List.length_cons, List.length_nil, List.map_cons, List.map_nil, Option.getD_some, Option.getD_none, List.cons_append, List.nil_append, List.replicate_succ, List.replicate_zero, Nat.reduceAdd, Nat.reduceSub, decide_eq_true_eq, Bool.and_eq_true, Bool.or_eq_true, if_true, if_false, Bool.not_eq_true', Bool.false_eq_true, reduceIte, DS.eqD_int, DS.neD_int, DS.eqD_bl, DS.neD_bl, ne_eq, not_false_eq_true, not_true_eq_false, true_and, and_true, true_or, or_true, false_or, or_false, and_self, Int.reduceEq, Int.reduceAbs, Nat.reduceLT, Int.reduceLT, Int.reduceLE, Int.reduceNeg, Nat.reduceEqDiff, decide_true, decide_false, Bool.not_true, Bool.not_false, is_odd_in_ok v.h0, q] <;> rfl) (rt_of (by simp (config := { failIfUnchanged := false }) only [DS.nxS, DS.bkS, DS.ctS, DS.badS, DS.retS, DS.retN, DS.exprS, DS.setS, DS.setL, DS.asgS, DS.gN, DS.gT, DS.gsN, DS.gsC, DS.op1, DS.op2, DS.op1L, DS.op2L, DS.oV, DS.oS, DS.var, DS.cst, DS.deref, DS.derefD, DS.ofL, DS.lstE, DS.evA, DS.tupE, DS.asB, DS.truT, DS.andT, DS.orT, DS.notT, DS.andE, DS.orE, DS.notE, DS.ifE, DS.chn, DS.sl, DS.slL, DS.part, DS.lcE, DS.lcL, DS.itA, DS.itE, DS.itZ, DS.par2, DS.evP, DS.setIx, DS.mutE, DS.lstTok, DS.updTok, DS.shr, DS.callE, DS.callKE, DS.runFn, DS.orL, DS.yesT, DS.noOwn, DS.addD, DS.subD, DS.mulD, DS.divD, DS.modD, DS.powD, DS.negD, DS.ltD, DS.leD, DS.gtD, DS.geD, DS.isN, DS.isntN, DS.notD, DS.ixD, DS.slD, DS.slLs, DS.lenD, DS.absD, DS.intD, DS.tupleD, DS.listL, DS.allD, DS.anyD, DS.sumD, DS.minD, DS.maxD, DS.sortedL, DS.truD, DS.isiD, DS.tyD, DS.gId, DS.wipeE, DS.restE, DS.R.bind_ok, DS.R.bind_exc, DS.R.bind_bad, DS.R.map_ok, DS.R.of_some, DS.R.of_none, Option.bind_some, Option.bind_none, Option.map_some, Option.map_none, List.getElem?_cons_zero, List.getElem?_cons_succ, List.getElem?_nil, List.set_cons_zero, List.set_cons_succ, List.length_cons, List.length_nil, List.map_cons, List.map_nil, Option.getD_some, Option.getD_none, List.cons_append, List.nil_append, List.replicate_succ, List.replicate_zero, Nat.reduceAdd, Nat.reduceSub, decide_eq_true_eq, Bool.and_eq_true, Bool.or_eq_true, if_true, if_false, Bool.not_eq_true', Bool.false_eq_true, reduceIte, DS.eqD_int, DS.neD_int, DS.eqD_bl, DS.neD_bl, ne_eq, not_false_eq_true, not_true_eq_false, true_and, and_true, true_or, or_true, false_or, or_false, and_self, Int.reduceEq, Int.reduceAbs, Nat.reduceLT, Int.reduceLT, Int.reduceLE, Int.reduceNeg, Nat.reduceEqDiff, decide_true, decide_false, Bool.not_true, Bool.not_false, atI1] <;> rfl))))
    · exact fn_rt (sq_rt (if_tt (by simp (config := { failIfUnchanged := false }) only [DS.nxS, DS.bkS, DS.ctS, DS.badS, DS.retS, DS.retN, DS.exprS, DS.setS, DS.setL, DS.asgS, DS.gN, DS.gT, DS.gsN, DS.gsC, DS.op1, DS.op2, DS.op1L, DS.op2L, DS.oV, DS.oS, DS.var, DS.cst, DS.deref, DS.derefD, DS.ofL, DS.lstE, DS.evA, DS.tupE, DS.asB, DS.truT, DS.andT, DS.orT, DS.notT, DS.andE, DS.orE, DS.notE, DS.ifE, DS.chn, DS.sl, DS.slL, DS.part, DS.lcE, DS.lcL, DS.itA, DS.itE, DS.itZ, DS.par2, DS.evP, DS.setIx, DS.mutE, DS.lstTok, DS.updTok, DS.shr, DS.callE, DS.callKE, DS.runFn, DS.orL, DS.yesT, DS.noOwn, DS.addD, DS.subD, DS.mulD, DS.divD, DS.modD, DS.powD, DS.negD, DS.ltD, DS.leD, DS.gtD, DS.geD, DS.isN, DS.isntN, DS.notD, DS.ixD, DS.slD, DS.slLs, DS.lenD, DS.absD, DS.intD, DS.tupleD, DS.listL, DS.allD, DS.anyD, DS.sumD, DS.minD, DS.maxD, DS.sortedL, DS.truD, DS.isiD, DS.tyD, DS.gId, DS.wipeE, DS.restE, DS.R.bind_ok, DS.R.bind_exc, DS.R.bind_bad, DS.R.map_ok, DS.R.of_some, DS.R.of_none, Option.bind_some, Option.bind_none, Option.map_some, Option.map_none, List.getElem?_cons_zero, List.getElem?_cons_succ, List.getElem?_nil, List.set_cons_zero, List.set_cons_succ, List.length_cons, List.length_nil, List.map_cons, List.map_nil, Option.getD_some, Option.getD_none, List.cons_append, List.nil_append, List.replicate_succ, List.replicate_zero, Nat.reduceAdd, Nat.reduceSub, decide_eq_true_eq, Bool.and_eq_true, Bool.or_eq_true, if_true, if_false, Bool.not_eq_true', Bool.false_eq_true, reduceIte, DS.eqD_int, DS.neD_int, DS.eqD_bl, DS.neD_bl, ne_eq, not_false_eq_true, not_true_eq_false, true_and, and_true, true_or, or_true, false_or, or_false, and_self, Int.reduceEq, Int.reduceAbs, Nat.reduceLT, Int.reduceLT, Int.reduceLE, Int.reduceNeg, Nat.reduceEqDiff, decide_true, decide_false, Bool.not_true, Bool.not_false, is_odd_in_ok v.h0, q] <;> rfl) (rt_of (by simp (config := { failIfUnchanged := false }) only [DS.nxS, DS.bkS, DS.ctS, DS.badS, DS.retS, DS.retN, DS.exprS, DS.setS, DS.setL, DS.asgS, DS.gN, DS.gT, DS.gsN, DS.gsC, DS.op1, DS.op2, DS.op1L, DS.op2L, DS.oV, DS.oS, DS.var, DS.cst, DS.deref, DS.derefD, DS.ofL, DS.lstE, DS.evA, DS.tupE, DS.asB, DS.truT, DS.andT, DS.orT, DS.notT, DS.andE, DS.orE, DS.notE, DS.ifE, DS.chn, DS.sl, DS.slL, DS.part, DS.lcE, DS.lcL, DS.itA, DS.itE, DS.itZ, DS.par2, DS.evP, DS.setIx, DS.mutE, DS.lstTok, DS.updTok, DS.shr, DS.callE, DS.callKE, DS.runFn, DS.orL, DS.yesT, DS.noOwn, DS.addD, DS.subD, DS.mulD, DS.divD, DS.modD, DS.powD, DS.negD, DS.ltD, DS.leD, DS.gtD, DS.geD, DS.isN, DS.isntN, DS.notD, DS.ixD, DS.slD, DS.slLs, DS.lenD, DS.absD, DS.intD, DS.tupleD, DS.listL, DS.allD, DS.anyD, DS.sumD, DS.minD, DS.maxD, DS.sortedL, DS.truD, DS.isiD, DS.tyD, DS.gId, DS.wipeE, DS.restE, DS.R.bind_ok, DS.R.bind_exc, DS.R.bind_bad, DS.R.map_ok, DS.R.of_some, DS.R.of_none, Option.bind_some, Option.bind_none, Option.map_some, Option.map_none, List.getElem?_cons_zero, List.getElem?_cons_succ, List.getElem?_nil, List.set_cons_zero, List.set_cons_succ, List.length_cons, List.length_nil, List.map_cons, List.map_nil, Option.getD_some, Option.getD_none, List.cons_append, List.nil_append, List.replicate_succ, List.replicate_zero, Nat.reduceAdd, Nat.reduceSub, decide_eq_true_eq, Bool.and_eq_true, Bool.or_eq_true, if_true, if_false, Bool.not_eq_true', Bool.false_eq_true, reduceIte, DS.eqD_int, DS.neD_int, DS.eqD_bl, DS.neD_bl, ne_eq, not_false_eq_true, not_true_eq_false, true_and, and_true, true_or, or_true, false_or, or_false, and_self, Int.reduceEq, Int.reduceAbs, Nat.reduceLT, Int.reduceLT, Int.reduceLE, Int.reduceNeg, Nat.reduceEqDiff, decide_true, decide_false, Bool.not_true, Bool.not_false, atI0, atI1, F_common_ok] <;> rfl))))
  | false =>
    refine fn_rt (sq_nx (if_ff (s1 := ⟨[.v (shD h ts), .un, .un], hp⟩) (by simp (config := { failIfUnchanged := false }) only [DS.nxS, DS.bkS, DS.ctS, DS.badS, DS.retS, DS.retN, DS.exprS, DS.setS, DS.setL, DS.asgS, DS.gN, DS.gT, DS.gsN, DS.gsC, DS.op1, DS.op2, DS.op1L, DS.op2L, DS.oV, DS.oS, DS.var, DS.cst, DS.deref, DS.derefD, DS.ofL, DS.lstE, DS.evA, DS.tupE, DS.asB, DS.truT, DS.andT, DS.orT, DS.notT, DS.andE, DS.orE, DS.notE, DS.ifE, DS.chn, DS.sl, DS.slL, DS.part, DS.lcE, DS.lcL, DS.itA, DS.itE, DS.itZ, DS.par2, DS.evP, DS.setIx, DS.mutE, DS.lstTok, DS.updTok, DS.shr, DS.callE, DS.callKE, DS.runFn, DS.orL, DS.yesT, DS.noOwn, DS.addD, DS.subD, DS.mulD, DS.divD, DS.modD, DS.powD, DS.negD, DS.ltD, DS.leD, DS.gtD, DS.geD, DS.isN, DS.isntN, DS.notD, DS.ixD, DS.slD, DS.slLs, DS.lenD, DS.absD, DS.intD, DS.tupleD, DS.listL, DS.allD, DS.anyD, DS.sumD, DS.minD, DS.maxD, DS.sortedL, DS.truD, DS.isiD, DS.tyD, DS.gId, DS.wipeE, DS.restE, DS.R.bind_ok, DS.R.bind_exc, DS.R.bind_bad, DS.R.map_ok, DS.R.of_some, DS.R.of_none, Option.bind_some, Option.bind_none, Option.map_some, Option.map_none, List.getElem?_cons_zero, List.getElem?_cons_succ, List.getElem?_nil, List.set_cons_zero, List.set_cons_succ, List.length_cons, List.length_nil, List.map_cons, List.map_nil, Option.getD_some, Option.getD_none, List.cons_append, List.nil_append, List.replicate_succ, List.replicate_zero, Nat.reduceAdd, Nat.reduceSub, decide_eq_true_eq, Bool.and_eq_true, Bool.or_eq_true, if_true, if_false, Bool.not_eq_true', Bool.false_eq_true, reduceIte, DS.eqD_int, DS.neD_int, DS.eqD_bl, DS.neD_bl, ne_eq, not_false_eq_true, not_true_eq_false, true_and, and_true, true_or, or_true, false_or, or_false, and_self, Int.reduceEq, Int.reduceAbs, Nat.reduceLT, Int.reduceLT, Int.reduceLE, Int.reduceNeg, Nat.reduceEqDiff, decide_true, decide_false, Bool.not_true, Bool.not_false, is_odd_in_ok v.h0, q] <;> rfl) (by simp (config := { failIfUnchanged := false }) only [DS.nxS, DS.bkS, DS.ctS, DS.badS, DS.retS, DS.retN, DS.exprS, DS.setS, DS.setL, DS.asgS, DS.gN, DS.gT, DS.gsN, DS.gsC, DS.op1, DS.op2, DS.op1L, DS.op2L, DS.oV, DS.oS, DS.var, DS.cst, DS.deref, DS.derefD, DS.ofL, DS.lstE, DS.evA, DS.tupE, DS.asB, DS.truT, DS.andT, DS.orT, DS.notT, DS.andE, DS.orE, DS.notE, DS.ifE, DS.chn, DS.sl, DS.slL, DS.part, DS.lcE, DS.lcL, DS.itA, DS.itE, DS.itZ, DS.par2, DS.evP, DS.setIx, DS.mutE, DS.lstTok, DS.updTok, DS.shr, DS.callE, DS.callKE, DS.runFn, DS.orL, DS.yesT, DS.noOwn, DS.addD, DS.subD, DS.mulD, DS.divD, DS.modD, DS.powD, DS.negD, DS.ltD, DS.leD, DS.gtD, DS.geD, DS.isN, DS.isntN, DS.notD, DS.ixD, DS.slD, DS.slLs, DS.lenD, DS.absD, DS.intD, DS.tupleD, DS.listL, DS.allD, DS.anyD, DS.sumD, DS.minD, DS.maxD, DS.sortedL, DS.truD, DS.isiD, DS.tyD, DS.gId, DS.wipeE, DS.restE, DS.R.bind_ok, DS.R.bind_exc, DS.R.bind_bad, DS.R.map_ok, DS.R.of_some, DS.R.of_none, Option.bind_some, Option.bind_none, Option.map_some, Option.map_none, List.getElem?_cons_zero, List.getElem?_cons_succ, List.getElem?_nil, List.set_cons_zero, List.set_cons_succ, List.length_cons, List.length_nil, List.map_cons, List.map_nil, Option.getD_some, Option.getD_none, List.cons_append, List.nil_append, List.replicate_succ, List.replicate_zero, Nat.reduceAdd, Nat.reduceSub, decide_eq_true_eq, Bool.and_eq_true, Bool.or_eq_true, if_true, if_false, Bool.not_eq_true', Bool.false_eq_true, reduceIte, DS.eqD_int, DS.neD_int, DS.eqD_bl, DS.neD_bl, ne_eq, not_false_eq_true, not_true_eq_false, true_and, and_true, true_or, or_true, false_or, or_false, and_self, Int.reduceEq, Int.reduceAbs, Nat.reduceLT, Int.reduceLT, Int.reduceLE, Int.reduceNeg, Nat.reduceEqDiff, decide_true, decide_false, Bool.not_true, Bool.not_false] <;> rfl)) (sq_nx (s1 := ⟨[.v (shD h ts), .v (.int (shr h ts).1), .v (.int (shr h ts).2)], hp⟩) (by simp (config := { failIfUnchanged := false }) only [DS.nxS, DS.bkS, DS.ctS, DS.badS, DS.retS, DS.retN, DS.exprS, DS.setS, DS.setL, DS.asgS, DS.gN, DS.gT, DS.gsN, DS.gsC, DS.op1, DS.op2, DS.op1L, DS.op2L, DS.oV, DS.oS, DS.var, DS.cst, DS.deref, DS.derefD, DS.ofL, DS.lstE, DS.evA, DS.tupE, DS.asB, DS.truT, DS.andT, DS.orT, DS.notT, DS.andE, DS.orE, DS.notE, DS.ifE, DS.chn, DS.sl, DS.slL, DS.part, DS.lcE, DS.lcL, DS.itA, DS.itE, DS.itZ, DS.par2, DS.evP, DS.setIx, DS.mutE, DS.lstTok, DS.updTok, DS.shr, DS.callE, DS.callKE, DS.runFn, DS.orL, DS.yesT, DS.noOwn, DS.addD, DS.subD, DS.mulD, DS.divD, DS.modD, DS.powD, DS.negD, DS.ltD, DS.leD, DS.gtD, DS.geD, DS.isN, DS.isntN, DS.notD, DS.ixD, DS.slD, DS.slLs, DS.lenD, DS.absD, DS.intD, DS.tupleD, DS.listL, DS.allD, DS.anyD, DS.sumD, DS.minD, DS.maxD, DS.sortedL, DS.truD, DS.isiD, DS.tyD, DS.gId, DS.wipeE, DS.restE, DS.R.bind_ok, DS.R.bind_exc, DS.R.bind_bad, DS.R.map_ok, DS.R.of_some, DS.R.of_none, Option.bind_some, Option.bind_none, Option.map_some, Option.map_none, List.getElem?_cons_zero, List.getElem?_cons_succ, List.getElem?_nil, List.set_cons_zero, List.set_cons_succ, List.length_cons, List.length_nil, List.map_cons, List.map_nil, Option.getD_some, Option.getD_none, List.cons_append, List.nil_append, List.replicate_succ, List.replicate_zero, Nat.reduceAdd, Nat.reduceSub, decide_eq_true_eq, Bool.and_eq_true, Bool.or_eq_true, if_true, if_false, Bool.not_eq_true', Bool.false_eq_true, reduceIte, DS.eqD_int, DS.neD_int, DS.eqD_bl, DS.neD_bl, ne_eq, not_false_eq_true, not_true_eq_false, true_and, and_true, true_or, or_true, false_or, or_false, and_self, Int.reduceEq, Int.reduceAbs, Nat.reduceLT, Int.reduceLT, Int.reduceLE, Int.reduceNeg, Nat.reduceEqDiff, decide_true, decide_false, Bool.not_true, Bool.not_false, share_in_ok v] <;> rfl) (rt_of (s1 := ⟨[.v (shD h ts), .v (.int (shr h ts).1), .v (.int (shr h ts).2)], hp⟩) ?_)))
    by_cases h1 : 0 < (shr h ts).1
    · have h2 : (shr h ts).1 ≠ 0 := by omega
      have h3 : (shr h ts).1.natAbs < 1073741824 := by omega
      simp (config := { failIfUnchanged := false }) only [DS.nxS, DS.bkS, DS.ctS, DS.badS, DS.retS, DS.retN, DS.exprS, DS.setS, DS.setL, DS.asgS, DS.gN, DS.gT, DS.gsN, DS.gsC, DS.op1, DS.op2, DS.op1L, DS.op2L, DS.oV, DS.oS, DS.var, DS.cst, DS.deref, DS.derefD, DS.ofL, DS.lstE, DS.evA, DS.tupE, DS.asB, DS.truT, DS.andT, DS.orT, DS.notT, DS.andE, DS.orE, DS.notE, DS.ifE, DS.chn, DS.sl, DS.slL, DS.part, DS.lcE, DS.lcL, DS.itA, DS.itE, DS.itZ, DS.par2, DS.evP, DS.setIx, DS.mutE, DS.lstTok, DS.updTok, DS.shr, DS.callE, DS.callKE, DS.runFn, DS.orL, DS.yesT, DS.noOwn, DS.addD, DS.subD, DS.mulD, DS.divD, DS.modD, DS.powD, DS.negD, DS.ltD, DS.leD, DS.gtD, DS.geD, DS.isN, DS.isntN, DS.notD, DS.ixD, DS.slD, DS.slLs, DS.lenD, DS.absD, DS.intD, DS.tupleD, DS.listL, DS.allD, DS.anyD, DS.sumD, DS.minD, DS.maxD, DS.sortedL, DS.truD, DS.isiD, DS.tyD, DS.gId, DS.wipeE, DS.restE, DS.R.bind_ok, DS.R.bind_exc, DS.R.bind_bad, DS.R.map_ok, DS.R.of_some, DS.R.of_none, Option.bind_some, Option.bind_none, Option.map_some, Option.map_none, List.getElem?_cons_zero, List.getElem?_cons_succ, List.getElem?_nil, List.set_cons_zero, List.set_cons_succ, List.length_cons, List.length_nil, List.map_cons, List.map_nil, Option.getD_some, Option.getD_none, List.cons_append, List.nil_append, List.replicate_succ, List.replicate_zero, Nat.reduceAdd, Nat.reduceSub, decide_eq_true_eq, Bool.and_eq_true, Bool.or_eq_true, if_true, if_false, Bool.not_eq_true', Bool.false_eq_true, reduceIte, DS.eqD_int, DS.neD_int, DS.eqD_bl, DS.neD_bl, ne_eq, not_false_eq_true, not_true_eq_false, true_and, and_true, true_or, or_true, false_or, or_false, and_self, Int.reduceEq, Int.reduceAbs, Nat.reduceLT, Int.reduceLT, Int.reduceLE, Int.reduceNeg, Nat.reduceEqDiff, decide_true, decide_false, Bool.not_true, Bool.not_false, h1, h2, h3, hs2, fdiv_pos (show 0 ≤ (shr h ts).1 by omega)]
    · simp (config := { failIfUnchanged := false }) only [DS.nxS, DS.bkS, DS.ctS, DS.badS, DS.retS, DS.retN, DS.exprS, DS.setS, DS.setL, DS.asgS, DS.gN, DS.gT, DS.gsN, DS.gsC, DS.op1, DS.op2, DS.op1L, DS.op2L, DS.oV, DS.oS, DS.var, DS.cst, DS.deref, DS.derefD, DS.ofL, DS.lstE, DS.evA, DS.tupE, DS.asB, DS.truT, DS.andT, DS.orT, DS.notT, DS.andE, DS.orE, DS.notE, DS.ifE, DS.chn, DS.sl, DS.slL, DS.part, DS.lcE, DS.lcL, DS.itA, DS.itE, DS.itZ, DS.par2, DS.evP, DS.setIx, DS.mutE, DS.lstTok, DS.updTok, DS.shr, DS.callE, DS.callKE, DS.runFn, DS.orL, DS.yesT, DS.noOwn, DS.addD, DS.subD, DS.mulD, DS.divD, DS.modD, DS.powD, DS.negD, DS.ltD, DS.leD, DS.gtD, DS.geD, DS.isN, DS.isntN, DS.notD, DS.ixD, DS.slD, DS.slLs, DS.lenD, DS.absD, DS.intD, DS.tupleD, DS.listL, DS.allD, DS.anyD, DS.sumD, DS.minD, DS.maxD, DS.sortedL, DS.truD, DS.isiD, DS.tyD, DS.gId, DS.wipeE, DS.restE, DS.R.bind_ok, DS.R.bind_exc, DS.R.bind_bad, DS.R.map_ok, DS.R.of_some, DS.R.of_none, Option.bind_some, Option.bind_none, Option.map_some, Option.map_none, List.getElem?_cons_zero, List.getElem?_cons_succ, List.getElem?_nil, List.set_cons_zero, List.set_cons_succ, List.length_cons, List.length_nil, List.map_cons, List.map_nil, Option.getD_some, Option.getD_none, List.cons_append, List.nil_append, List.replicate_succ, List.replicate_zero, Nat.reduceAdd, Nat.reduceSub, decide_eq_true_eq, Bool.and_eq_true, Bool.or_eq_true, if_true, if_false, Bool.not_eq_true', Bool.false_eq_true, reduceIte, DS.eqD_int, DS.neD_int, DS.eqD_bl, DS.neD_bl, ne_eq, not_false_eq_true, not_true_eq_false, true_and, and_true, true_or, or_true, false_or, or_false, and_self, Int.reduceEq, Int.reduceAbs, Nat.reduceLT, Int.reduceLT, Int.reduceLE, Int.reduceNeg, Nat.reduceEqDiff, decide_true, decide_false, Bool.not_true, Bool.not_false, h1]
theorem sheet_share_ok {d : D} {h : Int} {ts : List Int} (hd : ShT d h ts) (v : Vs h ts) (hp : List Ob) : F_sheet_share [d] hp = .ok (.tup [.int (shr h ts).1, .int (shr h ts).2]) hp := by
  unfold F_sheet_share B_sheet_share
  exact fn_rt (rt_of (by simp (config := { failIfUnchanged := false }) only [DS.nxS, DS.bkS, DS.ctS, DS.badS, DS.retS, DS.retN, DS.exprS, DS.setS, DS.setL, DS.asgS, DS.gN, DS.gT, DS.gsN, DS.gsC, DS.op1, DS.op2, DS.op1L, DS.op2L, DS.oV, DS.oS, DS.var, DS.cst, DS.deref, DS.derefD, DS.ofL, DS.lstE, DS.evA, DS.tupE, DS.asB, DS.truT, DS.andT, DS.orT, DS.notT, DS.andE, DS.orE, DS.notE, DS.ifE, DS.chn, DS.sl, DS.slL, DS.part, DS.lcE, DS.lcL, DS.itA, DS.itE, DS.itZ, DS.par2, DS.evP, DS.setIx, DS.mutE, DS.lstTok, DS.updTok, DS.shr, DS.callE, DS.callKE, DS.runFn, DS.orL, DS.yesT, DS.noOwn, DS.addD, DS.subD, DS.mulD, DS.divD, DS.modD, DS.powD, DS.negD, DS.ltD, DS.leD, DS.gtD, DS.geD, DS.isN, DS.isntN, DS.notD, DS.ixD, DS.slD, DS.slLs, DS.lenD, DS.absD, DS.intD, DS.tupleD, DS.listL, DS.allD, DS.anyD, DS.sumD, DS.minD, DS.maxD, DS.sortedL, DS.truD, DS.isiD, DS.tyD, DS.gId, DS.wipeE, DS.restE, DS.R.bind_ok, DS.R.bind_exc, DS.R.bind_bad, DS.R.map_ok, DS.R.of_some, DS.R.of_none, Option.bind_some, Option.bind_none, Option.map_some, Option.map_none, List.getElem?_cons_zero, List.getElem?_cons_succ, List.getElem?_nil, List.set_cons_zero, List.set_cons_succ, List.length_cons, List.length_nil, List.map_cons, List.map_nil, Option.getD_some, Option.getD_none, List.cons_append, List.nil_append, List.replicate_succ, List.replicate_zero, Nat.reduceAdd, Nat.reduceSub, decide_eq_true_eq, Bool.and_eq_true, Bool.or_eq_true, if_true, if_false, Bool.not_eq_true', Bool.false_eq_true, reduceIte, DS.eqD_int, DS.neD_int, DS.eqD_bl, DS.neD_bl, ne_eq, not_false_eq_true, not_true_eq_false, true_and, and_true, true_or, or_true, false_or, or_false, and_self, Int.reduceEq, Int.reduceAbs, Nat.reduceLT, Int.reduceLT, Int.reduceLE, Int.reduceNeg, Nat.reduceEqDiff, decide_true, decide_false, Bool.not_true, Bool.not_false, sure_ok hd v, share_in_ok v] <;> rfl))
theorem sheet_kind_ok {d : D} {h : Int} {ts : List Int} (hd : ShT d h ts) (v : Vs h ts) (hp : List Ob) : F_sheet_kind [d] hp = .ok (.str (kindS h ts)) hp := by
  unfold F_sheet_kind B_sheet_kind
  exact fn_rt (rt_of (by simp (config := { failIfUnchanged := false }) only [DS.nxS, DS.bkS, DS.ctS, DS.badS, DS.retS, DS.retN, DS.exprS, DS.setS, DS.setL, DS.asgS, DS.gN, DS.gT, DS.gsN, DS.gsC, DS.op1, DS.op2, DS.op1L, DS.op2L, DS.oV, DS.oS, DS.var, DS.cst, DS.deref, DS.derefD, DS.ofL, DS.lstE, DS.evA, DS.tupE, DS.asB, DS.truT, DS.andT, DS.orT, DS.notT, DS.andE, DS.orE, DS.notE, DS.ifE, DS.chn, DS.sl, DS.slL, DS.part, DS.lcE, DS.lcL, DS.itA, DS.itE, DS.itZ, DS.par2, DS.evP, DS.setIx, DS.mutE, DS.lstTok, DS.updTok, DS.shr, DS.callE, DS.callKE, DS.runFn, DS.orL, DS.yesT, DS.noOwn, DS.addD, DS.subD, DS.mulD, DS.divD, DS.modD, DS.powD, DS.negD, DS.ltD, DS.leD, DS.gtD, DS.geD, DS.isN, DS.isntN, DS.notD, DS.ixD, DS.slD, DS.slLs, DS.lenD, DS.absD, DS.intD, DS.tupleD, DS.listL, DS.allD, DS.anyD, DS.sumD, DS.minD, DS.maxD, DS.sortedL, DS.truD, DS.isiD, DS.tyD, DS.gId, DS.wipeE, DS.restE, DS.R.bind_ok, DS.R.bind_exc, DS.R.bind_bad, DS.R.map_ok, DS.R.of_some, DS.R.of_none, Option.bind_some, Option.bind_none, Option.map_some, Option.map_none, List.getElem?_cons_zero, List.getElem?_cons_succ, List.getElem?_nil, List.set_cons_zero, List.set_cons_succ, List.length_cons, List.length_nil, List.map_cons, List.map_nil, Option.getD_some, Option.getD_none, List.cons_append, List.nil_append, List.replicate_succ, List.replicate_zero, Nat.reduceAdd, Nat.reduceSub, decide_eq_true_eq, Bool.and_eq_true, Bool.or_eq_true, if_true, if_false, Bool.not_eq_true', Bool.false_eq_true, reduceIte, DS.eqD_int, DS.neD_int, DS.eqD_bl, DS.neD_bl, ne_eq, not_false_eq_true, not_true_eq_false, true_and, and_true, true_or, or_true, false_or, or_false, and_self, Int.reduceEq, Int.reduceAbs, Nat.reduceLT, Int.reduceLT, Int.reduceLE, Int.reduceNeg, Nat.reduceEqDiff, decide_true, decide_false, Bool.not_true, Bool.not_false, sure_ok hd v, kind_in_ok v] <;> rfl))
theorem sheet_size_ok {d : D} {h : Int} {ts : List Int} (hd : ShT d h ts) (v : Vs h ts) (hp : List Ob) : F_sheet_size [d] hp = .ok (sizeD h ts) hp := by
  unfold F_sheet_size B_sheet_size
  exact fn_rt (rt_of (by simp (config := { failIfUnchanged := false }) only [DS.nxS, DS.bkS, DS.ctS, DS.badS, DS.retS, DS.retN, DS.exprS, DS.setS, DS.setL, DS.asgS, DS.gN, DS.gT, DS.gsN, DS.gsC, DS.op1, DS.op2, DS.op1L, DS.op2L, DS.oV, DS.oS, DS.var, DS.cst, DS.deref, DS.derefD, DS.ofL, DS.lstE, DS.evA, DS.tupE, DS.asB, DS.truT, DS.andT, DS.orT, DS.notT, DS.andE, DS.orE, DS.notE, DS.ifE, DS.chn, DS.sl, DS.slL, DS.part, DS.lcE, DS.lcL, DS.itA, DS.itE, DS.itZ, DS.par2, DS.evP, DS.setIx, DS.mutE, DS.lstTok, DS.updTok, DS.shr, DS.callE, DS.callKE, DS.runFn, DS.orL, DS.yesT, DS.noOwn, DS.addD, DS.subD, DS.mulD, DS.divD, DS.modD, DS.powD, DS.negD, DS.ltD, DS.leD, DS.gtD, DS.geD, DS.isN, DS.isntN, DS.notD, DS.ixD, DS.slD, DS.slLs, DS.lenD, DS.absD, DS.intD, DS.tupleD, DS.listL, DS.allD, DS.anyD, DS.sumD, DS.minD, DS.maxD, DS.sortedL, DS.truD, DS.isiD, DS.tyD, DS.gId, DS.wipeE, DS.restE, DS.R.bind_ok, DS.R.bind_exc, DS.R.bind_bad, DS.R.map_ok, DS.R.of_some, DS.R.of_none, Option.bind_some, Option.bind_none, Option.map_some, Option.map_none, List.getElem?_cons_zero, List.getElem?_cons_succ, List.getElem?_nil, List.set_cons_zero, List.set_cons_succ, List.length_cons, List.length_nil, List.map_cons, List.map_nil, Option.getD_some, Option.getD_none, List.cons_append, List.nil_append, List.replicate_succ, List.replicate_zero, Nat.reduceAdd, Nat.reduceSub, decide_eq_true_eq, Bool.and_eq_true, Bool.or_eq_true, if_true, if_false, Bool.not_eq_true', Bool.false_eq_true, reduceIte, DS.eqD_int, DS.neD_int, DS.eqD_bl, DS.neD_bl, ne_eq, not_false_eq_true, not_true_eq_false, true_and, and_true, true_or, or_true, false_or, or_false, and_self, Int.reduceEq, Int.reduceAbs, Nat.reduceLT, Int.reduceLT, Int.reduceLE, Int.reduceNeg, Nat.reduceEqDiff, decide_true, decide_false, Bool.not_true, Bool.not_false, sure_ok hd v, size_in_ok v] <;> rfl))
theorem like_ok {d d' : D} {h h' : Int} {ts us : List Int} (hd : ShT d h ts) (v : Vs h ts) (hd' : ShT d' h' us) (v' : Vs h' us) (hp : List Ob) : F_are_like_sheets [d, d'] hp = .ok (.bl (decide (h = h') && decide (sortI ts = sortI us))) hp := by
  unfold F_are_like_sheets B_are_like_sheets
  refine fn_rt (sq_nx (s1 := ⟨[.v d, .v d', .v (shD h ts), .v (shD h' us)], hp⟩) (by simp (config := { failIfUnchanged := false }) only [DS.nxS, DS.bkS, DS.ctS, DS.badS, DS.retS, DS.retN, DS.exprS, DS.setS, DS.setL, DS.asgS, DS.gN, DS.gT, DS.gsN, DS.gsC, DS.op1, DS.op2, DS.op1L, DS.op2L, DS.oV, DS.oS, DS.var, DS.cst, DS.deref, DS.derefD, DS.ofL, DS.lstE, DS.evA, DS.tupE, DS.asB, DS.truT, DS.andT, DS.orT, DS.notT, DS.andE, DS.orE, DS.notE, DS.ifE, DS.chn, DS.sl, DS.slL, DS.part, DS.lcE, DS.lcL, DS.itA, DS.itE, DS.itZ, DS.par2, DS.evP, DS.setIx, DS.mutE, DS.lstTok, DS.updTok, DS.shr, DS.callE, DS.callKE, DS.runFn, DS.orL, DS.yesT, DS.noOwn, DS.addD, DS.subD, DS.mulD, DS.divD, DS.modD, DS.powD, DS.negD, DS.ltD, DS.leD, DS.gtD, DS.geD, DS.isN, DS.isntN, DS.notD, DS.ixD, DS.slD, DS.slLs, DS.lenD, DS.absD, DS.intD, DS.tupleD, DS.listL, DS.allD, DS.anyD, DS.sumD, DS.minD, DS.maxD, DS.sortedL, DS.truD, DS.isiD, DS.tyD, DS.gId, DS.wipeE, DS.restE, DS.R.bind_ok, DS.R.bind_exc, DS.R.bind_bad, DS.R.map_ok, DS.R.of_some, DS.R.of_none, Option.bind_some, Option.bind_none, Option.map_some, Option.map_none, List.getElem?_cons_zero, List.getElem?_cons_succ, List.getElem?_nil, List.set_cons_zero, List.set_cons_succ, List.length_cons, List.length_nil, List.map_cons, List.map_nil, Option.getD_some, Option.getD_none, List.cons_append, List.nil_append, List.replicate_succ, List.replicate_zero, Nat.reduceAdd, Nat.reduceSub, decide_eq_true_eq, Bool.and_eq_true, Bool.or_eq_true, if_true, if_false, Bool.not_eq_true', Bool.false_eq_true, reduceIte, DS.eqD_int, DS.neD_int, DS.eqD_bl, DS.neD_bl, ne_eq, not_false_eq_true, not_true_eq_false, true_and, and_true, true_or, or_true, false_or, or_false, and_self, Int.reduceEq, Int.reduceAbs, Nat.reduceLT, Int.reduceLT, Int.reduceLE, Int.reduceNeg, Nat.reduceEqDiff, decide_true, decide_false, Bool.not_true, Bool.not_false, sure_ok hd v, sure_ok hd' v'] <;> rfl) (rt_of (s1 := ⟨[.v d, .v d', .v (shD h ts), .v (shD h' us)], hp⟩) ?_))
  by_cases q : h = h'
  · simp (config := { failIfUnchanged := false }) only [DS.nxS, DS.bkS, DS.ctS, DS.badS, DS.retS, DS.retN, DS.exprS, DS.setS, DS.setL, DS.asgS, DS.gN, DS.gT, DS.gsN, DS.gsC, DS.op1, DS.op2, DS.op1L, DS.op2L, DS.oV, DS.oS, DS.var, DS.cst, DS.deref, DS.derefD, DS.ofL, DS.lstE, DS.evA, DS.tupE, DS.asB, DS.truT, DS.andT, DS.orT, DS.notT, DS.andE, DS.orE, DS.notE, DS.ifE, DS.chn, DS.sl, DS.slL, DS.part, DS.lcE, DS.lcL, DS.itA, DS.itE, DS.itZ, DS.par2, DS.evP, DS.setIx, DS.mutE, DS.lstTok, DS.updTok, DS.shr, DS.callE, DS.callKE, DS.runFn, DS.orL, DS.yesT, DS.noOwn, DS.addD, DS.subD, DS.mulD, DS.divD, DS.modD, DS.powD, DS.negD, DS.ltD, DS.leD, DS.gtD, DS.geD, DS.isN, DS.isntN, DS.notD, DS.ixD, DS.slD, DS.slLs, DS.lenD, DS.absD, DS.intD, DS.tupleD, DS.listL, DS.allD, DS.anyD, DS.sumD, DS.minD, DS.maxD, DS.sortedL, DS.truD, DS.isiD, DS.tyD, DS.gId, DS.wipeE, DS.restE, DS.R.bind_ok, DS.R.bind_exc, DS.R.bind_bad, DS.R.map_ok, DS.R.of_some, DS.R.of_none, Option.bind_some, Option.bind_none, Option.map_some, Option.map_none, List.getElem?_cons_zero, List.getElem?_cons_succ, List.getElem?_nil, List.set_cons_zero, List.set_cons_succ, List.length_cons, List.length_nil, List.map_cons, List.map_nil, Option.getD_some, Option.getD_none, List.cons_append, List.nil_append, List.replicate_succ, List.replicate_zero, Nat.reduceAdd, Nat.reduceSub, decide_eq_true_eq, Bool.and_eq_true, Bool.or_eq_true, if_true, if_false, Bool.not_eq_true', Bool.false_eq_true, reduceIte, DS.eqD_int, DS.neD_int, DS.eqD_bl, DS.neD_bl, ne_eq, not_false_eq_true, not_true_eq_false, true_and, and_true, true_or, or_true, false_or, or_false, and_self, Int.reduceEq, Int.reduceAbs, Nat.reduceLT, Int.reduceLT, Int.reduceLE, Int.reduceNeg, Nat.reduceEqDiff, decide_true, decide_false, Bool.not_true, Bool.not_false, atI0, atI1, q, toInts_map, eqD_ints, Bool.true_and]
  · simp (config := { failIfUnchanged := false }) only [DS.nxS, DS.bkS, DS.ctS, DS.badS, DS.retS, DS.retN, DS.exprS, DS.setS, DS.setL, DS.asgS, DS.gN, DS.gT, DS.gsN, DS.gsC, DS.op1, DS.op2, DS.op1L, DS.op2L, DS.oV, DS.oS, DS.var, DS.cst, DS.deref, DS.derefD, DS.ofL, DS.lstE, DS.evA, DS.tupE, DS.asB, DS.truT, DS.andT, DS.orT, DS.notT, DS.andE, DS.orE, DS.notE, DS.ifE, DS.chn, DS.sl, DS.slL, DS.part, DS.lcE, DS.lcL, DS.itA, DS.itE, DS.itZ, DS.par2, DS.evP, DS.setIx, DS.mutE, DS.lstTok, DS.updTok, DS.shr, DS.callE, DS.callKE, DS.runFn, DS.orL, DS.yesT, DS.noOwn, DS.addD, DS.subD, DS.mulD, DS.divD, DS.modD, DS.powD, DS.negD, DS.ltD, DS.leD, DS.gtD, DS.geD, DS.isN, DS.isntN, DS.notD, DS.ixD, DS.slD, DS.slLs, DS.lenD, DS.absD, DS.intD, DS.tupleD, DS.listL, DS.allD, DS.anyD, DS.sumD, DS.minD, DS.maxD, DS.sortedL, DS.truD, DS.isiD, DS.tyD, DS.gId, DS.wipeE, DS.restE, DS.R.bind_ok, DS.R.bind_exc, DS.R.bind_bad, DS.R.map_ok, DS.R.of_some, DS.R.of_none, Option.bind_some, Option.bind_none, Option.map_some, Option.map_none, List.getElem?_cons_zero, List.getElem?_cons_succ, List.getElem?_nil, List.set_cons_zero, List.set_cons_succ, List.length_cons, List.length_nil, List.map_cons, List.map_nil, Option.getD_some, Option.getD_none, List.cons_append, List.nil_append, List.replicate_succ, List.replicate_zero, Nat.reduceAdd, Nat.reduceSub, decide_eq_true_eq, Bool.and_eq_true, Bool.or_eq_true, if_true, if_false, Bool.not_eq_true', Bool.false_eq_true, reduceIte, DS.eqD_int, DS.neD_int, DS.eqD_bl, DS.neD_bl, ne_eq, not_false_eq_true, not_true_eq_false, true_and, and_true, true_or, or_true, false_or, or_false, and_self, Int.reduceEq, Int.reduceAbs, Nat.reduceLT, Int.reduceLT, Int.reduceLE, Int.reduceNeg, Nat.reduceEqDiff, decide_true, decide_false, Bool.not_true, Bool.not_false, atI0, atI1, q, Bool.false_and]
theorem sortI_perm {ts us : List Int} (p : ts.Perm us) : sortI ts = sortI us := by
  have h1 : (sortI ts).Perm us := (List.mergeSort_perm ts _).trans p
  have h2 := List.pairwise_mergeSort (le := fun a b : Int => decide (a ≤ b)) (fun a b c h1 h2 => by simp at *; omega) (fun a b => by simp; omega) ts
  exact sortI_of h1 (h2.imp fun h => by simpa using h)
theorem size_perm {h : Int} {ts us : List Int} (p : ts.Perm us) : sizeD h ts = sizeD h us := by
  have hodd : oddB h ts = oddB h us := by
    have hl := p.length_eq
    unfold oddB
    congr 1
    match ts, us, hl with
    | [], [], _ => rfl
    | [a], [b], _ => rfl
    | [a, b], [c, d], _ =>
      have h1 : a = c ∧ b = d ∨ a = d ∧ b = c := by
        have ha : a ∈ [c, d] := p.mem_iff.mp (by simp)
        have hc : c ∈ [a, b] := p.mem_iff.mpr (by simp)
        have hb : b ∈ [c, d] := p.mem_iff.mp (by simp)
        have hd : d ∈ [a, b] := p.mem_iff.mpr (by simp)
        simp at ha hb hc hd
        omega
      rcases h1 with ⟨rfl, rfl⟩ | ⟨rfl, rfl⟩
      · rfl
      · by_cases q : a = b
        · subst q; rfl
        · have q' : b ≠ a := fun z => q z.symm
          simp [q, q']
    | a :: b :: c :: ts, d :: e :: f :: us, _ => rfl
  unfold sizeD
  rw [hodd, shr_perm h p]
  cases q : oddB h us with
  | false => rfl
  | true =>
    have q' : oddB h ts = true := by rw [hodd, q]
    obtain ⟨_, ⟨a, rfl⟩ | ⟨a, b, rfl, _⟩⟩ := odd_shape q
    · have : ts = [a] := List.perm_singleton.mp p
      subst this
      rfl
    · obtain ⟨_, ⟨c, rfl⟩ | ⟨c, d, rfl, hcd⟩⟩ := odd_shape q'
      · exact absurd p.length_eq (by simp)
      · have ha : c ∈ [a, b] := p.mem_iff.mp (by simp)
        have hb : d ∈ [a, b] := p.mem_iff.mp (by simp)
        simp at ha hb
        have h1 : c = a ∧ d = b ∨ c = b ∧ d = a := by omega
        rcases h1 with ⟨rfl, rfl⟩ | ⟨rfl, rfl⟩
        · rfl
        · simp only [if_true]
          rw [Int.gcd_comm]
end L30
namespace L30
open PySem PySem.Spec PyProof.Rows L2 DS
/-- data that is told apart by ==, so deep -/
inductive Pl : Nat → D → Prop
  | non (n : Nat) : Pl n .non
  | bl (n : Nat) (b : Bool) : Pl n (.bl b)
  | int (n : Nat) (i : Int) : Pl n (.int i)
  | str (n : Nat) (x : Str) (h : PyData.canLay0 (.str x) = true) : Pl n (.str x)
  | tup (n : Nat) (xs : List D) (l : xs.length < 900) (h : ∀ x ∈ xs, Pl n x) : Pl (n + 1) (.tup xs)
  | lst (n : Nat) (xs : List D) (l : xs.length < 900) (h : ∀ x ∈ xs, Pl n x) : Pl (n + 1) (.lst xs)
theorem same_loop (f : Fn) (a b : DS.Slot) (hp : List Ob) : ∀ (xs : List D) (acc : List D), acc.length + xs.length < 1000 → (∀ x ∈ xs, f [x, x] hp = .ok (.bl true) hp) →
    lcL (gT 2 (gsC (gN 2) (gsC (gN 3) gsN))) [2, 3] yesT (callE f [(var 2), (var 3)]) (zipL xs xs) acc ⟨[a, b, .un, .un], hp⟩ = .ok (acc ++ xs.map fun _ => .bl true) ⟨[a, b, .un, .un], hp⟩
  | [], acc, _, _ => by simp [lcL, zipL]
  | x :: xs, acc, h, hx => by
    simp only [List.length_cons] at h
    rw [zipL]
    refine Eq.trans (lcL_cons (s1 := ⟨[a, b, .v x, .v x], hp⟩) (s2 := ⟨[a, b, .v x, .v x], hp⟩) (y := .bl true) (s3 := ⟨[a, b, .v x, .v x], hp⟩) (by simp (config := { failIfUnchanged := false }) only [DS.nxS, DS.bkS, DS.ctS, DS.badS, DS.retS, DS.retN, DS.exprS, DS.setS, DS.setL, DS.asgS, DS.gN, DS.gT, DS.gsN, DS.gsC, DS.op1, DS.op2, DS.op1L, DS.op2L, DS.oV, DS.oS, DS.var, DS.cst, DS.deref, DS.derefD, DS.ofL, DS.lstE, DS.evA, DS.tupE, DS.asB, DS.truT, DS.andT, DS.orT, DS.notT, DS.andE, DS.orE, DS.notE, DS.ifE, DS.chn, DS.sl, DS.slL, DS.part, DS.lcE, DS.lcL, DS.itA, DS.itE, DS.itZ, DS.par2, DS.evP, DS.setIx, DS.mutE, DS.lstTok, DS.updTok, DS.shr, DS.callE, DS.callKE, DS.runFn, DS.orL, DS.yesT, DS.noOwn, DS.addD, DS.subD, DS.mulD, DS.divD, DS.modD, DS.powD, DS.negD, DS.ltD, DS.leD, DS.gtD, DS.geD, DS.isN, DS.isntN, DS.notD, DS.ixD, DS.slD, DS.slLs, DS.lenD, DS.absD, DS.intD, DS.tupleD, DS.listL, DS.allD, DS.anyD, DS.sumD, DS.minD, DS.maxD, DS.sortedL, DS.truD, DS.isiD, DS.tyD, DS.gId, DS.wipeE, DS.restE, DS.R.bind_ok, DS.R.bind_exc, DS.R.bind_bad, DS.R.map_ok, DS.R.of_some, DS.R.of_none, Option.bind_some, Option.bind_none, Option.map_some, Option.map_none, List.getElem?_cons_zero, List.getElem?_cons_succ, List.getElem?_nil, List.set_cons_zero, List.set_cons_succ, List.length_cons, List.length_nil, List.map_cons, List.map_nil, Option.getD_some, Option.getD_none, List.cons_append, List.nil_append, List.replicate_succ, List.replicate_zero, Nat.reduceAdd, Nat.reduceSub, decide_eq_true_eq, Bool.and_eq_true, Bool.or_eq_true, if_true, if_false, Bool.not_eq_true', Bool.false_eq_true, reduceIte, DS.eqD_int, DS.neD_int, DS.eqD_bl, DS.neD_bl, ne_eq, not_false_eq_true, not_true_eq_false, true_and, and_true, true_or, or_true, false_or, or_false, and_self, Int.reduceEq, Int.reduceAbs, Nat.reduceLT, Int.reduceLT, Int.reduceLE, Int.reduceNeg, Nat.reduceEqDiff, decide_true, decide_false, Bool.not_true, Bool.not_false] <;> rfl) (by rfl) (by simp (config := { failIfUnchanged := false }) only [DS.nxS, DS.bkS, DS.ctS, DS.badS, DS.retS, DS.retN, DS.exprS, DS.setS, DS.setL, DS.asgS, DS.gN, DS.gT, DS.gsN, DS.gsC, DS.op1, DS.op2, DS.op1L, DS.op2L, DS.oV, DS.oS, DS.var, DS.cst, DS.deref, DS.derefD, DS.ofL, DS.lstE, DS.evA, DS.tupE, DS.asB, DS.truT, DS.andT, DS.orT, DS.notT, DS.andE, DS.orE, DS.notE, DS.ifE, DS.chn, DS.sl, DS.slL, DS.part, DS.lcE, DS.lcL, DS.itA, DS.itE, DS.itZ, DS.par2, DS.evP, DS.setIx, DS.mutE, DS.lstTok, DS.updTok, DS.shr, DS.callE, DS.callKE, DS.runFn, DS.orL, DS.yesT, DS.noOwn, DS.addD, DS.subD, DS.mulD, DS.divD, DS.modD, DS.powD, DS.negD, DS.ltD, DS.leD, DS.gtD, DS.geD, DS.isN, DS.isntN, DS.notD, DS.ixD, DS.slD, DS.slLs, DS.lenD, DS.absD, DS.intD, DS.tupleD, DS.listL, DS.allD, DS.anyD, DS.sumD, DS.minD, DS.maxD, DS.sortedL, DS.truD, DS.isiD, DS.tyD, DS.gId, DS.wipeE, DS.restE, DS.R.bind_ok, DS.R.bind_exc, DS.R.bind_bad, DS.R.map_ok, DS.R.of_some, DS.R.of_none, Option.bind_some, Option.bind_none, Option.map_some, Option.map_none, List.getElem?_cons_zero, List.getElem?_cons_succ, List.getElem?_nil, List.set_cons_zero, List.set_cons_succ, List.length_cons, List.length_nil, List.map_cons, List.map_nil, Option.getD_some, Option.getD_none, List.cons_append, List.nil_append, List.replicate_succ, List.replicate_zero, Nat.reduceAdd, Nat.reduceSub, decide_eq_true_eq, Bool.and_eq_true, Bool.or_eq_true, if_true, if_false, Bool.not_eq_true', Bool.false_eq_true, reduceIte, DS.eqD_int, DS.neD_int, DS.eqD_bl, DS.neD_bl, ne_eq, not_false_eq_true, not_true_eq_false, true_and, and_true, true_or, or_true, false_or, or_false, and_self, Int.reduceEq, Int.reduceAbs, Nat.reduceLT, Int.reduceLT, Int.reduceLE, Int.reduceNeg, Nat.reduceEqDiff, decide_true, decide_false, Bool.not_true, Bool.not_false, hx x List.mem_cons_self] <;> rfl) (by unfold LIM; omega)) ?_
    refine Eq.trans (same_loop f a b hp xs (acc ++ [.bl true]) (by simp; omega) fun y hy => hx y (List.mem_cons_of_mem _ hy)) ?_
    rw [List.append_assoc]
    rfl
theorem bls_true' : ∀ xs : List D, toBls (xs.map fun _ => D.bl true) = some (xs.map fun _ => true)
  | [] => rfl
  | t :: ts => by
    show (toBls (ts.map fun _ => D.bl true)).map _ = _
    rw [bls_true' ts]
    rfl
theorem all_true' (xs : List D) : (xs.map fun _ => true).all id = true := by
  induction xs with
  | nil => rfl
  | cons t ts ih => simp [ih]
theorem s_tl : Ty.sub .tup .lst = false := by decide
theorem s_tt : Ty.sub .tup .tup = true := by decide
theorem s_ll : Ty.sub .lst .lst = true := by decide
theorem s_lt : Ty.sub .lst .tup = false := by decide
theorem s_il : Ty.sub .int .lst = false := by decide
theorem s_it : Ty.sub .int .tup = false := by decide
theorem s_is : Ty.sub .int .str = false := by decide
theorem s_bl : Ty.sub .bl .lst = false := by decide
theorem s_bt : Ty.sub .bl .tup = false := by decide
theorem s_bb : Ty.sub .bl .bl = true := by decide
theorem s_bs : Ty.sub .bl .str = false := by decide
theorem s_sl : Ty.sub .str .lst = false := by decide
theorem s_st : Ty.sub .str .tup = false := by decide
theorem s_sb : Ty.sub .str .bl = false := by decide
theorem s_ss : Ty.sub .str .str = true := by decide
theorem s_nl : Ty.sub .non .lst = false := by decide
theorem s_nt : Ty.sub .non .tup = false := by decide
theorem same_ok (hp : List Ob) : ∀ (n : Nat) (x : D), Pl n x → F__law_same (n + 1) [x, x] hp = .ok (.bl true) hp := by
  intro n
  induction n with
  | zero =>
    intro x h
    rw [F__law_same_s]
    unfold B__law_same
    cases h with
    | non => exact fn_rt (sq_nx (if_ff (by simp (config := { failIfUnchanged := false }) only [DS.nxS, DS.bkS, DS.ctS, DS.badS, DS.retS, DS.retN, DS.exprS, DS.setS, DS.setL, DS.asgS, DS.gN, DS.gT, DS.gsN, DS.gsC, DS.op1, DS.op2, DS.op1L, DS.op2L, DS.oV, DS.oS, DS.var, DS.cst, DS.deref, DS.derefD, DS.ofL, DS.lstE, DS.evA, DS.tupE, DS.asB, DS.truT, DS.andT, DS.orT, DS.notT, DS.andE, DS.orE, DS.notE, DS.ifE, DS.chn, DS.sl, DS.slL, DS.part, DS.lcE, DS.lcL, DS.itA, DS.itE, DS.itZ, DS.par2, DS.evP, DS.setIx, DS.mutE, DS.lstTok, DS.updTok, DS.shr, DS.callE, DS.callKE, DS.runFn, DS.orL, DS.yesT, DS.noOwn, DS.addD, DS.subD, DS.mulD, DS.divD, DS.modD, DS.powD, DS.negD, DS.ltD, DS.leD, DS.gtD, DS.geD, DS.isN, DS.isntN, DS.notD, DS.ixD, DS.slD, DS.slLs, DS.lenD, DS.absD, DS.intD, DS.tupleD, DS.listL, DS.allD, DS.anyD, DS.sumD, DS.minD, DS.maxD, DS.sortedL, DS.truD, DS.isiD, DS.tyD, DS.gId, DS.wipeE, DS.restE, DS.R.bind_ok, DS.R.bind_exc, DS.R.bind_bad, DS.R.map_ok, DS.R.of_some, DS.R.of_none, Option.bind_some, Option.bind_none, Option.map_some, Option.map_none, List.getElem?_cons_zero, List.getElem?_cons_succ, List.getElem?_nil, List.set_cons_zero, List.set_cons_succ, List.length_cons, List.length_nil, List.map_cons, List.map_nil, Option.getD_some, Option.getD_none, List.cons_append, List.nil_append, List.replicate_succ, List.replicate_zero, Nat.reduceAdd, Nat.reduceSub, decide_eq_true_eq, Bool.and_eq_true, Bool.or_eq_true, if_true, if_false, Bool.not_eq_true', Bool.false_eq_true, reduceIte, DS.eqD_int, DS.neD_int, DS.eqD_bl, DS.neD_bl, ne_eq, not_false_eq_true, not_true_eq_false, true_and, and_true, true_or, or_true, false_or, or_false, and_self, Int.reduceEq, Int.reduceAbs, Nat.reduceLT, Int.reduceLT, Int.reduceLE, Int.reduceNeg, Nat.reduceEqDiff, decide_true, decide_false, Bool.not_true, Bool.not_false, any2, s_nl, s_nt, Bool.or_false] <;> rfl) (by simp (config := { failIfUnchanged := false }) only [DS.nxS, DS.bkS, DS.ctS, DS.badS, DS.retS, DS.retN, DS.exprS, DS.setS, DS.setL, DS.asgS, DS.gN, DS.gT, DS.gsN, DS.gsC, DS.op1, DS.op2, DS.op1L, DS.op2L, DS.oV, DS.oS, DS.var, DS.cst, DS.deref, DS.derefD, DS.ofL, DS.lstE, DS.evA, DS.tupE, DS.asB, DS.truT, DS.andT, DS.orT, DS.notT, DS.andE, DS.orE, DS.notE, DS.ifE, DS.chn, DS.sl, DS.slL, DS.part, DS.lcE, DS.lcL, DS.itA, DS.itE, DS.itZ, DS.par2, DS.evP, DS.setIx, DS.mutE, DS.lstTok, DS.updTok, DS.shr, DS.callE, DS.callKE, DS.runFn, DS.orL, DS.yesT, DS.noOwn, DS.addD, DS.subD, DS.mulD, DS.divD, DS.modD, DS.powD, DS.negD, DS.ltD, DS.leD, DS.gtD, DS.geD, DS.isN, DS.isntN, DS.notD, DS.ixD, DS.slD, DS.slLs, DS.lenD, DS.absD, DS.intD, DS.tupleD, DS.listL, DS.allD, DS.anyD, DS.sumD, DS.minD, DS.maxD, DS.sortedL, DS.truD, DS.isiD, DS.tyD, DS.gId, DS.wipeE, DS.restE, DS.R.bind_ok, DS.R.bind_exc, DS.R.bind_bad, DS.R.map_ok, DS.R.of_some, DS.R.of_none, Option.bind_some, Option.bind_none, Option.map_some, Option.map_none, List.getElem?_cons_zero, List.getElem?_cons_succ, List.getElem?_nil, List.set_cons_zero, List.set_cons_succ, List.length_cons, List.length_nil, List.map_cons, List.map_nil, Option.getD_some, Option.getD_none, List.cons_append, List.nil_append, List.replicate_succ, List.replicate_zero, Nat.reduceAdd, Nat.reduceSub, decide_eq_true_eq, Bool.and_eq_true, Bool.or_eq_true, if_true, if_false, Bool.not_eq_true', Bool.false_eq_true, reduceIte, DS.eqD_int, DS.neD_int, DS.eqD_bl, DS.neD_bl, ne_eq, not_false_eq_true, not_true_eq_false, true_and, and_true, true_or, or_true, false_or, or_false, and_self, Int.reduceEq, Int.reduceAbs, Nat.reduceLT, Int.reduceLT, Int.reduceLE, Int.reduceNeg, Nat.reduceEqDiff, decide_true, decide_false, Bool.not_true, Bool.not_false] <;> rfl)) (sq_rt (if_tt (by simp (config := { failIfUnchanged := false }) only [DS.nxS, DS.bkS, DS.ctS, DS.badS, DS.retS, DS.retN, DS.exprS, DS.setS, DS.setL, DS.asgS, DS.gN, DS.gT, DS.gsN, DS.gsC, DS.op1, DS.op2, DS.op1L, DS.op2L, DS.oV, DS.oS, DS.var, DS.cst, DS.deref, DS.derefD, DS.ofL, DS.lstE, DS.evA, DS.tupE, DS.asB, DS.truT, DS.andT, DS.orT, DS.notT, DS.andE, DS.orE, DS.notE, DS.ifE, DS.chn, DS.sl, DS.slL, DS.part, DS.lcE, DS.lcL, DS.itA, DS.itE, DS.itZ, DS.par2, DS.evP, DS.setIx, DS.mutE, DS.lstTok, DS.updTok, DS.shr, DS.callE, DS.callKE, DS.runFn, DS.orL, DS.yesT, DS.noOwn, DS.addD, DS.subD, DS.mulD, DS.divD, DS.modD, DS.powD, DS.negD, DS.ltD, DS.leD, DS.gtD, DS.geD, DS.isN, DS.isntN, DS.notD, DS.ixD, DS.slD, DS.slLs, DS.lenD, DS.absD, DS.intD, DS.tupleD, DS.listL, DS.allD, DS.anyD, DS.sumD, DS.minD, DS.maxD, DS.sortedL, DS.truD, DS.isiD, DS.tyD, DS.gId, DS.wipeE, DS.restE, DS.R.bind_ok, DS.R.bind_exc, DS.R.bind_bad, DS.R.map_ok, DS.R.of_some, DS.R.of_none, Option.bind_some, Option.bind_none, Option.map_some, Option.map_none, List.getElem?_cons_zero, List.getElem?_cons_succ, List.getElem?_nil, List.set_cons_zero, List.set_cons_succ, List.length_cons, List.length_nil, List.map_cons, List.map_nil, Option.getD_some, Option.getD_none, List.cons_append, List.nil_append, List.replicate_succ, List.replicate_zero, Nat.reduceAdd, Nat.reduceSub, decide_eq_true_eq, Bool.and_eq_true, Bool.or_eq_true, if_true, if_false, Bool.not_eq_true', Bool.false_eq_true, reduceIte, DS.eqD_int, DS.neD_int, DS.eqD_bl, DS.neD_bl, ne_eq, not_false_eq_true, not_true_eq_false, true_and, and_true, true_or, or_true, false_or, or_false, and_self, Int.reduceEq, Int.reduceAbs, Nat.reduceLT, Int.reduceLT, Int.reduceLE, Int.reduceNeg, Nat.reduceEqDiff, decide_true, decide_false, Bool.not_true, Bool.not_false] <;> rfl) (rt_of (by simp (config := { failIfUnchanged := false }) only [DS.nxS, DS.bkS, DS.ctS, DS.badS, DS.retS, DS.retN, DS.exprS, DS.setS, DS.setL, DS.asgS, DS.gN, DS.gT, DS.gsN, DS.gsC, DS.op1, DS.op2, DS.op1L, DS.op2L, DS.oV, DS.oS, DS.var, DS.cst, DS.deref, DS.derefD, DS.ofL, DS.lstE, DS.evA, DS.tupE, DS.asB, DS.truT, DS.andT, DS.orT, DS.notT, DS.andE, DS.orE, DS.notE, DS.ifE, DS.chn, DS.sl, DS.slL, DS.part, DS.lcE, DS.lcL, DS.itA, DS.itE, DS.itZ, DS.par2, DS.evP, DS.setIx, DS.mutE, DS.lstTok, DS.updTok, DS.shr, DS.callE, DS.callKE, DS.runFn, DS.orL, DS.yesT, DS.noOwn, DS.addD, DS.subD, DS.mulD, DS.divD, DS.modD, DS.powD, DS.negD, DS.ltD, DS.leD, DS.gtD, DS.geD, DS.isN, DS.isntN, DS.notD, DS.ixD, DS.slD, DS.slLs, DS.lenD, DS.absD, DS.intD, DS.tupleD, DS.listL, DS.allD, DS.anyD, DS.sumD, DS.minD, DS.maxD, DS.sortedL, DS.truD, DS.isiD, DS.tyD, DS.gId, DS.wipeE, DS.restE, DS.R.bind_ok, DS.R.bind_exc, DS.R.bind_bad, DS.R.map_ok, DS.R.of_some, DS.R.of_none, Option.bind_some, Option.bind_none, Option.map_some, Option.map_none, List.getElem?_cons_zero, List.getElem?_cons_succ, List.getElem?_nil, List.set_cons_zero, List.set_cons_succ, List.length_cons, List.length_nil, List.map_cons, List.map_nil, Option.getD_some, Option.getD_none, List.cons_append, List.nil_append, List.replicate_succ, List.replicate_zero, Nat.reduceAdd, Nat.reduceSub, decide_eq_true_eq, Bool.and_eq_true, Bool.or_eq_true, if_true, if_false, Bool.not_eq_true', Bool.false_eq_true, reduceIte, DS.eqD_int, DS.neD_int, DS.eqD_bl, DS.neD_bl, ne_eq, not_false_eq_true, not_true_eq_false, true_and, and_true, true_or, or_true, false_or, or_false, and_self, Int.reduceEq, Int.reduceAbs, Nat.reduceLT, Int.reduceLT, Int.reduceLE, Int.reduceNeg, Nat.reduceEqDiff, decide_true, decide_false, Bool.not_true, Bool.not_false] <;> rfl)))))
    | bl b => exact fn_rt (sq_nx (if_ff (by simp (config := { failIfUnchanged := false }) only [DS.nxS, DS.bkS, DS.ctS, DS.badS, DS.retS, DS.retN, DS.exprS, DS.setS, DS.setL, DS.asgS, DS.gN, DS.gT, DS.gsN, DS.gsC, DS.op1, DS.op2, DS.op1L, DS.op2L, DS.oV, DS.oS, DS.var, DS.cst, DS.deref, DS.derefD, DS.ofL, DS.lstE, DS.evA, DS.tupE, DS.asB, DS.truT, DS.andT, DS.orT, DS.notT, DS.andE, DS.orE, DS.notE, DS.ifE, DS.chn, DS.sl, DS.slL, DS.part, DS.lcE, DS.lcL, DS.itA, DS.itE, DS.itZ, DS.par2, DS.evP, DS.setIx, DS.mutE, DS.lstTok, DS.updTok, DS.shr, DS.callE, DS.callKE, DS.runFn, DS.orL, DS.yesT, DS.noOwn, DS.addD, DS.subD, DS.mulD, DS.divD, DS.modD, DS.powD, DS.negD, DS.ltD, DS.leD, DS.gtD, DS.geD, DS.isN, DS.isntN, DS.notD, DS.ixD, DS.slD, DS.slLs, DS.lenD, DS.absD, DS.intD, DS.tupleD, DS.listL, DS.allD, DS.anyD, DS.sumD, DS.minD, DS.maxD, DS.sortedL, DS.truD, DS.isiD, DS.tyD, DS.gId, DS.wipeE, DS.restE, DS.R.bind_ok, DS.R.bind_exc, DS.R.bind_bad, DS.R.map_ok, DS.R.of_some, DS.R.of_none, Option.bind_some, Option.bind_none, Option.map_some, Option.map_none, List.getElem?_cons_zero, List.getElem?_cons_succ, List.getElem?_nil, List.set_cons_zero, List.set_cons_succ, List.length_cons, List.length_nil, List.map_cons, List.map_nil, Option.getD_some, Option.getD_none, List.cons_append, List.nil_append, List.replicate_succ, List.replicate_zero, Nat.reduceAdd, Nat.reduceSub, decide_eq_true_eq, Bool.and_eq_true, Bool.or_eq_true, if_true, if_false, Bool.not_eq_true', Bool.false_eq_true, reduceIte, DS.eqD_int, DS.neD_int, DS.eqD_bl, DS.neD_bl, ne_eq, not_false_eq_true, not_true_eq_false, true_and, and_true, true_or, or_true, false_or, or_false, and_self, Int.reduceEq, Int.reduceAbs, Nat.reduceLT, Int.reduceLT, Int.reduceLE, Int.reduceNeg, Nat.reduceEqDiff, decide_true, decide_false, Bool.not_true, Bool.not_false, any2, s_bl, s_bt, Bool.or_false] <;> rfl) (by simp (config := { failIfUnchanged := false }) only [DS.nxS, DS.bkS, DS.ctS, DS.badS, DS.retS, DS.retN, DS.exprS, DS.setS, DS.setL, DS.asgS, DS.gN, DS.gT, DS.gsN, DS.gsC, DS.op1, DS.op2, DS.op1L, DS.op2L, DS.oV, DS.oS, DS.var, DS.cst, DS.deref, DS.derefD, DS.ofL, DS.lstE, DS.evA, DS.tupE, DS.asB, DS.truT, DS.andT, DS.orT, DS.notT, DS.andE, DS.orE, DS.notE, DS.ifE, DS.chn, DS.sl, DS.slL, DS.part, DS.lcE, DS.lcL, DS.itA, DS.itE, DS.itZ, DS.par2, DS.evP, DS.setIx, DS.mutE, DS.lstTok, DS.updTok, DS.shr, DS.callE, DS.callKE, DS.runFn, DS.orL, DS.yesT, DS.noOwn, DS.addD, DS.subD, DS.mulD, DS.divD, DS.modD, DS.powD, DS.negD, DS.ltD, DS.leD, DS.gtD, DS.geD, DS.isN, DS.isntN, DS.notD, DS.ixD, DS.slD, DS.slLs, DS.lenD, DS.absD, DS.intD, DS.tupleD, DS.listL, DS.allD, DS.anyD, DS.sumD, DS.minD, DS.maxD, DS.sortedL, DS.truD, DS.isiD, DS.tyD, DS.gId, DS.wipeE, DS.restE, DS.R.bind_ok, DS.R.bind_exc, DS.R.bind_bad, DS.R.map_ok, DS.R.of_some, DS.R.of_none, Option.bind_some, Option.bind_none, Option.map_some, Option.map_none, List.getElem?_cons_zero, List.getElem?_cons_succ, List.getElem?_nil, List.set_cons_zero, List.set_cons_succ, List.length_cons, List.length_nil, List.map_cons, List.map_nil, Option.getD_some, Option.getD_none, List.cons_append, List.nil_append, List.replicate_succ, List.replicate_zero, Nat.reduceAdd, Nat.reduceSub, decide_eq_true_eq, Bool.and_eq_true, Bool.or_eq_true, if_true, if_false, Bool.not_eq_true', Bool.false_eq_true, reduceIte, DS.eqD_int, DS.neD_int, DS.eqD_bl, DS.neD_bl, ne_eq, not_false_eq_true, not_true_eq_false, true_and, and_true, true_or, or_true, false_or, or_false, and_self, Int.reduceEq, Int.reduceAbs, Nat.reduceLT, Int.reduceLT, Int.reduceLE, Int.reduceNeg, Nat.reduceEqDiff, decide_true, decide_false, Bool.not_true, Bool.not_false] <;> rfl)) (sq_nx (if_ff (by simp (config := { failIfUnchanged := false }) only [DS.nxS, DS.bkS, DS.ctS, DS.badS, DS.retS, DS.retN, DS.exprS, DS.setS, DS.setL, DS.asgS, DS.gN, DS.gT, DS.gsN, DS.gsC, DS.op1, DS.op2, DS.op1L, DS.op2L, DS.oV, DS.oS, DS.var, DS.cst, DS.deref, DS.derefD, DS.ofL, DS.lstE, DS.evA, DS.tupE, DS.asB, DS.truT, DS.andT, DS.orT, DS.notT, DS.andE, DS.orE, DS.notE, DS.ifE, DS.chn, DS.sl, DS.slL, DS.part, DS.lcE, DS.lcL, DS.itA, DS.itE, DS.itZ, DS.par2, DS.evP, DS.setIx, DS.mutE, DS.lstTok, DS.updTok, DS.shr, DS.callE, DS.callKE, DS.runFn, DS.orL, DS.yesT, DS.noOwn, DS.addD, DS.subD, DS.mulD, DS.divD, DS.modD, DS.powD, DS.negD, DS.ltD, DS.leD, DS.gtD, DS.geD, DS.isN, DS.isntN, DS.notD, DS.ixD, DS.slD, DS.slLs, DS.lenD, DS.absD, DS.intD, DS.tupleD, DS.listL, DS.allD, DS.anyD, DS.sumD, DS.minD, DS.maxD, DS.sortedL, DS.truD, DS.isiD, DS.tyD, DS.gId, DS.wipeE, DS.restE, DS.R.bind_ok, DS.R.bind_exc, DS.R.bind_bad, DS.R.map_ok, DS.R.of_some, DS.R.of_none, Option.bind_some, Option.bind_none, Option.map_some, Option.map_none, List.getElem?_cons_zero, List.getElem?_cons_succ, List.getElem?_nil, List.set_cons_zero, List.set_cons_succ, List.length_cons, List.length_nil, List.map_cons, List.map_nil, Option.getD_some, Option.getD_none, List.cons_append, List.nil_append, List.replicate_succ, List.replicate_zero, Nat.reduceAdd, Nat.reduceSub, decide_eq_true_eq, Bool.and_eq_true, Bool.or_eq_true, if_true, if_false, Bool.not_eq_true', Bool.false_eq_true, reduceIte, DS.eqD_int, DS.neD_int, DS.eqD_bl, DS.neD_bl, ne_eq, not_false_eq_true, not_true_eq_false, true_and, and_true, true_or, or_true, false_or, or_false, and_self, Int.reduceEq, Int.reduceAbs, Nat.reduceLT, Int.reduceLT, Int.reduceLE, Int.reduceNeg, Nat.reduceEqDiff, decide_true, decide_false, Bool.not_true, Bool.not_false] <;> rfl) (by simp (config := { failIfUnchanged := false }) only [DS.nxS, DS.bkS, DS.ctS, DS.badS, DS.retS, DS.retN, DS.exprS, DS.setS, DS.setL, DS.asgS, DS.gN, DS.gT, DS.gsN, DS.gsC, DS.op1, DS.op2, DS.op1L, DS.op2L, DS.oV, DS.oS, DS.var, DS.cst, DS.deref, DS.derefD, DS.ofL, DS.lstE, DS.evA, DS.tupE, DS.asB, DS.truT, DS.andT, DS.orT, DS.notT, DS.andE, DS.orE, DS.notE, DS.ifE, DS.chn, DS.sl, DS.slL, DS.part, DS.lcE, DS.lcL, DS.itA, DS.itE, DS.itZ, DS.par2, DS.evP, DS.setIx, DS.mutE, DS.lstTok, DS.updTok, DS.shr, DS.callE, DS.callKE, DS.runFn, DS.orL, DS.yesT, DS.noOwn, DS.addD, DS.subD, DS.mulD, DS.divD, DS.modD, DS.powD, DS.negD, DS.ltD, DS.leD, DS.gtD, DS.geD, DS.isN, DS.isntN, DS.notD, DS.ixD, DS.slD, DS.slLs, DS.lenD, DS.absD, DS.intD, DS.tupleD, DS.listL, DS.allD, DS.anyD, DS.sumD, DS.minD, DS.maxD, DS.sortedL, DS.truD, DS.isiD, DS.tyD, DS.gId, DS.wipeE, DS.restE, DS.R.bind_ok, DS.R.bind_exc, DS.R.bind_bad, DS.R.map_ok, DS.R.of_some, DS.R.of_none, Option.bind_some, Option.bind_none, Option.map_some, Option.map_none, List.getElem?_cons_zero, List.getElem?_cons_succ, List.getElem?_nil, List.set_cons_zero, List.set_cons_succ, List.length_cons, List.length_nil, List.map_cons, List.map_nil, Option.getD_some, Option.getD_none, List.cons_append, List.nil_append, List.replicate_succ, List.replicate_zero, Nat.reduceAdd, Nat.reduceSub, decide_eq_true_eq, Bool.and_eq_true, Bool.or_eq_true, if_true, if_false, Bool.not_eq_true', Bool.false_eq_true, reduceIte, DS.eqD_int, DS.neD_int, DS.eqD_bl, DS.neD_bl, ne_eq, not_false_eq_true, not_true_eq_false, true_and, and_true, true_or, or_true, false_or, or_false, and_self, Int.reduceEq, Int.reduceAbs, Nat.reduceLT, Int.reduceLT, Int.reduceLE, Int.reduceNeg, Nat.reduceEqDiff, decide_true, decide_false, Bool.not_true, Bool.not_false] <;> rfl)) (sq_rt (if_tt (by simp (config := { failIfUnchanged := false }) only [DS.nxS, DS.bkS, DS.ctS, DS.badS, DS.retS, DS.retN, DS.exprS, DS.setS, DS.setL, DS.asgS, DS.gN, DS.gT, DS.gsN, DS.gsC, DS.op1, DS.op2, DS.op1L, DS.op2L, DS.oV, DS.oS, DS.var, DS.cst, DS.deref, DS.derefD, DS.ofL, DS.lstE, DS.evA, DS.tupE, DS.asB, DS.truT, DS.andT, DS.orT, DS.notT, DS.andE, DS.orE, DS.notE, DS.ifE, DS.chn, DS.sl, DS.slL, DS.part, DS.lcE, DS.lcL, DS.itA, DS.itE, DS.itZ, DS.par2, DS.evP, DS.setIx, DS.mutE, DS.lstTok, DS.updTok, DS.shr, DS.callE, DS.callKE, DS.runFn, DS.orL, DS.yesT, DS.noOwn, DS.addD, DS.subD, DS.mulD, DS.divD, DS.modD, DS.powD, DS.negD, DS.ltD, DS.leD, DS.gtD, DS.geD, DS.isN, DS.isntN, DS.notD, DS.ixD, DS.slD, DS.slLs, DS.lenD, DS.absD, DS.intD, DS.tupleD, DS.listL, DS.allD, DS.anyD, DS.sumD, DS.minD, DS.maxD, DS.sortedL, DS.truD, DS.isiD, DS.tyD, DS.gId, DS.wipeE, DS.restE, DS.R.bind_ok, DS.R.bind_exc, DS.R.bind_bad, DS.R.map_ok, DS.R.of_some, DS.R.of_none, Option.bind_some, Option.bind_none, Option.map_some, Option.map_none, List.getElem?_cons_zero, List.getElem?_cons_succ, List.getElem?_nil, List.set_cons_zero, List.set_cons_succ, List.length_cons, List.length_nil, List.map_cons, List.map_nil, Option.getD_some, Option.getD_none, List.cons_append, List.nil_append, List.replicate_succ, List.replicate_zero, Nat.reduceAdd, Nat.reduceSub, decide_eq_true_eq, Bool.and_eq_true, Bool.or_eq_true, if_true, if_false, Bool.not_eq_true', Bool.false_eq_true, reduceIte, DS.eqD_int, DS.neD_int, DS.eqD_bl, DS.neD_bl, ne_eq, not_false_eq_true, not_true_eq_false, true_and, and_true, true_or, or_true, false_or, or_false, and_self, Int.reduceEq, Int.reduceAbs, Nat.reduceLT, Int.reduceLT, Int.reduceLE, Int.reduceNeg, Nat.reduceEqDiff, decide_true, decide_false, Bool.not_true, Bool.not_false, any2, s_bb, s_bs, Bool.or_false] <;> rfl) (rt_of (by simp (config := { failIfUnchanged := false }) only [DS.nxS, DS.bkS, DS.ctS, DS.badS, DS.retS, DS.retN, DS.exprS, DS.setS, DS.setL, DS.asgS, DS.gN, DS.gT, DS.gsN, DS.gsC, DS.op1, DS.op2, DS.op1L, DS.op2L, DS.oV, DS.oS, DS.var, DS.cst, DS.deref, DS.derefD, DS.ofL, DS.lstE, DS.evA, DS.tupE, DS.asB, DS.truT, DS.andT, DS.orT, DS.notT, DS.andE, DS.orE, DS.notE, DS.ifE, DS.chn, DS.sl, DS.slL, DS.part, DS.lcE, DS.lcL, DS.itA, DS.itE, DS.itZ, DS.par2, DS.evP, DS.setIx, DS.mutE, DS.lstTok, DS.updTok, DS.shr, DS.callE, DS.callKE, DS.runFn, DS.orL, DS.yesT, DS.noOwn, DS.addD, DS.subD, DS.mulD, DS.divD, DS.modD, DS.powD, DS.negD, DS.ltD, DS.leD, DS.gtD, DS.geD, DS.isN, DS.isntN, DS.notD, DS.ixD, DS.slD, DS.slLs, DS.lenD, DS.absD, DS.intD, DS.tupleD, DS.listL, DS.allD, DS.anyD, DS.sumD, DS.minD, DS.maxD, DS.sortedL, DS.truD, DS.isiD, DS.tyD, DS.gId, DS.wipeE, DS.restE, DS.R.bind_ok, DS.R.bind_exc, DS.R.bind_bad, DS.R.map_ok, DS.R.of_some, DS.R.of_none, Option.bind_some, Option.bind_none, Option.map_some, Option.map_none, List.getElem?_cons_zero, List.getElem?_cons_succ, List.getElem?_nil, List.set_cons_zero, List.set_cons_succ, List.length_cons, List.length_nil, List.map_cons, List.map_nil, Option.getD_some, Option.getD_none, List.cons_append, List.nil_append, List.replicate_succ, List.replicate_zero, Nat.reduceAdd, Nat.reduceSub, decide_eq_true_eq, Bool.and_eq_true, Bool.or_eq_true, if_true, if_false, Bool.not_eq_true', Bool.false_eq_true, reduceIte, DS.eqD_int, DS.neD_int, DS.eqD_bl, DS.neD_bl, ne_eq, not_false_eq_true, not_true_eq_false, true_and, and_true, true_or, or_true, false_or, or_false, and_self, Int.reduceEq, Int.reduceAbs, Nat.reduceLT, Int.reduceLT, Int.reduceLE, Int.reduceNeg, Nat.reduceEqDiff, decide_true, decide_false, Bool.not_true, Bool.not_false, any1, s_bb, s_bs] <;> rfl))))))
    | int i => exact fn_rt (sq_nx (if_ff (by simp (config := { failIfUnchanged := false }) only [DS.nxS, DS.bkS, DS.ctS, DS.badS, DS.retS, DS.retN, DS.exprS, DS.setS, DS.setL, DS.asgS, DS.gN, DS.gT, DS.gsN, DS.gsC, DS.op1, DS.op2, DS.op1L, DS.op2L, DS.oV, DS.oS, DS.var, DS.cst, DS.deref, DS.derefD, DS.ofL, DS.lstE, DS.evA, DS.tupE, DS.asB, DS.truT, DS.andT, DS.orT, DS.notT, DS.andE, DS.orE, DS.notE, DS.ifE, DS.chn, DS.sl, DS.slL, DS.part, DS.lcE, DS.lcL, DS.itA, DS.itE, DS.itZ, DS.par2, DS.evP, DS.setIx, DS.mutE, DS.lstTok, DS.updTok, DS.shr, DS.callE, DS.callKE, DS.runFn, DS.orL, DS.yesT, DS.noOwn, DS.addD, DS.subD, DS.mulD, DS.divD, DS.modD, DS.powD, DS.negD, DS.ltD, DS.leD, DS.gtD, DS.geD, DS.isN, DS.isntN, DS.notD, DS.ixD, DS.slD, DS.slLs, DS.lenD, DS.absD, DS.intD, DS.tupleD, DS.listL, DS.allD, DS.anyD, DS.sumD, DS.minD, DS.maxD, DS.sortedL, DS.truD, DS.isiD, DS.tyD, DS.gId, DS.wipeE, DS.restE, DS.R.bind_ok, DS.R.bind_exc, DS.R.bind_bad, DS.R.map_ok, DS.R.of_some, DS.R.of_none, Option.bind_some, Option.bind_none, Option.map_some, Option.map_none, List.getElem?_cons_zero, List.getElem?_cons_succ, List.getElem?_nil, List.set_cons_zero, List.set_cons_succ, List.length_cons, List.length_nil, List.map_cons, List.map_nil, Option.getD_some, Option.getD_none, List.cons_append, List.nil_append, List.replicate_succ, List.replicate_zero, Nat.reduceAdd, Nat.reduceSub, decide_eq_true_eq, Bool.and_eq_true, Bool.or_eq_true, if_true, if_false, Bool.not_eq_true', Bool.false_eq_true, reduceIte, DS.eqD_int, DS.neD_int, DS.eqD_bl, DS.neD_bl, ne_eq, not_false_eq_true, not_true_eq_false, true_and, and_true, true_or, or_true, false_or, or_false, and_self, Int.reduceEq, Int.reduceAbs, Nat.reduceLT, Int.reduceLT, Int.reduceLE, Int.reduceNeg, Nat.reduceEqDiff, decide_true, decide_false, Bool.not_true, Bool.not_false, any2, s_il, s_it, Bool.or_false] <;> rfl) (by simp (config := { failIfUnchanged := false }) only [DS.nxS, DS.bkS, DS.ctS, DS.badS, DS.retS, DS.retN, DS.exprS, DS.setS, DS.setL, DS.asgS, DS.gN, DS.gT, DS.gsN, DS.gsC, DS.op1, DS.op2, DS.op1L, DS.op2L, DS.oV, DS.oS, DS.var, DS.cst, DS.deref, DS.derefD, DS.ofL, DS.lstE, DS.evA, DS.tupE, DS.asB, DS.truT, DS.andT, DS.orT, DS.notT, DS.andE, DS.orE, DS.notE, DS.ifE, DS.chn, DS.sl, DS.slL, DS.part, DS.lcE, DS.lcL, DS.itA, DS.itE, DS.itZ, DS.par2, DS.evP, DS.setIx, DS.mutE, DS.lstTok, DS.updTok, DS.shr, DS.callE, DS.callKE, DS.runFn, DS.orL, DS.yesT, DS.noOwn, DS.addD, DS.subD, DS.mulD, DS.divD, DS.modD, DS.powD, DS.negD, DS.ltD, DS.leD, DS.gtD, DS.geD, DS.isN, DS.isntN, DS.notD, DS.ixD, DS.slD, DS.slLs, DS.lenD, DS.absD, DS.intD, DS.tupleD, DS.listL, DS.allD, DS.anyD, DS.sumD, DS.minD, DS.maxD, DS.sortedL, DS.truD, DS.isiD, DS.tyD, DS.gId, DS.wipeE, DS.restE, DS.R.bind_ok, DS.R.bind_exc, DS.R.bind_bad, DS.R.map_ok, DS.R.of_some, DS.R.of_none, Option.bind_some, Option.bind_none, Option.map_some, Option.map_none, List.getElem?_cons_zero, List.getElem?_cons_succ, List.getElem?_nil, List.set_cons_zero, List.set_cons_succ, List.length_cons, List.length_nil, List.map_cons, List.map_nil, Option.getD_some, Option.getD_none, List.cons_append, List.nil_append, List.replicate_succ, List.replicate_zero, Nat.reduceAdd, Nat.reduceSub, decide_eq_true_eq, Bool.and_eq_true, Bool.or_eq_true, if_true, if_false, Bool.not_eq_true', Bool.false_eq_true, reduceIte, DS.eqD_int, DS.neD_int, DS.eqD_bl, DS.neD_bl, ne_eq, not_false_eq_true, not_true_eq_false, true_and, and_true, true_or, or_true, false_or, or_false, and_self, Int.reduceEq, Int.reduceAbs, Nat.reduceLT, Int.reduceLT, Int.reduceLE, Int.reduceNeg, Nat.reduceEqDiff, decide_true, decide_false, Bool.not_true, Bool.not_false] <;> rfl)) (sq_nx (if_ff (by simp (config := { failIfUnchanged := false }) only [DS.nxS, DS.bkS, DS.ctS, DS.badS, DS.retS, DS.retN, DS.exprS, DS.setS, DS.setL, DS.asgS, DS.gN, DS.gT, DS.gsN, DS.gsC, DS.op1, DS.op2, DS.op1L, DS.op2L, DS.oV, DS.oS, DS.var, DS.cst, DS.deref, DS.derefD, DS.ofL, DS.lstE, DS.evA, DS.tupE, DS.asB, DS.truT, DS.andT, DS.orT, DS.notT, DS.andE, DS.orE, DS.notE, DS.ifE, DS.chn, DS.sl, DS.slL, DS.part, DS.lcE, DS.lcL, DS.itA, DS.itE, DS.itZ, DS.par2, DS.evP, DS.setIx, DS.mutE, DS.lstTok, DS.updTok, DS.shr, DS.callE, DS.callKE, DS.runFn, DS.orL, DS.yesT, DS.noOwn, DS.addD, DS.subD, DS.mulD, DS.divD, DS.modD, DS.powD, DS.negD, DS.ltD, DS.leD, DS.gtD, DS.geD, DS.isN, DS.isntN, DS.notD, DS.ixD, DS.slD, DS.slLs, DS.lenD, DS.absD, DS.intD, DS.tupleD, DS.listL, DS.allD, DS.anyD, DS.sumD, DS.minD, DS.maxD, DS.sortedL, DS.truD, DS.isiD, DS.tyD, DS.gId, DS.wipeE, DS.restE, DS.R.bind_ok, DS.R.bind_exc, DS.R.bind_bad, DS.R.map_ok, DS.R.of_some, DS.R.of_none, Option.bind_some, Option.bind_none, Option.map_some, Option.map_none, List.getElem?_cons_zero, List.getElem?_cons_succ, List.getElem?_nil, List.set_cons_zero, List.set_cons_succ, List.length_cons, List.length_nil, List.map_cons, List.map_nil, Option.getD_some, Option.getD_none, List.cons_append, List.nil_append, List.replicate_succ, List.replicate_zero, Nat.reduceAdd, Nat.reduceSub, decide_eq_true_eq, Bool.and_eq_true, Bool.or_eq_true, if_true, if_false, Bool.not_eq_true', Bool.false_eq_true, reduceIte, DS.eqD_int, DS.neD_int, DS.eqD_bl, DS.neD_bl, ne_eq, not_false_eq_true, not_true_eq_false, true_and, and_true, true_or, or_true, false_or, or_false, and_self, Int.reduceEq, Int.reduceAbs, Nat.reduceLT, Int.reduceLT, Int.reduceLE, Int.reduceNeg, Nat.reduceEqDiff, decide_true, decide_false, Bool.not_true, Bool.not_false] <;> rfl) (by simp (config := { failIfUnchanged := false }) only [DS.nxS, DS.bkS, DS.ctS, DS.badS, DS.retS, DS.retN, DS.exprS, DS.setS, DS.setL, DS.asgS, DS.gN, DS.gT, DS.gsN, DS.gsC, DS.op1, DS.op2, DS.op1L, DS.op2L, DS.oV, DS.oS, DS.var, DS.cst, DS.deref, DS.derefD, DS.ofL, DS.lstE, DS.evA, DS.tupE, DS.asB, DS.truT, DS.andT, DS.orT, DS.notT, DS.andE, DS.orE, DS.notE, DS.ifE, DS.chn, DS.sl, DS.slL, DS.part, DS.lcE, DS.lcL, DS.itA, DS.itE, DS.itZ, DS.par2, DS.evP, DS.setIx, DS.mutE, DS.lstTok, DS.updTok, DS.shr, DS.callE, DS.callKE, DS.runFn, DS.orL, DS.yesT, DS.noOwn, DS.addD, DS.subD, DS.mulD, DS.divD, DS.modD, DS.powD, DS.negD, DS.ltD, DS.leD, DS.gtD, DS.geD, DS.isN, DS.isntN, DS.notD, DS.ixD, DS.slD, DS.slLs, DS.lenD, DS.absD, DS.intD, DS.tupleD, DS.listL, DS.allD, DS.anyD, DS.sumD, DS.minD, DS.maxD, DS.sortedL, DS.truD, DS.isiD, DS.tyD, DS.gId, DS.wipeE, DS.restE, DS.R.bind_ok, DS.R.bind_exc, DS.R.bind_bad, DS.R.map_ok, DS.R.of_some, DS.R.of_none, Option.bind_some, Option.bind_none, Option.map_some, Option.map_none, List.getElem?_cons_zero, List.getElem?_cons_succ, List.getElem?_nil, List.set_cons_zero, List.set_cons_succ, List.length_cons, List.length_nil, List.map_cons, List.map_nil, Option.getD_some, Option.getD_none, List.cons_append, List.nil_append, List.replicate_succ, List.replicate_zero, Nat.reduceAdd, Nat.reduceSub, decide_eq_true_eq, Bool.and_eq_true, Bool.or_eq_true, if_true, if_false, Bool.not_eq_true', Bool.false_eq_true, reduceIte, DS.eqD_int, DS.neD_int, DS.eqD_bl, DS.neD_bl, ne_eq, not_false_eq_true, not_true_eq_false, true_and, and_true, true_or, or_true, false_or, or_false, and_self, Int.reduceEq, Int.reduceAbs, Nat.reduceLT, Int.reduceLT, Int.reduceLE, Int.reduceNeg, Nat.reduceEqDiff, decide_true, decide_false, Bool.not_true, Bool.not_false] <;> rfl)) (sq_nx (if_ff (by simp (config := { failIfUnchanged := false }) only [DS.nxS, DS.bkS, DS.ctS, DS.badS, DS.retS, DS.retN, DS.exprS, DS.setS, DS.setL, DS.asgS, DS.gN, DS.gT, DS.gsN, DS.gsC, DS.op1, DS.op2, DS.op1L, DS.op2L, DS.oV, DS.oS, DS.var, DS.cst, DS.deref, DS.derefD, DS.ofL, DS.lstE, DS.evA, DS.tupE, DS.asB, DS.truT, DS.andT, DS.orT, DS.notT, DS.andE, DS.orE, DS.notE, DS.ifE, DS.chn, DS.sl, DS.slL, DS.part, DS.lcE, DS.lcL, DS.itA, DS.itE, DS.itZ, DS.par2, DS.evP, DS.setIx, DS.mutE, DS.lstTok, DS.updTok, DS.shr, DS.callE, DS.callKE, DS.runFn, DS.orL, DS.yesT, DS.noOwn, DS.addD, DS.subD, DS.mulD, DS.divD, DS.modD, DS.powD, DS.negD, DS.ltD, DS.leD, DS.gtD, DS.geD, DS.isN, DS.isntN, DS.notD, DS.ixD, DS.slD, DS.slLs, DS.lenD, DS.absD, DS.intD, DS.tupleD, DS.listL, DS.allD, DS.anyD, DS.sumD, DS.minD, DS.maxD, DS.sortedL, DS.truD, DS.isiD, DS.tyD, DS.gId, DS.wipeE, DS.restE, DS.R.bind_ok, DS.R.bind_exc, DS.R.bind_bad, DS.R.map_ok, DS.R.of_some, DS.R.of_none, Option.bind_some, Option.bind_none, Option.map_some, Option.map_none, List.getElem?_cons_zero, List.getElem?_cons_succ, List.getElem?_nil, List.set_cons_zero, List.set_cons_succ, List.length_cons, List.length_nil, List.map_cons, List.map_nil, Option.getD_some, Option.getD_none, List.cons_append, List.nil_append, List.replicate_succ, List.replicate_zero, Nat.reduceAdd, Nat.reduceSub, decide_eq_true_eq, Bool.and_eq_true, Bool.or_eq_true, if_true, if_false, Bool.not_eq_true', Bool.false_eq_true, reduceIte, DS.eqD_int, DS.neD_int, DS.eqD_bl, DS.neD_bl, ne_eq, not_false_eq_true, not_true_eq_false, true_and, and_true, true_or, or_true, false_or, or_false, and_self, Int.reduceEq, Int.reduceAbs, Nat.reduceLT, Int.reduceLT, Int.reduceLE, Int.reduceNeg, Nat.reduceEqDiff, decide_true, decide_false, Bool.not_true, Bool.not_false, any2, ib, s_is, Bool.or_false] <;> rfl) (by simp (config := { failIfUnchanged := false }) only [DS.nxS, DS.bkS, DS.ctS, DS.badS, DS.retS, DS.retN, DS.exprS, DS.setS, DS.setL, DS.asgS, DS.gN, DS.gT, DS.gsN, DS.gsC, DS.op1, DS.op2, DS.op1L, DS.op2L, DS.oV, DS.oS, DS.var, DS.cst, DS.deref, DS.derefD, DS.ofL, DS.lstE, DS.evA, DS.tupE, DS.asB, DS.truT, DS.andT, DS.orT, DS.notT, DS.andE, DS.orE, DS.notE, DS.ifE, DS.chn, DS.sl, DS.slL, DS.part, DS.lcE, DS.lcL, DS.itA, DS.itE, DS.itZ, DS.par2, DS.evP, DS.setIx, DS.mutE, DS.lstTok, DS.updTok, DS.shr, DS.callE, DS.callKE, DS.runFn, DS.orL, DS.yesT, DS.noOwn, DS.addD, DS.subD, DS.mulD, DS.divD, DS.modD, DS.powD, DS.negD, DS.ltD, DS.leD, DS.gtD, DS.geD, DS.isN, DS.isntN, DS.notD, DS.ixD, DS.slD, DS.slLs, DS.lenD, DS.absD, DS.intD, DS.tupleD, DS.listL, DS.allD, DS.anyD, DS.sumD, DS.minD, DS.maxD, DS.sortedL, DS.truD, DS.isiD, DS.tyD, DS.gId, DS.wipeE, DS.restE, DS.R.bind_ok, DS.R.bind_exc, DS.R.bind_bad, DS.R.map_ok, DS.R.of_some, DS.R.of_none, Option.bind_some, Option.bind_none, Option.map_some, Option.map_none, List.getElem?_cons_zero, List.getElem?_cons_succ, List.getElem?_nil, List.set_cons_zero, List.set_cons_succ, List.length_cons, List.length_nil, List.map_cons, List.map_nil, Option.getD_some, Option.getD_none, List.cons_append, List.nil_append, List.replicate_succ, List.replicate_zero, Nat.reduceAdd, Nat.reduceSub, decide_eq_true_eq, Bool.and_eq_true, Bool.or_eq_true, if_true, if_false, Bool.not_eq_true', Bool.false_eq_true, reduceIte, DS.eqD_int, DS.neD_int, DS.eqD_bl, DS.neD_bl, ne_eq, not_false_eq_true, not_true_eq_false, true_and, and_true, true_or, or_true, false_or, or_false, and_self, Int.reduceEq, Int.reduceAbs, Nat.reduceLT, Int.reduceLT, Int.reduceLE, Int.reduceNeg, Nat.reduceEqDiff, decide_true, decide_false, Bool.not_true, Bool.not_false] <;> rfl)) (rt_of (by simp (config := { failIfUnchanged := false }) only [DS.nxS, DS.bkS, DS.ctS, DS.badS, DS.retS, DS.retN, DS.exprS, DS.setS, DS.setL, DS.asgS, DS.gN, DS.gT, DS.gsN, DS.gsC, DS.op1, DS.op2, DS.op1L, DS.op2L, DS.oV, DS.oS, DS.var, DS.cst, DS.deref, DS.derefD, DS.ofL, DS.lstE, DS.evA, DS.tupE, DS.asB, DS.truT, DS.andT, DS.orT, DS.notT, DS.andE, DS.orE, DS.notE, DS.ifE, DS.chn, DS.sl, DS.slL, DS.part, DS.lcE, DS.lcL, DS.itA, DS.itE, DS.itZ, DS.par2, DS.evP, DS.setIx, DS.mutE, DS.lstTok, DS.updTok, DS.shr, DS.callE, DS.callKE, DS.runFn, DS.orL, DS.yesT, DS.noOwn, DS.addD, DS.subD, DS.mulD, DS.divD, DS.modD, DS.powD, DS.negD, DS.ltD, DS.leD, DS.gtD, DS.geD, DS.isN, DS.isntN, DS.notD, DS.ixD, DS.slD, DS.slLs, DS.lenD, DS.absD, DS.intD, DS.tupleD, DS.listL, DS.allD, DS.anyD, DS.sumD, DS.minD, DS.maxD, DS.sortedL, DS.truD, DS.isiD, DS.tyD, DS.gId, DS.wipeE, DS.restE, DS.R.bind_ok, DS.R.bind_exc, DS.R.bind_bad, DS.R.map_ok, DS.R.of_some, DS.R.of_none, Option.bind_some, Option.bind_none, Option.map_some, Option.map_none, List.getElem?_cons_zero, List.getElem?_cons_succ, List.getElem?_nil, List.set_cons_zero, List.set_cons_succ, List.length_cons, List.length_nil, List.map_cons, List.map_nil, Option.getD_some, Option.getD_none, List.cons_append, List.nil_append, List.replicate_succ, List.replicate_zero, Nat.reduceAdd, Nat.reduceSub, decide_eq_true_eq, Bool.and_eq_true, Bool.or_eq_true, if_true, if_false, Bool.not_eq_true', Bool.false_eq_true, reduceIte, DS.eqD_int, DS.neD_int, DS.eqD_bl, DS.neD_bl, ne_eq, not_false_eq_true, not_true_eq_false, true_and, and_true, true_or, or_true, false_or, or_false, and_self, Int.reduceEq, Int.reduceAbs, Nat.reduceLT, Int.reduceLT, Int.reduceLE, Int.reduceNeg, Nat.reduceEqDiff, decide_true, decide_false, Bool.not_true, Bool.not_false, any1, ii, ib] <;> rfl)))))
    | str _ x h =>
      have e : eqD (.str x) (.str x) = some (.bl true) := by unfold eqD; rw [pyEq_str x x h h]; simp
      exact fn_rt (sq_nx (if_ff (by simp (config := { failIfUnchanged := false }) only [DS.nxS, DS.bkS, DS.ctS, DS.badS, DS.retS, DS.retN, DS.exprS, DS.setS, DS.setL, DS.asgS, DS.gN, DS.gT, DS.gsN, DS.gsC, DS.op1, DS.op2, DS.op1L, DS.op2L, DS.oV, DS.oS, DS.var, DS.cst, DS.deref, DS.derefD, DS.ofL, DS.lstE, DS.evA, DS.tupE, DS.asB, DS.truT, DS.andT, DS.orT, DS.notT, DS.andE, DS.orE, DS.notE, DS.ifE, DS.chn, DS.sl, DS.slL, DS.part, DS.lcE, DS.lcL, DS.itA, DS.itE, DS.itZ, DS.par2, DS.evP, DS.setIx, DS.mutE, DS.lstTok, DS.updTok, DS.shr, DS.callE, DS.callKE, DS.runFn, DS.orL, DS.yesT, DS.noOwn, DS.addD, DS.subD, DS.mulD, DS.divD, DS.modD, DS.powD, DS.negD, DS.ltD, DS.leD, DS.gtD, DS.geD, DS.isN, DS.isntN, DS.notD, DS.ixD, DS.slD, DS.slLs, DS.lenD, DS.absD, DS.intD, DS.tupleD, DS.listL, DS.allD, DS.anyD, DS.sumD, DS.minD, DS.maxD, DS.sortedL, DS.truD, DS.isiD, DS.tyD, DS.gId, DS.wipeE, DS.restE, DS.R.bind_ok, DS.R.bind_exc, DS.R.bind_bad, DS.R.map_ok, DS.R.of_some, DS.R.of_none, Option.bind_some, Option.bind_none, Option.map_some, Option.map_none, List.getElem?_cons_zero, List.getElem?_cons_succ, List.getElem?_nil, List.set_cons_zero, List.set_cons_succ, List.length_cons, List.length_nil, List.map_cons, List.map_nil, Option.getD_some, Option.getD_none, List.cons_append, List.nil_append, List.replicate_succ, List.replicate_zero, Nat.reduceAdd, Nat.reduceSub, decide_eq_true_eq, Bool.and_eq_true, Bool.or_eq_true, if_true, if_false, Bool.not_eq_true', Bool.false_eq_true, reduceIte, DS.eqD_int, DS.neD_int, DS.eqD_bl, DS.neD_bl, ne_eq, not_false_eq_true, not_true_eq_false, true_and, and_true, true_or, or_true, false_or, or_false, and_self, Int.reduceEq, Int.reduceAbs, Nat.reduceLT, Int.reduceLT, Int.reduceLE, Int.reduceNeg, Nat.reduceEqDiff, decide_true, decide_false, Bool.not_true, Bool.not_false, any2, s_sl, s_st, Bool.or_false] <;> rfl) (by simp (config := { failIfUnchanged := false }) only [DS.nxS, DS.bkS, DS.ctS, DS.badS, DS.retS, DS.retN, DS.exprS, DS.setS, DS.setL, DS.asgS, DS.gN, DS.gT, DS.gsN, DS.gsC, DS.op1, DS.op2, DS.op1L, DS.op2L, DS.oV, DS.oS, DS.var, DS.cst, DS.deref, DS.derefD, DS.ofL, DS.lstE, DS.evA, DS.tupE, DS.asB, DS.truT, DS.andT, DS.orT, DS.notT, DS.andE, DS.orE, DS.notE, DS.ifE, DS.chn, DS.sl, DS.slL, DS.part, DS.lcE, DS.lcL, DS.itA, DS.itE, DS.itZ, DS.par2, DS.evP, DS.setIx, DS.mutE, DS.lstTok, DS.updTok, DS.shr, DS.callE, DS.callKE, DS.runFn, DS.orL, DS.yesT, DS.noOwn, DS.addD, DS.subD, DS.mulD, DS.divD, DS.modD, DS.powD, DS.negD, DS.ltD, DS.leD, DS.gtD, DS.geD, DS.isN, DS.isntN, DS.notD, DS.ixD, DS.slD, DS.slLs, DS.lenD, DS.absD, DS.intD, DS.tupleD, DS.listL, DS.allD, DS.anyD, DS.sumD, DS.minD, DS.maxD, DS.sortedL, DS.truD, DS.isiD, DS.tyD, DS.gId, DS.wipeE, DS.restE, DS.R.bind_ok, DS.R.bind_exc, DS.R.bind_bad, DS.R.map_ok, DS.R.of_some, DS.R.of_none, Option.bind_some, Option.bind_none, Option.map_some, Option.map_none, List.getElem?_cons_zero, List.getElem?_cons_succ, List.getElem?_nil, List.set_cons_zero, List.set_cons_succ, List.length_cons, List.length_nil, List.map_cons, List.map_nil, Option.getD_some, Option.getD_none, List.cons_append, List.nil_append, List.replicate_succ, List.replicate_zero, Nat.reduceAdd, Nat.reduceSub, decide_eq_true_eq, Bool.and_eq_true, Bool.or_eq_true, if_true, if_false, Bool.not_eq_true', Bool.false_eq_true, reduceIte, DS.eqD_int, DS.neD_int, DS.eqD_bl, DS.neD_bl, ne_eq, not_false_eq_true, not_true_eq_false, true_and, and_true, true_or, or_true, false_or, or_false, and_self, Int.reduceEq, Int.reduceAbs, Nat.reduceLT, Int.reduceLT, Int.reduceLE, Int.reduceNeg, Nat.reduceEqDiff, decide_true, decide_false, Bool.not_true, Bool.not_false] <;> rfl)) (sq_nx (if_ff (by simp (config := { failIfUnchanged := false }) only [DS.nxS, DS.bkS, DS.ctS, DS.badS, DS.retS, DS.retN, DS.exprS, DS.setS, DS.setL, DS.asgS, DS.gN, DS.gT, DS.gsN, DS.gsC, DS.op1, DS.op2, DS.op1L, DS.op2L, DS.oV, DS.oS, DS.var, DS.cst, DS.deref, DS.derefD, DS.ofL, DS.lstE, DS.evA, DS.tupE, DS.asB, DS.truT, DS.andT, DS.orT, DS.notT, DS.andE, DS.orE, DS.notE, DS.ifE, DS.chn, DS.sl, DS.slL, DS.part, DS.lcE, DS.lcL, DS.itA, DS.itE, DS.itZ, DS.par2, DS.evP, DS.setIx, DS.mutE, DS.lstTok, DS.updTok, DS.shr, DS.callE, DS.callKE, DS.runFn, DS.orL, DS.yesT, DS.noOwn, DS.addD, DS.subD, DS.mulD, DS.divD, DS.modD, DS.powD, DS.negD, DS.ltD, DS.leD, DS.gtD, DS.geD, DS.isN, DS.isntN, DS.notD, DS.ixD, DS.slD, DS.slLs, DS.lenD, DS.absD, DS.intD, DS.tupleD, DS.listL, DS.allD, DS.anyD, DS.sumD, DS.minD, DS.maxD, DS.sortedL, DS.truD, DS.isiD, DS.tyD, DS.gId, DS.wipeE, DS.restE, DS.R.bind_ok, DS.R.bind_exc, DS.R.bind_bad, DS.R.map_ok, DS.R.of_some, DS.R.of_none, Option.bind_some, Option.bind_none, Option.map_some, Option.map_none, List.getElem?_cons_zero, List.getElem?_cons_succ, List.getElem?_nil, List.set_cons_zero, List.set_cons_succ, List.length_cons, List.length_nil, List.map_cons, List.map_nil, Option.getD_some, Option.getD_none, List.cons_append, List.nil_append, List.replicate_succ, List.replicate_zero, Nat.reduceAdd, Nat.reduceSub, decide_eq_true_eq, Bool.and_eq_true, Bool.or_eq_true, if_true, if_false, Bool.not_eq_true', Bool.false_eq_true, reduceIte, DS.eqD_int, DS.neD_int, DS.eqD_bl, DS.neD_bl, ne_eq, not_false_eq_true, not_true_eq_false, true_and, and_true, true_or, or_true, false_or, or_false, and_self, Int.reduceEq, Int.reduceAbs, Nat.reduceLT, Int.reduceLT, Int.reduceLE, Int.reduceNeg, Nat.reduceEqDiff, decide_true, decide_false, Bool.not_true, Bool.not_false] <;> rfl) (by simp (config := { failIfUnchanged := false }) only [DS.nxS, DS.bkS, DS.ctS, DS.badS, DS.retS, DS.retN, DS.exprS, DS.setS, DS.setL, DS.asgS, DS.gN, DS.gT, DS.gsN, DS.gsC, DS.op1, DS.op2, DS.op1L, DS.op2L, DS.oV, DS.oS, DS.var, DS.cst, DS.deref, DS.derefD, DS.ofL, DS.lstE, DS.evA, DS.tupE, DS.asB, DS.truT, DS.andT, DS.orT, DS.notT, DS.andE, DS.orE, DS.notE, DS.ifE, DS.chn, DS.sl, DS.slL, DS.part, DS.lcE, DS.lcL, DS.itA, DS.itE, DS.itZ, DS.par2, DS.evP, DS.setIx, DS.mutE, DS.lstTok, DS.updTok, DS.shr, DS.callE, DS.callKE, DS.runFn, DS.orL, DS.yesT, DS.noOwn, DS.addD, DS.subD, DS.mulD, DS.divD, DS.modD, DS.powD, DS.negD, DS.ltD, DS.leD, DS.gtD, DS.geD, DS.isN, DS.isntN, DS.notD, DS.ixD, DS.slD, DS.slLs, DS.lenD, DS.absD, DS.intD, DS.tupleD, DS.listL, DS.allD, DS.anyD, DS.sumD, DS.minD, DS.maxD, DS.sortedL, DS.truD, DS.isiD, DS.tyD, DS.gId, DS.wipeE, DS.restE, DS.R.bind_ok, DS.R.bind_exc, DS.R.bind_bad, DS.R.map_ok, DS.R.of_some, DS.R.of_none, Option.bind_some, Option.bind_none, Option.map_some, Option.map_none, List.getElem?_cons_zero, List.getElem?_cons_succ, List.getElem?_nil, List.set_cons_zero, List.set_cons_succ, List.length_cons, List.length_nil, List.map_cons, List.map_nil, Option.getD_some, Option.getD_none, List.cons_append, List.nil_append, List.replicate_succ, List.replicate_zero, Nat.reduceAdd, Nat.reduceSub, decide_eq_true_eq, Bool.and_eq_true, Bool.or_eq_true, if_true, if_false, Bool.not_eq_true', Bool.false_eq_true, reduceIte, DS.eqD_int, DS.neD_int, DS.eqD_bl, DS.neD_bl, ne_eq, not_false_eq_true, not_true_eq_false, true_and, and_true, true_or, or_true, false_or, or_false, and_self, Int.reduceEq, Int.reduceAbs, Nat.reduceLT, Int.reduceLT, Int.reduceLE, Int.reduceNeg, Nat.reduceEqDiff, decide_true, decide_false, Bool.not_true, Bool.not_false] <;> rfl)) (sq_rt (if_tt (by simp (config := { failIfUnchanged := false }) only [DS.nxS, DS.bkS, DS.ctS, DS.badS, DS.retS, DS.retN, DS.exprS, DS.setS, DS.setL, DS.asgS, DS.gN, DS.gT, DS.gsN, DS.gsC, DS.op1, DS.op2, DS.op1L, DS.op2L, DS.oV, DS.oS, DS.var, DS.cst, DS.deref, DS.derefD, DS.ofL, DS.lstE, DS.evA, DS.tupE, DS.asB, DS.truT, DS.andT, DS.orT, DS.notT, DS.andE, DS.orE, DS.notE, DS.ifE, DS.chn, DS.sl, DS.slL, DS.part, DS.lcE, DS.lcL, DS.itA, DS.itE, DS.itZ, DS.par2, DS.evP, DS.setIx, DS.mutE, DS.lstTok, DS.updTok, DS.shr, DS.callE, DS.callKE, DS.runFn, DS.orL, DS.yesT, DS.noOwn, DS.addD, DS.subD, DS.mulD, DS.divD, DS.modD, DS.powD, DS.negD, DS.ltD, DS.leD, DS.gtD, DS.geD, DS.isN, DS.isntN, DS.notD, DS.ixD, DS.slD, DS.slLs, DS.lenD, DS.absD, DS.intD, DS.tupleD, DS.listL, DS.allD, DS.anyD, DS.sumD, DS.minD, DS.maxD, DS.sortedL, DS.truD, DS.isiD, DS.tyD, DS.gId, DS.wipeE, DS.restE, DS.R.bind_ok, DS.R.bind_exc, DS.R.bind_bad, DS.R.map_ok, DS.R.of_some, DS.R.of_none, Option.bind_some, Option.bind_none, Option.map_some, Option.map_none, List.getElem?_cons_zero, List.getElem?_cons_succ, List.getElem?_nil, List.set_cons_zero, List.set_cons_succ, List.length_cons, List.length_nil, List.map_cons, List.map_nil, Option.getD_some, Option.getD_none, List.cons_append, List.nil_append, List.replicate_succ, List.replicate_zero, Nat.reduceAdd, Nat.reduceSub, decide_eq_true_eq, Bool.and_eq_true, Bool.or_eq_true, if_true, if_false, Bool.not_eq_true', Bool.false_eq_true, reduceIte, DS.eqD_int, DS.neD_int, DS.eqD_bl, DS.neD_bl, ne_eq, not_false_eq_true, not_true_eq_false, true_and, and_true, true_or, or_true, false_or, or_false, and_self, Int.reduceEq, Int.reduceAbs, Nat.reduceLT, Int.reduceLT, Int.reduceLE, Int.reduceNeg, Nat.reduceEqDiff, decide_true, decide_false, Bool.not_true, Bool.not_false, any2, s_sb, s_ss, Bool.or_true] <;> rfl) (rt_of (by simp (config := { failIfUnchanged := false }) only [DS.nxS, DS.bkS, DS.ctS, DS.badS, DS.retS, DS.retN, DS.exprS, DS.setS, DS.setL, DS.asgS, DS.gN, DS.gT, DS.gsN, DS.gsC, DS.op1, DS.op2, DS.op1L, DS.op2L, DS.oV, DS.oS, DS.var, DS.cst, DS.deref, DS.derefD, DS.ofL, DS.lstE, DS.evA, DS.tupE, DS.asB, DS.truT, DS.andT, DS.orT, DS.notT, DS.andE, DS.orE, DS.notE, DS.ifE, DS.chn, DS.sl, DS.slL, DS.part, DS.lcE, DS.lcL, DS.itA, DS.itE, DS.itZ, DS.par2, DS.evP, DS.setIx, DS.mutE, DS.lstTok, DS.updTok, DS.shr, DS.callE, DS.callKE, DS.runFn, DS.orL, DS.yesT, DS.noOwn, DS.addD, DS.subD, DS.mulD, DS.divD, DS.modD, DS.powD, DS.negD, DS.ltD, DS.leD, DS.gtD, DS.geD, DS.isN, DS.isntN, DS.notD, DS.ixD, DS.slD, DS.slLs, DS.lenD, DS.absD, DS.intD, DS.tupleD, DS.listL, DS.allD, DS.anyD, DS.sumD, DS.minD, DS.maxD, DS.sortedL, DS.truD, DS.isiD, DS.tyD, DS.gId, DS.wipeE, DS.restE, DS.R.bind_ok, DS.R.bind_exc, DS.R.bind_bad, DS.R.map_ok, DS.R.of_some, DS.R.of_none, Option.bind_some, Option.bind_none, Option.map_some, Option.map_none, List.getElem?_cons_zero, List.getElem?_cons_succ, List.getElem?_nil, List.set_cons_zero, List.set_cons_succ, List.length_cons, List.length_nil, List.map_cons, List.map_nil, Option.getD_some, Option.getD_none, List.cons_append, List.nil_append, List.replicate_succ, List.replicate_zero, Nat.reduceAdd, Nat.reduceSub, decide_eq_true_eq, Bool.and_eq_true, Bool.or_eq_true, if_true, if_false, Bool.not_eq_true', Bool.false_eq_true, reduceIte, DS.eqD_int, DS.neD_int, DS.eqD_bl, DS.neD_bl, ne_eq, not_false_eq_true, not_true_eq_false, true_and, and_true, true_or, or_true, false_or, or_false, and_self, Int.reduceEq, Int.reduceAbs, Nat.reduceLT, Int.reduceLT, Int.reduceLE, Int.reduceNeg, Nat.reduceEqDiff, decide_true, decide_false, Bool.not_true, Bool.not_false, any1, s_sb, s_ss, e] <;> rfl))))))
  | succ n ih =>
    intro x h
    rw [F__law_same_s]
    unfold B__law_same
    cases h with
    | non => exact fn_rt (sq_nx (if_ff (by simp (config := { failIfUnchanged := false }) only [DS.nxS, DS.bkS, DS.ctS, DS.badS, DS.retS, DS.retN, DS.exprS, DS.setS, DS.setL, DS.asgS, DS.gN, DS.gT, DS.gsN, DS.gsC, DS.op1, DS.op2, DS.op1L, DS.op2L, DS.oV, DS.oS, DS.var, DS.cst, DS.deref, DS.derefD, DS.ofL, DS.lstE, DS.evA, DS.tupE, DS.asB, DS.truT, DS.andT, DS.orT, DS.notT, DS.andE, DS.orE, DS.notE, DS.ifE, DS.chn, DS.sl, DS.slL, DS.part, DS.lcE, DS.lcL, DS.itA, DS.itE, DS.itZ, DS.par2, DS.evP, DS.setIx, DS.mutE, DS.lstTok, DS.updTok, DS.shr, DS.callE, DS.callKE, DS.runFn, DS.orL, DS.yesT, DS.noOwn, DS.addD, DS.subD, DS.mulD, DS.divD, DS.modD, DS.powD, DS.negD, DS.ltD, DS.leD, DS.gtD, DS.geD, DS.isN, DS.isntN, DS.notD, DS.ixD, DS.slD, DS.slLs, DS.lenD, DS.absD, DS.intD, DS.tupleD, DS.listL, DS.allD, DS.anyD, DS.sumD, DS.minD, DS.maxD, DS.sortedL, DS.truD, DS.isiD, DS.tyD, DS.gId, DS.wipeE, DS.restE, DS.R.bind_ok, DS.R.bind_exc, DS.R.bind_bad, DS.R.map_ok, DS.R.of_some, DS.R.of_none, Option.bind_some, Option.bind_none, Option.map_some, Option.map_none, List.getElem?_cons_zero, List.getElem?_cons_succ, List.getElem?_nil, List.set_cons_zero, List.set_cons_succ, List.length_cons, List.length_nil, List.map_cons, List.map_nil, Option.getD_some, Option.getD_none, List.cons_append, List.nil_append, List.replicate_succ, List.replicate_zero, Nat.reduceAdd, Nat.reduceSub, decide_eq_true_eq, Bool.and_eq_true, Bool.or_eq_true, if_true, if_false, Bool.not_eq_true', Bool.false_eq_true, reduceIte, DS.eqD_int, DS.neD_int, DS.eqD_bl, DS.neD_bl, ne_eq, not_false_eq_true, not_true_eq_false, true_and, and_true, true_or, or_true, false_or, or_false, and_self, Int.reduceEq, Int.reduceAbs, Nat.reduceLT, Int.reduceLT, Int.reduceLE, Int.reduceNeg, Nat.reduceEqDiff, decide_true, decide_false, Bool.not_true, Bool.not_false, any2, s_nl, s_nt, Bool.or_false] <;> rfl) (by simp (config := { failIfUnchanged := false }) only [DS.nxS, DS.bkS, DS.ctS, DS.badS, DS.retS, DS.retN, DS.exprS, DS.setS, DS.setL, DS.asgS, DS.gN, DS.gT, DS.gsN, DS.gsC, DS.op1, DS.op2, DS.op1L, DS.op2L, DS.oV, DS.oS, DS.var, DS.cst, DS.deref, DS.derefD, DS.ofL, DS.lstE, DS.evA, DS.tupE, DS.asB, DS.truT, DS.andT, DS.orT, DS.notT, DS.andE, DS.orE, DS.notE, DS.ifE, DS.chn, DS.sl, DS.slL, DS.part, DS.lcE, DS.lcL, DS.itA, DS.itE, DS.itZ, DS.par2, DS.evP, DS.setIx, DS.mutE, DS.lstTok, DS.updTok, DS.shr, DS.callE, DS.callKE, DS.runFn, DS.orL, DS.yesT, DS.noOwn, DS.addD, DS.subD, DS.mulD, DS.divD, DS.modD, DS.powD, DS.negD, DS.ltD, DS.leD, DS.gtD, DS.geD, DS.isN, DS.isntN, DS.notD, DS.ixD, DS.slD, DS.slLs, DS.lenD, DS.absD, DS.intD, DS.tupleD, DS.listL, DS.allD, DS.anyD, DS.sumD, DS.minD, DS.maxD, DS.sortedL, DS.truD, DS.isiD, DS.tyD, DS.gId, DS.wipeE, DS.restE, DS.R.bind_ok, DS.R.bind_exc, DS.R.bind_bad, DS.R.map_ok, DS.R.of_some, DS.R.of_none, Option.bind_some, Option.bind_none, Option.map_some, Option.map_none, List.getElem?_cons_zero, List.getElem?_cons_succ, List.getElem?_nil, List.set_cons_zero, List.set_cons_succ, List.length_cons, List.length_nil, List.map_cons, List.map_nil, Option.getD_some, Option.getD_none, List.cons_append, List.nil_append, List.replicate_succ, List.replicate_zero, Nat.reduceAdd, Nat.reduceSub, decide_eq_true_eq, Bool.and_eq_true, Bool.or_eq_true, if_true, if_false, Bool.not_eq_true', Bool.false_eq_true, reduceIte, DS.eqD_int, DS.neD_int, DS.eqD_bl, DS.neD_bl, ne_eq, not_false_eq_true, not_true_eq_false, true_and, and_true, true_or, or_true, false_or, or_false, and_self, Int.reduceEq, Int.reduceAbs, Nat.reduceLT, Int.reduceLT, Int.reduceLE, Int.reduceNeg, Nat.reduceEqDiff, decide_true, decide_false, Bool.not_true, Bool.not_false] <;> rfl)) (sq_rt (if_tt (by simp (config := { failIfUnchanged := false }) only [DS.nxS, DS.bkS, DS.ctS, DS.badS, DS.retS, DS.retN, DS.exprS, DS.setS, DS.setL, DS.asgS, DS.gN, DS.gT, DS.gsN, DS.gsC, DS.op1, DS.op2, DS.op1L, DS.op2L, DS.oV, DS.oS, DS.var, DS.cst, DS.deref, DS.derefD, DS.ofL, DS.lstE, DS.evA, DS.tupE, DS.asB, DS.truT, DS.andT, DS.orT, DS.notT, DS.andE, DS.orE, DS.notE, DS.ifE, DS.chn, DS.sl, DS.slL, DS.part, DS.lcE, DS.lcL, DS.itA, DS.itE, DS.itZ, DS.par2, DS.evP, DS.setIx, DS.mutE, DS.lstTok, DS.updTok, DS.shr, DS.callE, DS.callKE, DS.runFn, DS.orL, DS.yesT, DS.noOwn, DS.addD, DS.subD, DS.mulD, DS.divD, DS.modD, DS.powD, DS.negD, DS.ltD, DS.leD, DS.gtD, DS.geD, DS.isN, DS.isntN, DS.notD, DS.ixD, DS.slD, DS.slLs, DS.lenD, DS.absD, DS.intD, DS.tupleD, DS.listL, DS.allD, DS.anyD, DS.sumD, DS.minD, DS.maxD, DS.sortedL, DS.truD, DS.isiD, DS.tyD, DS.gId, DS.wipeE, DS.restE, DS.R.bind_ok, DS.R.bind_exc, DS.R.bind_bad, DS.R.map_ok, DS.R.of_some, DS.R.of_none, Option.bind_some, Option.bind_none, Option.map_some, Option.map_none, List.getElem?_cons_zero, List.getElem?_cons_succ, List.getElem?_nil, List.set_cons_zero, List.set_cons_succ, List.length_cons, List.length_nil, List.map_cons, List.map_nil, Option.getD_some, Option.getD_none, List.cons_append, List.nil_append, List.replicate_succ, List.replicate_zero, Nat.reduceAdd, Nat.reduceSub, decide_eq_true_eq, Bool.and_eq_true, Bool.or_eq_true, if_true, if_false, Bool.not_eq_true', Bool.false_eq_true, reduceIte, DS.eqD_int, DS.neD_int, DS.eqD_bl, DS.neD_bl, ne_eq, not_false_eq_true, not_true_eq_false, true_and, and_true, true_or, or_true, false_or, or_false, and_self, Int.reduceEq, Int.reduceAbs, Nat.reduceLT, Int.reduceLT, Int.reduceLE, Int.reduceNeg, Nat.reduceEqDiff, decide_true, decide_false, Bool.not_true, Bool.not_false] <;> rfl) (rt_of (by simp (config := { failIfUnchanged := false }) only [DS.nxS, DS.bkS, DS.ctS, DS.badS, DS.retS, DS.retN, DS.exprS, DS.setS, DS.setL, DS.asgS, DS.gN, DS.gT, DS.gsN, DS.gsC, DS.op1, DS.op2, DS.op1L, DS.op2L, DS.oV, DS.oS, DS.var, DS.cst, DS.deref, DS.derefD, DS.ofL, DS.lstE, DS.evA, DS.tupE, DS.asB, DS.truT, DS.andT, DS.orT, DS.notT, DS.andE, DS.orE, DS.notE, DS.ifE, DS.chn, DS.sl, DS.slL, DS.part, DS.lcE, DS.lcL, DS.itA, DS.itE, DS.itZ, DS.par2, DS.evP, DS.setIx, DS.mutE, DS.lstTok, DS.updTok, DS.shr, DS.callE, DS.callKE, DS.runFn, DS.orL, DS.yesT, DS.noOwn, DS.addD, DS.subD, DS.mulD, DS.divD, DS.modD, DS.powD, DS.negD, DS.ltD, DS.leD, DS.gtD, DS.geD, DS.isN, DS.isntN, DS.notD, DS.ixD, DS.slD, DS.slLs, DS.lenD, DS.absD, DS.intD, DS.tupleD, DS.listL, DS.allD, DS.anyD, DS.sumD, DS.minD, DS.maxD, DS.sortedL, DS.truD, DS.isiD, DS.tyD, DS.gId, DS.wipeE, DS.restE, DS.R.bind_ok, DS.R.bind_exc, DS.R.bind_bad, DS.R.map_ok, DS.R.of_some, DS.R.of_none, Option.bind_some, Option.bind_none, Option.map_some, Option.map_none, List.getElem?_cons_zero, List.getElem?_cons_succ, List.getElem?_nil, List.set_cons_zero, List.set_cons_succ, List.length_cons, List.length_nil, List.map_cons, List.map_nil, Option.getD_some, Option.getD_none, List.cons_append, List.nil_append, List.replicate_succ, List.replicate_zero, Nat.reduceAdd, Nat.reduceSub, decide_eq_true_eq, Bool.and_eq_true, Bool.or_eq_true, if_true, if_false, Bool.not_eq_true', Bool.false_eq_true, reduceIte, DS.eqD_int, DS.neD_int, DS.eqD_bl, DS.neD_bl, ne_eq, not_false_eq_true, not_true_eq_false, true_and, and_true, true_or, or_true, false_or, or_false, and_self, Int.reduceEq, Int.reduceAbs, Nat.reduceLT, Int.reduceLT, Int.reduceLE, Int.reduceNeg, Nat.reduceEqDiff, decide_true, decide_false, Bool.not_true, Bool.not_false] <;> rfl)))))
    | bl b => exact fn_rt (sq_nx (if_ff (by simp (config := { failIfUnchanged := false }) only [DS.nxS, DS.bkS, DS.ctS, DS.badS, DS.retS, DS.retN, DS.exprS, DS.setS, DS.setL, DS.asgS, DS.gN, DS.gT, DS.gsN, DS.gsC, DS.op1, DS.op2, DS.op1L, DS.op2L, DS.oV, DS.oS, DS.var, DS.cst, DS.deref, DS.derefD, DS.ofL, DS.lstE, DS.evA, DS.tupE, DS.asB, DS.truT, DS.andT, DS.orT, DS.notT, DS.andE, DS.orE, DS.notE, DS.ifE, DS.chn, DS.sl, DS.slL, DS.part, DS.lcE, DS.lcL, DS.itA, DS.itE, DS.itZ, DS.par2, DS.evP, DS.setIx, DS.mutE, DS.lstTok, DS.updTok, DS.shr, DS.callE, DS.callKE, DS.runFn, DS.orL, DS.yesT, DS.noOwn, DS.addD, DS.subD, DS.mulD, DS.divD, DS.modD, DS.powD, DS.negD, DS.ltD, DS.leD, DS.gtD, DS.geD, DS.isN, DS.isntN, DS.notD, DS.ixD, DS.slD, DS.slLs, DS.lenD, DS.absD, DS.intD, DS.tupleD, DS.listL, DS.allD, DS.anyD, DS.sumD, DS.minD, DS.maxD, DS.sortedL, DS.truD, DS.isiD, DS.tyD, DS.gId, DS.wipeE, DS.restE, DS.R.bind_ok, DS.R.bind_exc, DS.R.bind_bad, DS.R.map_ok, DS.R.of_some, DS.R.of_none, Option.bind_some, Option.bind_none, Option.map_some, Option.map_none, List.getElem?_cons_zero, List.getElem?_cons_succ, List.getElem?_nil, List.set_cons_zero, List.set_cons_succ, List.length_cons, List.length_nil, List.map_cons, List.map_nil, Option.getD_some, Option.getD_none, List.cons_append, List.nil_append, List.replicate_succ, List.replicate_zero, Nat.reduceAdd, Nat.reduceSub, decide_eq_true_eq, Bool.and_eq_true, Bool.or_eq_true, if_true, if_false, Bool.not_eq_true', Bool.false_eq_true, reduceIte, DS.eqD_int, DS.neD_int, DS.eqD_bl, DS.neD_bl, ne_eq, not_false_eq_true, not_true_eq_false, true_and, and_true, true_or, or_true, false_or, or_false, and_self, Int.reduceEq, Int.reduceAbs, Nat.reduceLT, Int.reduceLT, Int.reduceLE, Int.reduceNeg, Nat.reduceEqDiff, decide_true, decide_false, Bool.not_true, Bool.not_false, any2, s_bl, s_bt, Bool.or_false] <;> rfl) (by simp (config := { failIfUnchanged := false }) only [DS.nxS, DS.bkS, DS.ctS, DS.badS, DS.retS, DS.retN, DS.exprS, DS.setS, DS.setL, DS.asgS, DS.gN, DS.gT, DS.gsN, DS.gsC, DS.op1, DS.op2, DS.op1L, DS.op2L, DS.oV, DS.oS, DS.var, DS.cst, DS.deref, DS.derefD, DS.ofL, DS.lstE, DS.evA, DS.tupE, DS.asB, DS.truT, DS.andT, DS.orT, DS.notT, DS.andE, DS.orE, DS.notE, DS.ifE, DS.chn, DS.sl, DS.slL, DS.part, DS.lcE, DS.lcL, DS.itA, DS.itE, DS.itZ, DS.par2, DS.evP, DS.setIx, DS.mutE, DS.lstTok, DS.updTok, DS.shr, DS.callE, DS.callKE, DS.runFn, DS.orL, DS.yesT, DS.noOwn, DS.addD, DS.subD, DS.mulD, DS.divD, DS.modD, DS.powD, DS.negD, DS.ltD, DS.leD, DS.gtD, DS.geD, DS.isN, DS.isntN, DS.notD, DS.ixD, DS.slD, DS.slLs, DS.lenD, DS.absD, DS.intD, DS.tupleD, DS.listL, DS.allD, DS.anyD, DS.sumD, DS.minD, DS.maxD, DS.sortedL, DS.truD, DS.isiD, DS.tyD, DS.gId, DS.wipeE, DS.restE, DS.R.bind_ok, DS.R.bind_exc, DS.R.bind_bad, DS.R.map_ok, DS.R.of_some, DS.R.of_none, Option.bind_some, Option.bind_none, Option.map_some, Option.map_none, List.getElem?_cons_zero, List.getElem?_cons_succ, List.getElem?_nil, List.set_cons_zero, List.set_cons_succ, List.length_cons, List.length_nil, List.map_cons, List.map_nil, Option.getD_some, Option.getD_none, List.cons_append, List.nil_append, List.replicate_succ, List.replicate_zero, Nat.reduceAdd, Nat.reduceSub, decide_eq_true_eq, Bool.and_eq_true, Bool.or_eq_true, if_true, if_false, Bool.not_eq_true', Bool.false_eq_true, reduceIte, DS.eqD_int, DS.neD_int, DS.eqD_bl, DS.neD_bl, ne_eq, not_false_eq_true, not_true_eq_false, true_and, and_true, true_or, or_true, false_or, or_false, and_self, Int.reduceEq, Int.reduceAbs, Nat.reduceLT, Int.reduceLT, Int.reduceLE, Int.reduceNeg, Nat.reduceEqDiff, decide_true, decide_false, Bool.not_true, Bool.not_false] <;> rfl)) (sq_nx (if_ff (by simp (config := { failIfUnchanged := false }) only [DS.nxS, DS.bkS, DS.ctS, DS.badS, DS.retS, DS.retN, DS.exprS, DS.setS, DS.setL, DS.asgS, DS.gN, DS.gT, DS.gsN, DS.gsC, DS.op1, DS.op2, DS.op1L, DS.op2L, DS.oV, DS.oS, DS.var, DS.cst, DS.deref, DS.derefD, DS.ofL, DS.lstE, DS.evA, DS.tupE, DS.asB, DS.truT, DS.andT, DS.orT, DS.notT, DS.andE, DS.orE, DS.notE, DS.ifE, DS.chn, DS.sl, DS.slL, DS.part, DS.lcE, DS.lcL, DS.itA, DS.itE, DS.itZ, DS.par2, DS.evP, DS.setIx, DS.mutE, DS.lstTok, DS.updTok, DS.shr, DS.callE, DS.callKE, DS.runFn, DS.orL, DS.yesT, DS.noOwn, DS.addD, DS.subD, DS.mulD, DS.divD, DS.modD, DS.powD, DS.negD, DS.ltD, DS.leD, DS.gtD, DS.geD, DS.isN, DS.isntN, DS.notD, DS.ixD, DS.slD, DS.slLs, DS.lenD, DS.absD, DS.intD, DS.tupleD, DS.listL, DS.allD, DS.anyD, DS.sumD, DS.minD, DS.maxD, DS.sortedL, DS.truD, DS.isiD, DS.tyD, DS.gId, DS.wipeE, DS.restE, DS.R.bind_ok, DS.R.bind_exc, DS.R.bind_bad, DS.R.map_ok, DS.R.of_some, DS.R.of_none, Option.bind_some, Option.bind_none, Option.map_some, Option.map_none, List.getElem?_cons_zero, List.getElem?_cons_succ, List.getElem?_nil, List.set_cons_zero, List.set_cons_succ, List.length_cons, List.length_nil, List.map_cons, List.map_nil, Option.getD_some, Option.getD_none, List.cons_append, List.nil_append, List.replicate_succ, List.replicate_zero, Nat.reduceAdd, Nat.reduceSub, decide_eq_true_eq, Bool.and_eq_true, Bool.or_eq_true, if_true, if_false, Bool.not_eq_true', Bool.false_eq_true, reduceIte, DS.eqD_int, DS.neD_int, DS.eqD_bl, DS.neD_bl, ne_eq, not_false_eq_true, not_true_eq_false, true_and, and_true, true_or, or_true, false_or, or_false, and_self, Int.reduceEq, Int.reduceAbs, Nat.reduceLT, Int.reduceLT, Int.reduceLE, Int.reduceNeg, Nat.reduceEqDiff, decide_true, decide_false, Bool.not_true, Bool.not_false] <;> rfl) (by simp (config := { failIfUnchanged := false }) only [DS.nxS, DS.bkS, DS.ctS, DS.badS, DS.retS, DS.retN, DS.exprS, DS.setS, DS.setL, DS.asgS, DS.gN, DS.gT, DS.gsN, DS.gsC, DS.op1, DS.op2, DS.op1L, DS.op2L, DS.oV, DS.oS, DS.var, DS.cst, DS.deref, DS.derefD, DS.ofL, DS.lstE, DS.evA, DS.tupE, DS.asB, DS.truT, DS.andT, DS.orT, DS.notT, DS.andE, DS.orE, DS.notE, DS.ifE, DS.chn, DS.sl, DS.slL, DS.part, DS.lcE, DS.lcL, DS.itA, DS.itE, DS.itZ, DS.par2, DS.evP, DS.setIx, DS.mutE, DS.lstTok, DS.updTok, DS.shr, DS.callE, DS.callKE, DS.runFn, DS.orL, DS.yesT, DS.noOwn, DS.addD, DS.subD, DS.mulD, DS.divD, DS.modD, DS.powD, DS.negD, DS.ltD, DS.leD, DS.gtD, DS.geD, DS.isN, DS.isntN, DS.notD, DS.ixD, DS.slD, DS.slLs, DS.lenD, DS.absD, DS.intD, DS.tupleD, DS.listL, DS.allD, DS.anyD, DS.sumD, DS.minD, DS.maxD, DS.sortedL, DS.truD, DS.isiD, DS.tyD, DS.gId, DS.wipeE, DS.restE, DS.R.bind_ok, DS.R.bind_exc, DS.R.bind_bad, DS.R.map_ok, DS.R.of_some, DS.R.of_none, Option.bind_some, Option.bind_none, Option.map_some, Option.map_none, List.getElem?_cons_zero, List.getElem?_cons_succ, List.getElem?_nil, List.set_cons_zero, List.set_cons_succ, List.length_cons, List.length_nil, List.map_cons, List.map_nil, Option.getD_some, Option.getD_none, List.cons_append, List.nil_append, List.replicate_succ, List.replicate_zero, Nat.reduceAdd, Nat.reduceSub, decide_eq_true_eq, Bool.and_eq_true, Bool.or_eq_true, if_true, if_false, Bool.not_eq_true', Bool.false_eq_true, reduceIte, DS.eqD_int, DS.neD_int, DS.eqD_bl, DS.neD_bl, ne_eq, not_false_eq_true, not_true_eq_false, true_and, and_true, true_or, or_true, false_or, or_false, and_self, Int.reduceEq, Int.reduceAbs, Nat.reduceLT, Int.reduceLT, Int.reduceLE, Int.reduceNeg, Nat.reduceEqDiff, decide_true, decide_false, Bool.not_true, Bool.not_false] <;> rfl)) (sq_rt (if_tt (by simp (config := { failIfUnchanged := false }) only [DS.nxS, DS.bkS, DS.ctS, DS.badS, DS.retS, DS.retN, DS.exprS, DS.setS, DS.setL, DS.asgS, DS.gN, DS.gT, DS.gsN, DS.gsC, DS.op1, DS.op2, DS.op1L, DS.op2L, DS.oV, DS.oS, DS.var, DS.cst, DS.deref, DS.derefD, DS.ofL, DS.lstE, DS.evA, DS.tupE, DS.asB, DS.truT, DS.andT, DS.orT, DS.notT, DS.andE, DS.orE, DS.notE, DS.ifE, DS.chn, DS.sl, DS.slL, DS.part, DS.lcE, DS.lcL, DS.itA, DS.itE, DS.itZ, DS.par2, DS.evP, DS.setIx, DS.mutE, DS.lstTok, DS.updTok, DS.shr, DS.callE, DS.callKE, DS.runFn, DS.orL, DS.yesT, DS.noOwn, DS.addD, DS.subD, DS.mulD, DS.divD, DS.modD, DS.powD, DS.negD, DS.ltD, DS.leD, DS.gtD, DS.geD, DS.isN, DS.isntN, DS.notD, DS.ixD, DS.slD, DS.slLs, DS.lenD, DS.absD, DS.intD, DS.tupleD, DS.listL, DS.allD, DS.anyD, DS.sumD, DS.minD, DS.maxD, DS.sortedL, DS.truD, DS.isiD, DS.tyD, DS.gId, DS.wipeE, DS.restE, DS.R.bind_ok, DS.R.bind_exc, DS.R.bind_bad, DS.R.map_ok, DS.R.of_some, DS.R.of_none, Option.bind_some, Option.bind_none, Option.map_some, Option.map_none, List.getElem?_cons_zero, List.getElem?_cons_succ, List.getElem?_nil, List.set_cons_zero, List.set_cons_succ, List.length_cons, List.length_nil, List.map_cons, List.map_nil, Option.getD_some, Option.getD_none, List.cons_append, List.nil_append, List.replicate_succ, List.replicate_zero, Nat.reduceAdd, Nat.reduceSub, decide_eq_true_eq, Bool.and_eq_true, Bool.or_eq_true, if_true, if_false, Bool.not_eq_true', Bool.false_eq_true, reduceIte, DS.eqD_int, DS.neD_int, DS.eqD_bl, DS.neD_bl, ne_eq, not_false_eq_true, not_true_eq_false, true_and, and_true, true_or, or_true, false_or, or_false, and_self, Int.reduceEq, Int.reduceAbs, Nat.reduceLT, Int.reduceLT, Int.reduceLE, Int.reduceNeg, Nat.reduceEqDiff, decide_true, decide_false, Bool.not_true, Bool.not_false, any2, s_bb, s_bs, Bool.or_false] <;> rfl) (rt_of (by simp (config := { failIfUnchanged := false }) only [DS.nxS, DS.bkS, DS.ctS, DS.badS, DS.retS, DS.retN, DS.exprS, DS.setS, DS.setL, DS.asgS, DS.gN, DS.gT, DS.gsN, DS.gsC, DS.op1, DS.op2, DS.op1L, DS.op2L, DS.oV, DS.oS, DS.var, DS.cst, DS.deref, DS.derefD, DS.ofL, DS.lstE, DS.evA, DS.tupE, DS.asB, DS.truT, DS.andT, DS.orT, DS.notT, DS.andE, DS.orE, DS.notE, DS.ifE, DS.chn, DS.sl, DS.slL, DS.part, DS.lcE, DS.lcL, DS.itA, DS.itE, DS.itZ, DS.par2, DS.evP, DS.setIx, DS.mutE, DS.lstTok, DS.updTok, DS.shr, DS.callE, DS.callKE, DS.runFn, DS.orL, DS.yesT, DS.noOwn, DS.addD, DS.subD, DS.mulD, DS.divD, DS.modD, DS.powD, DS.negD, DS.ltD, DS.leD, DS.gtD, DS.geD, DS.isN, DS.isntN, DS.notD, DS.ixD, DS.slD, DS.slLs, DS.lenD, DS.absD, DS.intD, DS.tupleD, DS.listL, DS.allD, DS.anyD, DS.sumD, DS.minD, DS.maxD, DS.sortedL, DS.truD, DS.isiD, DS.tyD, DS.gId, DS.wipeE, DS.restE, DS.R.bind_ok, DS.R.bind_exc, DS.R.bind_bad, DS.R.map_ok, DS.R.of_some, DS.R.of_none, Option.bind_some, Option.bind_none, Option.map_some, Option.map_none, List.getElem?_cons_zero, List.getElem?_cons_succ, List.getElem?_nil, List.set_cons_zero, List.set_cons_succ, List.length_cons, List.length_nil, List.map_cons, List.map_nil, Option.getD_some, Option.getD_none, List.cons_append, List.nil_append, List.replicate_succ, List.replicate_zero, Nat.reduceAdd, Nat.reduceSub, decide_eq_true_eq, Bool.and_eq_true, Bool.or_eq_true, if_true, if_false, Bool.not_eq_true', Bool.false_eq_true, reduceIte, DS.eqD_int, DS.neD_int, DS.eqD_bl, DS.neD_bl, ne_eq, not_false_eq_true, not_true_eq_false, true_and, and_true, true_or, or_true, false_or, or_false, and_self, Int.reduceEq, Int.reduceAbs, Nat.reduceLT, Int.reduceLT, Int.reduceLE, Int.reduceNeg, Nat.reduceEqDiff, decide_true, decide_false, Bool.not_true, Bool.not_false, any1, s_bb, s_bs] <;> rfl))))))
    | int i => exact fn_rt (sq_nx (if_ff (by simp (config := { failIfUnchanged := false }) only [DS.nxS, DS.bkS, DS.ctS, DS.badS, DS.retS, DS.retN, DS.exprS, DS.setS, DS.setL, DS.asgS, DS.gN, DS.gT, DS.gsN, DS.gsC, DS.op1, DS.op2, DS.op1L, DS.op2L, DS.oV, DS.oS, DS.var, DS.cst, DS.deref, DS.derefD, DS.ofL, DS.lstE, DS.evA, DS.tupE, DS.asB, DS.truT, DS.andT, DS.orT, DS.notT, DS.andE, DS.orE, DS.notE, DS.ifE, DS.chn, DS.sl, DS.slL, DS.part, DS.lcE, DS.lcL, DS.itA, DS.itE, DS.itZ, DS.par2, DS.evP, DS.setIx, DS.mutE, DS.lstTok, DS.updTok, DS.shr, DS.callE, DS.callKE, DS.runFn, DS.orL, DS.yesT, DS.noOwn, DS.addD, DS.subD, DS.mulD, DS.divD, DS.modD, DS.powD, DS.negD, DS.ltD, DS.leD, DS.gtD, DS.geD, DS.isN, DS.isntN, DS.notD, DS.ixD, DS.slD, DS.slLs, DS.lenD, DS.absD, DS.intD, DS.tupleD, DS.listL, DS.allD, DS.anyD, DS.sumD, DS.minD, DS.maxD, DS.sortedL, DS.truD, DS.isiD, DS.tyD, DS.gId, DS.wipeE, DS.restE, DS.R.bind_ok, DS.R.bind_exc, DS.R.bind_bad, DS.R.map_ok, DS.R.of_some, DS.R.of_none, Option.bind_some, Option.bind_none, Option.map_some, Option.map_none, List.getElem?_cons_zero, List.getElem?_cons_succ, List.getElem?_nil, List.set_cons_zero, List.set_cons_succ, List.length_cons, List.length_nil, List.map_cons, List.map_nil, Option.getD_some, Option.getD_none, List.cons_append, List.nil_append, List.replicate_succ, List.replicate_zero, Nat.reduceAdd, Nat.reduceSub, decide_eq_true_eq, Bool.and_eq_true, Bool.or_eq_true, if_true, if_false, Bool.not_eq_true', Bool.false_eq_true, reduceIte, DS.eqD_int, DS.neD_int, DS.eqD_bl, DS.neD_bl, ne_eq, not_false_eq_true, not_true_eq_false, true_and, and_true, true_or, or_true, false_or, or_false, and_self, Int.reduceEq, Int.reduceAbs, Nat.reduceLT, Int.reduceLT, Int.reduceLE, Int.reduceNeg, Nat.reduceEqDiff, decide_true, decide_false, Bool.not_true, Bool.not_false, any2, s_il, s_it, Bool.or_false] <;> rfl) (by simp (config := { failIfUnchanged := false }) only [DS.nxS, DS.bkS, DS.ctS, DS.badS, DS.retS, DS.retN, DS.exprS, DS.setS, DS.setL, DS.asgS, DS.gN, DS.gT, DS.gsN, DS.gsC, DS.op1, DS.op2, DS.op1L, DS.op2L, DS.oV, DS.oS, DS.var, DS.cst, DS.deref, DS.derefD, DS.ofL, DS.lstE, DS.evA, DS.tupE, DS.asB, DS.truT, DS.andT, DS.orT, DS.notT, DS.andE, DS.orE, DS.notE, DS.ifE, DS.chn, DS.sl, DS.slL, DS.part, DS.lcE, DS.lcL, DS.itA, DS.itE, DS.itZ, DS.par2, DS.evP, DS.setIx, DS.mutE, DS.lstTok, DS.updTok, DS.shr, DS.callE, DS.callKE, DS.runFn, DS.orL, DS.yesT, DS.noOwn, DS.addD, DS.subD, DS.mulD, DS.divD, DS.modD, DS.powD, DS.negD, DS.ltD, DS.leD, DS.gtD, DS.geD, DS.isN, DS.isntN, DS.notD, DS.ixD, DS.slD, DS.slLs, DS.lenD, DS.absD, DS.intD, DS.tupleD, DS.listL, DS.allD, DS.anyD, DS.sumD, DS.minD, DS.maxD, DS.sortedL, DS.truD, DS.isiD, DS.tyD, DS.gId, DS.wipeE, DS.restE, DS.R.bind_ok, DS.R.bind_exc, DS.R.bind_bad, DS.R.map_ok, DS.R.of_some, DS.R.of_none, Option.bind_some, Option.bind_none, Option.map_some, Option.map_none, List.getElem?_cons_zero, List.getElem?_cons_succ, List.getElem?_nil, List.set_cons_zero, List.set_cons_succ, List.length_cons, List.length_nil, List.map_cons, List.map_nil, Option.getD_some, Option.getD_none, List.cons_append, List.nil_append, List.replicate_succ, List.replicate_zero, Nat.reduceAdd, Nat.reduceSub, decide_eq_true_eq, Bool.and_eq_true, Bool.or_eq_true, if_true, if_false, Bool.not_eq_true', Bool.false_eq_true, reduceIte, DS.eqD_int, DS.neD_int, DS.eqD_bl, DS.neD_bl, ne_eq, not_false_eq_true, not_true_eq_false, true_and, and_true, true_or, or_true, false_or, or_false, and_self, Int.reduceEq, Int.reduceAbs, Nat.reduceLT, Int.reduceLT, Int.reduceLE, Int.reduceNeg, Nat.reduceEqDiff, decide_true, decide_false, Bool.not_true, Bool.not_false] <;> rfl)) (sq_nx (if_ff (by simp (config := { failIfUnchanged := false }) only [DS.nxS, DS.bkS, DS.ctS, DS.badS, DS.retS, DS.retN, DS.exprS, DS.setS, DS.setL, DS.asgS, DS.gN, DS.gT, DS.gsN, DS.gsC, DS.op1, DS.op2, DS.op1L, DS.op2L, DS.oV, DS.oS, DS.var, DS.cst, DS.deref, DS.derefD, DS.ofL, DS.lstE, DS.evA, DS.tupE, DS.asB, DS.truT, DS.andT, DS.orT, DS.notT, DS.andE, DS.orE, DS.notE, DS.ifE, DS.chn, DS.sl, DS.slL, DS.part, DS.lcE, DS.lcL, DS.itA, DS.itE, DS.itZ, DS.par2, DS.evP, DS.setIx, DS.mutE, DS.lstTok, DS.updTok, DS.shr, DS.callE, DS.callKE, DS.runFn, DS.orL, DS.yesT, DS.noOwn, DS.addD, DS.subD, DS.mulD, DS.divD, DS.modD, DS.powD, DS.negD, DS.ltD, DS.leD, DS.gtD, DS.geD, DS.isN, DS.isntN, DS.notD, DS.ixD, DS.slD, DS.slLs, DS.lenD, DS.absD, DS.intD, DS.tupleD, DS.listL, DS.allD, DS.anyD, DS.sumD, DS.minD, DS.maxD, DS.sortedL, DS.truD, DS.isiD, DS.tyD, DS.gId, DS.wipeE, DS.restE, DS.R.bind_ok, DS.R.bind_exc, DS.R.bind_bad, DS.R.map_ok, DS.R.of_some, DS.R.of_none, Option.bind_some, Option.bind_none, Option.map_some, Option.map_none, List.getElem?_cons_zero, List.getElem?_cons_succ, List.getElem?_nil, List.set_cons_zero, List.set_cons_succ, List.length_cons, List.length_nil, List.map_cons, List.map_nil, Option.getD_some, Option.getD_none, List.cons_append, List.nil_append, List.replicate_succ, List.replicate_zero, Nat.reduceAdd, Nat.reduceSub, decide_eq_true_eq, Bool.and_eq_true, Bool.or_eq_true, if_true, if_false, Bool.not_eq_true', Bool.false_eq_true, reduceIte, DS.eqD_int, DS.neD_int, DS.eqD_bl, DS.neD_bl, ne_eq, not_false_eq_true, not_true_eq_false, true_and, and_true, true_or, or_true, false_or, or_false, and_self, Int.reduceEq, Int.reduceAbs, Nat.reduceLT, Int.reduceLT, Int.reduceLE, Int.reduceNeg, Nat.reduceEqDiff, decide_true, decide_false, Bool.not_true, Bool.not_false] <;> rfl) (by simp (config := { failIfUnchanged := false }) only [DS.nxS, DS.bkS, DS.ctS, DS.badS, DS.retS, DS.retN, DS.exprS, DS.setS, DS.setL, DS.asgS, DS.gN, DS.gT, DS.gsN, DS.gsC, DS.op1, DS.op2, DS.op1L, DS.op2L, DS.oV, DS.oS, DS.var, DS.cst, DS.deref, DS.derefD, DS.ofL, DS.lstE, DS.evA, DS.tupE, DS.asB, DS.truT, DS.andT, DS.orT, DS.notT, DS.andE, DS.orE, DS.notE, DS.ifE, DS.chn, DS.sl, DS.slL, DS.part, DS.lcE, DS.lcL, DS.itA, DS.itE, DS.itZ, DS.par2, DS.evP, DS.setIx, DS.mutE, DS.lstTok, DS.updTok, DS.shr, DS.callE, DS.callKE, DS.runFn, DS.orL, DS.yesT, DS.noOwn, DS.addD, DS.subD, DS.mulD, DS.divD, DS.modD, DS.powD, DS.negD, DS.ltD, DS.leD, DS.gtD, DS.geD, DS.isN, DS.isntN, DS.notD, DS.ixD, DS.slD, DS.slLs, DS.lenD, DS.absD, DS.intD, DS.tupleD, DS.listL, DS.allD, DS.anyD, DS.sumD, DS.minD, DS.maxD, DS.sortedL, DS.truD, DS.isiD, DS.tyD, DS.gId, DS.wipeE, DS.restE, DS.R.bind_ok, DS.R.bind_exc, DS.R.bind_bad, DS.R.map_ok, DS.R.of_some, DS.R.of_none, Option.bind_some, Option.bind_none, Option.map_some, Option.map_none, List.getElem?_cons_zero, List.getElem?_cons_succ, List.getElem?_nil, List.set_cons_zero, List.set_cons_succ, List.length_cons, List.length_nil, List.map_cons, List.map_nil, Option.getD_some, Option.getD_none, List.cons_append, List.nil_append, List.replicate_succ, List.replicate_zero, Nat.reduceAdd, Nat.reduceSub, decide_eq_true_eq, Bool.and_eq_true, Bool.or_eq_true, if_true, if_false, Bool.not_eq_true', Bool.false_eq_true, reduceIte, DS.eqD_int, DS.neD_int, DS.eqD_bl, DS.neD_bl, ne_eq, not_false_eq_true, not_true_eq_false, true_and, and_true, true_or, or_true, false_or, or_false, and_self, Int.reduceEq, Int.reduceAbs, Nat.reduceLT, Int.reduceLT, Int.reduceLE, Int.reduceNeg, Nat.reduceEqDiff, decide_true, decide_false, Bool.not_true, Bool.not_false] <;> rfl)) (sq_nx (if_ff (by simp (config := { failIfUnchanged := false }) only [DS.nxS, DS.bkS, DS.ctS, DS.badS, DS.retS, DS.retN, DS.exprS, DS.setS, DS.setL, DS.asgS, DS.gN, DS.gT, DS.gsN, DS.gsC, DS.op1, DS.op2, DS.op1L, DS.op2L, DS.oV, DS.oS, DS.var, DS.cst, DS.deref, DS.derefD, DS.ofL, DS.lstE, DS.evA, DS.tupE, DS.asB, DS.truT, DS.andT, DS.orT, DS.notT, DS.andE, DS.orE, DS.notE, DS.ifE, DS.chn, DS.sl, DS.slL, DS.part, DS.lcE, DS.lcL, DS.itA, DS.itE, DS.itZ, DS.par2, DS.evP, DS.setIx, DS.mutE, DS.lstTok, DS.updTok, DS.shr, DS.callE, DS.callKE, DS.runFn, DS.orL, DS.yesT, DS.noOwn, DS.addD, DS.subD, DS.mulD, DS.divD, DS.modD, DS.powD, DS.negD, DS.ltD, DS.leD, DS.gtD, DS.geD, DS.isN, DS.isntN, DS.notD, DS.ixD, DS.slD, DS.slLs, DS.lenD, DS.absD, DS.intD, DS.tupleD, DS.listL, DS.allD, DS.anyD, DS.sumD, DS.minD, DS.maxD, DS.sortedL, DS.truD, DS.isiD, DS.tyD, DS.gId, DS.wipeE, DS.restE, DS.R.bind_ok, DS.R.bind_exc, DS.R.bind_bad, DS.R.map_ok, DS.R.of_some, DS.R.of_none, Option.bind_some, Option.bind_none, Option.map_some, Option.map_none, List.getElem?_cons_zero, List.getElem?_cons_succ, List.getElem?_nil, List.set_cons_zero, List.set_cons_succ, List.length_cons, List.length_nil, List.map_cons, List.map_nil, Option.getD_some, Option.getD_none, List.cons_append, List.nil_append, List.replicate_succ, List.replicate_zero, Nat.reduceAdd, Nat.reduceSub, decide_eq_true_eq, Bool.and_eq_true, Bool.or_eq_true, if_true, if_false, Bool.not_eq_true', Bool.false_eq_true, reduceIte, DS.eqD_int, DS.neD_int, DS.eqD_bl, DS.neD_bl, ne_eq, not_false_eq_true, not_true_eq_false, true_and, and_true, true_or, or_true, false_or, or_false, and_self, Int.reduceEq, Int.reduceAbs, Nat.reduceLT, Int.reduceLT, Int.reduceLE, Int.reduceNeg, Nat.reduceEqDiff, decide_true, decide_false, Bool.not_true, Bool.not_false, any2, ib, s_is, Bool.or_false] <;> rfl) (by simp (config := { failIfUnchanged := false }) only [DS.nxS, DS.bkS, DS.ctS, DS.badS, DS.retS, DS.retN, DS.exprS, DS.setS, DS.setL, DS.asgS, DS.gN, DS.gT, DS.gsN, DS.gsC, DS.op1, DS.op2, DS.op1L, DS.op2L, DS.oV, DS.oS, DS.var, DS.cst, DS.deref, DS.derefD, DS.ofL, DS.lstE, DS.evA, DS.tupE, DS.asB, DS.truT, DS.andT, DS.orT, DS.notT, DS.andE, DS.orE, DS.notE, DS.ifE, DS.chn, DS.sl, DS.slL, DS.part, DS.lcE, DS.lcL, DS.itA, DS.itE, DS.itZ, DS.par2, DS.evP, DS.setIx, DS.mutE, DS.lstTok, DS.updTok, DS.shr, DS.callE, DS.callKE, DS.runFn, DS.orL, DS.yesT, DS.noOwn, DS.addD, DS.subD, DS.mulD, DS.divD, DS.modD, DS.powD, DS.negD, DS.ltD, DS.leD, DS.gtD, DS.geD, DS.isN, DS.isntN, DS.notD, DS.ixD, DS.slD, DS.slLs, DS.lenD, DS.absD, DS.intD, DS.tupleD, DS.listL, DS.allD, DS.anyD, DS.sumD, DS.minD, DS.maxD, DS.sortedL, DS.truD, DS.isiD, DS.tyD, DS.gId, DS.wipeE, DS.restE, DS.R.bind_ok, DS.R.bind_exc, DS.R.bind_bad, DS.R.map_ok, DS.R.of_some, DS.R.of_none, Option.bind_some, Option.bind_none, Option.map_some, Option.map_none, List.getElem?_cons_zero, List.getElem?_cons_succ, List.getElem?_nil, List.set_cons_zero, List.set_cons_succ, List.length_cons, List.length_nil, List.map_cons, List.map_nil, Option.getD_some, Option.getD_none, List.cons_append, List.nil_append, List.replicate_succ, List.replicate_zero, Nat.reduceAdd, Nat.reduceSub, decide_eq_true_eq, Bool.and_eq_true, Bool.or_eq_true, if_true, if_false, Bool.not_eq_true', Bool.false_eq_true, reduceIte, DS.eqD_int, DS.neD_int, DS.eqD_bl, DS.neD_bl, ne_eq, not_false_eq_true, not_true_eq_false, true_and, and_true, true_or, or_true, false_or, or_false, and_self, Int.reduceEq, Int.reduceAbs, Nat.reduceLT, Int.reduceLT, Int.reduceLE, Int.reduceNeg, Nat.reduceEqDiff, decide_true, decide_false, Bool.not_true, Bool.not_false] <;> rfl)) (rt_of (by simp (config := { failIfUnchanged := false }) only [DS.nxS, DS.bkS, DS.ctS, DS.badS, DS.retS, DS.retN, DS.exprS, DS.setS, DS.setL, DS.asgS, DS.gN, DS.gT, DS.gsN, DS.gsC, DS.op1, DS.op2, DS.op1L, DS.op2L, DS.oV, DS.oS, DS.var, DS.cst, DS.deref, DS.derefD, DS.ofL, DS.lstE, DS.evA, DS.tupE, DS.asB, DS.truT, DS.andT, DS.orT, DS.notT, DS.andE, DS.orE, DS.notE, DS.ifE, DS.chn, DS.sl, DS.slL, DS.part, DS.lcE, DS.lcL, DS.itA, DS.itE, DS.itZ, DS.par2, DS.evP, DS.setIx, DS.mutE, DS.lstTok, DS.updTok, DS.shr, DS.callE, DS.callKE, DS.runFn, DS.orL, DS.yesT, DS.noOwn, DS.addD, DS.subD, DS.mulD, DS.divD, DS.modD, DS.powD, DS.negD, DS.ltD, DS.leD, DS.gtD, DS.geD, DS.isN, DS.isntN, DS.notD, DS.ixD, DS.slD, DS.slLs, DS.lenD, DS.absD, DS.intD, DS.tupleD, DS.listL, DS.allD, DS.anyD, DS.sumD, DS.minD, DS.maxD, DS.sortedL, DS.truD, DS.isiD, DS.tyD, DS.gId, DS.wipeE, DS.restE, DS.R.bind_ok, DS.R.bind_exc, DS.R.bind_bad, DS.R.map_ok, DS.R.of_some, DS.R.of_none, Option.bind_some, Option.bind_none, Option.map_some, Option.map_none, List.getElem?_cons_zero, List.getElem?_cons_succ, List.getElem?_nil, List.set_cons_zero, List.set_cons_succ, List.length_cons, List.length_nil, List.map_cons, List.map_nil, Option.getD_some, Option.getD_none, List.cons_append, List.nil_append, List.replicate_succ, List.replicate_zero, Nat.reduceAdd, Nat.reduceSub, decide_eq_true_eq, Bool.and_eq_true, Bool.or_eq_true, if_true, if_false, Bool.not_eq_true', Bool.false_eq_true, reduceIte, DS.eqD_int, DS.neD_int, DS.eqD_bl, DS.neD_bl, ne_eq, not_false_eq_true, not_true_eq_false, true_and, and_true, true_or, or_true, false_or, or_false, and_self, Int.reduceEq, Int.reduceAbs, Nat.reduceLT, Int.reduceLT, Int.reduceLE, Int.reduceNeg, Nat.reduceEqDiff, decide_true, decide_false, Bool.not_true, Bool.not_false, any1, ii, ib] <;> rfl)))))
    | str _ x h =>
      have e : eqD (.str x) (.str x) = some (.bl true) := by unfold eqD; rw [pyEq_str x x h h]; simp
      exact fn_rt (sq_nx (if_ff (by simp (config := { failIfUnchanged := false }) only [DS.nxS, DS.bkS, DS.ctS, DS.badS, DS.retS, DS.retN, DS.exprS, DS.setS, DS.setL, DS.asgS, DS.gN, DS.gT, DS.gsN, DS.gsC, DS.op1, DS.op2, DS.op1L, DS.op2L, DS.oV, DS.oS, DS.var, DS.cst, DS.deref, DS.derefD, DS.ofL, DS.lstE, DS.evA, DS.tupE, DS.asB, DS.truT, DS.andT, DS.orT, DS.notT, DS.andE, DS.orE, DS.notE, DS.ifE, DS.chn, DS.sl, DS.slL, DS.part, DS.lcE, DS.lcL, DS.itA, DS.itE, DS.itZ, DS.par2, DS.evP, DS.setIx, DS.mutE, DS.lstTok, DS.updTok, DS.shr, DS.callE, DS.callKE, DS.runFn, DS.orL, DS.yesT, DS.noOwn, DS.addD, DS.subD, DS.mulD, DS.divD, DS.modD, DS.powD, DS.negD, DS.ltD, DS.leD, DS.gtD, DS.geD, DS.isN, DS.isntN, DS.notD, DS.ixD, DS.slD, DS.slLs, DS.lenD, DS.absD, DS.intD, DS.tupleD, DS.listL, DS.allD, DS.anyD, DS.sumD, DS.minD, DS.maxD, DS.sortedL, DS.truD, DS.isiD, DS.tyD, DS.gId, DS.wipeE, DS.restE, DS.R.bind_ok, DS.R.bind_exc, DS.R.bind_bad, DS.R.map_ok, DS.R.of_some, DS.R.of_none, Option.bind_some, Option.bind_none, Option.map_some, Option.map_none, List.getElem?_cons_zero, List.getElem?_cons_succ, List.getElem?_nil, List.set_cons_zero, List.set_cons_succ, List.length_cons, List.length_nil, List.map_cons, List.map_nil, Option.getD_some, Option.getD_none, List.cons_append, List.nil_append, List.replicate_succ, List.replicate_zero, Nat.reduceAdd, Nat.reduceSub, decide_eq_true_eq, Bool.and_eq_true, Bool.or_eq_true, if_true, if_false, Bool.not_eq_true', Bool.false_eq_true, reduceIte, DS.eqD_int, DS.neD_int, DS.eqD_bl, DS.neD_bl, ne_eq, not_false_eq_true, not_true_eq_false, true_and, and_true, true_or, or_true, false_or, or_false, and_self, Int.reduceEq, Int.reduceAbs, Nat.reduceLT, Int.reduceLT, Int.reduceLE, Int.reduceNeg, Nat.reduceEqDiff, decide_true, decide_false, Bool.not_true, Bool.not_false, any2, s_sl, s_st, Bool.or_false] <;> rfl) (by simp (config := { failIfUnchanged := false }) only [DS.nxS, DS.bkS, DS.ctS, DS.badS, DS.retS, DS.retN, DS.exprS, DS.setS, DS.setL, DS.asgS, DS.gN, DS.gT, DS.gsN, DS.gsC, DS.op1, DS.op2, DS.op1L, DS.op2L, DS.oV, DS.oS, DS.var, DS.cst, DS.deref, DS.derefD, DS.ofL, DS.lstE, DS.evA, DS.tupE, DS.asB, DS.truT, DS.andT, DS.orT, DS.notT, DS.andE, DS.orE, DS.notE, DS.ifE, DS.chn, DS.sl, DS.slL, DS.part, DS.lcE, DS.lcL, DS.itA, DS.itE, DS.itZ, DS.par2, DS.evP, DS.setIx, DS.mutE, DS.lstTok, DS.updTok, DS.shr, DS.callE, DS.callKE, DS.runFn, DS.orL, DS.yesT, DS.noOwn, DS.addD, DS.subD, DS.mulD, DS.divD, DS.modD, DS.powD, DS.negD, DS.ltD, DS.leD, DS.gtD, DS.geD, DS.isN, DS.isntN, DS.notD, DS.ixD, DS.slD, DS.slLs, DS.lenD, DS.absD, DS.intD, DS.tupleD, DS.listL, DS.allD, DS.anyD, DS.sumD, DS.minD, DS.maxD, DS.sortedL, DS.truD, DS.isiD, DS.tyD, DS.gId, DS.wipeE, DS.restE, DS.R.bind_ok, DS.R.bind_exc, DS.R.bind_bad, DS.R.map_ok, DS.R.of_some, DS.R.of_none, Option.bind_some, Option.bind_none, Option.map_some, Option.map_none, List.getElem?_cons_zero, List.getElem?_cons_succ, List.getElem?_nil, List.set_cons_zero, List.set_cons_succ, List.length_cons, List.length_nil, List.map_cons, List.map_nil, Option.getD_some, Option.getD_none, List.cons_append, List.nil_append, List.replicate_succ, List.replicate_zero, Nat.reduceAdd, Nat.reduceSub, decide_eq_true_eq, Bool.and_eq_true, Bool.or_eq_true, if_true, if_false, Bool.not_eq_true', Bool.false_eq_true, reduceIte, DS.eqD_int, DS.neD_int, DS.eqD_bl, DS.neD_bl, ne_eq, not_false_eq_true, not_true_eq_false, true_and, and_true, true_or, or_true, false_or, or_false, and_self, Int.reduceEq, Int.reduceAbs, Nat.reduceLT, Int.reduceLT, Int.reduceLE, Int.reduceNeg, Nat.reduceEqDiff, decide_true, decide_false, Bool.not_true, Bool.not_false] <;> rfl)) (sq_nx (if_ff (by simp (config := { failIfUnchanged := false }) only [DS.nxS, DS.bkS, DS.ctS, DS.badS, DS.retS, DS.retN, DS.exprS, DS.setS, DS.setL, DS.asgS, DS.gN, DS.gT, DS.gsN, DS.gsC, DS.op1, DS.op2, DS.op1L, DS.op2L, DS.oV, DS.oS, DS.var, DS.cst, DS.deref, DS.derefD, DS.ofL, DS.lstE, DS.evA, DS.tupE, DS.asB, DS.truT, DS.andT, DS.orT, DS.notT, DS.andE, DS.orE, DS.notE, DS.ifE, DS.chn, DS.sl, DS.slL, DS.part, DS.lcE, DS.lcL, DS.itA, DS.itE, DS.itZ, DS.par2, DS.evP, DS.setIx, DS.mutE, DS.lstTok, DS.updTok, DS.shr, DS.callE, DS.callKE, DS.runFn, DS.orL, DS.yesT, DS.noOwn, DS.addD, DS.subD, DS.mulD, DS.divD, DS.modD, DS.powD, DS.negD, DS.ltD, DS.leD, DS.gtD, DS.geD, DS.isN, DS.isntN, DS.notD, DS.ixD, DS.slD, DS.slLs, DS.lenD, DS.absD, DS.intD, DS.tupleD, DS.listL, DS.allD, DS.anyD, DS.sumD, DS.minD, DS.maxD, DS.sortedL, DS.truD, DS.isiD, DS.tyD, DS.gId, DS.wipeE, DS.restE, DS.R.bind_ok, DS.R.bind_exc, DS.R.bind_bad, DS.R.map_ok, DS.R.of_some, DS.R.of_none, Option.bind_some, Option.bind_none, Option.map_some, Option.map_none, List.getElem?_cons_zero, List.getElem?_cons_succ, List.getElem?_nil, List.set_cons_zero, List.set_cons_succ, List.length_cons, List.length_nil, List.map_cons, List.map_nil, Option.getD_some, Option.getD_none, List.cons_append, List.nil_append, List.replicate_succ, List.replicate_zero, Nat.reduceAdd, Nat.reduceSub, decide_eq_true_eq, Bool.and_eq_true, Bool.or_eq_true, if_true, if_false, Bool.not_eq_true', Bool.false_eq_true, reduceIte, DS.eqD_int, DS.neD_int, DS.eqD_bl, DS.neD_bl, ne_eq, not_false_eq_true, not_true_eq_false, true_and, and_true, true_or, or_true, false_or, or_false, and_self, Int.reduceEq, Int.reduceAbs, Nat.reduceLT, Int.reduceLT, Int.reduceLE, Int.reduceNeg, Nat.reduceEqDiff, decide_true, decide_false, Bool.not_true, Bool.not_false] <;> rfl) (by simp (config := { failIfUnchanged := false }) only [DS.nxS, DS.bkS, DS.ctS, DS.badS, DS.retS, DS.retN, DS.exprS, DS.setS, DS.setL, DS.asgS, DS.gN, DS.gT, DS.gsN, DS.gsC, DS.op1, DS.op2, DS.op1L, DS.op2L, DS.oV, DS.oS, DS.var, DS.cst, DS.deref, DS.derefD, DS.ofL, DS.lstE, DS.evA, DS.tupE, DS.asB, DS.truT, DS.andT, DS.orT, DS.notT, DS.andE, DS.orE, DS.notE, DS.ifE, DS.chn, DS.sl, DS.slL, DS.part, DS.lcE, DS.lcL, DS.itA, DS.itE, DS.itZ, DS.par2, DS.evP, DS.setIx, DS.mutE, DS.lstTok, DS.updTok, DS.shr, DS.callE, DS.callKE, DS.runFn, DS.orL, DS.yesT, DS.noOwn, DS.addD, DS.subD, DS.mulD, DS.divD, DS.modD, DS.powD, DS.negD, DS.ltD, DS.leD, DS.gtD, DS.geD, DS.isN, DS.isntN, DS.notD, DS.ixD, DS.slD, DS.slLs, DS.lenD, DS.absD, DS.intD, DS.tupleD, DS.listL, DS.allD, DS.anyD, DS.sumD, DS.minD, DS.maxD, DS.sortedL, DS.truD, DS.isiD, DS.tyD, DS.gId, DS.wipeE, DS.restE, DS.R.bind_ok, DS.R.bind_exc, DS.R.bind_bad, DS.R.map_ok, DS.R.of_some, DS.R.of_none, Option.bind_some, Option.bind_none, Option.map_some, Option.map_none, List.getElem?_cons_zero, List.getElem?_cons_succ, List.getElem?_nil, List.set_cons_zero, List.set_cons_succ, List.length_cons, List.length_nil, List.map_cons, List.map_nil, Option.getD_some, Option.getD_none, List.cons_append, List.nil_append, List.replicate_succ, List.replicate_zero, Nat.reduceAdd, Nat.reduceSub, decide_eq_true_eq, Bool.and_eq_true, Bool.or_eq_true, if_true, if_false, Bool.not_eq_true', Bool.false_eq_true, reduceIte, DS.eqD_int, DS.neD_int, DS.eqD_bl, DS.neD_bl, ne_eq, not_false_eq_true, not_true_eq_false, true_and, and_true, true_or, or_true, false_or, or_false, and_self, Int.reduceEq, Int.reduceAbs, Nat.reduceLT, Int.reduceLT, Int.reduceLE, Int.reduceNeg, Nat.reduceEqDiff, decide_true, decide_false, Bool.not_true, Bool.not_false] <;> rfl)) (sq_rt (if_tt (by simp (config := { failIfUnchanged := false }) only [DS.nxS, DS.bkS, DS.ctS, DS.badS, DS.retS, DS.retN, DS.exprS, DS.setS, DS.setL, DS.asgS, DS.gN, DS.gT, DS.gsN, DS.gsC, DS.op1, DS.op2, DS.op1L, DS.op2L, DS.oV, DS.oS, DS.var, DS.cst, DS.deref, DS.derefD, DS.ofL, DS.lstE, DS.evA, DS.tupE, DS.asB, DS.truT, DS.andT, DS.orT, DS.notT, DS.andE, DS.orE, DS.notE, DS.ifE, DS.chn, DS.sl, DS.slL, DS.part, DS.lcE, DS.lcL, DS.itA, DS.itE, DS.itZ, DS.par2, DS.evP, DS.setIx, DS.mutE, DS.lstTok, DS.updTok, DS.shr, DS.callE, DS.callKE, DS.runFn, DS.orL, DS.yesT, DS.noOwn, DS.addD, DS.subD, DS.mulD, DS.divD, DS.modD, DS.powD, DS.negD, DS.ltD, DS.leD, DS.gtD, DS.geD, DS.isN, DS.isntN, DS.notD, DS.ixD, DS.slD, DS.slLs, DS.lenD, DS.absD, DS.intD, DS.tupleD, DS.listL, DS.allD, DS.anyD, DS.sumD, DS.minD, DS.maxD, DS.sortedL, DS.truD, DS.isiD, DS.tyD, DS.gId, DS.wipeE, DS.restE, DS.R.bind_ok, DS.R.bind_exc, DS.R.bind_bad, DS.R.map_ok, DS.R.of_some, DS.R.of_none, Option.bind_some, Option.bind_none, Option.map_some, Option.map_none, List.getElem?_cons_zero, List.getElem?_cons_succ, List.getElem?_nil, List.set_cons_zero, List.set_cons_succ, List.length_cons, List.length_nil, List.map_cons, List.map_nil, Option.getD_some, Option.getD_none, List.cons_append, List.nil_append, List.replicate_succ, List.replicate_zero, Nat.reduceAdd, Nat.reduceSub, decide_eq_true_eq, Bool.and_eq_true, Bool.or_eq_true, if_true, if_false, Bool.not_eq_true', Bool.false_eq_true, reduceIte, DS.eqD_int, DS.neD_int, DS.eqD_bl, DS.neD_bl, ne_eq, not_false_eq_true, not_true_eq_false, true_and, and_true, true_or, or_true, false_or, or_false, and_self, Int.reduceEq, Int.reduceAbs, Nat.reduceLT, Int.reduceLT, Int.reduceLE, Int.reduceNeg, Nat.reduceEqDiff, decide_true, decide_false, Bool.not_true, Bool.not_false, any2, s_sb, s_ss, Bool.or_true] <;> rfl) (rt_of (by simp (config := { failIfUnchanged := false }) only [DS.nxS, DS.bkS, DS.ctS, DS.badS, DS.retS, DS.retN, DS.exprS, DS.setS, DS.setL, DS.asgS, DS.gN, DS.gT, DS.gsN, DS.gsC, DS.op1, DS.op2, DS.op1L, DS.op2L, DS.oV, DS.oS, DS.var, DS.cst, DS.deref, DS.derefD, DS.ofL, DS.lstE, DS.evA, DS.tupE, DS.asB, DS.truT, DS.andT, DS.orT, DS.notT, DS.andE, DS.orE, DS.notE, DS.ifE, DS.chn, DS.sl, DS.slL, DS.part, DS.lcE, DS.lcL, DS.itA, DS.itE, DS.itZ, DS.par2, DS.evP, DS.setIx, DS.mutE, DS.lstTok, DS.updTok, DS.shr, DS.callE, DS.callKE, DS.runFn, DS.orL, DS.yesT, DS.noOwn, DS.addD, DS.subD, DS.mulD, DS.divD, DS.modD, DS.powD, DS.negD, DS.ltD, DS.leD, DS.gtD, DS.geD, DS.isN, DS.isntN, DS.notD, DS.ixD, DS.slD, DS.slLs, DS.lenD, DS.absD, DS.intD, DS.tupleD, DS.listL, DS.allD, DS.anyD, DS.sumD, DS.minD, DS.maxD, DS.sortedL, DS.truD, DS.isiD, DS.tyD, DS.gId, DS.wipeE, DS.restE, DS.R.bind_ok, DS.R.bind_exc, DS.R.bind_bad, DS.R.map_ok, DS.R.of_some, DS.R.of_none, Option.bind_some, Option.bind_none, Option.map_some, Option.map_none, List.getElem?_cons_zero, List.getElem?_cons_succ, List.getElem?_nil, List.set_cons_zero, List.set_cons_succ, List.length_cons, List.length_nil, List.map_cons, List.map_nil, Option.getD_some, Option.getD_none, List.cons_append, List.nil_append, List.replicate_succ, List.replicate_zero, Nat.reduceAdd, Nat.reduceSub, decide_eq_true_eq, Bool.and_eq_true, Bool.or_eq_true, if_true, if_false, Bool.not_eq_true', Bool.false_eq_true, reduceIte, DS.eqD_int, DS.neD_int, DS.eqD_bl, DS.neD_bl, ne_eq, not_false_eq_true, not_true_eq_false, true_and, and_true, true_or, or_true, false_or, or_false, and_self, Int.reduceEq, Int.reduceAbs, Nat.reduceLT, Int.reduceLT, Int.reduceLE, Int.reduceNeg, Nat.reduceEqDiff, decide_true, decide_false, Bool.not_true, Bool.not_false, any1, s_sb, s_ss, e] <;> rfl))))))
    | tup _ xs l h =>
      have e : lcE (itZ (var 0) (var 1)) (gT 2 (gsC (gN 2) (gsC (gN 3) gsN))) [2, 3] yesT (callE (F__law_same (n + 1)) [(var 2), (var 3)]) ⟨[.v (.tup xs), .v (.tup xs), .un, .un], hp⟩ = .ok (xs.map fun _ => .bl true) ⟨[.v (.tup xs), .v (.tup xs), .un, .un], hp⟩ :=
        lcE_of (s1 := ⟨[.v (.tup xs), .v (.tup xs), .un, .un], hp⟩) (by simp (config := { failIfUnchanged := false }) only [DS.nxS, DS.bkS, DS.ctS, DS.badS, DS.retS, DS.retN, DS.exprS, DS.setS, DS.setL, DS.asgS, DS.gN, DS.gT, DS.gsN, DS.gsC, DS.op1, DS.op2, DS.op1L, DS.op2L, DS.oV, DS.oS, DS.var, DS.cst, DS.deref, DS.derefD, DS.ofL, DS.lstE, DS.evA, DS.tupE, DS.asB, DS.truT, DS.andT, DS.orT, DS.notT, DS.andE, DS.orE, DS.notE, DS.ifE, DS.chn, DS.sl, DS.slL, DS.part, DS.lcE, DS.lcL, DS.itA, DS.itE, DS.itZ, DS.par2, DS.evP, DS.setIx, DS.mutE, DS.lstTok, DS.updTok, DS.shr, DS.callE, DS.callKE, DS.runFn, DS.orL, DS.yesT, DS.noOwn, DS.addD, DS.subD, DS.mulD, DS.divD, DS.modD, DS.powD, DS.negD, DS.ltD, DS.leD, DS.gtD, DS.geD, DS.isN, DS.isntN, DS.notD, DS.ixD, DS.slD, DS.slLs, DS.lenD, DS.absD, DS.intD, DS.tupleD, DS.listL, DS.allD, DS.anyD, DS.sumD, DS.minD, DS.maxD, DS.sortedL, DS.truD, DS.isiD, DS.tyD, DS.gId, DS.wipeE, DS.restE, DS.R.bind_ok, DS.R.bind_exc, DS.R.bind_bad, DS.R.map_ok, DS.R.of_some, DS.R.of_none, Option.bind_some, Option.bind_none, Option.map_some, Option.map_none, List.getElem?_cons_zero, List.getElem?_cons_succ, List.getElem?_nil, List.set_cons_zero, List.set_cons_succ, List.length_cons, List.length_nil, List.map_cons, List.map_nil, Option.getD_some, Option.getD_none, List.cons_append, List.nil_append, List.replicate_succ, List.replicate_zero, Nat.reduceAdd, Nat.reduceSub, decide_eq_true_eq, Bool.and_eq_true, Bool.or_eq_true, if_true, if_false, Bool.not_eq_true', Bool.false_eq_true, reduceIte, DS.eqD_int, DS.neD_int, DS.eqD_bl, DS.neD_bl, ne_eq, not_false_eq_true, not_true_eq_false, true_and, and_true, true_or, or_true, false_or, or_false, and_self, Int.reduceEq, Int.reduceAbs, Nat.reduceLT, Int.reduceLT, Int.reduceLE, Int.reduceNeg, Nat.reduceEqDiff, decide_true, decide_false, Bool.not_true, Bool.not_false] <;> rfl) (by rfl) (same_loop _ _ _ hp xs [] (by simp; omega) fun y hy => ih y (h y hy))
      refine fn_rt (sq_rt (if_tt (s1 := ⟨[.v (.tup xs), .v (.tup xs), .un, .un], hp⟩) (by simp (config := { failIfUnchanged := false }) only [DS.nxS, DS.bkS, DS.ctS, DS.badS, DS.retS, DS.retN, DS.exprS, DS.setS, DS.setL, DS.asgS, DS.gN, DS.gT, DS.gsN, DS.gsC, DS.op1, DS.op2, DS.op1L, DS.op2L, DS.oV, DS.oS, DS.var, DS.cst, DS.deref, DS.derefD, DS.ofL, DS.lstE, DS.evA, DS.tupE, DS.asB, DS.truT, DS.andT, DS.orT, DS.notT, DS.andE, DS.orE, DS.notE, DS.ifE, DS.chn, DS.sl, DS.slL, DS.part, DS.lcE, DS.lcL, DS.itA, DS.itE, DS.itZ, DS.par2, DS.evP, DS.setIx, DS.mutE, DS.lstTok, DS.updTok, DS.shr, DS.callE, DS.callKE, DS.runFn, DS.orL, DS.yesT, DS.noOwn, DS.addD, DS.subD, DS.mulD, DS.divD, DS.modD, DS.powD, DS.negD, DS.ltD, DS.leD, DS.gtD, DS.geD, DS.isN, DS.isntN, DS.notD, DS.ixD, DS.slD, DS.slLs, DS.lenD, DS.absD, DS.intD, DS.tupleD, DS.listL, DS.allD, DS.anyD, DS.sumD, DS.minD, DS.maxD, DS.sortedL, DS.truD, DS.isiD, DS.tyD, DS.gId, DS.wipeE, DS.restE, DS.R.bind_ok, DS.R.bind_exc, DS.R.bind_bad, DS.R.map_ok, DS.R.of_some, DS.R.of_none, Option.bind_some, Option.bind_none, Option.map_some, Option.map_none, List.getElem?_cons_zero, List.getElem?_cons_succ, List.getElem?_nil, List.set_cons_zero, List.set_cons_succ, List.length_cons, List.length_nil, List.map_cons, List.map_nil, Option.getD_some, Option.getD_none, List.cons_append, List.nil_append, List.replicate_succ, List.replicate_zero, Nat.reduceAdd, Nat.reduceSub, decide_eq_true_eq, Bool.and_eq_true, Bool.or_eq_true, if_true, if_false, Bool.not_eq_true', Bool.false_eq_true, reduceIte, DS.eqD_int, DS.neD_int, DS.eqD_bl, DS.neD_bl, ne_eq, not_false_eq_true, not_true_eq_false, true_and, and_true, true_or, or_true, false_or, or_false, and_self, Int.reduceEq, Int.reduceAbs, Nat.reduceLT, Int.reduceLT, Int.reduceLE, Int.reduceNeg, Nat.reduceEqDiff, decide_true, decide_false, Bool.not_true, Bool.not_false, any2, s_tl, s_tt, Bool.or_true] <;> rfl) (sq_nx (if_ff (s1 := ⟨[.v (.tup xs), .v (.tup xs), .un, .un], hp⟩) (by simp (config := { failIfUnchanged := false }) only [DS.nxS, DS.bkS, DS.ctS, DS.badS, DS.retS, DS.retN, DS.exprS, DS.setS, DS.setL, DS.asgS, DS.gN, DS.gT, DS.gsN, DS.gsC, DS.op1, DS.op2, DS.op1L, DS.op2L, DS.oV, DS.oS, DS.var, DS.cst, DS.deref, DS.derefD, DS.ofL, DS.lstE, DS.evA, DS.tupE, DS.asB, DS.truT, DS.andT, DS.orT, DS.notT, DS.andE, DS.orE, DS.notE, DS.ifE, DS.chn, DS.sl, DS.slL, DS.part, DS.lcE, DS.lcL, DS.itA, DS.itE, DS.itZ, DS.par2, DS.evP, DS.setIx, DS.mutE, DS.lstTok, DS.updTok, DS.shr, DS.callE, DS.callKE, DS.runFn, DS.orL, DS.yesT, DS.noOwn, DS.addD, DS.subD, DS.mulD, DS.divD, DS.modD, DS.powD, DS.negD, DS.ltD, DS.leD, DS.gtD, DS.geD, DS.isN, DS.isntN, DS.notD, DS.ixD, DS.slD, DS.slLs, DS.lenD, DS.absD, DS.intD, DS.tupleD, DS.listL, DS.allD, DS.anyD, DS.sumD, DS.minD, DS.maxD, DS.sortedL, DS.truD, DS.isiD, DS.tyD, DS.gId, DS.wipeE, DS.restE, DS.R.bind_ok, DS.R.bind_exc, DS.R.bind_bad, DS.R.map_ok, DS.R.of_some, DS.R.of_none, Option.bind_some, Option.bind_none, Option.map_some, Option.map_none, List.getElem?_cons_zero, List.getElem?_cons_succ, List.getElem?_nil, List.set_cons_zero, List.set_cons_succ, List.length_cons, List.length_nil, List.map_cons, List.map_nil, Option.getD_some, Option.getD_none, List.cons_append, List.nil_append, List.replicate_succ, List.replicate_zero, Nat.reduceAdd, Nat.reduceSub, decide_eq_true_eq, Bool.and_eq_true, Bool.or_eq_true, if_true, if_false, Bool.not_eq_true', Bool.false_eq_true, reduceIte, DS.eqD_int, DS.neD_int, DS.eqD_bl, DS.neD_bl, ne_eq, not_false_eq_true, not_true_eq_false, true_and, and_true, true_or, or_true, false_or, or_false, and_self, Int.reduceEq, Int.reduceAbs, Nat.reduceLT, Int.reduceLT, Int.reduceLE, Int.reduceNeg, Nat.reduceEqDiff, decide_true, decide_false, Bool.not_true, Bool.not_false, any1, s_tl, s_tt] <;> rfl) (by simp (config := { failIfUnchanged := false }) only [DS.nxS, DS.bkS, DS.ctS, DS.badS, DS.retS, DS.retN, DS.exprS, DS.setS, DS.setL, DS.asgS, DS.gN, DS.gT, DS.gsN, DS.gsC, DS.op1, DS.op2, DS.op1L, DS.op2L, DS.oV, DS.oS, DS.var, DS.cst, DS.deref, DS.derefD, DS.ofL, DS.lstE, DS.evA, DS.tupE, DS.asB, DS.truT, DS.andT, DS.orT, DS.notT, DS.andE, DS.orE, DS.notE, DS.ifE, DS.chn, DS.sl, DS.slL, DS.part, DS.lcE, DS.lcL, DS.itA, DS.itE, DS.itZ, DS.par2, DS.evP, DS.setIx, DS.mutE, DS.lstTok, DS.updTok, DS.shr, DS.callE, DS.callKE, DS.runFn, DS.orL, DS.yesT, DS.noOwn, DS.addD, DS.subD, DS.mulD, DS.divD, DS.modD, DS.powD, DS.negD, DS.ltD, DS.leD, DS.gtD, DS.geD, DS.isN, DS.isntN, DS.notD, DS.ixD, DS.slD, DS.slLs, DS.lenD, DS.absD, DS.intD, DS.tupleD, DS.listL, DS.allD, DS.anyD, DS.sumD, DS.minD, DS.maxD, DS.sortedL, DS.truD, DS.isiD, DS.tyD, DS.gId, DS.wipeE, DS.restE, DS.R.bind_ok, DS.R.bind_exc, DS.R.bind_bad, DS.R.map_ok, DS.R.of_some, DS.R.of_none, Option.bind_some, Option.bind_none, Option.map_some, Option.map_none, List.getElem?_cons_zero, List.getElem?_cons_succ, List.getElem?_nil, List.set_cons_zero, List.set_cons_succ, List.length_cons, List.length_nil, List.map_cons, List.map_nil, Option.getD_some, Option.getD_none, List.cons_append, List.nil_append, List.replicate_succ, List.replicate_zero, Nat.reduceAdd, Nat.reduceSub, decide_eq_true_eq, Bool.and_eq_true, Bool.or_eq_true, if_true, if_false, Bool.not_eq_true', Bool.false_eq_true, reduceIte, DS.eqD_int, DS.neD_int, DS.eqD_bl, DS.neD_bl, ne_eq, not_false_eq_true, not_true_eq_false, true_and, and_true, true_or, or_true, false_or, or_false, and_self, Int.reduceEq, Int.reduceAbs, Nat.reduceLT, Int.reduceLT, Int.reduceLE, Int.reduceNeg, Nat.reduceEqDiff, decide_true, decide_false, Bool.not_true, Bool.not_false] <;> rfl)) (rt_of (s1 := ⟨[.v (.tup xs), .v (.tup xs), .un, .un], hp⟩) ?_))))
      generalize lcE (itZ (var 0) (var 1)) (gT 2 (gsC (gN 2) (gsC (gN 3) gsN))) [2, 3] yesT (callE (F__law_same (n + 1)) [(var 2), (var 3)]) = L at e
      simp (config := { failIfUnchanged := false }) only [DS.nxS, DS.bkS, DS.ctS, DS.badS, DS.retS, DS.retN, DS.exprS, DS.setS, DS.setL, DS.asgS, DS.gN, DS.gT, DS.gsN, DS.gsC, DS.op1, DS.op2, DS.op1L, DS.op2L, DS.oV, DS.oS, DS.var, DS.cst, DS.deref, DS.derefD, DS.ofL, DS.lstE, DS.evA, DS.tupE, DS.asB, DS.truT, DS.andT, DS.orT, DS.notT, DS.andE, DS.orE, DS.notE, DS.ifE, DS.chn, DS.sl, DS.slL, DS.part, DS.lcE, DS.lcL, DS.itA, DS.itE, DS.itZ, DS.par2, DS.evP, DS.setIx, DS.mutE, DS.lstTok, DS.updTok, DS.shr, DS.callE, DS.callKE, DS.runFn, DS.orL, DS.yesT, DS.noOwn, DS.addD, DS.subD, DS.mulD, DS.divD, DS.modD, DS.powD, DS.negD, DS.ltD, DS.leD, DS.gtD, DS.geD, DS.isN, DS.isntN, DS.notD, DS.ixD, DS.slD, DS.slLs, DS.lenD, DS.absD, DS.intD, DS.tupleD, DS.listL, DS.allD, DS.anyD, DS.sumD, DS.minD, DS.maxD, DS.sortedL, DS.truD, DS.isiD, DS.tyD, DS.gId, DS.wipeE, DS.restE, DS.R.bind_ok, DS.R.bind_exc, DS.R.bind_bad, DS.R.map_ok, DS.R.of_some, DS.R.of_none, Option.bind_some, Option.bind_none, Option.map_some, Option.map_none, List.getElem?_cons_zero, List.getElem?_cons_succ, List.getElem?_nil, List.set_cons_zero, List.set_cons_succ, List.length_cons, List.length_nil, List.map_cons, List.map_nil, Option.getD_some, Option.getD_none, List.cons_append, List.nil_append, List.replicate_succ, List.replicate_zero, Nat.reduceAdd, Nat.reduceSub, decide_eq_true_eq, Bool.and_eq_true, Bool.or_eq_true, if_true, if_false, Bool.not_eq_true', Bool.false_eq_true, reduceIte, DS.eqD_int, DS.neD_int, DS.eqD_bl, DS.neD_bl, ne_eq, not_false_eq_true, not_true_eq_false, true_and, and_true, true_or, or_true, false_or, or_false, and_self, Int.reduceEq, Int.reduceAbs, Nat.reduceLT, Int.reduceLT, Int.reduceLE, Int.reduceNeg, Nat.reduceEqDiff, decide_true, decide_false, Bool.not_true, Bool.not_false, e, bls_true', all_true']
    | lst _ xs l h =>
      have e : lcE (itZ (var 0) (var 1)) (gT 2 (gsC (gN 2) (gsC (gN 3) gsN))) [2, 3] yesT (callE (F__law_same (n + 1)) [(var 2), (var 3)]) ⟨[.v (.lst xs), .v (.lst xs), .un, .un], hp⟩ = .ok (xs.map fun _ => .bl true) ⟨[.v (.lst xs), .v (.lst xs), .un, .un], hp⟩ :=
        lcE_of (s1 := ⟨[.v (.lst xs), .v (.lst xs), .un, .un], hp⟩) (by simp (config := { failIfUnchanged := false }) only [DS.nxS, DS.bkS, DS.ctS, DS.badS, DS.retS, DS.retN, DS.exprS, DS.setS, DS.setL, DS.asgS, DS.gN, DS.gT, DS.gsN, DS.gsC, DS.op1, DS.op2, DS.op1L, DS.op2L, DS.oV, DS.oS, DS.var, DS.cst, DS.deref, DS.derefD, DS.ofL, DS.lstE, DS.evA, DS.tupE, DS.asB, DS.truT, DS.andT, DS.orT, DS.notT, DS.andE, DS.orE, DS.notE, DS.ifE, DS.chn, DS.sl, DS.slL, DS.part, DS.lcE, DS.lcL, DS.itA, DS.itE, DS.itZ, DS.par2, DS.evP, DS.setIx, DS.mutE, DS.lstTok, DS.updTok, DS.shr, DS.callE, DS.callKE, DS.runFn, DS.orL, DS.yesT, DS.noOwn, DS.addD, DS.subD, DS.mulD, DS.divD, DS.modD, DS.powD, DS.negD, DS.ltD, DS.leD, DS.gtD, DS.geD, DS.isN, DS.isntN, DS.notD, DS.ixD, DS.slD, DS.slLs, DS.lenD, DS.absD, DS.intD, DS.tupleD, DS.listL, DS.allD, DS.anyD, DS.sumD, DS.minD, DS.maxD, DS.sortedL, DS.truD, DS.isiD, DS.tyD, DS.gId, DS.wipeE, DS.restE, DS.R.bind_ok, DS.R.bind_exc, DS.R.bind_bad, DS.R.map_ok, DS.R.of_some, DS.R.of_none, Option.bind_some, Option.bind_none, Option.map_some, Option.map_none, List.getElem?_cons_zero, List.getElem?_cons_succ, List.getElem?_nil, List.set_cons_zero, List.set_cons_succ, List.length_cons, List.length_nil, List.map_cons, List.map_nil, Option.getD_some, Option.getD_none, List.cons_append, List.nil_append, List.replicate_succ, List.replicate_zero, Nat.reduceAdd, Nat.reduceSub, decide_eq_true_eq, Bool.and_eq_true, Bool.or_eq_true, if_true, if_false, Bool.not_eq_true', Bool.false_eq_true, reduceIte, DS.eqD_int, DS.neD_int, DS.eqD_bl, DS.neD_bl, ne_eq, not_false_eq_true, not_true_eq_false, true_and, and_true, true_or, or_true, false_or, or_false, and_self, Int.reduceEq, Int.reduceAbs, Nat.reduceLT, Int.reduceLT, Int.reduceLE, Int.reduceNeg, Nat.reduceEqDiff, decide_true, decide_false, Bool.not_true, Bool.not_false] <;> rfl) (by rfl) (same_loop _ _ _ hp xs [] (by simp; omega) fun y hy => ih y (h y hy))
      refine fn_rt (sq_rt (if_tt (s1 := ⟨[.v (.lst xs), .v (.lst xs), .un, .un], hp⟩) (by simp (config := { failIfUnchanged := false }) only [DS.nxS, DS.bkS, DS.ctS, DS.badS, DS.retS, DS.retN, DS.exprS, DS.setS, DS.setL, DS.asgS, DS.gN, DS.gT, DS.gsN, DS.gsC, DS.op1, DS.op2, DS.op1L, DS.op2L, DS.oV, DS.oS, DS.var, DS.cst, DS.deref, DS.derefD, DS.ofL, DS.lstE, DS.evA, DS.tupE, DS.asB, DS.truT, DS.andT, DS.orT, DS.notT, DS.andE, DS.orE, DS.notE, DS.ifE, DS.chn, DS.sl, DS.slL, DS.part, DS.lcE, DS.lcL, DS.itA, DS.itE, DS.itZ, DS.par2, DS.evP, DS.setIx, DS.mutE, DS.lstTok, DS.updTok, DS.shr, DS.callE, DS.callKE, DS.runFn, DS.orL, DS.yesT, DS.noOwn, DS.addD, DS.subD, DS.mulD, DS.divD, DS.modD, DS.powD, DS.negD, DS.ltD, DS.leD, DS.gtD, DS.geD, DS.isN, DS.isntN, DS.notD, DS.ixD, DS.slD, DS.slLs, DS.lenD, DS.absD, DS.intD, DS.tupleD, DS.listL, DS.allD, DS.anyD, DS.sumD, DS.minD, DS.maxD, DS.sortedL, DS.truD, DS.isiD, DS.tyD, DS.gId, DS.wipeE, DS.restE, DS.R.bind_ok, DS.R.bind_exc, DS.R.bind_bad, DS.R.map_ok, DS.R.of_some, DS.R.of_none, Option.bind_some, Option.bind_none, Option.map_some, Option.map_none, List.getElem?_cons_zero, List.getElem?_cons_succ, List.getElem?_nil, List.set_cons_zero, List.set_cons_succ, List.length_cons, List.length_nil, List.map_cons, List.map_nil, Option.getD_some, Option.getD_none, List.cons_append, List.nil_append, List.replicate_succ, List.replicate_zero, Nat.reduceAdd, Nat.reduceSub, decide_eq_true_eq, Bool.and_eq_true, Bool.or_eq_true, if_true, if_false, Bool.not_eq_true', Bool.false_eq_true, reduceIte, DS.eqD_int, DS.neD_int, DS.eqD_bl, DS.neD_bl, ne_eq, not_false_eq_true, not_true_eq_false, true_and, and_true, true_or, or_true, false_or, or_false, and_self, Int.reduceEq, Int.reduceAbs, Nat.reduceLT, Int.reduceLT, Int.reduceLE, Int.reduceNeg, Nat.reduceEqDiff, decide_true, decide_false, Bool.not_true, Bool.not_false, any2, s_ll, s_lt, Bool.or_false] <;> rfl) (sq_nx (if_ff (s1 := ⟨[.v (.lst xs), .v (.lst xs), .un, .un], hp⟩) (by simp (config := { failIfUnchanged := false }) only [DS.nxS, DS.bkS, DS.ctS, DS.badS, DS.retS, DS.retN, DS.exprS, DS.setS, DS.setL, DS.asgS, DS.gN, DS.gT, DS.gsN, DS.gsC, DS.op1, DS.op2, DS.op1L, DS.op2L, DS.oV, DS.oS, DS.var, DS.cst, DS.deref, DS.derefD, DS.ofL, DS.lstE, DS.evA, DS.tupE, DS.asB, DS.truT, DS.andT, DS.orT, DS.notT, DS.andE, DS.orE, DS.notE, DS.ifE, DS.chn, DS.sl, DS.slL, DS.part, DS.lcE, DS.lcL, DS.itA, DS.itE, DS.itZ, DS.par2, DS.evP, DS.setIx, DS.mutE, DS.lstTok, DS.updTok, DS.shr, DS.callE, DS.callKE, DS.runFn, DS.orL, DS.yesT, DS.noOwn, DS.addD, DS.subD, DS.mulD, DS.divD, DS.modD, DS.powD, DS.negD, DS.ltD, DS.leD, DS.gtD, DS.geD, DS.isN, DS.isntN, DS.notD, DS.ixD, DS.slD, DS.slLs, DS.lenD, DS.absD, DS.intD, DS.tupleD, DS.listL, DS.allD, DS.anyD, DS.sumD, DS.minD, DS.maxD, DS.sortedL, DS.truD, DS.isiD, DS.tyD, DS.gId, DS.wipeE, DS.restE, DS.R.bind_ok, DS.R.bind_exc, DS.R.bind_bad, DS.R.map_ok, DS.R.of_some, DS.R.of_none, Option.bind_some, Option.bind_none, Option.map_some, Option.map_none, List.getElem?_cons_zero, List.getElem?_cons_succ, List.getElem?_nil, List.set_cons_zero, List.set_cons_succ, List.length_cons, List.length_nil, List.map_cons, List.map_nil, Option.getD_some, Option.getD_none, List.cons_append, List.nil_append, List.replicate_succ, List.replicate_zero, Nat.reduceAdd, Nat.reduceSub, decide_eq_true_eq, Bool.and_eq_true, Bool.or_eq_true, if_true, if_false, Bool.not_eq_true', Bool.false_eq_true, reduceIte, DS.eqD_int, DS.neD_int, DS.eqD_bl, DS.neD_bl, ne_eq, not_false_eq_true, not_true_eq_false, true_and, and_true, true_or, or_true, false_or, or_false, and_self, Int.reduceEq, Int.reduceAbs, Nat.reduceLT, Int.reduceLT, Int.reduceLE, Int.reduceNeg, Nat.reduceEqDiff, decide_true, decide_false, Bool.not_true, Bool.not_false, any1, s_ll, s_lt] <;> rfl) (by simp (config := { failIfUnchanged := false }) only [DS.nxS, DS.bkS, DS.ctS, DS.badS, DS.retS, DS.retN, DS.exprS, DS.setS, DS.setL, DS.asgS, DS.gN, DS.gT, DS.gsN, DS.gsC, DS.op1, DS.op2, DS.op1L, DS.op2L, DS.oV, DS.oS, DS.var, DS.cst, DS.deref, DS.derefD, DS.ofL, DS.lstE, DS.evA, DS.tupE, DS.asB, DS.truT, DS.andT, DS.orT, DS.notT, DS.andE, DS.orE, DS.notE, DS.ifE, DS.chn, DS.sl, DS.slL, DS.part, DS.lcE, DS.lcL, DS.itA, DS.itE, DS.itZ, DS.par2, DS.evP, DS.setIx, DS.mutE, DS.lstTok, DS.updTok, DS.shr, DS.callE, DS.callKE, DS.runFn, DS.orL, DS.yesT, DS.noOwn, DS.addD, DS.subD, DS.mulD, DS.divD, DS.modD, DS.powD, DS.negD, DS.ltD, DS.leD, DS.gtD, DS.geD, DS.isN, DS.isntN, DS.notD, DS.ixD, DS.slD, DS.slLs, DS.lenD, DS.absD, DS.intD, DS.tupleD, DS.listL, DS.allD, DS.anyD, DS.sumD, DS.minD, DS.maxD, DS.sortedL, DS.truD, DS.isiD, DS.tyD, DS.gId, DS.wipeE, DS.restE, DS.R.bind_ok, DS.R.bind_exc, DS.R.bind_bad, DS.R.map_ok, DS.R.of_some, DS.R.of_none, Option.bind_some, Option.bind_none, Option.map_some, Option.map_none, List.getElem?_cons_zero, List.getElem?_cons_succ, List.getElem?_nil, List.set_cons_zero, List.set_cons_succ, List.length_cons, List.length_nil, List.map_cons, List.map_nil, Option.getD_some, Option.getD_none, List.cons_append, List.nil_append, List.replicate_succ, List.replicate_zero, Nat.reduceAdd, Nat.reduceSub, decide_eq_true_eq, Bool.and_eq_true, Bool.or_eq_true, if_true, if_false, Bool.not_eq_true', Bool.false_eq_true, reduceIte, DS.eqD_int, DS.neD_int, DS.eqD_bl, DS.neD_bl, ne_eq, not_false_eq_true, not_true_eq_false, true_and, and_true, true_or, or_true, false_or, or_false, and_self, Int.reduceEq, Int.reduceAbs, Nat.reduceLT, Int.reduceLT, Int.reduceLE, Int.reduceNeg, Nat.reduceEqDiff, decide_true, decide_false, Bool.not_true, Bool.not_false] <;> rfl)) (rt_of (s1 := ⟨[.v (.lst xs), .v (.lst xs), .un, .un], hp⟩) ?_))))
      generalize lcE (itZ (var 0) (var 1)) (gT 2 (gsC (gN 2) (gsC (gN 3) gsN))) [2, 3] yesT (callE (F__law_same (n + 1)) [(var 2), (var 3)]) = L at e
      simp (config := { failIfUnchanged := false }) only [DS.nxS, DS.bkS, DS.ctS, DS.badS, DS.retS, DS.retN, DS.exprS, DS.setS, DS.setL, DS.asgS, DS.gN, DS.gT, DS.gsN, DS.gsC, DS.op1, DS.op2, DS.op1L, DS.op2L, DS.oV, DS.oS, DS.var, DS.cst, DS.deref, DS.derefD, DS.ofL, DS.lstE, DS.evA, DS.tupE, DS.asB, DS.truT, DS.andT, DS.orT, DS.notT, DS.andE, DS.orE, DS.notE, DS.ifE, DS.chn, DS.sl, DS.slL, DS.part, DS.lcE, DS.lcL, DS.itA, DS.itE, DS.itZ, DS.par2, DS.evP, DS.setIx, DS.mutE, DS.lstTok, DS.updTok, DS.shr, DS.callE, DS.callKE, DS.runFn, DS.orL, DS.yesT, DS.noOwn, DS.addD, DS.subD, DS.mulD, DS.divD, DS.modD, DS.powD, DS.negD, DS.ltD, DS.leD, DS.gtD, DS.geD, DS.isN, DS.isntN, DS.notD, DS.ixD, DS.slD, DS.slLs, DS.lenD, DS.absD, DS.intD, DS.tupleD, DS.listL, DS.allD, DS.anyD, DS.sumD, DS.minD, DS.maxD, DS.sortedL, DS.truD, DS.isiD, DS.tyD, DS.gId, DS.wipeE, DS.restE, DS.R.bind_ok, DS.R.bind_exc, DS.R.bind_bad, DS.R.map_ok, DS.R.of_some, DS.R.of_none, Option.bind_some, Option.bind_none, Option.map_some, Option.map_none, List.getElem?_cons_zero, List.getElem?_cons_succ, List.getElem?_nil, List.set_cons_zero, List.set_cons_succ, List.length_cons, List.length_nil, List.map_cons, List.map_nil, Option.getD_some, Option.getD_none, List.cons_append, List.nil_append, List.replicate_succ, List.replicate_zero, Nat.reduceAdd, Nat.reduceSub, decide_eq_true_eq, Bool.and_eq_true, Bool.or_eq_true, if_true, if_false, Bool.not_eq_true', Bool.false_eq_true, reduceIte, DS.eqD_int, DS.neD_int, DS.eqD_bl, DS.neD_bl, ne_eq, not_false_eq_true, not_true_eq_false, true_and, and_true, true_or, or_true, false_or, or_false, and_self, Int.reduceEq, Int.reduceAbs, Nat.reduceLT, Int.reduceLT, Int.reduceLE, Int.reduceNeg, Nat.reduceEqDiff, decide_true, decide_false, Bool.not_true, Bool.not_false, e, bls_true', all_true']
end L30
namespace L30
open PySem PySem.Spec PyProof.Rows L2 DS
variable {s0 e2 e3 e4 e5 e6 e7 e8 e9 e10 e11 : DS.Slot} {hp : List Ob} {n : Nat}
theorem shT_tup (h : Int) (ts : List Int) : ShT (shD h ts) h ts := ⟨_, .inr rfl, .inr rfl⟩
theorem shT_lst (h : Int) (ts : List Int) : ShT (.lst [.int h, .lst (ts.map .int)]) h ts := ⟨_, .inl rfl, .inl rfl⟩
theorem vs237 : Vs 0 [2, 3, 7] := ⟨by decide, by decide, by decide, fun t ht => by
  simp at ht
  unfold Sp'
  omega⟩
theorem turns_loop2 (lap : Int) : ∀ (ds : List D) (acc : List D) (n : Nat) (hp : List Ob), Bx n hp → n + 4 * ds.length < 3900 → acc.length + ds.length < 1000 → ∃ (ts : List Int) (hp' : List Ob),
    lcL (gN 3) [3] yesT (callE F__law_turn [(var 1), (cst (.int 12))]) ds acc ⟨[s0, .v (.ref 0), .v (.int lap), .un, e4, e5, e6, e7, e8, e9, e10, e11], hp⟩ = .ok (acc ++ ts.map .int) ⟨[s0, .v (.ref 0), .v (.int lap), .un, e4, e5, e6, e7, e8, e9, e10, e11], hp'⟩ ∧ Bx (n + 4 * ds.length) hp' ∧ ts.length = ds.length ∧ ∀ t ∈ ts, Sp' t
  | [], acc, n, hp, h, _, _ => ⟨[], hp, by simp [lcL], h, rfl, fun t z => by simp at z⟩
  | d :: ds, acc, n, hp, h, hn, hl => by
    simp only [List.length_cons] at hn hl
    obtain ⟨x, hp1, e, b, hx⟩ := turn_ok h (by omega)
    obtain ⟨ts, hp2, e2', b2, hl2, hs⟩ := turns_loop2 lap ds (acc ++ [.int x]) (n + 4) hp1 b (by omega) (by simp; omega)
    refine ⟨x :: ts, hp2, ?_, ?_, by simp [hl2], fun t z => ?_⟩
    · refine Eq.trans (lcL_cons (s1 := ⟨[s0, .v (.ref 0), .v (.int lap), .v d, e4, e5, e6, e7, e8, e9, e10, e11], hp⟩) (s2 := ⟨[s0, .v (.ref 0), .v (.int lap), .v d, e4, e5, e6, e7, e8, e9, e10, e11], hp⟩) (y := .int x) (s3 := ⟨[s0, .v (.ref 0), .v (.int lap), .v d, e4, e5, e6, e7, e8, e9, e10, e11], hp1⟩) (by simp (config := { failIfUnchanged := false }) only [DS.nxS, DS.bkS, DS.ctS, DS.badS, DS.retS, DS.retN, DS.exprS, DS.setS, DS.setL, DS.asgS, DS.gN, DS.gT, DS.gsN, DS.gsC, DS.op1, DS.op2, DS.op1L, DS.op2L, DS.oV, DS.oS, DS.var, DS.cst, DS.deref, DS.derefD, DS.ofL, DS.lstE, DS.evA, DS.tupE, DS.asB, DS.truT, DS.andT, DS.orT, DS.notT, DS.andE, DS.orE, DS.notE, DS.ifE, DS.chn, DS.sl, DS.slL, DS.part, DS.lcE, DS.lcL, DS.itA, DS.itE, DS.itZ, DS.par2, DS.evP, DS.setIx, DS.mutE, DS.lstTok, DS.updTok, DS.shr, DS.callE, DS.callKE, DS.runFn, DS.orL, DS.yesT, DS.noOwn, DS.addD, DS.subD, DS.mulD, DS.divD, DS.modD, DS.powD, DS.negD, DS.ltD, DS.leD, DS.gtD, DS.geD, DS.isN, DS.isntN, DS.notD, DS.ixD, DS.slD, DS.slLs, DS.lenD, DS.absD, DS.intD, DS.tupleD, DS.listL, DS.allD, DS.anyD, DS.sumD, DS.minD, DS.maxD, DS.sortedL, DS.truD, DS.isiD, DS.tyD, DS.gId, DS.wipeE, DS.restE, DS.R.bind_ok, DS.R.bind_exc, DS.R.bind_bad, DS.R.map_ok, DS.R.of_some, DS.R.of_none, Option.bind_some, Option.bind_none, Option.map_some, Option.map_none, List.getElem?_cons_zero, List.getElem?_cons_succ, List.getElem?_nil, List.set_cons_zero, List.set_cons_succ, List.length_cons, List.length_nil, List.map_cons, List.map_nil, Option.getD_some, Option.getD_none, List.cons_append, List.nil_append, List.replicate_succ, List.replicate_zero, Nat.reduceAdd, Nat.reduceSub, decide_eq_true_eq, Bool.and_eq_true, Bool.or_eq_true, if_true, if_false, Bool.not_eq_true', Bool.false_eq_true, reduceIte, DS.eqD_int, DS.neD_int, DS.eqD_bl, DS.neD_bl, ne_eq, not_false_eq_true, not_true_eq_false, true_and, and_true, true_or, or_true, false_or, or_false, and_self, Int.reduceEq, Int.reduceAbs, Nat.reduceLT, Int.reduceLT, Int.reduceLE, Int.reduceNeg, Nat.reduceEqDiff, decide_true, decide_false, Bool.not_true, Bool.not_false] <;> rfl) (by rfl) (by simp (config := { failIfUnchanged := false }) only [DS.nxS, DS.bkS, DS.ctS, DS.badS, DS.retS, DS.retN, DS.exprS, DS.setS, DS.setL, DS.asgS, DS.gN, DS.gT, DS.gsN, DS.gsC, DS.op1, DS.op2, DS.op1L, DS.op2L, DS.oV, DS.oS, DS.var, DS.cst, DS.deref, DS.derefD, DS.ofL, DS.lstE, DS.evA, DS.tupE, DS.asB, DS.truT, DS.andT, DS.orT, DS.notT, DS.andE, DS.orE, DS.notE, DS.ifE, DS.chn, DS.sl, DS.slL, DS.part, DS.lcE, DS.lcL, DS.itA, DS.itE, DS.itZ, DS.par2, DS.evP, DS.setIx, DS.mutE, DS.lstTok, DS.updTok, DS.shr, DS.callE, DS.callKE, DS.runFn, DS.orL, DS.yesT, DS.noOwn, DS.addD, DS.subD, DS.mulD, DS.divD, DS.modD, DS.powD, DS.negD, DS.ltD, DS.leD, DS.gtD, DS.geD, DS.isN, DS.isntN, DS.notD, DS.ixD, DS.slD, DS.slLs, DS.lenD, DS.absD, DS.intD, DS.tupleD, DS.listL, DS.allD, DS.anyD, DS.sumD, DS.minD, DS.maxD, DS.sortedL, DS.truD, DS.isiD, DS.tyD, DS.gId, DS.wipeE, DS.restE, DS.R.bind_ok, DS.R.bind_exc, DS.R.bind_bad, DS.R.map_ok, DS.R.of_some, DS.R.of_none, Option.bind_some, Option.bind_none, Option.map_some, Option.map_none, List.getElem?_cons_zero, List.getElem?_cons_succ, List.getElem?_nil, List.set_cons_zero, List.set_cons_succ, List.length_cons, List.length_nil, List.map_cons, List.map_nil, Option.getD_some, Option.getD_none, List.cons_append, List.nil_append, List.replicate_succ, List.replicate_zero, Nat.reduceAdd, Nat.reduceSub, decide_eq_true_eq, Bool.and_eq_true, Bool.or_eq_true, if_true, if_false, Bool.not_eq_true', Bool.false_eq_true, reduceIte, DS.eqD_int, DS.neD_int, DS.eqD_bl, DS.neD_bl, ne_eq, not_false_eq_true, not_true_eq_false, true_and, and_true, true_or, or_true, false_or, or_false, and_self, Int.reduceEq, Int.reduceAbs, Nat.reduceLT, Int.reduceLT, Int.reduceLE, Int.reduceNeg, Nat.reduceEqDiff, decide_true, decide_false, Bool.not_true, Bool.not_false, e] <;> rfl) (by unfold LIM; omega)) ?_
      refine Eq.trans e2' ?_
      rw [List.append_assoc]
      rfl
    · rw [List.length_cons, show n + 4 * (ds.length + 1) = n + 4 + 4 * ds.length by omega]
      exact b2
    · rcases List.mem_cons.mp z with z | z
      · rw [z]; exact hx
      · exact hs t z
/-- the sheet of a lap -/
theorem draw_ok (hb : Bx n hp) (hn : n < 2000) (lap : Int) (h3 : e3.isOwn = false) : ∃ h ts hp' s1, Vs h ts ∧ Bx (n + 60) hp' ∧
    (setS 5 (ifE (asB (op2 eqD (oS 2) (oV (cst (.int 0))))) (tupE [(cst (.int 0)), (tupE [(cst (.int 2)), (cst (.int 3)), (cst (.int 7))])]) (callE F__law_sheet [(var 1), (cst (.int 5)), (cst (.int 8)), (cst (.int 12))]))) ⟨[s0, .v (.ref 0), .v (.int lap), e3, e4, e5, e6, e7, e8, e9, e10, e11], hp⟩ = .ok .nx s1 ∧
    (ifS (asB (op2 eqD (oS 2) (oV (cst (.int 1))))) (setS 5 (tupE [(cst (.int 0)), (op1 tupleD (oV (ofL (lcE (itR1 (callE F__law_take [(var 1), (cst (.int 4))])) (gN 3) [3] yesT (callE F__law_turn [(var 1), (cst (.int 12))])))))])) nxS) s1 = .ok .nx ⟨[s0, .v (.ref 0), .v (.int lap), e3, e4, .v (shD h ts), e6, e7, e8, e9, e10, e11], hp'⟩ := by
  by_cases l0 : lap = 0
  · subst l0
    refine ⟨0, [2, 3, 7], hp, ⟨[s0, .v (.ref 0), .v (.int 0), e3, e4, .v (shD 0 [2, 3, 7]), e6, e7, e8, e9, e10, e11], hp⟩, vs237, hb.mono (by omega), ?_, ?_⟩
    · simp (config := { failIfUnchanged := false }) only [DS.nxS, DS.bkS, DS.ctS, DS.badS, DS.retS, DS.retN, DS.exprS, DS.setS, DS.setL, DS.asgS, DS.gN, DS.gT, DS.gsN, DS.gsC, DS.op1, DS.op2, DS.op1L, DS.op2L, DS.oV, DS.oS, DS.var, DS.cst, DS.deref, DS.derefD, DS.ofL, DS.lstE, DS.evA, DS.tupE, DS.asB, DS.truT, DS.andT, DS.orT, DS.notT, DS.andE, DS.orE, DS.notE, DS.ifE, DS.chn, DS.sl, DS.slL, DS.part, DS.lcE, DS.lcL, DS.itA, DS.itE, DS.itZ, DS.par2, DS.evP, DS.setIx, DS.mutE, DS.lstTok, DS.updTok, DS.shr, DS.callE, DS.callKE, DS.runFn, DS.orL, DS.yesT, DS.noOwn, DS.addD, DS.subD, DS.mulD, DS.divD, DS.modD, DS.powD, DS.negD, DS.ltD, DS.leD, DS.gtD, DS.geD, DS.isN, DS.isntN, DS.notD, DS.ixD, DS.slD, DS.slLs, DS.lenD, DS.absD, DS.intD, DS.tupleD, DS.listL, DS.allD, DS.anyD, DS.sumD, DS.minD, DS.maxD, DS.sortedL, DS.truD, DS.isiD, DS.tyD, DS.gId, DS.wipeE, DS.restE, DS.R.bind_ok, DS.R.bind_exc, DS.R.bind_bad, DS.R.map_ok, DS.R.of_some, DS.R.of_none, Option.bind_some, Option.bind_none, Option.map_some, Option.map_none, List.getElem?_cons_zero, List.getElem?_cons_succ, List.getElem?_nil, List.set_cons_zero, List.set_cons_succ, List.length_cons, List.length_nil, List.map_cons, List.map_nil, Option.getD_some, Option.getD_none, List.cons_append, List.nil_append, List.replicate_succ, List.replicate_zero, Nat.reduceAdd, Nat.reduceSub, decide_eq_true_eq, Bool.and_eq_true, Bool.or_eq_true, if_true, if_false, Bool.not_eq_true', Bool.false_eq_true, reduceIte, DS.eqD_int, DS.neD_int, DS.eqD_bl, DS.neD_bl, ne_eq, not_false_eq_true, not_true_eq_false, true_and, and_true, true_or, or_true, false_or, or_false, and_self, Int.reduceEq, Int.reduceAbs, Nat.reduceLT, Int.reduceLT, Int.reduceLE, Int.reduceNeg, Nat.reduceEqDiff, decide_true, decide_false, Bool.not_true, Bool.not_false] <;> rfl
    · exact if_ff (by simp (config := { failIfUnchanged := false }) only [DS.nxS, DS.bkS, DS.ctS, DS.badS, DS.retS, DS.retN, DS.exprS, DS.setS, DS.setL, DS.asgS, DS.gN, DS.gT, DS.gsN, DS.gsC, DS.op1, DS.op2, DS.op1L, DS.op2L, DS.oV, DS.oS, DS.var, DS.cst, DS.deref, DS.derefD, DS.ofL, DS.lstE, DS.evA, DS.tupE, DS.asB, DS.truT, DS.andT, DS.orT, DS.notT, DS.andE, DS.orE, DS.notE, DS.ifE, DS.chn, DS.sl, DS.slL, DS.part, DS.lcE, DS.lcL, DS.itA, DS.itE, DS.itZ, DS.par2, DS.evP, DS.setIx, DS.mutE, DS.lstTok, DS.updTok, DS.shr, DS.callE, DS.callKE, DS.runFn, DS.orL, DS.yesT, DS.noOwn, DS.addD, DS.subD, DS.mulD, DS.divD, DS.modD, DS.powD, DS.negD, DS.ltD, DS.leD, DS.gtD, DS.geD, DS.isN, DS.isntN, DS.notD, DS.ixD, DS.slD, DS.slLs, DS.lenD, DS.absD, DS.intD, DS.tupleD, DS.listL, DS.allD, DS.anyD, DS.sumD, DS.minD, DS.maxD, DS.sortedL, DS.truD, DS.isiD, DS.tyD, DS.gId, DS.wipeE, DS.restE, DS.R.bind_ok, DS.R.bind_exc, DS.R.bind_bad, DS.R.map_ok, DS.R.of_some, DS.R.of_none, Option.bind_some, Option.bind_none, Option.map_some, Option.map_none, List.getElem?_cons_zero, List.getElem?_cons_succ, List.getElem?_nil, List.set_cons_zero, List.set_cons_succ, List.length_cons, List.length_nil, List.map_cons, List.map_nil, Option.getD_some, Option.getD_none, List.cons_append, List.nil_append, List.replicate_succ, List.replicate_zero, Nat.reduceAdd, Nat.reduceSub, decide_eq_true_eq, Bool.and_eq_true, Bool.or_eq_true, if_true, if_false, Bool.not_eq_true', Bool.false_eq_true, reduceIte, DS.eqD_int, DS.neD_int, DS.eqD_bl, DS.neD_bl, ne_eq, not_false_eq_true, not_true_eq_false, true_and, and_true, true_or, or_true, false_or, or_false, and_self, Int.reduceEq, Int.reduceAbs, Nat.reduceLT, Int.reduceLT, Int.reduceLE, Int.reduceNeg, Nat.reduceEqDiff, decide_true, decide_false, Bool.not_true, Bool.not_false] <;> rfl) (by simp (config := { failIfUnchanged := false }) only [DS.nxS, DS.bkS, DS.ctS, DS.badS, DS.retS, DS.retN, DS.exprS, DS.setS, DS.setL, DS.asgS, DS.gN, DS.gT, DS.gsN, DS.gsC, DS.op1, DS.op2, DS.op1L, DS.op2L, DS.oV, DS.oS, DS.var, DS.cst, DS.deref, DS.derefD, DS.ofL, DS.lstE, DS.evA, DS.tupE, DS.asB, DS.truT, DS.andT, DS.orT, DS.notT, DS.andE, DS.orE, DS.notE, DS.ifE, DS.chn, DS.sl, DS.slL, DS.part, DS.lcE, DS.lcL, DS.itA, DS.itE, DS.itZ, DS.par2, DS.evP, DS.setIx, DS.mutE, DS.lstTok, DS.updTok, DS.shr, DS.callE, DS.callKE, DS.runFn, DS.orL, DS.yesT, DS.noOwn, DS.addD, DS.subD, DS.mulD, DS.divD, DS.modD, DS.powD, DS.negD, DS.ltD, DS.leD, DS.gtD, DS.geD, DS.isN, DS.isntN, DS.notD, DS.ixD, DS.slD, DS.slLs, DS.lenD, DS.absD, DS.intD, DS.tupleD, DS.listL, DS.allD, DS.anyD, DS.sumD, DS.minD, DS.maxD, DS.sortedL, DS.truD, DS.isiD, DS.tyD, DS.gId, DS.wipeE, DS.restE, DS.R.bind_ok, DS.R.bind_exc, DS.R.bind_bad, DS.R.map_ok, DS.R.of_some, DS.R.of_none, Option.bind_some, Option.bind_none, Option.map_some, Option.map_none, List.getElem?_cons_zero, List.getElem?_cons_succ, List.getElem?_nil, List.set_cons_zero, List.set_cons_succ, List.length_cons, List.length_nil, List.map_cons, List.map_nil, Option.getD_some, Option.getD_none, List.cons_append, List.nil_append, List.replicate_succ, List.replicate_zero, Nat.reduceAdd, Nat.reduceSub, decide_eq_true_eq, Bool.and_eq_true, Bool.or_eq_true, if_true, if_false, Bool.not_eq_true', Bool.false_eq_true, reduceIte, DS.eqD_int, DS.neD_int, DS.eqD_bl, DS.neD_bl, ne_eq, not_false_eq_true, not_true_eq_false, true_and, and_true, true_or, or_true, false_or, or_false, and_self, Int.reduceEq, Int.reduceAbs, Nat.reduceLT, Int.reduceLT, Int.reduceLE, Int.reduceNeg, Nat.reduceEqDiff, decide_true, decide_false, Bool.not_true, Bool.not_false] <;> rfl)
  · obtain ⟨h, ts, hp1, e1, b1, g0, g5, gl, ga⟩ := sheet_ok hb (by omega)
    by_cases l1 : lap = 1
    · obtain ⟨r, hp2, e2', b2, r0, r1⟩ := take_ok b1 (by omega) 4 (by omega) (by omega)
      obtain ⟨us, hp3, e3', b3, hl, hs⟩ := turns_loop2 (s0 := s0) (e4 := e4) (e5 := .v (shD h ts)) (e6 := e6) (e7 := e7) (e8 := e8) (e9 := e9) (e10 := e10) (e11 := e11) lap (upTo 0 r.toNat) [] (n + 34 + 1) hp2 b2 (by rw [upTo_len]; omega) (by rw [upTo_len]; simp; omega)
      rw [upTo_len] at hl b3
      have e : lcE (itR1 (callE F__law_take [(var 1), (cst (.int 4))])) (gN 3) [3] yesT (callE F__law_turn [(var 1), (cst (.int 12))]) ⟨[s0, .v (.ref 0), .v (.int lap), e3, e4, .v (shD h ts), e6, e7, e8, e9, e10, e11], hp1⟩ = .ok (us.map .int) ⟨[s0, .v (.ref 0), .v (.int lap), e3, e4, .v (shD h ts), e6, e7, e8, e9, e10, e11], hp3⟩ :=
        lcE_of (s1 := ⟨[s0, .v (.ref 0), .v (.int lap), e3, e4, .v (shD h ts), e6, e7, e8, e9, e10, e11], hp2⟩) (itR1_ok (by simp (config := { failIfUnchanged := false }) only [DS.nxS, DS.bkS, DS.ctS, DS.badS, DS.retS, DS.retN, DS.exprS, DS.setS, DS.setL, DS.asgS, DS.gN, DS.gT, DS.gsN, DS.gsC, DS.op1, DS.op2, DS.op1L, DS.op2L, DS.oV, DS.oS, DS.var, DS.cst, DS.deref, DS.derefD, DS.ofL, DS.lstE, DS.evA, DS.tupE, DS.asB, DS.truT, DS.andT, DS.orT, DS.notT, DS.andE, DS.orE, DS.notE, DS.ifE, DS.chn, DS.sl, DS.slL, DS.part, DS.lcE, DS.lcL, DS.itA, DS.itE, DS.itZ, DS.par2, DS.evP, DS.setIx, DS.mutE, DS.lstTok, DS.updTok, DS.shr, DS.callE, DS.callKE, DS.runFn, DS.orL, DS.yesT, DS.noOwn, DS.addD, DS.subD, DS.mulD, DS.divD, DS.modD, DS.powD, DS.negD, DS.ltD, DS.leD, DS.gtD, DS.geD, DS.isN, DS.isntN, DS.notD, DS.ixD, DS.slD, DS.slLs, DS.lenD, DS.absD, DS.intD, DS.tupleD, DS.listL, DS.allD, DS.anyD, DS.sumD, DS.minD, DS.maxD, DS.sortedL, DS.truD, DS.isiD, DS.tyD, DS.gId, DS.wipeE, DS.restE, DS.R.bind_ok, DS.R.bind_exc, DS.R.bind_bad, DS.R.map_ok, DS.R.of_some, DS.R.of_none, Option.bind_some, Option.bind_none, Option.map_some, Option.map_none, List.getElem?_cons_zero, List.getElem?_cons_succ, List.getElem?_nil, List.set_cons_zero, List.set_cons_succ, List.length_cons, List.length_nil, List.map_cons, List.map_nil, Option.getD_some, Option.getD_none, List.cons_append, List.nil_append, List.replicate_succ, List.replicate_zero, Nat.reduceAdd, Nat.reduceSub, decide_eq_true_eq, Bool.and_eq_true, Bool.or_eq_true, if_true, if_false, Bool.not_eq_true', Bool.false_eq_true, reduceIte, DS.eqD_int, DS.neD_int, DS.eqD_bl, DS.neD_bl, ne_eq, not_false_eq_true, not_true_eq_false, true_and, and_true, true_or, or_true, false_or, or_false, and_self, Int.reduceEq, Int.reduceAbs, Nat.reduceLT, Int.reduceLT, Int.reduceLE, Int.reduceNeg, Nat.reduceEqDiff, decide_true, decide_false, Bool.not_true, Bool.not_false, e2'] <;> rfl) (by omega) (by omega) rfl) (by simp [noOwn, h3]) e3'
      refine ⟨0, us, hp3, ⟨[s0, .v (.ref 0), .v (.int lap), e3, e4, .v (shD h ts), e6, e7, e8, e9, e10, e11], hp1⟩, ⟨by decide, by decide, by omega, hs⟩, b3.mono (by omega), ?_, ?_⟩
      · simp (config := { failIfUnchanged := false }) only [DS.nxS, DS.bkS, DS.ctS, DS.badS, DS.retS, DS.retN, DS.exprS, DS.setS, DS.setL, DS.asgS, DS.gN, DS.gT, DS.gsN, DS.gsC, DS.op1, DS.op2, DS.op1L, DS.op2L, DS.oV, DS.oS, DS.var, DS.cst, DS.deref, DS.derefD, DS.ofL, DS.lstE, DS.evA, DS.tupE, DS.asB, DS.truT, DS.andT, DS.orT, DS.notT, DS.andE, DS.orE, DS.notE, DS.ifE, DS.chn, DS.sl, DS.slL, DS.part, DS.lcE, DS.lcL, DS.itA, DS.itE, DS.itZ, DS.par2, DS.evP, DS.setIx, DS.mutE, DS.lstTok, DS.updTok, DS.shr, DS.callE, DS.callKE, DS.runFn, DS.orL, DS.yesT, DS.noOwn, DS.addD, DS.subD, DS.mulD, DS.divD, DS.modD, DS.powD, DS.negD, DS.ltD, DS.leD, DS.gtD, DS.geD, DS.isN, DS.isntN, DS.notD, DS.ixD, DS.slD, DS.slLs, DS.lenD, DS.absD, DS.intD, DS.tupleD, DS.listL, DS.allD, DS.anyD, DS.sumD, DS.minD, DS.maxD, DS.sortedL, DS.truD, DS.isiD, DS.tyD, DS.gId, DS.wipeE, DS.restE, DS.R.bind_ok, DS.R.bind_exc, DS.R.bind_bad, DS.R.map_ok, DS.R.of_some, DS.R.of_none, Option.bind_some, Option.bind_none, Option.map_some, Option.map_none, List.getElem?_cons_zero, List.getElem?_cons_succ, List.getElem?_nil, List.set_cons_zero, List.set_cons_succ, List.length_cons, List.length_nil, List.map_cons, List.map_nil, Option.getD_some, Option.getD_none, List.cons_append, List.nil_append, List.replicate_succ, List.replicate_zero, Nat.reduceAdd, Nat.reduceSub, decide_eq_true_eq, Bool.and_eq_true, Bool.or_eq_true, if_true, if_false, Bool.not_eq_true', Bool.false_eq_true, reduceIte, DS.eqD_int, DS.neD_int, DS.eqD_bl, DS.neD_bl, ne_eq, not_false_eq_true, not_true_eq_false, true_and, and_true, true_or, or_true, false_or, or_false, and_self, Int.reduceEq, Int.reduceAbs, Nat.reduceLT, Int.reduceLT, Int.reduceLE, Int.reduceNeg, Nat.reduceEqDiff, decide_true, decide_false, Bool.not_true, Bool.not_false, l0, e1]
      · refine if_tt (s1 := ⟨[s0, .v (.ref 0), .v (.int lap), e3, e4, .v (shD h ts), e6, e7, e8, e9, e10, e11], hp1⟩) (by simp (config := { failIfUnchanged := false }) only [DS.nxS, DS.bkS, DS.ctS, DS.badS, DS.retS, DS.retN, DS.exprS, DS.setS, DS.setL, DS.asgS, DS.gN, DS.gT, DS.gsN, DS.gsC, DS.op1, DS.op2, DS.op1L, DS.op2L, DS.oV, DS.oS, DS.var, DS.cst, DS.deref, DS.derefD, DS.ofL, DS.lstE, DS.evA, DS.tupE, DS.asB, DS.truT, DS.andT, DS.orT, DS.notT, DS.andE, DS.orE, DS.notE, DS.ifE, DS.chn, DS.sl, DS.slL, DS.part, DS.lcE, DS.lcL, DS.itA, DS.itE, DS.itZ, DS.par2, DS.evP, DS.setIx, DS.mutE, DS.lstTok, DS.updTok, DS.shr, DS.callE, DS.callKE, DS.runFn, DS.orL, DS.yesT, DS.noOwn, DS.addD, DS.subD, DS.mulD, DS.divD, DS.modD, DS.powD, DS.negD, DS.ltD, DS.leD, DS.gtD, DS.geD, DS.isN, DS.isntN, DS.notD, DS.ixD, DS.slD, DS.slLs, DS.lenD, DS.absD, DS.intD, DS.tupleD, DS.listL, DS.allD, DS.anyD, DS.sumD, DS.minD, DS.maxD, DS.sortedL, DS.truD, DS.isiD, DS.tyD, DS.gId, DS.wipeE, DS.restE, DS.R.bind_ok, DS.R.bind_exc, DS.R.bind_bad, DS.R.map_ok, DS.R.of_some, DS.R.of_none, Option.bind_some, Option.bind_none, Option.map_some, Option.map_none, List.getElem?_cons_zero, List.getElem?_cons_succ, List.getElem?_nil, List.set_cons_zero, List.set_cons_succ, List.length_cons, List.length_nil, List.map_cons, List.map_nil, Option.getD_some, Option.getD_none, List.cons_append, List.nil_append, List.replicate_succ, List.replicate_zero, Nat.reduceAdd, Nat.reduceSub, decide_eq_true_eq, Bool.and_eq_true, Bool.or_eq_true, if_true, if_false, Bool.not_eq_true', Bool.false_eq_true, reduceIte, DS.eqD_int, DS.neD_int, DS.eqD_bl, DS.neD_bl, ne_eq, not_false_eq_true, not_true_eq_false, true_and, and_true, true_or, or_true, false_or, or_false, and_self, Int.reduceEq, Int.reduceAbs, Nat.reduceLT, Int.reduceLT, Int.reduceLE, Int.reduceNeg, Nat.reduceEqDiff, decide_true, decide_false, Bool.not_true, Bool.not_false, l1] <;> rfl) ?_
        generalize lcE (itR1 (callE F__law_take [(var 1), (cst (.int 4))])) (gN 3) [3] yesT (callE F__law_turn [(var 1), (cst (.int 12))]) = L at e
        simp (config := { failIfUnchanged := false }) only [DS.nxS, DS.bkS, DS.ctS, DS.badS, DS.retS, DS.retN, DS.exprS, DS.setS, DS.setL, DS.asgS, DS.gN, DS.gT, DS.gsN, DS.gsC, DS.op1, DS.op2, DS.op1L, DS.op2L, DS.oV, DS.oS, DS.var, DS.cst, DS.deref, DS.derefD, DS.ofL, DS.lstE, DS.evA, DS.tupE, DS.asB, DS.truT, DS.andT, DS.orT, DS.notT, DS.andE, DS.orE, DS.notE, DS.ifE, DS.chn, DS.sl, DS.slL, DS.part, DS.lcE, DS.lcL, DS.itA, DS.itE, DS.itZ, DS.par2, DS.evP, DS.setIx, DS.mutE, DS.lstTok, DS.updTok, DS.shr, DS.callE, DS.callKE, DS.runFn, DS.orL, DS.yesT, DS.noOwn, DS.addD, DS.subD, DS.mulD, DS.divD, DS.modD, DS.powD, DS.negD, DS.ltD, DS.leD, DS.gtD, DS.geD, DS.isN, DS.isntN, DS.notD, DS.ixD, DS.slD, DS.slLs, DS.lenD, DS.absD, DS.intD, DS.tupleD, DS.listL, DS.allD, DS.anyD, DS.sumD, DS.minD, DS.maxD, DS.sortedL, DS.truD, DS.isiD, DS.tyD, DS.gId, DS.wipeE, DS.restE, DS.R.bind_ok, DS.R.bind_exc, DS.R.bind_bad, DS.R.map_ok, DS.R.of_some, DS.R.of_none, Option.bind_some, Option.bind_none, Option.map_some, Option.map_none, List.getElem?_cons_zero, List.getElem?_cons_succ, List.getElem?_nil, List.set_cons_zero, List.set_cons_succ, List.length_cons, List.length_nil, List.map_cons, List.map_nil, Option.getD_some, Option.getD_none, List.cons_append, List.nil_append, List.replicate_succ, List.replicate_zero, Nat.reduceAdd, Nat.reduceSub, decide_eq_true_eq, Bool.and_eq_true, Bool.or_eq_true, if_true, if_false, Bool.not_eq_true', Bool.false_eq_true, reduceIte, DS.eqD_int, DS.neD_int, DS.eqD_bl, DS.neD_bl, ne_eq, not_false_eq_true, not_true_eq_false, true_and, and_true, true_or, or_true, false_or, or_false, and_self, Int.reduceEq, Int.reduceAbs, Nat.reduceLT, Int.reduceLT, Int.reduceLE, Int.reduceNeg, Nat.reduceEqDiff, decide_true, decide_false, Bool.not_true, Bool.not_false, e]
    · refine ⟨h, ts, hp1, ⟨[s0, .v (.ref 0), .v (.int lap), e3, e4, .v (shD h ts), e6, e7, e8, e9, e10, e11], hp1⟩, ⟨g0, g5, gl, ga⟩, b1.mono (by omega), ?_, ?_⟩
      · simp (config := { failIfUnchanged := false }) only [DS.nxS, DS.bkS, DS.ctS, DS.badS, DS.retS, DS.retN, DS.exprS, DS.setS, DS.setL, DS.asgS, DS.gN, DS.gT, DS.gsN, DS.gsC, DS.op1, DS.op2, DS.op1L, DS.op2L, DS.oV, DS.oS, DS.var, DS.cst, DS.deref, DS.derefD, DS.ofL, DS.lstE, DS.evA, DS.tupE, DS.asB, DS.truT, DS.andT, DS.orT, DS.notT, DS.andE, DS.orE, DS.notE, DS.ifE, DS.chn, DS.sl, DS.slL, DS.part, DS.lcE, DS.lcL, DS.itA, DS.itE, DS.itZ, DS.par2, DS.evP, DS.setIx, DS.mutE, DS.lstTok, DS.updTok, DS.shr, DS.callE, DS.callKE, DS.runFn, DS.orL, DS.yesT, DS.noOwn, DS.addD, DS.subD, DS.mulD, DS.divD, DS.modD, DS.powD, DS.negD, DS.ltD, DS.leD, DS.gtD, DS.geD, DS.isN, DS.isntN, DS.notD, DS.ixD, DS.slD, DS.slLs, DS.lenD, DS.absD, DS.intD, DS.tupleD, DS.listL, DS.allD, DS.anyD, DS.sumD, DS.minD, DS.maxD, DS.sortedL, DS.truD, DS.isiD, DS.tyD, DS.gId, DS.wipeE, DS.restE, DS.R.bind_ok, DS.R.bind_exc, DS.R.bind_bad, DS.R.map_ok, DS.R.of_some, DS.R.of_none, Option.bind_some, Option.bind_none, Option.map_some, Option.map_none, List.getElem?_cons_zero, List.getElem?_cons_succ, List.getElem?_nil, List.set_cons_zero, List.set_cons_succ, List.length_cons, List.length_nil, List.map_cons, List.map_nil, Option.getD_some, Option.getD_none, List.cons_append, List.nil_append, List.replicate_succ, List.replicate_zero, Nat.reduceAdd, Nat.reduceSub, decide_eq_true_eq, Bool.and_eq_true, Bool.or_eq_true, if_true, if_false, Bool.not_eq_true', Bool.false_eq_true, reduceIte, DS.eqD_int, DS.neD_int, DS.eqD_bl, DS.neD_bl, ne_eq, not_false_eq_true, not_true_eq_false, true_and, and_true, true_or, or_true, false_or, or_false, and_self, Int.reduceEq, Int.reduceAbs, Nat.reduceLT, Int.reduceLT, Int.reduceLE, Int.reduceNeg, Nat.reduceEqDiff, decide_true, decide_false, Bool.not_true, Bool.not_false, l0, e1]
      · exact if_ff (by simp (config := { failIfUnchanged := false }) only [DS.nxS, DS.bkS, DS.ctS, DS.badS, DS.retS, DS.retN, DS.exprS, DS.setS, DS.setL, DS.asgS, DS.gN, DS.gT, DS.gsN, DS.gsC, DS.op1, DS.op2, DS.op1L, DS.op2L, DS.oV, DS.oS, DS.var, DS.cst, DS.deref, DS.derefD, DS.ofL, DS.lstE, DS.evA, DS.tupE, DS.asB, DS.truT, DS.andT, DS.orT, DS.notT, DS.andE, DS.orE, DS.notE, DS.ifE, DS.chn, DS.sl, DS.slL, DS.part, DS.lcE, DS.lcL, DS.itA, DS.itE, DS.itZ, DS.par2, DS.evP, DS.setIx, DS.mutE, DS.lstTok, DS.updTok, DS.shr, DS.callE, DS.callKE, DS.runFn, DS.orL, DS.yesT, DS.noOwn, DS.addD, DS.subD, DS.mulD, DS.divD, DS.modD, DS.powD, DS.negD, DS.ltD, DS.leD, DS.gtD, DS.geD, DS.isN, DS.isntN, DS.notD, DS.ixD, DS.slD, DS.slLs, DS.lenD, DS.absD, DS.intD, DS.tupleD, DS.listL, DS.allD, DS.anyD, DS.sumD, DS.minD, DS.maxD, DS.sortedL, DS.truD, DS.isiD, DS.tyD, DS.gId, DS.wipeE, DS.restE, DS.R.bind_ok, DS.R.bind_exc, DS.R.bind_bad, DS.R.map_ok, DS.R.of_some, DS.R.of_none, Option.bind_some, Option.bind_none, Option.map_some, Option.map_none, List.getElem?_cons_zero, List.getElem?_cons_succ, List.getElem?_nil, List.set_cons_zero, List.set_cons_succ, List.length_cons, List.length_nil, List.map_cons, List.map_nil, Option.getD_some, Option.getD_none, List.cons_append, List.nil_append, List.replicate_succ, List.replicate_zero, Nat.reduceAdd, Nat.reduceSub, decide_eq_true_eq, Bool.and_eq_true, Bool.or_eq_true, if_true, if_false, Bool.not_eq_true', Bool.false_eq_true, reduceIte, DS.eqD_int, DS.neD_int, DS.eqD_bl, DS.neD_bl, ne_eq, not_false_eq_true, not_true_eq_false, true_and, and_true, true_or, or_true, false_or, or_false, and_self, Int.reduceEq, Int.reduceAbs, Nat.reduceLT, Int.reduceLT, Int.reduceLE, Int.reduceNeg, Nat.reduceEqDiff, decide_true, decide_false, Bool.not_true, Bool.not_false, l1] <;> rfl) (by simp (config := { failIfUnchanged := false }) only [DS.nxS, DS.bkS, DS.ctS, DS.badS, DS.retS, DS.retN, DS.exprS, DS.setS, DS.setL, DS.asgS, DS.gN, DS.gT, DS.gsN, DS.gsC, DS.op1, DS.op2, DS.op1L, DS.op2L, DS.oV, DS.oS, DS.var, DS.cst, DS.deref, DS.derefD, DS.ofL, DS.lstE, DS.evA, DS.tupE, DS.asB, DS.truT, DS.andT, DS.orT, DS.notT, DS.andE, DS.orE, DS.notE, DS.ifE, DS.chn, DS.sl, DS.slL, DS.part, DS.lcE, DS.lcL, DS.itA, DS.itE, DS.itZ, DS.par2, DS.evP, DS.setIx, DS.mutE, DS.lstTok, DS.updTok, DS.shr, DS.callE, DS.callKE, DS.runFn, DS.orL, DS.yesT, DS.noOwn, DS.addD, DS.subD, DS.mulD, DS.divD, DS.modD, DS.powD, DS.negD, DS.ltD, DS.leD, DS.gtD, DS.geD, DS.isN, DS.isntN, DS.notD, DS.ixD, DS.slD, DS.slLs, DS.lenD, DS.absD, DS.intD, DS.tupleD, DS.listL, DS.allD, DS.anyD, DS.sumD, DS.minD, DS.maxD, DS.sortedL, DS.truD, DS.isiD, DS.tyD, DS.gId, DS.wipeE, DS.restE, DS.R.bind_ok, DS.R.bind_exc, DS.R.bind_bad, DS.R.map_ok, DS.R.of_some, DS.R.of_none, Option.bind_some, Option.bind_none, Option.map_some, Option.map_none, List.getElem?_cons_zero, List.getElem?_cons_succ, List.getElem?_nil, List.set_cons_zero, List.set_cons_succ, List.length_cons, List.length_nil, List.map_cons, List.map_nil, Option.getD_some, Option.getD_none, List.cons_append, List.nil_append, List.replicate_succ, List.replicate_zero, Nat.reduceAdd, Nat.reduceSub, decide_eq_true_eq, Bool.and_eq_true, Bool.or_eq_true, if_true, if_false, Bool.not_eq_true', Bool.false_eq_true, reduceIte, DS.eqD_int, DS.neD_int, DS.eqD_bl, DS.neD_bl, ne_eq, not_false_eq_true, not_true_eq_false, true_and, and_true, true_or, or_true, false_or, or_false, and_self, Int.reduceEq, Int.reduceAbs, Nat.reduceLT, Int.reduceLT, Int.reduceLE, Int.reduceNeg, Nat.reduceEqDiff, decide_true, decide_false, Bool.not_true, Bool.not_false] <;> rfl)
/-- what the law works out of it -/
theorem work_ok {h : Int} {ts : List Int} (v : Vs h ts) (lap : Int) : ∃ s1 s2 s3 s4,
    (asgS (callE F__law_share [(var 5)]) (gT 2 (gsC (gN 10) (gsC (gN 11) gsN)))) ⟨[s0, .v (.ref 0), .v (.int lap), e3, e4, .v (shD h ts), e6, e7, e8, e9, e10, e11], hp⟩ = .ok .nx s1 ∧ (setS 6 (callE F__law_odd [(var 5)])) s1 = .ok .nx s2 ∧ (setS 7 (ifE (truT (oS 6)) (cst (.str "odd")) (ifE (asB (op2 gtD (oS 10) (oV (cst (.int 0))))) (cst (.str "finite")) (ifE (asB (op2 eqD (oS 10) (oV (cst (.int 0))))) (cst (.str "flat")) (cst (.str "bent")))))) s2 = .ok .nx s3 ∧ (setS 8 (ifE (asB (op2 gtD (oS 10) (oV (cst (.int 0))))) (op2 divD (oV (op2 mulD (oV (cst (.int 2))) (oS 11))) (oS 10)) (cst .non))) s3 = .ok .nx s4 ∧
    (ifS (truT (oS 6)) (setS 8 (ifE (asB (op2 eqD (oV (op1 lenD (oV (op2 ixD (oS 5) (oV (cst (.int 1))))))) (oV (cst (.int 1))))) (cst (.int 1)) (callE F__law_common [(op2 ixD (oV (op2 ixD (oS 5) (oV (cst (.int 1))))) (oV (cst (.int 0)))), (op2 ixD (oV (op2 ixD (oS 5) (oV (cst (.int 1))))) (oV (cst (.int 1))))]))) nxS) s4 = .ok .nx ⟨[s0, .v (.ref 0), .v (.int lap), e3, e4, .v (shD h ts), .v (.bl (oddB h ts)), .v (.str (kindS h ts)), .v (sizeD h ts), e9, .v (.int (shr h ts).1), .v (.int (shr h ts).2)], hp⟩ := by
  obtain ⟨b1, b2, b3⟩ := shr_bound v
  have hs2 : DS.small64 2 = true := by decide
  refine ⟨⟨[s0, .v (.ref 0), .v (.int lap), e3, e4, .v (shD h ts), e6, e7, e8, e9, .v (.int (shr h ts).1), .v (.int (shr h ts).2)], hp⟩, ⟨[s0, .v (.ref 0), .v (.int lap), e3, e4, .v (shD h ts), .v (.bl (oddB h ts)), e7, e8, e9, .v (.int (shr h ts).1), .v (.int (shr h ts).2)], hp⟩,
    ⟨[s0, .v (.ref 0), .v (.int lap), e3, e4, .v (shD h ts), .v (.bl (oddB h ts)), .v (.str (kindS h ts)), e8, e9, .v (.int (shr h ts).1), .v (.int (shr h ts).2)], hp⟩,
    ⟨[s0, .v (.ref 0), .v (.int lap), e3, e4, .v (shD h ts), .v (.bl (oddB h ts)), .v (.str (kindS h ts)), .v (if 0 < (shr h ts).1 then .int (2 * (shr h ts).2 / (shr h ts).1) else .non), e9, .v (.int (shr h ts).1), .v (.int (shr h ts).2)], hp⟩, ?_, ?_, ?_, ?_, ?_⟩
  · simp (config := { failIfUnchanged := false }) only [DS.nxS, DS.bkS, DS.ctS, DS.badS, DS.retS, DS.retN, DS.exprS, DS.setS, DS.setL, DS.asgS, DS.gN, DS.gT, DS.gsN, DS.gsC, DS.op1, DS.op2, DS.op1L, DS.op2L, DS.oV, DS.oS, DS.var, DS.cst, DS.deref, DS.derefD, DS.ofL, DS.lstE, DS.evA, DS.tupE, DS.asB, DS.truT, DS.andT, DS.orT, DS.notT, DS.andE, DS.orE, DS.notE, DS.ifE, DS.chn, DS.sl, DS.slL, DS.part, DS.lcE, DS.lcL, DS.itA, DS.itE, DS.itZ, DS.par2, DS.evP, DS.setIx, DS.mutE, DS.lstTok, DS.updTok, DS.shr, DS.callE, DS.callKE, DS.runFn, DS.orL, DS.yesT, DS.noOwn, DS.addD, DS.subD, DS.mulD, DS.divD, DS.modD, DS.powD, DS.negD, DS.ltD, DS.leD, DS.gtD, DS.geD, DS.isN, DS.isntN, DS.notD, DS.ixD, DS.slD, DS.slLs, DS.lenD, DS.absD, DS.intD, DS.tupleD, DS.listL, DS.allD, DS.anyD, DS.sumD, DS.minD, DS.maxD, DS.sortedL, DS.truD, DS.isiD, DS.tyD, DS.gId, DS.wipeE, DS.restE, DS.R.bind_ok, DS.R.bind_exc, DS.R.bind_bad, DS.R.map_ok, DS.R.of_some, DS.R.of_none, Option.bind_some, Option.bind_none, Option.map_some, Option.map_none, List.getElem?_cons_zero, List.getElem?_cons_succ, List.getElem?_nil, List.set_cons_zero, List.set_cons_succ, List.length_cons, List.length_nil, List.map_cons, List.map_nil, Option.getD_some, Option.getD_none, List.cons_append, List.nil_append, List.replicate_succ, List.replicate_zero, Nat.reduceAdd, Nat.reduceSub, decide_eq_true_eq, Bool.and_eq_true, Bool.or_eq_true, if_true, if_false, Bool.not_eq_true', Bool.false_eq_true, reduceIte, DS.eqD_int, DS.neD_int, DS.eqD_bl, DS.neD_bl, ne_eq, not_false_eq_true, not_true_eq_false, true_and, and_true, true_or, or_true, false_or, or_false, and_self, Int.reduceEq, Int.reduceAbs, Nat.reduceLT, Int.reduceLT, Int.reduceLE, Int.reduceNeg, Nat.reduceEqDiff, decide_true, decide_false, Bool.not_true, Bool.not_false, law_share_ok v]
  · simp (config := { failIfUnchanged := false }) only [DS.nxS, DS.bkS, DS.ctS, DS.badS, DS.retS, DS.retN, DS.exprS, DS.setS, DS.setL, DS.asgS, DS.gN, DS.gT, DS.gsN, DS.gsC, DS.op1, DS.op2, DS.op1L, DS.op2L, DS.oV, DS.oS, DS.var, DS.cst, DS.deref, DS.derefD, DS.ofL, DS.lstE, DS.evA, DS.tupE, DS.asB, DS.truT, DS.andT, DS.orT, DS.notT, DS.andE, DS.orE, DS.notE, DS.ifE, DS.chn, DS.sl, DS.slL, DS.part, DS.lcE, DS.lcL, DS.itA, DS.itE, DS.itZ, DS.par2, DS.evP, DS.setIx, DS.mutE, DS.lstTok, DS.updTok, DS.shr, DS.callE, DS.callKE, DS.runFn, DS.orL, DS.yesT, DS.noOwn, DS.addD, DS.subD, DS.mulD, DS.divD, DS.modD, DS.powD, DS.negD, DS.ltD, DS.leD, DS.gtD, DS.geD, DS.isN, DS.isntN, DS.notD, DS.ixD, DS.slD, DS.slLs, DS.lenD, DS.absD, DS.intD, DS.tupleD, DS.listL, DS.allD, DS.anyD, DS.sumD, DS.minD, DS.maxD, DS.sortedL, DS.truD, DS.isiD, DS.tyD, DS.gId, DS.wipeE, DS.restE, DS.R.bind_ok, DS.R.bind_exc, DS.R.bind_bad, DS.R.map_ok, DS.R.of_some, DS.R.of_none, Option.bind_some, Option.bind_none, Option.map_some, Option.map_none, List.getElem?_cons_zero, List.getElem?_cons_succ, List.getElem?_nil, List.set_cons_zero, List.set_cons_succ, List.length_cons, List.length_nil, List.map_cons, List.map_nil, Option.getD_some, Option.getD_none, List.cons_append, List.nil_append, List.replicate_succ, List.replicate_zero, Nat.reduceAdd, Nat.reduceSub, decide_eq_true_eq, Bool.and_eq_true, Bool.or_eq_true, if_true, if_false, Bool.not_eq_true', Bool.false_eq_true, reduceIte, DS.eqD_int, DS.neD_int, DS.eqD_bl, DS.neD_bl, ne_eq, not_false_eq_true, not_true_eq_false, true_and, and_true, true_or, or_true, false_or, or_false, and_self, Int.reduceEq, Int.reduceAbs, Nat.reduceLT, Int.reduceLT, Int.reduceLE, Int.reduceNeg, Nat.reduceEqDiff, decide_true, decide_false, Bool.not_true, Bool.not_false, law_odd_ok]
  · unfold kindS
    cases q : oddB h ts with
    | true => simp (config := { failIfUnchanged := false }) only [DS.nxS, DS.bkS, DS.ctS, DS.badS, DS.retS, DS.retN, DS.exprS, DS.setS, DS.setL, DS.asgS, DS.gN, DS.gT, DS.gsN, DS.gsC, DS.op1, DS.op2, DS.op1L, DS.op2L, DS.oV, DS.oS, DS.var, DS.cst, DS.deref, DS.derefD, DS.ofL, DS.lstE, DS.evA, DS.tupE, DS.asB, DS.truT, DS.andT, DS.orT, DS.notT, DS.andE, DS.orE, DS.notE, DS.ifE, DS.chn, DS.sl, DS.slL, DS.part, DS.lcE, DS.lcL, DS.itA, DS.itE, DS.itZ, DS.par2, DS.evP, DS.setIx, DS.mutE, DS.lstTok, DS.updTok, DS.shr, DS.callE, DS.callKE, DS.runFn, DS.orL, DS.yesT, DS.noOwn, DS.addD, DS.subD, DS.mulD, DS.divD, DS.modD, DS.powD, DS.negD, DS.ltD, DS.leD, DS.gtD, DS.geD, DS.isN, DS.isntN, DS.notD, DS.ixD, DS.slD, DS.slLs, DS.lenD, DS.absD, DS.intD, DS.tupleD, DS.listL, DS.allD, DS.anyD, DS.sumD, DS.minD, DS.maxD, DS.sortedL, DS.truD, DS.isiD, DS.tyD, DS.gId, DS.wipeE, DS.restE, DS.R.bind_ok, DS.R.bind_exc, DS.R.bind_bad, DS.R.map_ok, DS.R.of_some, DS.R.of_none, Option.bind_some, Option.bind_none, Option.map_some, Option.map_none, List.getElem?_cons_zero, List.getElem?_cons_succ, List.getElem?_nil, List.set_cons_zero, List.set_cons_succ, List.length_cons, List.length_nil, List.map_cons, List.map_nil, Option.getD_some, Option.getD_none, List.cons_append, List.nil_append, List.replicate_succ, List.replicate_zero, Nat.reduceAdd, Nat.reduceSub, decide_eq_true_eq, Bool.and_eq_true, Bool.or_eq_true, if_true, if_false, Bool.not_eq_true', Bool.false_eq_true, reduceIte, DS.eqD_int, DS.neD_int, DS.eqD_bl, DS.neD_bl, ne_eq, not_false_eq_true, not_true_eq_false, true_and, and_true, true_or, or_true, false_or, or_false, and_self, Int.reduceEq, Int.reduceAbs, Nat.reduceLT, Int.reduceLT, Int.reduceLE, Int.reduceNeg, Nat.reduceEqDiff, decide_true, decide_false, Bool.not_true, Bool.not_false]
    | false =>
      by_cases h1 : 0 < (shr h ts).1
      · simp (config := { failIfUnchanged := false }) only [DS.nxS, DS.bkS, DS.ctS, DS.badS, DS.retS, DS.retN, DS.exprS, DS.setS, DS.setL, DS.asgS, DS.gN, DS.gT, DS.gsN, DS.gsC, DS.op1, DS.op2, DS.op1L, DS.op2L, DS.oV, DS.oS, DS.var, DS.cst, DS.deref, DS.derefD, DS.ofL, DS.lstE, DS.evA, DS.tupE, DS.asB, DS.truT, DS.andT, DS.orT, DS.notT, DS.andE, DS.orE, DS.notE, DS.ifE, DS.chn, DS.sl, DS.slL, DS.part, DS.lcE, DS.lcL, DS.itA, DS.itE, DS.itZ, DS.par2, DS.evP, DS.setIx, DS.mutE, DS.lstTok, DS.updTok, DS.shr, DS.callE, DS.callKE, DS.runFn, DS.orL, DS.yesT, DS.noOwn, DS.addD, DS.subD, DS.mulD, DS.divD, DS.modD, DS.powD, DS.negD, DS.ltD, DS.leD, DS.gtD, DS.geD, DS.isN, DS.isntN, DS.notD, DS.ixD, DS.slD, DS.slLs, DS.lenD, DS.absD, DS.intD, DS.tupleD, DS.listL, DS.allD, DS.anyD, DS.sumD, DS.minD, DS.maxD, DS.sortedL, DS.truD, DS.isiD, DS.tyD, DS.gId, DS.wipeE, DS.restE, DS.R.bind_ok, DS.R.bind_exc, DS.R.bind_bad, DS.R.map_ok, DS.R.of_some, DS.R.of_none, Option.bind_some, Option.bind_none, Option.map_some, Option.map_none, List.getElem?_cons_zero, List.getElem?_cons_succ, List.getElem?_nil, List.set_cons_zero, List.set_cons_succ, List.length_cons, List.length_nil, List.map_cons, List.map_nil, Option.getD_some, Option.getD_none, List.cons_append, List.nil_append, List.replicate_succ, List.replicate_zero, Nat.reduceAdd, Nat.reduceSub, decide_eq_true_eq, Bool.and_eq_true, Bool.or_eq_true, if_true, if_false, Bool.not_eq_true', Bool.false_eq_true, reduceIte, DS.eqD_int, DS.neD_int, DS.eqD_bl, DS.neD_bl, ne_eq, not_false_eq_true, not_true_eq_false, true_and, and_true, true_or, or_true, false_or, or_false, and_self, Int.reduceEq, Int.reduceAbs, Nat.reduceLT, Int.reduceLT, Int.reduceLE, Int.reduceNeg, Nat.reduceEqDiff, decide_true, decide_false, Bool.not_true, Bool.not_false, h1]
      · by_cases h2 : (shr h ts).1 = 0
        · simp (config := { failIfUnchanged := false }) only [DS.nxS, DS.bkS, DS.ctS, DS.badS, DS.retS, DS.retN, DS.exprS, DS.setS, DS.setL, DS.asgS, DS.gN, DS.gT, DS.gsN, DS.gsC, DS.op1, DS.op2, DS.op1L, DS.op2L, DS.oV, DS.oS, DS.var, DS.cst, DS.deref, DS.derefD, DS.ofL, DS.lstE, DS.evA, DS.tupE, DS.asB, DS.truT, DS.andT, DS.orT, DS.notT, DS.andE, DS.orE, DS.notE, DS.ifE, DS.chn, DS.sl, DS.slL, DS.part, DS.lcE, DS.lcL, DS.itA, DS.itE, DS.itZ, DS.par2, DS.evP, DS.setIx, DS.mutE, DS.lstTok, DS.updTok, DS.shr, DS.callE, DS.callKE, DS.runFn, DS.orL, DS.yesT, DS.noOwn, DS.addD, DS.subD, DS.mulD, DS.divD, DS.modD, DS.powD, DS.negD, DS.ltD, DS.leD, DS.gtD, DS.geD, DS.isN, DS.isntN, DS.notD, DS.ixD, DS.slD, DS.slLs, DS.lenD, DS.absD, DS.intD, DS.tupleD, DS.listL, DS.allD, DS.anyD, DS.sumD, DS.minD, DS.maxD, DS.sortedL, DS.truD, DS.isiD, DS.tyD, DS.gId, DS.wipeE, DS.restE, DS.R.bind_ok, DS.R.bind_exc, DS.R.bind_bad, DS.R.map_ok, DS.R.of_some, DS.R.of_none, Option.bind_some, Option.bind_none, Option.map_some, Option.map_none, List.getElem?_cons_zero, List.getElem?_cons_succ, List.getElem?_nil, List.set_cons_zero, List.set_cons_succ, List.length_cons, List.length_nil, List.map_cons, List.map_nil, Option.getD_some, Option.getD_none, List.cons_append, List.nil_append, List.replicate_succ, List.replicate_zero, Nat.reduceAdd, Nat.reduceSub, decide_eq_true_eq, Bool.and_eq_true, Bool.or_eq_true, if_true, if_false, Bool.not_eq_true', Bool.false_eq_true, reduceIte, DS.eqD_int, DS.neD_int, DS.eqD_bl, DS.neD_bl, ne_eq, not_false_eq_true, not_true_eq_false, true_and, and_true, true_or, or_true, false_or, or_false, and_self, Int.reduceEq, Int.reduceAbs, Nat.reduceLT, Int.reduceLT, Int.reduceLE, Int.reduceNeg, Nat.reduceEqDiff, decide_true, decide_false, Bool.not_true, Bool.not_false, h1, h2]
        · simp (config := { failIfUnchanged := false }) only [DS.nxS, DS.bkS, DS.ctS, DS.badS, DS.retS, DS.retN, DS.exprS, DS.setS, DS.setL, DS.asgS, DS.gN, DS.gT, DS.gsN, DS.gsC, DS.op1, DS.op2, DS.op1L, DS.op2L, DS.oV, DS.oS, DS.var, DS.cst, DS.deref, DS.derefD, DS.ofL, DS.lstE, DS.evA, DS.tupE, DS.asB, DS.truT, DS.andT, DS.orT, DS.notT, DS.andE, DS.orE, DS.notE, DS.ifE, DS.chn, DS.sl, DS.slL, DS.part, DS.lcE, DS.lcL, DS.itA, DS.itE, DS.itZ, DS.par2, DS.evP, DS.setIx, DS.mutE, DS.lstTok, DS.updTok, DS.shr, DS.callE, DS.callKE, DS.runFn, DS.orL, DS.yesT, DS.noOwn, DS.addD, DS.subD, DS.mulD, DS.divD, DS.modD, DS.powD, DS.negD, DS.ltD, DS.leD, DS.gtD, DS.geD, DS.isN, DS.isntN, DS.notD, DS.ixD, DS.slD, DS.slLs, DS.lenD, DS.absD, DS.intD, DS.tupleD, DS.listL, DS.allD, DS.anyD, DS.sumD, DS.minD, DS.maxD, DS.sortedL, DS.truD, DS.isiD, DS.tyD, DS.gId, DS.wipeE, DS.restE, DS.R.bind_ok, DS.R.bind_exc, DS.R.bind_bad, DS.R.map_ok, DS.R.of_some, DS.R.of_none, Option.bind_some, Option.bind_none, Option.map_some, Option.map_none, List.getElem?_cons_zero, List.getElem?_cons_succ, List.getElem?_nil, List.set_cons_zero, List.set_cons_succ, List.length_cons, List.length_nil, List.map_cons, List.map_nil, Option.getD_some, Option.getD_none, List.cons_append, List.nil_append, List.replicate_succ, List.replicate_zero, Nat.reduceAdd, Nat.reduceSub, decide_eq_true_eq, Bool.and_eq_true, Bool.or_eq_true, if_true, if_false, Bool.not_eq_true', Bool.false_eq_true, reduceIte, DS.eqD_int, DS.neD_int, DS.eqD_bl, DS.neD_bl, ne_eq, not_false_eq_true, not_true_eq_false, true_and, and_true, true_or, or_true, false_or, or_false, and_self, Int.reduceEq, Int.reduceAbs, Nat.reduceLT, Int.reduceLT, Int.reduceLE, Int.reduceNeg, Nat.reduceEqDiff, decide_true, decide_false, Bool.not_true, Bool.not_false, h1, h2]
  · by_cases h1 : 0 < (shr h ts).1
    · have h2 : (shr h ts).1 ≠ 0 := by omega
      have h3 : (shr h ts).1.natAbs < 1073741824 := by omega
      simp (config := { failIfUnchanged := false }) only [DS.nxS, DS.bkS, DS.ctS, DS.badS, DS.retS, DS.retN, DS.exprS, DS.setS, DS.setL, DS.asgS, DS.gN, DS.gT, DS.gsN, DS.gsC, DS.op1, DS.op2, DS.op1L, DS.op2L, DS.oV, DS.oS, DS.var, DS.cst, DS.deref, DS.derefD, DS.ofL, DS.lstE, DS.evA, DS.tupE, DS.asB, DS.truT, DS.andT, DS.orT, DS.notT, DS.andE, DS.orE, DS.notE, DS.ifE, DS.chn, DS.sl, DS.slL, DS.part, DS.lcE, DS.lcL, DS.itA, DS.itE, DS.itZ, DS.par2, DS.evP, DS.setIx, DS.mutE, DS.lstTok, DS.updTok, DS.shr, DS.callE, DS.callKE, DS.runFn, DS.orL, DS.yesT, DS.noOwn, DS.addD, DS.subD, DS.mulD, DS.divD, DS.modD, DS.powD, DS.negD, DS.ltD, DS.leD, DS.gtD, DS.geD, DS.isN, DS.isntN, DS.notD, DS.ixD, DS.slD, DS.slLs, DS.lenD, DS.absD, DS.intD, DS.tupleD, DS.listL, DS.allD, DS.anyD, DS.sumD, DS.minD, DS.maxD, DS.sortedL, DS.truD, DS.isiD, DS.tyD, DS.gId, DS.wipeE, DS.restE, DS.R.bind_ok, DS.R.bind_exc, DS.R.bind_bad, DS.R.map_ok, DS.R.of_some, DS.R.of_none, Option.bind_some, Option.bind_none, Option.map_some, Option.map_none, List.getElem?_cons_zero, List.getElem?_cons_succ, List.getElem?_nil, List.set_cons_zero, List.set_cons_succ, List.length_cons, List.length_nil, List.map_cons, List.map_nil, Option.getD_some, Option.getD_none, List.cons_append, List.nil_append, List.replicate_succ, List.replicate_zero, Nat.reduceAdd, Nat.reduceSub, decide_eq_true_eq, Bool.and_eq_true, Bool.or_eq_true, if_true, if_false, Bool.not_eq_true', Bool.false_eq_true, reduceIte, DS.eqD_int, DS.neD_int, DS.eqD_bl, DS.neD_bl, ne_eq, not_false_eq_true, not_true_eq_false, true_and, and_true, true_or, or_true, false_or, or_false, and_self, Int.reduceEq, Int.reduceAbs, Nat.reduceLT, Int.reduceLT, Int.reduceLE, Int.reduceNeg, Nat.reduceEqDiff, decide_true, decide_false, Bool.not_true, Bool.not_false, h1, h2, h3, hs2, fdiv_pos (show 0 ≤ (shr h ts).1 by omega)]
    · simp (config := { failIfUnchanged := false }) only [DS.nxS, DS.bkS, DS.ctS, DS.badS, DS.retS, DS.retN, DS.exprS, DS.setS, DS.setL, DS.asgS, DS.gN, DS.gT, DS.gsN, DS.gsC, DS.op1, DS.op2, DS.op1L, DS.op2L, DS.oV, DS.oS, DS.var, DS.cst, DS.deref, DS.derefD, DS.ofL, DS.lstE, DS.evA, DS.tupE, DS.asB, DS.truT, DS.andT, DS.orT, DS.notT, DS.andE, DS.orE, DS.notE, DS.ifE, DS.chn, DS.sl, DS.slL, DS.part, DS.lcE, DS.lcL, DS.itA, DS.itE, DS.itZ, DS.par2, DS.evP, DS.setIx, DS.mutE, DS.lstTok, DS.updTok, DS.shr, DS.callE, DS.callKE, DS.runFn, DS.orL, DS.yesT, DS.noOwn, DS.addD, DS.subD, DS.mulD, DS.divD, DS.modD, DS.powD, DS.negD, DS.ltD, DS.leD, DS.gtD, DS.geD, DS.isN, DS.isntN, DS.notD, DS.ixD, DS.slD, DS.slLs, DS.lenD, DS.absD, DS.intD, DS.tupleD, DS.listL, DS.allD, DS.anyD, DS.sumD, DS.minD, DS.maxD, DS.sortedL, DS.truD, DS.isiD, DS.tyD, DS.gId, DS.wipeE, DS.restE, DS.R.bind_ok, DS.R.bind_exc, DS.R.bind_bad, DS.R.map_ok, DS.R.of_some, DS.R.of_none, Option.bind_some, Option.bind_none, Option.map_some, Option.map_none, List.getElem?_cons_zero, List.getElem?_cons_succ, List.getElem?_nil, List.set_cons_zero, List.set_cons_succ, List.length_cons, List.length_nil, List.map_cons, List.map_nil, Option.getD_some, Option.getD_none, List.cons_append, List.nil_append, List.replicate_succ, List.replicate_zero, Nat.reduceAdd, Nat.reduceSub, decide_eq_true_eq, Bool.and_eq_true, Bool.or_eq_true, if_true, if_false, Bool.not_eq_true', Bool.false_eq_true, reduceIte, DS.eqD_int, DS.neD_int, DS.eqD_bl, DS.neD_bl, ne_eq, not_false_eq_true, not_true_eq_false, true_and, and_true, true_or, or_true, false_or, or_false, and_self, Int.reduceEq, Int.reduceAbs, Nat.reduceLT, Int.reduceLT, Int.reduceLE, Int.reduceNeg, Nat.reduceEqDiff, decide_true, decide_false, Bool.not_true, Bool.not_false, h1]
  · unfold sizeD
    cases q : oddB h ts with
    | false => exact if_ff (by simp (config := { failIfUnchanged := false }) only [DS.nxS, DS.bkS, DS.ctS, DS.badS, DS.retS, DS.retN, DS.exprS, DS.setS, DS.setL, DS.asgS, DS.gN, DS.gT, DS.gsN, DS.gsC, DS.op1, DS.op2, DS.op1L, DS.op2L, DS.oV, DS.oS, DS.var, DS.cst, DS.deref, DS.derefD, DS.ofL, DS.lstE, DS.evA, DS.tupE, DS.asB, DS.truT, DS.andT, DS.orT, DS.notT, DS.andE, DS.orE, DS.notE, DS.ifE, DS.chn, DS.sl, DS.slL, DS.part, DS.lcE, DS.lcL, DS.itA, DS.itE, DS.itZ, DS.par2, DS.evP, DS.setIx, DS.mutE, DS.lstTok, DS.updTok, DS.shr, DS.callE, DS.callKE, DS.runFn, DS.orL, DS.yesT, DS.noOwn, DS.addD, DS.subD, DS.mulD, DS.divD, DS.modD, DS.powD, DS.negD, DS.ltD, DS.leD, DS.gtD, DS.geD, DS.isN, DS.isntN, DS.notD, DS.ixD, DS.slD, DS.slLs, DS.lenD, DS.absD, DS.intD, DS.tupleD, DS.listL, DS.allD, DS.anyD, DS.sumD, DS.minD, DS.maxD, DS.sortedL, DS.truD, DS.isiD, DS.tyD, DS.gId, DS.wipeE, DS.restE, DS.R.bind_ok, DS.R.bind_exc, DS.R.bind_bad, DS.R.map_ok, DS.R.of_some, DS.R.of_none, Option.bind_some, Option.bind_none, Option.map_some, Option.map_none, List.getElem?_cons_zero, List.getElem?_cons_succ, List.getElem?_nil, List.set_cons_zero, List.set_cons_succ, List.length_cons, List.length_nil, List.map_cons, List.map_nil, Option.getD_some, Option.getD_none, List.cons_append, List.nil_append, List.replicate_succ, List.replicate_zero, Nat.reduceAdd, Nat.reduceSub, decide_eq_true_eq, Bool.and_eq_true, Bool.or_eq_true, if_true, if_false, Bool.not_eq_true', Bool.false_eq_true, reduceIte, DS.eqD_int, DS.neD_int, DS.eqD_bl, DS.neD_bl, ne_eq, not_false_eq_true, not_true_eq_false, true_and, and_true, true_or, or_true, false_or, or_false, and_self, Int.reduceEq, Int.reduceAbs, Nat.reduceLT, Int.reduceLT, Int.reduceLE, Int.reduceNeg, Nat.reduceEqDiff, decide_true, decide_false, Bool.not_true, Bool.not_false] <;> rfl) (by simp (config := { failIfUnchanged := false }) only [DS.nxS, DS.bkS, DS.ctS, DS.badS, DS.retS, DS.retN, DS.exprS, DS.setS, DS.setL, DS.asgS, DS.gN, DS.gT, DS.gsN, DS.gsC, DS.op1, DS.op2, DS.op1L, DS.op2L, DS.oV, DS.oS, DS.var, DS.cst, DS.deref, DS.derefD, DS.ofL, DS.lstE, DS.evA, DS.tupE, DS.asB, DS.truT, DS.andT, DS.orT, DS.notT, DS.andE, DS.orE, DS.notE, DS.ifE, DS.chn, DS.sl, DS.slL, DS.part, DS.lcE, DS.lcL, DS.itA, DS.itE, DS.itZ, DS.par2, DS.evP, DS.setIx, DS.mutE, DS.lstTok, DS.updTok, DS.shr, DS.callE, DS.callKE, DS.runFn, DS.orL, DS.yesT, DS.noOwn, DS.addD, DS.subD, DS.mulD, DS.divD, DS.modD, DS.powD, DS.negD, DS.ltD, DS.leD, DS.gtD, DS.geD, DS.isN, DS.isntN, DS.notD, DS.ixD, DS.slD, DS.slLs, DS.lenD, DS.absD, DS.intD, DS.tupleD, DS.listL, DS.allD, DS.anyD, DS.sumD, DS.minD, DS.maxD, DS.sortedL, DS.truD, DS.isiD, DS.tyD, DS.gId, DS.wipeE, DS.restE, DS.R.bind_ok, DS.R.bind_exc, DS.R.bind_bad, DS.R.map_ok, DS.R.of_some, DS.R.of_none, Option.bind_some, Option.bind_none, Option.map_some, Option.map_none, List.getElem?_cons_zero, List.getElem?_cons_succ, List.getElem?_nil, List.set_cons_zero, List.set_cons_succ, List.length_cons, List.length_nil, List.map_cons, List.map_nil, Option.getD_some, Option.getD_none, List.cons_append, List.nil_append, List.replicate_succ, List.replicate_zero, Nat.reduceAdd, Nat.reduceSub, decide_eq_true_eq, Bool.and_eq_true, Bool.or_eq_true, if_true, if_false, Bool.not_eq_true', Bool.false_eq_true, reduceIte, DS.eqD_int, DS.neD_int, DS.eqD_bl, DS.neD_bl, ne_eq, not_false_eq_true, not_true_eq_false, true_and, and_true, true_or, or_true, false_or, or_false, and_self, Int.reduceEq, Int.reduceAbs, Nat.reduceLT, Int.reduceLT, Int.reduceLE, Int.reduceNeg, Nat.reduceEqDiff, decide_true, decide_false, Bool.not_true, Bool.not_false] <;> rfl)
    | true =>
      obtain ⟨rfl, ⟨a, rfl⟩ | ⟨a, b, rfl, _⟩⟩ := odd_shape q
      · exact if_tt (by simp (config := { failIfUnchanged := false }) only [DS.nxS, DS.bkS, DS.ctS, DS.badS, DS.retS, DS.retN, DS.exprS, DS.setS, DS.setL, DS.asgS, DS.gN, DS.gT, DS.gsN, DS.gsC, DS.op1, DS.op2, DS.op1L, DS.op2L, DS.oV, DS.oS, DS.var, DS.cst, DS.deref, DS.derefD, DS.ofL, DS.lstE, DS.evA, DS.tupE, DS.asB, DS.truT, DS.andT, DS.orT, DS.notT, DS.andE, DS.orE, DS.notE, DS.ifE, DS.chn, DS.sl, DS.slL, DS.part, DS.lcE, DS.lcL, DS.itA, DS.itE, DS.itZ, DS.par2, DS.evP, DS.setIx, DS.mutE, DS.lstTok, DS.updTok, DS.shr, DS.callE, DS.callKE, DS.runFn, DS.orL, DS.yesT, DS.noOwn, DS.addD, DS.subD, DS.mulD, DS.divD, DS.modD, DS.powD, DS.negD, DS.ltD, DS.leD, DS.gtD, DS.geD, DS.isN, DS.isntN, DS.notD, DS.ixD, DS.slD, DS.slLs, DS.lenD, DS.absD, DS.intD, DS.tupleD, DS.listL, DS.allD, DS.anyD, DS.sumD, DS.minD, DS.maxD, DS.sortedL, DS.truD, DS.isiD, DS.tyD, DS.gId, DS.wipeE, DS.restE, DS.R.bind_ok, DS.R.bind_exc, DS.R.bind_bad, DS.R.map_ok, DS.R.of_some, DS.R.of_none, Option.bind_some, Option.bind_none, Option.map_some, Option.map_none, List.getElem?_cons_zero, List.getElem?_cons_succ, List.getElem?_nil, List.set_cons_zero, List.set_cons_succ, List.length_cons, List.length_nil, List.map_cons, List.map_nil, Option.getD_some, Option.getD_none, List.cons_append, List.nil_append, List.replicate_succ, List.replicate_zero, Nat.reduceAdd, Nat.reduceSub, decide_eq_true_eq, Bool.and_eq_true, Bool.or_eq_true, if_true, if_false, Bool.not_eq_true', Bool.false_eq_true, reduceIte, DS.eqD_int, DS.neD_int, DS.eqD_bl, DS.neD_bl, ne_eq, not_false_eq_true, not_true_eq_false, true_and, and_true, true_or, or_true, false_or, or_false, and_self, Int.reduceEq, Int.reduceAbs, Nat.reduceLT, Int.reduceLT, Int.reduceLE, Int.reduceNeg, Nat.reduceEqDiff, decide_true, decide_false, Bool.not_true, Bool.not_false] <;> rfl) (by simp (config := { failIfUnchanged := false }) only [DS.nxS, DS.bkS, DS.ctS, DS.badS, DS.retS, DS.retN, DS.exprS, DS.setS, DS.setL, DS.asgS, DS.gN, DS.gT, DS.gsN, DS.gsC, DS.op1, DS.op2, DS.op1L, DS.op2L, DS.oV, DS.oS, DS.var, DS.cst, DS.deref, DS.derefD, DS.ofL, DS.lstE, DS.evA, DS.tupE, DS.asB, DS.truT, DS.andT, DS.orT, DS.notT, DS.andE, DS.orE, DS.notE, DS.ifE, DS.chn, DS.sl, DS.slL, DS.part, DS.lcE, DS.lcL, DS.itA, DS.itE, DS.itZ, DS.par2, DS.evP, DS.setIx, DS.mutE, DS.lstTok, DS.updTok, DS.shr, DS.callE, DS.callKE, DS.runFn, DS.orL, DS.yesT, DS.noOwn, DS.addD, DS.subD, DS.mulD, DS.divD, DS.modD, DS.powD, DS.negD, DS.ltD, DS.leD, DS.gtD, DS.geD, DS.isN, DS.isntN, DS.notD, DS.ixD, DS.slD, DS.slLs, DS.lenD, DS.absD, DS.intD, DS.tupleD, DS.listL, DS.allD, DS.anyD, DS.sumD, DS.minD, DS.maxD, DS.sortedL, DS.truD, DS.isiD, DS.tyD, DS.gId, DS.wipeE, DS.restE, DS.R.bind_ok, DS.R.bind_exc, DS.R.bind_bad, DS.R.map_ok, DS.R.of_some, DS.R.of_none, Option.bind_some, Option.bind_none, Option.map_some, Option.map_none, List.getElem?_cons_zero, List.getElem?_cons_succ, List.getElem?_nil, List.set_cons_zero, List.set_cons_succ, List.length_cons, List.length_nil, List.map_cons, List.map_nil, Option.getD_some, Option.getD_none, List.cons_append, List.nil_append, List.replicate_succ, List.replicate_zero, Nat.reduceAdd, Nat.reduceSub, decide_eq_true_eq, Bool.and_eq_true, Bool.or_eq_true, if_true, if_false, Bool.not_eq_true', Bool.false_eq_true, reduceIte, DS.eqD_int, DS.neD_int, DS.eqD_bl, DS.neD_bl, ne_eq, not_false_eq_true, not_true_eq_false, true_and, and_true, true_or, or_true, false_or, or_false, and_self, Int.reduceEq, Int.reduceAbs, Nat.reduceLT, Int.reduceLT, Int.reduceLE, Int.reduceNeg, Nat.reduceEqDiff, decide_true, decide_false, Bool.not_true, Bool.not_false, atI1] <;> rfl)
      · exact if_tt (by simp (config := { failIfUnchanged := false }) only [DS.nxS, DS.bkS, DS.ctS, DS.badS, DS.retS, DS.retN, DS.exprS, DS.setS, DS.setL, DS.asgS, DS.gN, DS.gT, DS.gsN, DS.gsC, DS.op1, DS.op2, DS.op1L, DS.op2L, DS.oV, DS.oS, DS.var, DS.cst, DS.deref, DS.derefD, DS.ofL, DS.lstE, DS.evA, DS.tupE, DS.asB, DS.truT, DS.andT, DS.orT, DS.notT, DS.andE, DS.orE, DS.notE, DS.ifE, DS.chn, DS.sl, DS.slL, DS.part, DS.lcE, DS.lcL, DS.itA, DS.itE, DS.itZ, DS.par2, DS.evP, DS.setIx, DS.mutE, DS.lstTok, DS.updTok, DS.shr, DS.callE, DS.callKE, DS.runFn, DS.orL, DS.yesT, DS.noOwn, DS.addD, DS.subD, DS.mulD, DS.divD, DS.modD, DS.powD, DS.negD, DS.ltD, DS.leD, DS.gtD, DS.geD, DS.isN, DS.isntN, DS.notD, DS.ixD, DS.slD, DS.slLs, DS.lenD, DS.absD, DS.intD, DS.tupleD, DS.listL, DS.allD, DS.anyD, DS.sumD, DS.minD, DS.maxD, DS.sortedL, DS.truD, DS.isiD, DS.tyD, DS.gId, DS.wipeE, DS.restE, DS.R.bind_ok, DS.R.bind_exc, DS.R.bind_bad, DS.R.map_ok, DS.R.of_some, DS.R.of_none, Option.bind_some, Option.bind_none, Option.map_some, Option.map_none, List.getElem?_cons_zero, List.getElem?_cons_succ, List.getElem?_nil, List.set_cons_zero, List.set_cons_succ, List.length_cons, List.length_nil, List.map_cons, List.map_nil, Option.getD_some, Option.getD_none, List.cons_append, List.nil_append, List.replicate_succ, List.replicate_zero, Nat.reduceAdd, Nat.reduceSub, decide_eq_true_eq, Bool.and_eq_true, Bool.or_eq_true, if_true, if_false, Bool.not_eq_true', Bool.false_eq_true, reduceIte, DS.eqD_int, DS.neD_int, DS.eqD_bl, DS.neD_bl, ne_eq, not_false_eq_true, not_true_eq_false, true_and, and_true, true_or, or_true, false_or, or_false, and_self, Int.reduceEq, Int.reduceAbs, Nat.reduceLT, Int.reduceLT, Int.reduceLE, Int.reduceNeg, Nat.reduceEqDiff, decide_true, decide_false, Bool.not_true, Bool.not_false] <;> rfl) (by simp (config := { failIfUnchanged := false }) only [DS.nxS, DS.bkS, DS.ctS, DS.badS, DS.retS, DS.retN, DS.exprS, DS.setS, DS.setL, DS.asgS, DS.gN, DS.gT, DS.gsN, DS.gsC, DS.op1, DS.op2, DS.op1L, DS.op2L, DS.oV, DS.oS, DS.var, DS.cst, DS.deref, DS.derefD, DS.ofL, DS.lstE, DS.evA, DS.tupE, DS.asB, DS.truT, DS.andT, DS.orT, DS.notT, DS.andE, DS.orE, DS.notE, DS.ifE, DS.chn, DS.sl, DS.slL, DS.part, DS.lcE, DS.lcL, DS.itA, DS.itE, DS.itZ, DS.par2, DS.evP, DS.setIx, DS.mutE, DS.lstTok, DS.updTok, DS.shr, DS.callE, DS.callKE, DS.runFn, DS.orL, DS.yesT, DS.noOwn, DS.addD, DS.subD, DS.mulD, DS.divD, DS.modD, DS.powD, DS.negD, DS.ltD, DS.leD, DS.gtD, DS.geD, DS.isN, DS.isntN, DS.notD, DS.ixD, DS.slD, DS.slLs, DS.lenD, DS.absD, DS.intD, DS.tupleD, DS.listL, DS.allD, DS.anyD, DS.sumD, DS.minD, DS.maxD, DS.sortedL, DS.truD, DS.isiD, DS.tyD, DS.gId, DS.wipeE, DS.restE, DS.R.bind_ok, DS.R.bind_exc, DS.R.bind_bad, DS.R.map_ok, DS.R.of_some, DS.R.of_none, Option.bind_some, Option.bind_none, Option.map_some, Option.map_none, List.getElem?_cons_zero, List.getElem?_cons_succ, List.getElem?_nil, List.set_cons_zero, List.set_cons_succ, List.length_cons, List.length_nil, List.map_cons, List.map_nil, Option.getD_some, Option.getD_none, List.cons_append, List.nil_append, List.replicate_succ, List.replicate_zero, Nat.reduceAdd, Nat.reduceSub, decide_eq_true_eq, Bool.and_eq_true, Bool.or_eq_true, if_true, if_false, Bool.not_eq_true', Bool.false_eq_true, reduceIte, DS.eqD_int, DS.neD_int, DS.eqD_bl, DS.neD_bl, ne_eq, not_false_eq_true, not_true_eq_false, true_and, and_true, true_or, or_true, false_or, or_false, and_self, Int.reduceEq, Int.reduceAbs, Nat.reduceLT, Int.reduceLT, Int.reduceLE, Int.reduceNeg, Nat.reduceEqDiff, decide_true, decide_false, Bool.not_true, Bool.not_false, atI0, atI1, F__law_common_ok] <;> rfl)
theorem pl_size (n : Nat) (h : Int) (ts : List Int) : Pl n (sizeD h ts) := by
  unfold sizeD
  split
  · split
    · exact .int _ _
    · exact .int _ _
  · split
    · exact .int _ _
    · exact .non _
theorem pl_kind (n : Nat) (h : Int) (ts : List Int) : Pl n (.str (kindS h ts)) := by
  unfold kindS
  split
  · exact .str _ _ (by decide +kernel)
  · split
    · exact .str _ _ (by decide +kernel)
    · split
      · exact .str _ _ (by decide +kernel)
      · exact .str _ _ (by decide +kernel)
theorem pl_pair (n : Nat) (a b : Int) : Pl (n + 1) (.tup [.int a, .int b]) := .tup _ _ (by simp) fun x hx => by
  simp at hx
  rcases hx with rfl | rfl <;> exact .int _ _
/-- the first question -/
theorem ask1_ok {h : Int} {ts : List Int} (v : Vs h ts) (lap : Int) (odd : D) :
    (setS 4 (ofL (lstE [(callKE F_is_sheet (gId 0 1) [] [(var 5)]), (callKE F_sheet_share (gId 0 1) [] [(callE (F__law_lists 8) [(var 5)])]), (callKE F_sheet_kind (gId 0 1) [] [(var 5)]), (callKE F_sheet_size (gId 0 1) [] [(var 5)])]))) ⟨[s0, .v (.ref 0), .v (.int lap), e3, e4, .v (shD h ts), .v odd, .v (.str (kindS h ts)), .v (sizeD h ts), e9, .v (.int (shr h ts).1), .v (.int (shr h ts).2)], hp⟩ =
      .ok .nx ⟨[s0, .v (.ref 0), .v (.int lap), e3, .v (.lst [.bl true, .tup [.int (shr h ts).1, .int (shr h ts).2], .str (kindS h ts), sizeD h ts]), .v (shD h ts), .v odd, .v (.str (kindS h ts)), .v (sizeD h ts), e9, .v (.int (shr h ts).1), .v (.int (shr h ts).2)], hp⟩ := by
  have hl := v.l
  have q := lists_sheet 5 h ts (by omega) hp
  simp (config := { failIfUnchanged := false }) only [DS.nxS, DS.bkS, DS.ctS, DS.badS, DS.retS, DS.retN, DS.exprS, DS.setS, DS.setL, DS.asgS, DS.gN, DS.gT, DS.gsN, DS.gsC, DS.op1, DS.op2, DS.op1L, DS.op2L, DS.oV, DS.oS, DS.var, DS.cst, DS.deref, DS.derefD, DS.ofL, DS.lstE, DS.evA, DS.tupE, DS.asB, DS.truT, DS.andT, DS.orT, DS.notT, DS.andE, DS.orE, DS.notE, DS.ifE, DS.chn, DS.sl, DS.slL, DS.part, DS.lcE, DS.lcL, DS.itA, DS.itE, DS.itZ, DS.par2, DS.evP, DS.setIx, DS.mutE, DS.lstTok, DS.updTok, DS.shr, DS.callE, DS.callKE, DS.runFn, DS.orL, DS.yesT, DS.noOwn, DS.addD, DS.subD, DS.mulD, DS.divD, DS.modD, DS.powD, DS.negD, DS.ltD, DS.leD, DS.gtD, DS.geD, DS.isN, DS.isntN, DS.notD, DS.ixD, DS.slD, DS.slLs, DS.lenD, DS.absD, DS.intD, DS.tupleD, DS.listL, DS.allD, DS.anyD, DS.sumD, DS.minD, DS.maxD, DS.sortedL, DS.truD, DS.isiD, DS.tyD, DS.gId, DS.wipeE, DS.restE, DS.R.bind_ok, DS.R.bind_exc, DS.R.bind_bad, DS.R.map_ok, DS.R.of_some, DS.R.of_none, Option.bind_some, Option.bind_none, Option.map_some, Option.map_none, List.getElem?_cons_zero, List.getElem?_cons_succ, List.getElem?_nil, List.set_cons_zero, List.set_cons_succ, List.length_cons, List.length_nil, List.map_cons, List.map_nil, Option.getD_some, Option.getD_none, List.cons_append, List.nil_append, List.replicate_succ, List.replicate_zero, Nat.reduceAdd, Nat.reduceSub, decide_eq_true_eq, Bool.and_eq_true, Bool.or_eq_true, if_true, if_false, Bool.not_eq_true', Bool.false_eq_true, reduceIte, DS.eqD_int, DS.neD_int, DS.eqD_bl, DS.neD_bl, ne_eq, not_false_eq_true, not_true_eq_false, true_and, and_true, true_or, or_true, false_or, or_false, and_self, Int.reduceEq, Int.reduceAbs, Nat.reduceLT, Int.reduceLT, Int.reduceLE, Int.reduceNeg, Nat.reduceEqDiff, decide_true, decide_false, Bool.not_true, Bool.not_false, is_sheet_ok v, q, sheet_share_ok (shT_lst h ts) v, sheet_kind_ok (shT_tup h ts) v, sheet_size_ok (shT_tup h ts) v]
theorem test1_ok {h : Int} {ts : List Int} (lap : Int) (odd : D) :
    (ifS (notT (truT (oV (callE (F__law_same 8) [(var 4), (ofL (lstE [(cst (.bl true)), (tupE [(var 10), (var 11)]), (var 7), (var 8)]))])))) (retS (cst (.bl false))) nxS) ⟨[s0, .v (.ref 0), .v (.int lap), e3, .v (.lst [.bl true, .tup [.int (shr h ts).1, .int (shr h ts).2], .str (kindS h ts), sizeD h ts]), .v (shD h ts), .v odd, .v (.str (kindS h ts)), .v (sizeD h ts), e9, .v (.int (shr h ts).1), .v (.int (shr h ts).2)], hp⟩ =
      .ok .nx ⟨[s0, .v (.ref 0), .v (.int lap), e3, .v (.lst [.bl true, .tup [.int (shr h ts).1, .int (shr h ts).2], .str (kindS h ts), sizeD h ts]), .v (shD h ts), .v odd, .v (.str (kindS h ts)), .v (sizeD h ts), e9, .v (.int (shr h ts).1), .v (.int (shr h ts).2)], hp⟩ := by
  have q : F__law_same 8 [.lst [.bl true, .tup [.int (shr h ts).1, .int (shr h ts).2], .str (kindS h ts), sizeD h ts], .lst [.bl true, .tup [.int (shr h ts).1, .int (shr h ts).2], .str (kindS h ts), sizeD h ts]] hp = .ok (.bl true) hp :=
    same_ok hp 7 _ (.lst 6 _ (by simp) fun x hx => by
      simp at hx
      rcases hx with rfl | rfl | rfl | rfl
      · exact .bl _ _
      · exact pl_pair 5 _ _
      · exact pl_kind _ _ _
      · exact pl_size _ _ _)
  exact if_ff (by simp (config := { failIfUnchanged := false }) only [DS.nxS, DS.bkS, DS.ctS, DS.badS, DS.retS, DS.retN, DS.exprS, DS.setS, DS.setL, DS.asgS, DS.gN, DS.gT, DS.gsN, DS.gsC, DS.op1, DS.op2, DS.op1L, DS.op2L, DS.oV, DS.oS, DS.var, DS.cst, DS.deref, DS.derefD, DS.ofL, DS.lstE, DS.evA, DS.tupE, DS.asB, DS.truT, DS.andT, DS.orT, DS.notT, DS.andE, DS.orE, DS.notE, DS.ifE, DS.chn, DS.sl, DS.slL, DS.part, DS.lcE, DS.lcL, DS.itA, DS.itE, DS.itZ, DS.par2, DS.evP, DS.setIx, DS.mutE, DS.lstTok, DS.updTok, DS.shr, DS.callE, DS.callKE, DS.runFn, DS.orL, DS.yesT, DS.noOwn, DS.addD, DS.subD, DS.mulD, DS.divD, DS.modD, DS.powD, DS.negD, DS.ltD, DS.leD, DS.gtD, DS.geD, DS.isN, DS.isntN, DS.notD, DS.ixD, DS.slD, DS.slLs, DS.lenD, DS.absD, DS.intD, DS.tupleD, DS.listL, DS.allD, DS.anyD, DS.sumD, DS.minD, DS.maxD, DS.sortedL, DS.truD, DS.isiD, DS.tyD, DS.gId, DS.wipeE, DS.restE, DS.R.bind_ok, DS.R.bind_exc, DS.R.bind_bad, DS.R.map_ok, DS.R.of_some, DS.R.of_none, Option.bind_some, Option.bind_none, Option.map_some, Option.map_none, List.getElem?_cons_zero, List.getElem?_cons_succ, List.getElem?_nil, List.set_cons_zero, List.set_cons_succ, List.length_cons, List.length_nil, List.map_cons, List.map_nil, Option.getD_some, Option.getD_none, List.cons_append, List.nil_append, List.replicate_succ, List.replicate_zero, Nat.reduceAdd, Nat.reduceSub, decide_eq_true_eq, Bool.and_eq_true, Bool.or_eq_true, if_true, if_false, Bool.not_eq_true', Bool.false_eq_true, reduceIte, DS.eqD_int, DS.neD_int, DS.eqD_bl, DS.neD_bl, ne_eq, not_false_eq_true, not_true_eq_false, true_and, and_true, true_or, or_true, false_or, or_false, and_self, Int.reduceEq, Int.reduceAbs, Nat.reduceLT, Int.reduceLT, Int.reduceLE, Int.reduceNeg, Nat.reduceEqDiff, decide_true, decide_false, Bool.not_true, Bool.not_false, q] <;> rfl) (by simp (config := { failIfUnchanged := false }) only [DS.nxS, DS.bkS, DS.ctS, DS.badS, DS.retS, DS.retN, DS.exprS, DS.setS, DS.setL, DS.asgS, DS.gN, DS.gT, DS.gsN, DS.gsC, DS.op1, DS.op2, DS.op1L, DS.op2L, DS.oV, DS.oS, DS.var, DS.cst, DS.deref, DS.derefD, DS.ofL, DS.lstE, DS.evA, DS.tupE, DS.asB, DS.truT, DS.andT, DS.orT, DS.notT, DS.andE, DS.orE, DS.notE, DS.ifE, DS.chn, DS.sl, DS.slL, DS.part, DS.lcE, DS.lcL, DS.itA, DS.itE, DS.itZ, DS.par2, DS.evP, DS.setIx, DS.mutE, DS.lstTok, DS.updTok, DS.shr, DS.callE, DS.callKE, DS.runFn, DS.orL, DS.yesT, DS.noOwn, DS.addD, DS.subD, DS.mulD, DS.divD, DS.modD, DS.powD, DS.negD, DS.ltD, DS.leD, DS.gtD, DS.geD, DS.isN, DS.isntN, DS.notD, DS.ixD, DS.slD, DS.slLs, DS.lenD, DS.absD, DS.intD, DS.tupleD, DS.listL, DS.allD, DS.anyD, DS.sumD, DS.minD, DS.maxD, DS.sortedL, DS.truD, DS.isiD, DS.tyD, DS.gId, DS.wipeE, DS.restE, DS.R.bind_ok, DS.R.bind_exc, DS.R.bind_bad, DS.R.map_ok, DS.R.of_some, DS.R.of_none, Option.bind_some, Option.bind_none, Option.map_some, Option.map_none, List.getElem?_cons_zero, List.getElem?_cons_succ, List.getElem?_nil, List.set_cons_zero, List.set_cons_succ, List.length_cons, List.length_nil, List.map_cons, List.map_nil, Option.getD_some, Option.getD_none, List.cons_append, List.nil_append, List.replicate_succ, List.replicate_zero, Nat.reduceAdd, Nat.reduceSub, decide_eq_true_eq, Bool.and_eq_true, Bool.or_eq_true, if_true, if_false, Bool.not_eq_true', Bool.false_eq_true, reduceIte, DS.eqD_int, DS.neD_int, DS.eqD_bl, DS.neD_bl, ne_eq, not_false_eq_true, not_true_eq_false, true_and, and_true, true_or, or_true, false_or, or_false, and_self, Int.reduceEq, Int.reduceAbs, Nat.reduceLT, Int.reduceLT, Int.reduceLE, Int.reduceNeg, Nat.reduceEqDiff, decide_true, decide_false, Bool.not_true, Bool.not_false] <;> rfl)
end L30
namespace L30
open PySem PySem.Spec PyProof.Rows L2 DS
variable {s0 e2 e3 e4 e5 e6 e7 e8 e9 e10 e11 : DS.Slot} {hp : List Ob} {n : Nat}
theorem order_ok {h : Int} {ts : List Int} (hb : Bx n hp) (hn : n < 3000) (v : Vs h ts) (lap : Int) : ∃ (us : List Int) (hp' : List Ob), Bx (n + 8) hp' ∧ us.Perm ts ∧
    (setS 9 (op1 tupleD (oV (callE F__law_pick [(var 1), (ofL (op1L listL (oV (op2 ixD (oS 5) (oV (cst (.int 1))))))), (op1 lenD (oV (op2 ixD (oS 5) (oV (cst (.int 1))))))])))) ⟨[s0, .v (.ref 0), .v (.int lap), e3, e4, .v (shD h ts), e6, e7, e8, e9, e10, e11], hp⟩ =
      .ok .nx ⟨[s0, .v (.ref 0), .v (.int lap), e3, e4, .v (shD h ts), e6, e7, e8, .v (.tup (us.map .int)), e10, e11], hp'⟩ := by
  have hl := v.l
  obtain ⟨us, hp', e, b, p⟩ := pick_ok hb ts (by omega) (by omega)
  refine ⟨us, hp', b.mono (by omega), p, ?_⟩
  simp (config := { failIfUnchanged := false }) only [DS.nxS, DS.bkS, DS.ctS, DS.badS, DS.retS, DS.retN, DS.exprS, DS.setS, DS.setL, DS.asgS, DS.gN, DS.gT, DS.gsN, DS.gsC, DS.op1, DS.op2, DS.op1L, DS.op2L, DS.oV, DS.oS, DS.var, DS.cst, DS.deref, DS.derefD, DS.ofL, DS.lstE, DS.evA, DS.tupE, DS.asB, DS.truT, DS.andT, DS.orT, DS.notT, DS.andE, DS.orE, DS.notE, DS.ifE, DS.chn, DS.sl, DS.slL, DS.part, DS.lcE, DS.lcL, DS.itA, DS.itE, DS.itZ, DS.par2, DS.evP, DS.setIx, DS.mutE, DS.lstTok, DS.updTok, DS.shr, DS.callE, DS.callKE, DS.runFn, DS.orL, DS.yesT, DS.noOwn, DS.addD, DS.subD, DS.mulD, DS.divD, DS.modD, DS.powD, DS.negD, DS.ltD, DS.leD, DS.gtD, DS.geD, DS.isN, DS.isntN, DS.notD, DS.ixD, DS.slD, DS.slLs, DS.lenD, DS.absD, DS.intD, DS.tupleD, DS.listL, DS.allD, DS.anyD, DS.sumD, DS.minD, DS.maxD, DS.sortedL, DS.truD, DS.isiD, DS.tyD, DS.gId, DS.wipeE, DS.restE, DS.R.bind_ok, DS.R.bind_exc, DS.R.bind_bad, DS.R.map_ok, DS.R.of_some, DS.R.of_none, Option.bind_some, Option.bind_none, Option.map_some, Option.map_none, List.getElem?_cons_zero, List.getElem?_cons_succ, List.getElem?_nil, List.set_cons_zero, List.set_cons_succ, List.length_cons, List.length_nil, List.map_cons, List.map_nil, Option.getD_some, Option.getD_none, List.cons_append, List.nil_append, List.replicate_succ, List.replicate_zero, Nat.reduceAdd, Nat.reduceSub, decide_eq_true_eq, Bool.and_eq_true, Bool.or_eq_true, if_true, if_false, Bool.not_eq_true', Bool.false_eq_true, reduceIte, DS.eqD_int, DS.neD_int, DS.eqD_bl, DS.neD_bl, ne_eq, not_false_eq_true, not_true_eq_false, true_and, and_true, true_or, or_true, false_or, or_false, and_self, Int.reduceEq, Int.reduceAbs, Nat.reduceLT, Int.reduceLT, Int.reduceLE, Int.reduceNeg, Nat.reduceEqDiff, decide_true, decide_false, Bool.not_true, Bool.not_false, atI1, List.length_map, e]
theorem ask2_ok {h : Int} {ts us : List Int} (v : Vs h ts) (p : us.Perm ts) (lap : Int) :
    (setS 4 (ofL (lstE [(callE F_sheet_share [(tupE [(op2 ixD (oS 5) (oV (cst (.int 0)))), (var 9)])]), (callKE F_are_like_sheets (gId 0 2) [] [(var 5), (tupE [(op2 ixD (oS 5) (oV (cst (.int 0)))), (var 9)])]), (callE F_sheet_size [(tupE [(op2 ixD (oS 5) (oV (cst (.int 0)))), (var 9)])])]))) ⟨[s0, .v (.ref 0), .v (.int lap), e3, e4, .v (shD h ts), e6, e7, e8, .v (.tup (us.map .int)), e10, e11], hp⟩ =
      .ok .nx ⟨[s0, .v (.ref 0), .v (.int lap), e3, .v (.lst [.tup [.int (shr h ts).1, .int (shr h ts).2], .bl true, sizeD h ts]), .v (shD h ts), e6, e7, e8, .v (.tup (us.map .int)), e10, e11], hp⟩ := by
  have v' := v.perm p
  have e1 := sheet_share_ok (shT_tup h us) v' hp
  rw [shr_perm h p] at e1
  have e2 := like_ok (shT_tup h ts) v (shT_tup h us) v' hp
  rw [sortI_perm p, decide_eq_true rfl, decide_eq_true rfl] at e2
  have e3 := sheet_size_ok (shT_tup h us) v' hp
  rw [size_perm p] at e3
  simp (config := { failIfUnchanged := false }) only [DS.nxS, DS.bkS, DS.ctS, DS.badS, DS.retS, DS.retN, DS.exprS, DS.setS, DS.setL, DS.asgS, DS.gN, DS.gT, DS.gsN, DS.gsC, DS.op1, DS.op2, DS.op1L, DS.op2L, DS.oV, DS.oS, DS.var, DS.cst, DS.deref, DS.derefD, DS.ofL, DS.lstE, DS.evA, DS.tupE, DS.asB, DS.truT, DS.andT, DS.orT, DS.notT, DS.andE, DS.orE, DS.notE, DS.ifE, DS.chn, DS.sl, DS.slL, DS.part, DS.lcE, DS.lcL, DS.itA, DS.itE, DS.itZ, DS.par2, DS.evP, DS.setIx, DS.mutE, DS.lstTok, DS.updTok, DS.shr, DS.callE, DS.callKE, DS.runFn, DS.orL, DS.yesT, DS.noOwn, DS.addD, DS.subD, DS.mulD, DS.divD, DS.modD, DS.powD, DS.negD, DS.ltD, DS.leD, DS.gtD, DS.geD, DS.isN, DS.isntN, DS.notD, DS.ixD, DS.slD, DS.slLs, DS.lenD, DS.absD, DS.intD, DS.tupleD, DS.listL, DS.allD, DS.anyD, DS.sumD, DS.minD, DS.maxD, DS.sortedL, DS.truD, DS.isiD, DS.tyD, DS.gId, DS.wipeE, DS.restE, DS.R.bind_ok, DS.R.bind_exc, DS.R.bind_bad, DS.R.map_ok, DS.R.of_some, DS.R.of_none, Option.bind_some, Option.bind_none, Option.map_some, Option.map_none, List.getElem?_cons_zero, List.getElem?_cons_succ, List.getElem?_nil, List.set_cons_zero, List.set_cons_succ, List.length_cons, List.length_nil, List.map_cons, List.map_nil, Option.getD_some, Option.getD_none, List.cons_append, List.nil_append, List.replicate_succ, List.replicate_zero, Nat.reduceAdd, Nat.reduceSub, decide_eq_true_eq, Bool.and_eq_true, Bool.or_eq_true, if_true, if_false, Bool.not_eq_true', Bool.false_eq_true, reduceIte, DS.eqD_int, DS.neD_int, DS.eqD_bl, DS.neD_bl, ne_eq, not_false_eq_true, not_true_eq_false, true_and, and_true, true_or, or_true, false_or, or_false, and_self, Int.reduceEq, Int.reduceAbs, Nat.reduceLT, Int.reduceLT, Int.reduceLE, Int.reduceNeg, Nat.reduceEqDiff, decide_true, decide_false, Bool.not_true, Bool.not_false, atI0, e1, e2, e3, Bool.and_self]
theorem test2_ok {h : Int} {ts : List Int} (lap : Int) (kd od : DS.Slot) (us : D) :
    (ifS (notT (truT (oV (callE (F__law_same 8) [(var 4), (ofL (lstE [(tupE [(var 10), (var 11)]), (cst (.bl true)), (var 8)]))])))) (retS (cst (.bl false))) nxS) ⟨[s0, .v (.ref 0), .v (.int lap), e3, .v (.lst [.tup [.int (shr h ts).1, .int (shr h ts).2], .bl true, sizeD h ts]), .v (shD h ts), od, kd, .v (sizeD h ts), .v us, .v (.int (shr h ts).1), .v (.int (shr h ts).2)], hp⟩ =
      .ok .nx ⟨[s0, .v (.ref 0), .v (.int lap), e3, .v (.lst [.tup [.int (shr h ts).1, .int (shr h ts).2], .bl true, sizeD h ts]), .v (shD h ts), od, kd, .v (sizeD h ts), .v us, .v (.int (shr h ts).1), .v (.int (shr h ts).2)], hp⟩ := by
  have q : F__law_same 8 [.lst [.tup [.int (shr h ts).1, .int (shr h ts).2], .bl true, sizeD h ts], .lst [.tup [.int (shr h ts).1, .int (shr h ts).2], .bl true, sizeD h ts]] hp = .ok (.bl true) hp :=
    same_ok hp 7 _ (.lst 6 _ (by simp) fun x hx => by
      simp at hx
      rcases hx with rfl | rfl | rfl
      · exact pl_pair 5 _ _
      · exact .bl _ _
      · exact pl_size _ _ _)
  exact if_ff (by simp (config := { failIfUnchanged := false }) only [DS.nxS, DS.bkS, DS.ctS, DS.badS, DS.retS, DS.retN, DS.exprS, DS.setS, DS.setL, DS.asgS, DS.gN, DS.gT, DS.gsN, DS.gsC, DS.op1, DS.op2, DS.op1L, DS.op2L, DS.oV, DS.oS, DS.var, DS.cst, DS.deref, DS.derefD, DS.ofL, DS.lstE, DS.evA, DS.tupE, DS.asB, DS.truT, DS.andT, DS.orT, DS.notT, DS.andE, DS.orE, DS.notE, DS.ifE, DS.chn, DS.sl, DS.slL, DS.part, DS.lcE, DS.lcL, DS.itA, DS.itE, DS.itZ, DS.par2, DS.evP, DS.setIx, DS.mutE, DS.lstTok, DS.updTok, DS.shr, DS.callE, DS.callKE, DS.runFn, DS.orL, DS.yesT, DS.noOwn, DS.addD, DS.subD, DS.mulD, DS.divD, DS.modD, DS.powD, DS.negD, DS.ltD, DS.leD, DS.gtD, DS.geD, DS.isN, DS.isntN, DS.notD, DS.ixD, DS.slD, DS.slLs, DS.lenD, DS.absD, DS.intD, DS.tupleD, DS.listL, DS.allD, DS.anyD, DS.sumD, DS.minD, DS.maxD, DS.sortedL, DS.truD, DS.isiD, DS.tyD, DS.gId, DS.wipeE, DS.restE, DS.R.bind_ok, DS.R.bind_exc, DS.R.bind_bad, DS.R.map_ok, DS.R.of_some, DS.R.of_none, Option.bind_some, Option.bind_none, Option.map_some, Option.map_none, List.getElem?_cons_zero, List.getElem?_cons_succ, List.getElem?_nil, List.set_cons_zero, List.set_cons_succ, List.length_cons, List.length_nil, List.map_cons, List.map_nil, Option.getD_some, Option.getD_none, List.cons_append, List.nil_append, List.replicate_succ, List.replicate_zero, Nat.reduceAdd, Nat.reduceSub, decide_eq_true_eq, Bool.and_eq_true, Bool.or_eq_true, if_true, if_false, Bool.not_eq_true', Bool.false_eq_true, reduceIte, DS.eqD_int, DS.neD_int, DS.eqD_bl, DS.neD_bl, ne_eq, not_false_eq_true, not_true_eq_false, true_and, and_true, true_or, or_true, false_or, or_false, and_self, Int.reduceEq, Int.reduceAbs, Nat.reduceLT, Int.reduceLT, Int.reduceLE, Int.reduceNeg, Nat.reduceEqDiff, decide_true, decide_false, Bool.not_true, Bool.not_false, q] <;> rfl) (by simp (config := { failIfUnchanged := false }) only [DS.nxS, DS.bkS, DS.ctS, DS.badS, DS.retS, DS.retN, DS.exprS, DS.setS, DS.setL, DS.asgS, DS.gN, DS.gT, DS.gsN, DS.gsC, DS.op1, DS.op2, DS.op1L, DS.op2L, DS.oV, DS.oS, DS.var, DS.cst, DS.deref, DS.derefD, DS.ofL, DS.lstE, DS.evA, DS.tupE, DS.asB, DS.truT, DS.andT, DS.orT, DS.notT, DS.andE, DS.orE, DS.notE, DS.ifE, DS.chn, DS.sl, DS.slL, DS.part, DS.lcE, DS.lcL, DS.itA, DS.itE, DS.itZ, DS.par2, DS.evP, DS.setIx, DS.mutE, DS.lstTok, DS.updTok, DS.shr, DS.callE, DS.callKE, DS.runFn, DS.orL, DS.yesT, DS.noOwn, DS.addD, DS.subD, DS.mulD, DS.divD, DS.modD, DS.powD, DS.negD, DS.ltD, DS.leD, DS.gtD, DS.geD, DS.isN, DS.isntN, DS.notD, DS.ixD, DS.slD, DS.slLs, DS.lenD, DS.absD, DS.intD, DS.tupleD, DS.listL, DS.allD, DS.anyD, DS.sumD, DS.minD, DS.maxD, DS.sortedL, DS.truD, DS.isiD, DS.tyD, DS.gId, DS.wipeE, DS.restE, DS.R.bind_ok, DS.R.bind_exc, DS.R.bind_bad, DS.R.map_ok, DS.R.of_some, DS.R.of_none, Option.bind_some, Option.bind_none, Option.map_some, Option.map_none, List.getElem?_cons_zero, List.getElem?_cons_succ, List.getElem?_nil, List.set_cons_zero, List.set_cons_succ, List.length_cons, List.length_nil, List.map_cons, List.map_nil, Option.getD_some, Option.getD_none, List.cons_append, List.nil_append, List.replicate_succ, List.replicate_zero, Nat.reduceAdd, Nat.reduceSub, decide_eq_true_eq, Bool.and_eq_true, Bool.or_eq_true, if_true, if_false, Bool.not_eq_true', Bool.false_eq_true, reduceIte, DS.eqD_int, DS.neD_int, DS.eqD_bl, DS.neD_bl, ne_eq, not_false_eq_true, not_true_eq_false, true_and, and_true, true_or, or_true, false_or, or_false, and_self, Int.reduceEq, Int.reduceAbs, Nat.reduceLT, Int.reduceLT, Int.reduceLE, Int.reduceNeg, Nat.reduceEqDiff, decide_true, decide_false, Bool.not_true, Bool.not_false] <;> rfl)
theorem up_ok {h : Int} {ts us : List Int} (v : Vs h ts) (p : us.Perm ts) (lap : Int) (sz : DS.Slot) :
    (ifS (andT (asB (op2 ltD (oV (op2 ixD (oS 5) (oV (cst (.int 0))))) (oV (cst (.int 5))))) (notT (truT (oV (callE (F__law_same 8) [(ofL (lstE [(callE F_sheet_share [(tupE [(op2 addD (oV (op2 ixD (oS 5) (oV (cst (.int 0))))) (oV (cst (.int 1)))), (var 9)])]), (callE F_are_like_sheets [(var 5), (tupE [(op2 addD (oV (op2 ixD (oS 5) (oV (cst (.int 0))))) (oV (cst (.int 1)))), (var 9)])])])), (ofL (lstE [(tupE [(op2 subD (oS 10) (oV (op2 mulD (oV (cst (.int 2))) (oS 11)))), (var 11)]), (cst (.bl false))]))]))))) (retS (cst (.bl false))) nxS) ⟨[s0, .v (.ref 0), .v (.int lap), e3, e4, .v (shD h ts), e6, e7, sz, .v (.tup (us.map .int)), .v (.int (shr h ts).1), .v (.int (shr h ts).2)], hp⟩ =
      .ok .nx ⟨[s0, .v (.ref 0), .v (.int lap), e3, e4, .v (shD h ts), e6, e7, sz, .v (.tup (us.map .int)), .v (.int (shr h ts).1), .v (.int (shr h ts).2)], hp⟩ := by
  by_cases h5 : h < 5
  · have v' : Vs (h + 1) us := ⟨by have := v.h0; omega, by omega, (v.perm p).l, (v.perm p).a⟩
    have e1 := sheet_share_ok (shT_tup (h + 1) us) v' hp
    rw [shr_perm (h + 1) p, shr_up] at e1
    have e2 := like_ok (shT_tup h ts) v (shT_tup (h + 1) us) v' hp
    rw [decide_eq_false (show ¬ h = h + 1 by omega), Bool.false_and] at e2
    have hs2 : DS.small64 2 = true := by decide
    have q : F__law_same 8 [.lst [.tup [.int ((shr h ts).1 - 2 * (shr h ts).2), .int (shr h ts).2], .bl false], .lst [.tup [.int ((shr h ts).1 - 2 * (shr h ts).2), .int (shr h ts).2], .bl false]] hp = .ok (.bl true) hp :=
      same_ok hp 7 _ (.lst 6 _ (by simp) fun x hx => by
        simp at hx
        rcases hx with rfl | rfl
        · exact pl_pair 5 _ _
        · exact .bl _ _)
    exact if_ff (by simp (config := { failIfUnchanged := false }) only [DS.nxS, DS.bkS, DS.ctS, DS.badS, DS.retS, DS.retN, DS.exprS, DS.setS, DS.setL, DS.asgS, DS.gN, DS.gT, DS.gsN, DS.gsC, DS.op1, DS.op2, DS.op1L, DS.op2L, DS.oV, DS.oS, DS.var, DS.cst, DS.deref, DS.derefD, DS.ofL, DS.lstE, DS.evA, DS.tupE, DS.asB, DS.truT, DS.andT, DS.orT, DS.notT, DS.andE, DS.orE, DS.notE, DS.ifE, DS.chn, DS.sl, DS.slL, DS.part, DS.lcE, DS.lcL, DS.itA, DS.itE, DS.itZ, DS.par2, DS.evP, DS.setIx, DS.mutE, DS.lstTok, DS.updTok, DS.shr, DS.callE, DS.callKE, DS.runFn, DS.orL, DS.yesT, DS.noOwn, DS.addD, DS.subD, DS.mulD, DS.divD, DS.modD, DS.powD, DS.negD, DS.ltD, DS.leD, DS.gtD, DS.geD, DS.isN, DS.isntN, DS.notD, DS.ixD, DS.slD, DS.slLs, DS.lenD, DS.absD, DS.intD, DS.tupleD, DS.listL, DS.allD, DS.anyD, DS.sumD, DS.minD, DS.maxD, DS.sortedL, DS.truD, DS.isiD, DS.tyD, DS.gId, DS.wipeE, DS.restE, DS.R.bind_ok, DS.R.bind_exc, DS.R.bind_bad, DS.R.map_ok, DS.R.of_some, DS.R.of_none, Option.bind_some, Option.bind_none, Option.map_some, Option.map_none, List.getElem?_cons_zero, List.getElem?_cons_succ, List.getElem?_nil, List.set_cons_zero, List.set_cons_succ, List.length_cons, List.length_nil, List.map_cons, List.map_nil, Option.getD_some, Option.getD_none, List.cons_append, List.nil_append, List.replicate_succ, List.replicate_zero, Nat.reduceAdd, Nat.reduceSub, decide_eq_true_eq, Bool.and_eq_true, Bool.or_eq_true, if_true, if_false, Bool.not_eq_true', Bool.false_eq_true, reduceIte, DS.eqD_int, DS.neD_int, DS.eqD_bl, DS.neD_bl, ne_eq, not_false_eq_true, not_true_eq_false, true_and, and_true, true_or, or_true, false_or, or_false, and_self, Int.reduceEq, Int.reduceAbs, Nat.reduceLT, Int.reduceLT, Int.reduceLE, Int.reduceNeg, Nat.reduceEqDiff, decide_true, decide_false, Bool.not_true, Bool.not_false, atI0, h5, e1, e2, hs2, q] <;> rfl) (by simp (config := { failIfUnchanged := false }) only [DS.nxS, DS.bkS, DS.ctS, DS.badS, DS.retS, DS.retN, DS.exprS, DS.setS, DS.setL, DS.asgS, DS.gN, DS.gT, DS.gsN, DS.gsC, DS.op1, DS.op2, DS.op1L, DS.op2L, DS.oV, DS.oS, DS.var, DS.cst, DS.deref, DS.derefD, DS.ofL, DS.lstE, DS.evA, DS.tupE, DS.asB, DS.truT, DS.andT, DS.orT, DS.notT, DS.andE, DS.orE, DS.notE, DS.ifE, DS.chn, DS.sl, DS.slL, DS.part, DS.lcE, DS.lcL, DS.itA, DS.itE, DS.itZ, DS.par2, DS.evP, DS.setIx, DS.mutE, DS.lstTok, DS.updTok, DS.shr, DS.callE, DS.callKE, DS.runFn, DS.orL, DS.yesT, DS.noOwn, DS.addD, DS.subD, DS.mulD, DS.divD, DS.modD, DS.powD, DS.negD, DS.ltD, DS.leD, DS.gtD, DS.geD, DS.isN, DS.isntN, DS.notD, DS.ixD, DS.slD, DS.slLs, DS.lenD, DS.absD, DS.intD, DS.tupleD, DS.listL, DS.allD, DS.anyD, DS.sumD, DS.minD, DS.maxD, DS.sortedL, DS.truD, DS.isiD, DS.tyD, DS.gId, DS.wipeE, DS.restE, DS.R.bind_ok, DS.R.bind_exc, DS.R.bind_bad, DS.R.map_ok, DS.R.of_some, DS.R.of_none, Option.bind_some, Option.bind_none, Option.map_some, Option.map_none, List.getElem?_cons_zero, List.getElem?_cons_succ, List.getElem?_nil, List.set_cons_zero, List.set_cons_succ, List.length_cons, List.length_nil, List.map_cons, List.map_nil, Option.getD_some, Option.getD_none, List.cons_append, List.nil_append, List.replicate_succ, List.replicate_zero, Nat.reduceAdd, Nat.reduceSub, decide_eq_true_eq, Bool.and_eq_true, Bool.or_eq_true, if_true, if_false, Bool.not_eq_true', Bool.false_eq_true, reduceIte, DS.eqD_int, DS.neD_int, DS.eqD_bl, DS.neD_bl, ne_eq, not_false_eq_true, not_true_eq_false, true_and, and_true, true_or, or_true, false_or, or_false, and_self, Int.reduceEq, Int.reduceAbs, Nat.reduceLT, Int.reduceLT, Int.reduceLE, Int.reduceNeg, Nat.reduceEqDiff, decide_true, decide_false, Bool.not_true, Bool.not_false] <;> rfl)
  · exact if_ff (by simp (config := { failIfUnchanged := false }) only [DS.nxS, DS.bkS, DS.ctS, DS.badS, DS.retS, DS.retN, DS.exprS, DS.setS, DS.setL, DS.asgS, DS.gN, DS.gT, DS.gsN, DS.gsC, DS.op1, DS.op2, DS.op1L, DS.op2L, DS.oV, DS.oS, DS.var, DS.cst, DS.deref, DS.derefD, DS.ofL, DS.lstE, DS.evA, DS.tupE, DS.asB, DS.truT, DS.andT, DS.orT, DS.notT, DS.andE, DS.orE, DS.notE, DS.ifE, DS.chn, DS.sl, DS.slL, DS.part, DS.lcE, DS.lcL, DS.itA, DS.itE, DS.itZ, DS.par2, DS.evP, DS.setIx, DS.mutE, DS.lstTok, DS.updTok, DS.shr, DS.callE, DS.callKE, DS.runFn, DS.orL, DS.yesT, DS.noOwn, DS.addD, DS.subD, DS.mulD, DS.divD, DS.modD, DS.powD, DS.negD, DS.ltD, DS.leD, DS.gtD, DS.geD, DS.isN, DS.isntN, DS.notD, DS.ixD, DS.slD, DS.slLs, DS.lenD, DS.absD, DS.intD, DS.tupleD, DS.listL, DS.allD, DS.anyD, DS.sumD, DS.minD, DS.maxD, DS.sortedL, DS.truD, DS.isiD, DS.tyD, DS.gId, DS.wipeE, DS.restE, DS.R.bind_ok, DS.R.bind_exc, DS.R.bind_bad, DS.R.map_ok, DS.R.of_some, DS.R.of_none, Option.bind_some, Option.bind_none, Option.map_some, Option.map_none, List.getElem?_cons_zero, List.getElem?_cons_succ, List.getElem?_nil, List.set_cons_zero, List.set_cons_succ, List.length_cons, List.length_nil, List.map_cons, List.map_nil, Option.getD_some, Option.getD_none, List.cons_append, List.nil_append, List.replicate_succ, List.replicate_zero, Nat.reduceAdd, Nat.reduceSub, decide_eq_true_eq, Bool.and_eq_true, Bool.or_eq_true, if_true, if_false, Bool.not_eq_true', Bool.false_eq_true, reduceIte, DS.eqD_int, DS.neD_int, DS.eqD_bl, DS.neD_bl, ne_eq, not_false_eq_true, not_true_eq_false, true_and, and_true, true_or, or_true, false_or, or_false, and_self, Int.reduceEq, Int.reduceAbs, Nat.reduceLT, Int.reduceLT, Int.reduceLE, Int.reduceNeg, Nat.reduceEqDiff, decide_true, decide_false, Bool.not_true, Bool.not_false, atI0, h5] <;> rfl) (by simp (config := { failIfUnchanged := false }) only [DS.nxS, DS.bkS, DS.ctS, DS.badS, DS.retS, DS.retN, DS.exprS, DS.setS, DS.setL, DS.asgS, DS.gN, DS.gT, DS.gsN, DS.gsC, DS.op1, DS.op2, DS.op1L, DS.op2L, DS.oV, DS.oS, DS.var, DS.cst, DS.deref, DS.derefD, DS.ofL, DS.lstE, DS.evA, DS.tupE, DS.asB, DS.truT, DS.andT, DS.orT, DS.notT, DS.andE, DS.orE, DS.notE, DS.ifE, DS.chn, DS.sl, DS.slL, DS.part, DS.lcE, DS.lcL, DS.itA, DS.itE, DS.itZ, DS.par2, DS.evP, DS.setIx, DS.mutE, DS.lstTok, DS.updTok, DS.shr, DS.callE, DS.callKE, DS.runFn, DS.orL, DS.yesT, DS.noOwn, DS.addD, DS.subD, DS.mulD, DS.divD, DS.modD, DS.powD, DS.negD, DS.ltD, DS.leD, DS.gtD, DS.geD, DS.isN, DS.isntN, DS.notD, DS.ixD, DS.slD, DS.slLs, DS.lenD, DS.absD, DS.intD, DS.tupleD, DS.listL, DS.allD, DS.anyD, DS.sumD, DS.minD, DS.maxD, DS.sortedL, DS.truD, DS.isiD, DS.tyD, DS.gId, DS.wipeE, DS.restE, DS.R.bind_ok, DS.R.bind_exc, DS.R.bind_bad, DS.R.map_ok, DS.R.of_some, DS.R.of_none, Option.bind_some, Option.bind_none, Option.map_some, Option.map_none, List.getElem?_cons_zero, List.getElem?_cons_succ, List.getElem?_nil, List.set_cons_zero, List.set_cons_succ, List.length_cons, List.length_nil, List.map_cons, List.map_nil, Option.getD_some, Option.getD_none, List.cons_append, List.nil_append, List.replicate_succ, List.replicate_zero, Nat.reduceAdd, Nat.reduceSub, decide_eq_true_eq, Bool.and_eq_true, Bool.or_eq_true, if_true, if_false, Bool.not_eq_true', Bool.false_eq_true, reduceIte, DS.eqD_int, DS.neD_int, DS.eqD_bl, DS.neD_bl, ne_eq, not_false_eq_true, not_true_eq_false, true_and, and_true, true_or, or_true, false_or, or_false, and_self, Int.reduceEq, Int.reduceAbs, Nat.reduceLT, Int.reduceLT, Int.reduceLE, Int.reduceNeg, Nat.reduceEqDiff, decide_true, decide_false, Bool.not_true, Bool.not_false] <;> rfl)
theorem more_ok {h : Int} {ts us : List Int} (hb : Bx n hp) (hn : n < 3000) (v : Vs h ts) (p : us.Perm ts) (lap : Int) (sz : DS.Slot) (h3 : e3.isOwn = false) : ∃ e3' hp', e3'.isOwn = false ∧ Bx (n + 1) hp' ∧
    (ifS (asB (op2 ltD (oV (op1 lenD (oS 9))) (oV (cst (.int 8))))) (sqS (setS 3 (op2 addD (oV (cst (.int 2))) (oV (callE F__law_take [(var 1), (cst (.int 11))])))) (ifS (notT (truT (oV (callE (F__law_same 8) [(ofL (lstE [(callE F_sheet_share [(tupE [(op2 ixD (oS 5) (oV (cst (.int 0)))), (op2 addD (oS 9) (oV (tupE [(var 3)])))])]), (callE F_sheet_share [(tupE [(op2 ixD (oS 5) (oV (cst (.int 0)))), (op2 addD (oV (tupE [(cst (.int 0))])) (oS 9))])])])), (ofL (lstE [(callE F__law_slim [(op2 subD (oV (op2 mulD (oS 10) (oS 3))) (oV (op2 mulD (oS 11) (oV (op2 subD (oS 3) (oV (cst (.int 1)))))))), (op2 mulD (oS 11) (oS 3))]), (tupE [(op2 subD (oS 10) (oS 11)), (var 11)])]))])))) (retS (cst (.bl false))) nxS)) nxS) ⟨[s0, .v (.ref 0), .v (.int lap), e3, e4, .v (shD h ts), e6, e7, sz, .v (.tup (us.map .int)), .v (.int (shr h ts).1), .v (.int (shr h ts).2)], hp⟩ =
      .ok .nx ⟨[s0, .v (.ref 0), .v (.int lap), e3', e4, .v (shD h ts), e6, e7, sz, .v (.tup (us.map .int)), .v (.int (shr h ts).1), .v (.int (shr h ts).2)], hp'⟩ := by
  have v1 := v.perm p
  by_cases hl : (us.length : Int) < 8
  · obtain ⟨r, hp1, e, b, r0, r1⟩ := take_ok hb (by omega) 11 (by omega) (by omega)
    obtain ⟨b1, b2, b3⟩ := shr_bound v
    have hk : 0 < 2 + r := by omega
    have va : Vs h (us ++ [2 + r]) := ⟨v1.h0, v1.h5, by simp; omega, fun t ht => by
      rcases List.mem_append.mp ht with ht | ht
      · exact v1.a t ht
      · simp at ht
        unfold Sp'
        omega⟩
    have vb : Vs h (0 :: us) := ⟨v1.h0, v1.h5, by simp; omega, fun t ht => by
      rcases List.mem_cons.mp ht with ht | ht
      · exact .inl ht
      · exact v1.a t ht⟩
    have e1 := sheet_share_ok (shT_tup h (us ++ [2 + r])) va hp1
    rw [shr_snoc h us _ hk, shr_perm h p] at e1
    simp only [shD, List.map_append, List.map_cons, List.map_nil] at e1
    have e2 := sheet_share_ok (shT_tup h (0 :: us)) vb hp1
    rw [shr_zero, shr_perm h p] at e2
    simp only [shD, List.map_cons] at e2
    have hD : (shr h ts).2 * (2 + r) < 1073741824 := by
      have h1 := prodP_le (sp12 v.a)
      obtain ⟨g, hg, f1, f2, p', l, _⟩ := low_back (ovr h (prodP ts) ts) (prodP ts) (prodP_pos ts)
      have h2 : (12 : Int) ^ ts.length ≤ 12 ^ 7 := by
        have q1 : (12 : Nat) ^ ts.length ≤ 12 ^ 7 := Nat.pow_le_pow_right (by omega) (by rw [← p.length_eq]; omega)
        have q2 : ((12 ^ ts.length : Nat) : Int) ≤ ((12 ^ 7 : Nat) : Int) := by exact_mod_cast q1
        rw [Int.natCast_pow] at q2
        exact q2
      have h3 : (shr h ts).2 ≤ 35831808 := by
        show (low _ _).2 ≤ _
        omega
      have h4 : (shr h ts).2 * (2 + r) ≤ 35831808 * 12 := Int.mul_le_mul h3 (by omega) (by omega) (by omega)
      omega
    have hDp : 0 < (shr h ts).2 * (2 + r) := Int.mul_pos b1 hk
    have e3 := slim_ok ((shr h ts).1 * (2 + r) - (shr h ts).2 * (2 + r - 1)) ((shr h ts).2 * (2 + r)) hDp hD hp1
    have s1 : DS.small64 (2 + r) = true := sm_lit _ (by omega)
    have s2 : DS.small64 (2 + r - 1) = true := sm_lit _ (by omega)
    have c1 : us.length + 1 ≤ LIM := by unfold LIM; omega
    have c2 : 1 + us.length ≤ LIM := by unfold LIM; omega
    generalize low ((shr h ts).1 * (2 + r) - (shr h ts).2 * (2 + r - 1)) ((shr h ts).2 * (2 + r)) = lw at e1 e3
    have q : F__law_same 8 [.lst [.tup [.int lw.1, .int lw.2], .tup [.int ((shr h ts).1 - (shr h ts).2), .int (shr h ts).2]], .lst [.tup [.int lw.1, .int lw.2], .tup [.int ((shr h ts).1 - (shr h ts).2), .int (shr h ts).2]]] hp1 = .ok (.bl true) hp1 :=
      same_ok hp1 7 _ (.lst 6 _ (by simp) fun x hx => by
        simp at hx
        rcases hx with rfl | rfl
        · exact pl_pair 5 _ _
        · exact pl_pair 5 _ _)
    refine ⟨.v (.int (2 + r)), hp1, rfl, b, if_tt (by simp (config := { failIfUnchanged := false }) only [DS.nxS, DS.bkS, DS.ctS, DS.badS, DS.retS, DS.retN, DS.exprS, DS.setS, DS.setL, DS.asgS, DS.gN, DS.gT, DS.gsN, DS.gsC, DS.op1, DS.op2, DS.op1L, DS.op2L, DS.oV, DS.oS, DS.var, DS.cst, DS.deref, DS.derefD, DS.ofL, DS.lstE, DS.evA, DS.tupE, DS.asB, DS.truT, DS.andT, DS.orT, DS.notT, DS.andE, DS.orE, DS.notE, DS.ifE, DS.chn, DS.sl, DS.slL, DS.part, DS.lcE, DS.lcL, DS.itA, DS.itE, DS.itZ, DS.par2, DS.evP, DS.setIx, DS.mutE, DS.lstTok, DS.updTok, DS.shr, DS.callE, DS.callKE, DS.runFn, DS.orL, DS.yesT, DS.noOwn, DS.addD, DS.subD, DS.mulD, DS.divD, DS.modD, DS.powD, DS.negD, DS.ltD, DS.leD, DS.gtD, DS.geD, DS.isN, DS.isntN, DS.notD, DS.ixD, DS.slD, DS.slLs, DS.lenD, DS.absD, DS.intD, DS.tupleD, DS.listL, DS.allD, DS.anyD, DS.sumD, DS.minD, DS.maxD, DS.sortedL, DS.truD, DS.isiD, DS.tyD, DS.gId, DS.wipeE, DS.restE, DS.R.bind_ok, DS.R.bind_exc, DS.R.bind_bad, DS.R.map_ok, DS.R.of_some, DS.R.of_none, Option.bind_some, Option.bind_none, Option.map_some, Option.map_none, List.getElem?_cons_zero, List.getElem?_cons_succ, List.getElem?_nil, List.set_cons_zero, List.set_cons_succ, List.length_cons, List.length_nil, List.map_cons, List.map_nil, Option.getD_some, Option.getD_none, List.cons_append, List.nil_append, List.replicate_succ, List.replicate_zero, Nat.reduceAdd, Nat.reduceSub, decide_eq_true_eq, Bool.and_eq_true, Bool.or_eq_true, if_true, if_false, Bool.not_eq_true', Bool.false_eq_true, reduceIte, DS.eqD_int, DS.neD_int, DS.eqD_bl, DS.neD_bl, ne_eq, not_false_eq_true, not_true_eq_false, true_and, and_true, true_or, or_true, false_or, or_false, and_self, Int.reduceEq, Int.reduceAbs, Nat.reduceLT, Int.reduceLT, Int.reduceLE, Int.reduceNeg, Nat.reduceEqDiff, decide_true, decide_false, Bool.not_true, Bool.not_false, List.length_map, hl] <;> rfl) (sq_nx (s1 := ⟨[s0, .v (.ref 0), .v (.int lap), .v (.int (2 + r)), e4, .v (shD h ts), e6, e7, sz, .v (.tup (us.map .int)), .v (.int (shr h ts).1), .v (.int (shr h ts).2)], hp1⟩) (by simp (config := { failIfUnchanged := false }) only [DS.nxS, DS.bkS, DS.ctS, DS.badS, DS.retS, DS.retN, DS.exprS, DS.setS, DS.setL, DS.asgS, DS.gN, DS.gT, DS.gsN, DS.gsC, DS.op1, DS.op2, DS.op1L, DS.op2L, DS.oV, DS.oS, DS.var, DS.cst, DS.deref, DS.derefD, DS.ofL, DS.lstE, DS.evA, DS.tupE, DS.asB, DS.truT, DS.andT, DS.orT, DS.notT, DS.andE, DS.orE, DS.notE, DS.ifE, DS.chn, DS.sl, DS.slL, DS.part, DS.lcE, DS.lcL, DS.itA, DS.itE, DS.itZ, DS.par2, DS.evP, DS.setIx, DS.mutE, DS.lstTok, DS.updTok, DS.shr, DS.callE, DS.callKE, DS.runFn, DS.orL, DS.yesT, DS.noOwn, DS.addD, DS.subD, DS.mulD, DS.divD, DS.modD, DS.powD, DS.negD, DS.ltD, DS.leD, DS.gtD, DS.geD, DS.isN, DS.isntN, DS.notD, DS.ixD, DS.slD, DS.slLs, DS.lenD, DS.absD, DS.intD, DS.tupleD, DS.listL, DS.allD, DS.anyD, DS.sumD, DS.minD, DS.maxD, DS.sortedL, DS.truD, DS.isiD, DS.tyD, DS.gId, DS.wipeE, DS.restE, DS.R.bind_ok, DS.R.bind_exc, DS.R.bind_bad, DS.R.map_ok, DS.R.of_some, DS.R.of_none, Option.bind_some, Option.bind_none, Option.map_some, Option.map_none, List.getElem?_cons_zero, List.getElem?_cons_succ, List.getElem?_nil, List.set_cons_zero, List.set_cons_succ, List.length_cons, List.length_nil, List.map_cons, List.map_nil, Option.getD_some, Option.getD_none, List.cons_append, List.nil_append, List.replicate_succ, List.replicate_zero, Nat.reduceAdd, Nat.reduceSub, decide_eq_true_eq, Bool.and_eq_true, Bool.or_eq_true, if_true, if_false, Bool.not_eq_true', Bool.false_eq_true, reduceIte, DS.eqD_int, DS.neD_int, DS.eqD_bl, DS.neD_bl, ne_eq, not_false_eq_true, not_true_eq_false, true_and, and_true, true_or, or_true, false_or, or_false, and_self, Int.reduceEq, Int.reduceAbs, Nat.reduceLT, Int.reduceLT, Int.reduceLE, Int.reduceNeg, Nat.reduceEqDiff, decide_true, decide_false, Bool.not_true, Bool.not_false, e] <;> rfl) (if_ff (s1 := ⟨[s0, .v (.ref 0), .v (.int lap), .v (.int (2 + r)), e4, .v (shD h ts), e6, e7, sz, .v (.tup (us.map .int)), .v (.int (shr h ts).1), .v (.int (shr h ts).2)], hp1⟩) ?_ (by simp (config := { failIfUnchanged := false }) only [DS.nxS, DS.bkS, DS.ctS, DS.badS, DS.retS, DS.retN, DS.exprS, DS.setS, DS.setL, DS.asgS, DS.gN, DS.gT, DS.gsN, DS.gsC, DS.op1, DS.op2, DS.op1L, DS.op2L, DS.oV, DS.oS, DS.var, DS.cst, DS.deref, DS.derefD, DS.ofL, DS.lstE, DS.evA, DS.tupE, DS.asB, DS.truT, DS.andT, DS.orT, DS.notT, DS.andE, DS.orE, DS.notE, DS.ifE, DS.chn, DS.sl, DS.slL, DS.part, DS.lcE, DS.lcL, DS.itA, DS.itE, DS.itZ, DS.par2, DS.evP, DS.setIx, DS.mutE, DS.lstTok, DS.updTok, DS.shr, DS.callE, DS.callKE, DS.runFn, DS.orL, DS.yesT, DS.noOwn, DS.addD, DS.subD, DS.mulD, DS.divD, DS.modD, DS.powD, DS.negD, DS.ltD, DS.leD, DS.gtD, DS.geD, DS.isN, DS.isntN, DS.notD, DS.ixD, DS.slD, DS.slLs, DS.lenD, DS.absD, DS.intD, DS.tupleD, DS.listL, DS.allD, DS.anyD, DS.sumD, DS.minD, DS.maxD, DS.sortedL, DS.truD, DS.isiD, DS.tyD, DS.gId, DS.wipeE, DS.restE, DS.R.bind_ok, DS.R.bind_exc, DS.R.bind_bad, DS.R.map_ok, DS.R.of_some, DS.R.of_none, Option.bind_some, Option.bind_none, Option.map_some, Option.map_none, List.getElem?_cons_zero, List.getElem?_cons_succ, List.getElem?_nil, List.set_cons_zero, List.set_cons_succ, List.length_cons, List.length_nil, List.map_cons, List.map_nil, Option.getD_some, Option.getD_none, List.cons_append, List.nil_append, List.replicate_succ, List.replicate_zero, Nat.reduceAdd, Nat.reduceSub, decide_eq_true_eq, Bool.and_eq_true, Bool.or_eq_true, if_true, if_false, Bool.not_eq_true', Bool.false_eq_true, reduceIte, DS.eqD_int, DS.neD_int, DS.eqD_bl, DS.neD_bl, ne_eq, not_false_eq_true, not_true_eq_false, true_and, and_true, true_or, or_true, false_or, or_false, and_self, Int.reduceEq, Int.reduceAbs, Nat.reduceLT, Int.reduceLT, Int.reduceLE, Int.reduceNeg, Nat.reduceEqDiff, decide_true, decide_false, Bool.not_true, Bool.not_false] <;> rfl)))⟩
    simp (config := { failIfUnchanged := false }) only [DS.nxS, DS.bkS, DS.ctS, DS.badS, DS.retS, DS.retN, DS.exprS, DS.setS, DS.setL, DS.asgS, DS.gN, DS.gT, DS.gsN, DS.gsC, DS.op1, DS.op2, DS.op1L, DS.op2L, DS.oV, DS.oS, DS.var, DS.cst, DS.deref, DS.derefD, DS.ofL, DS.lstE, DS.evA, DS.tupE, DS.asB, DS.truT, DS.andT, DS.orT, DS.notT, DS.andE, DS.orE, DS.notE, DS.ifE, DS.chn, DS.sl, DS.slL, DS.part, DS.lcE, DS.lcL, DS.itA, DS.itE, DS.itZ, DS.par2, DS.evP, DS.setIx, DS.mutE, DS.lstTok, DS.updTok, DS.shr, DS.callE, DS.callKE, DS.runFn, DS.orL, DS.yesT, DS.noOwn, DS.addD, DS.subD, DS.mulD, DS.divD, DS.modD, DS.powD, DS.negD, DS.ltD, DS.leD, DS.gtD, DS.geD, DS.isN, DS.isntN, DS.notD, DS.ixD, DS.slD, DS.slLs, DS.lenD, DS.absD, DS.intD, DS.tupleD, DS.listL, DS.allD, DS.anyD, DS.sumD, DS.minD, DS.maxD, DS.sortedL, DS.truD, DS.isiD, DS.tyD, DS.gId, DS.wipeE, DS.restE, DS.R.bind_ok, DS.R.bind_exc, DS.R.bind_bad, DS.R.map_ok, DS.R.of_some, DS.R.of_none, Option.bind_some, Option.bind_none, Option.map_some, Option.map_none, List.getElem?_cons_zero, List.getElem?_cons_succ, List.getElem?_nil, List.set_cons_zero, List.set_cons_succ, List.length_cons, List.length_nil, List.map_cons, List.map_nil, Option.getD_some, Option.getD_none, List.cons_append, List.nil_append, List.replicate_succ, List.replicate_zero, Nat.reduceAdd, Nat.reduceSub, decide_eq_true_eq, Bool.and_eq_true, Bool.or_eq_true, if_true, if_false, Bool.not_eq_true', Bool.false_eq_true, reduceIte, DS.eqD_int, DS.neD_int, DS.eqD_bl, DS.neD_bl, ne_eq, not_false_eq_true, not_true_eq_false, true_and, and_true, true_or, or_true, false_or, or_false, and_self, Int.reduceEq, Int.reduceAbs, Nat.reduceLT, Int.reduceLT, Int.reduceLE, Int.reduceNeg, Nat.reduceEqDiff, decide_true, decide_false, Bool.not_true, Bool.not_false, atI0, List.length_map, c1, c2, e1, e2, e3, s1, s2, q]
  · exact ⟨e3, hp, h3, hb.mono (by omega), if_ff (by simp (config := { failIfUnchanged := false }) only [DS.nxS, DS.bkS, DS.ctS, DS.badS, DS.retS, DS.retN, DS.exprS, DS.setS, DS.setL, DS.asgS, DS.gN, DS.gT, DS.gsN, DS.gsC, DS.op1, DS.op2, DS.op1L, DS.op2L, DS.oV, DS.oS, DS.var, DS.cst, DS.deref, DS.derefD, DS.ofL, DS.lstE, DS.evA, DS.tupE, DS.asB, DS.truT, DS.andT, DS.orT, DS.notT, DS.andE, DS.orE, DS.notE, DS.ifE, DS.chn, DS.sl, DS.slL, DS.part, DS.lcE, DS.lcL, DS.itA, DS.itE, DS.itZ, DS.par2, DS.evP, DS.setIx, DS.mutE, DS.lstTok, DS.updTok, DS.shr, DS.callE, DS.callKE, DS.runFn, DS.orL, DS.yesT, DS.noOwn, DS.addD, DS.subD, DS.mulD, DS.divD, DS.modD, DS.powD, DS.negD, DS.ltD, DS.leD, DS.gtD, DS.geD, DS.isN, DS.isntN, DS.notD, DS.ixD, DS.slD, DS.slLs, DS.lenD, DS.absD, DS.intD, DS.tupleD, DS.listL, DS.allD, DS.anyD, DS.sumD, DS.minD, DS.maxD, DS.sortedL, DS.truD, DS.isiD, DS.tyD, DS.gId, DS.wipeE, DS.restE, DS.R.bind_ok, DS.R.bind_exc, DS.R.bind_bad, DS.R.map_ok, DS.R.of_some, DS.R.of_none, Option.bind_some, Option.bind_none, Option.map_some, Option.map_none, List.getElem?_cons_zero, List.getElem?_cons_succ, List.getElem?_nil, List.set_cons_zero, List.set_cons_succ, List.length_cons, List.length_nil, List.map_cons, List.map_nil, Option.getD_some, Option.getD_none, List.cons_append, List.nil_append, List.replicate_succ, List.replicate_zero, Nat.reduceAdd, Nat.reduceSub, decide_eq_true_eq, Bool.and_eq_true, Bool.or_eq_true, if_true, if_false, Bool.not_eq_true', Bool.false_eq_true, reduceIte, DS.eqD_int, DS.neD_int, DS.eqD_bl, DS.neD_bl, ne_eq, not_false_eq_true, not_true_eq_false, true_and, and_true, true_or, or_true, false_or, or_false, and_self, Int.reduceEq, Int.reduceAbs, Nat.reduceLT, Int.reduceLT, Int.reduceLE, Int.reduceNeg, Nat.reduceEqDiff, decide_true, decide_false, Bool.not_true, Bool.not_false, List.length_map, hl] <;> rfl) (by simp (config := { failIfUnchanged := false }) only [DS.nxS, DS.bkS, DS.ctS, DS.badS, DS.retS, DS.retN, DS.exprS, DS.setS, DS.setL, DS.asgS, DS.gN, DS.gT, DS.gsN, DS.gsC, DS.op1, DS.op2, DS.op1L, DS.op2L, DS.oV, DS.oS, DS.var, DS.cst, DS.deref, DS.derefD, DS.ofL, DS.lstE, DS.evA, DS.tupE, DS.asB, DS.truT, DS.andT, DS.orT, DS.notT, DS.andE, DS.orE, DS.notE, DS.ifE, DS.chn, DS.sl, DS.slL, DS.part, DS.lcE, DS.lcL, DS.itA, DS.itE, DS.itZ, DS.par2, DS.evP, DS.setIx, DS.mutE, DS.lstTok, DS.updTok, DS.shr, DS.callE, DS.callKE, DS.runFn, DS.orL, DS.yesT, DS.noOwn, DS.addD, DS.subD, DS.mulD, DS.divD, DS.modD, DS.powD, DS.negD, DS.ltD, DS.leD, DS.gtD, DS.geD, DS.isN, DS.isntN, DS.notD, DS.ixD, DS.slD, DS.slLs, DS.lenD, DS.absD, DS.intD, DS.tupleD, DS.listL, DS.allD, DS.anyD, DS.sumD, DS.minD, DS.maxD, DS.sortedL, DS.truD, DS.isiD, DS.tyD, DS.gId, DS.wipeE, DS.restE, DS.R.bind_ok, DS.R.bind_exc, DS.R.bind_bad, DS.R.map_ok, DS.R.of_some, DS.R.of_none, Option.bind_some, Option.bind_none, Option.map_some, Option.map_none, List.getElem?_cons_zero, List.getElem?_cons_succ, List.getElem?_nil, List.set_cons_zero, List.set_cons_succ, List.length_cons, List.length_nil, List.map_cons, List.map_nil, Option.getD_some, Option.getD_none, List.cons_append, List.nil_append, List.replicate_succ, List.replicate_zero, Nat.reduceAdd, Nat.reduceSub, decide_eq_true_eq, Bool.and_eq_true, Bool.or_eq_true, if_true, if_false, Bool.not_eq_true', Bool.false_eq_true, reduceIte, DS.eqD_int, DS.neD_int, DS.eqD_bl, DS.neD_bl, ne_eq, not_false_eq_true, not_true_eq_false, true_and, and_true, true_or, or_true, false_or, or_false, and_self, Int.reduceEq, Int.reduceAbs, Nat.reduceLT, Int.reduceLT, Int.reduceLE, Int.reduceNeg, Nat.reduceEqDiff, decide_true, decide_false, Bool.not_true, Bool.not_false] <;> rfl)⟩
end L30
namespace L30
open PySem PySem.Spec PyProof.Rows L2 DS
variable {s0 e2 e3 e4 e5 e6 e7 e8 e9 e10 e11 : DS.Slot} {hp : List Ob} {n : Nat}
theorem lap_ok (hb : Bx n hp) (hn : n < 2000) (lap : Int) (h3 : e3.isOwn = false) : ∃ (e3' e4' e5' e6' e7' e8' e9' e10' e11' : DS.Slot) (hp' : List Ob), e3'.isOwn = false ∧ Bx (n + 100) hp' ∧
    (sqS (setS 5 (ifE (asB (op2 eqD (oS 2) (oV (cst (.int 0))))) (tupE [(cst (.int 0)), (tupE [(cst (.int 2)), (cst (.int 3)), (cst (.int 7))])]) (callE F__law_sheet [(var 1), (cst (.int 5)), (cst (.int 8)), (cst (.int 12))]))) (sqS (ifS (asB (op2 eqD (oS 2) (oV (cst (.int 1))))) (setS 5 (tupE [(cst (.int 0)), (op1 tupleD (oV (ofL (lcE (itR1 (callE F__law_take [(var 1), (cst (.int 4))])) (gN 3) [3] yesT (callE F__law_turn [(var 1), (cst (.int 12))])))))])) nxS) (sqS (asgS (callE F__law_share [(var 5)]) (gT 2 (gsC (gN 10) (gsC (gN 11) gsN)))) (sqS (setS 6 (callE F__law_odd [(var 5)])) (sqS (setS 7 (ifE (truT (oS 6)) (cst (.str "odd")) (ifE (asB (op2 gtD (oS 10) (oV (cst (.int 0))))) (cst (.str "finite")) (ifE (asB (op2 eqD (oS 10) (oV (cst (.int 0))))) (cst (.str "flat")) (cst (.str "bent")))))) (sqS (setS 8 (ifE (asB (op2 gtD (oS 10) (oV (cst (.int 0))))) (op2 divD (oV (op2 mulD (oV (cst (.int 2))) (oS 11))) (oS 10)) (cst .non))) (sqS (ifS (truT (oS 6)) (setS 8 (ifE (asB (op2 eqD (oV (op1 lenD (oV (op2 ixD (oS 5) (oV (cst (.int 1))))))) (oV (cst (.int 1))))) (cst (.int 1)) (callE F__law_common [(op2 ixD (oV (op2 ixD (oS 5) (oV (cst (.int 1))))) (oV (cst (.int 0)))), (op2 ixD (oV (op2 ixD (oS 5) (oV (cst (.int 1))))) (oV (cst (.int 1))))]))) nxS) (sqS (setS 4 (ofL (lstE [(callKE F_is_sheet (gId 0 1) [] [(var 5)]), (callKE F_sheet_share (gId 0 1) [] [(callE (F__law_lists 8) [(var 5)])]), (callKE F_sheet_kind (gId 0 1) [] [(var 5)]), (callKE F_sheet_size (gId 0 1) [] [(var 5)])]))) (sqS (ifS (notT (truT (oV (callE (F__law_same 8) [(var 4), (ofL (lstE [(cst (.bl true)), (tupE [(var 10), (var 11)]), (var 7), (var 8)]))])))) (retS (cst (.bl false))) nxS) (sqS (setS 9 (op1 tupleD (oV (callE F__law_pick [(var 1), (ofL (op1L listL (oV (op2 ixD (oS 5) (oV (cst (.int 1))))))), (op1 lenD (oV (op2 ixD (oS 5) (oV (cst (.int 1))))))])))) (sqS (setS 4 (ofL (lstE [(callE F_sheet_share [(tupE [(op2 ixD (oS 5) (oV (cst (.int 0)))), (var 9)])]), (callKE F_are_like_sheets (gId 0 2) [] [(var 5), (tupE [(op2 ixD (oS 5) (oV (cst (.int 0)))), (var 9)])]), (callE F_sheet_size [(tupE [(op2 ixD (oS 5) (oV (cst (.int 0)))), (var 9)])])]))) (sqS (ifS (notT (truT (oV (callE (F__law_same 8) [(var 4), (ofL (lstE [(tupE [(var 10), (var 11)]), (cst (.bl true)), (var 8)]))])))) (retS (cst (.bl false))) nxS) (sqS (ifS (andT (asB (op2 ltD (oV (op2 ixD (oS 5) (oV (cst (.int 0))))) (oV (cst (.int 5))))) (notT (truT (oV (callE (F__law_same 8) [(ofL (lstE [(callE F_sheet_share [(tupE [(op2 addD (oV (op2 ixD (oS 5) (oV (cst (.int 0))))) (oV (cst (.int 1)))), (var 9)])]), (callE F_are_like_sheets [(var 5), (tupE [(op2 addD (oV (op2 ixD (oS 5) (oV (cst (.int 0))))) (oV (cst (.int 1)))), (var 9)])])])), (ofL (lstE [(tupE [(op2 subD (oS 10) (oV (op2 mulD (oV (cst (.int 2))) (oS 11)))), (var 11)]), (cst (.bl false))]))]))))) (retS (cst (.bl false))) nxS) (ifS (asB (op2 ltD (oV (op1 lenD (oS 9))) (oV (cst (.int 8))))) (sqS (setS 3 (op2 addD (oV (cst (.int 2))) (oV (callE F__law_take [(var 1), (cst (.int 11))])))) (ifS (notT (truT (oV (callE (F__law_same 8) [(ofL (lstE [(callE F_sheet_share [(tupE [(op2 ixD (oS 5) (oV (cst (.int 0)))), (op2 addD (oS 9) (oV (tupE [(var 3)])))])]), (callE F_sheet_share [(tupE [(op2 ixD (oS 5) (oV (cst (.int 0)))), (op2 addD (oV (tupE [(cst (.int 0))])) (oS 9))])])])), (ofL (lstE [(callE F__law_slim [(op2 subD (oV (op2 mulD (oS 10) (oS 3))) (oV (op2 mulD (oS 11) (oV (op2 subD (oS 3) (oV (cst (.int 1)))))))), (op2 mulD (oS 11) (oS 3))]), (tupE [(op2 subD (oS 10) (oS 11)), (var 11)])]))])))) (retS (cst (.bl false))) nxS)) nxS)))))))))))))) ⟨[s0, .v (.ref 0), .v (.int lap), e3, e4, e5, e6, e7, e8, e9, e10, e11], hp⟩ = .ok .nx ⟨[s0, .v (.ref 0), .v (.int lap), e3', e4', e5', e6', e7', e8', e9', e10', e11'], hp'⟩ := by
  obtain ⟨h, ts, hp1, s1, v, b1, d0, d1⟩ := draw_ok (s0 := s0) (e4 := e4) (e5 := e5) (e6 := e6) (e7 := e7) (e8 := e8) (e9 := e9) (e10 := e10) (e11 := e11) hb hn lap h3
  obtain ⟨s2, s3, s4, s5, w1, w2, w3, w4, w5⟩ := work_ok (s0 := s0) (e3 := e3) (e4 := e4) (e6 := e6) (e7 := e7) (e8 := e8) (e9 := e9) (e10 := e10) (e11 := e11) (hp := hp1) v lap
  obtain ⟨us, hp2, b2, p, o1⟩ := order_ok (s0 := s0) (e3 := e3) (e4 := .v (.lst [.bl true, .tup [.int (shr h ts).1, .int (shr h ts).2], .str (kindS h ts), sizeD h ts])) (e6 := .v (.bl (oddB h ts))) (e7 := .v (.str (kindS h ts))) (e8 := .v (sizeD h ts)) (e9 := e9) (e10 := .v (.int (shr h ts).1)) (e11 := .v (.int (shr h ts).2)) b1 (by omega) v lap
  obtain ⟨e3', hp3, q3, b3, m1⟩ := more_ok (s0 := s0) (e3 := e3) (e4 := .v (.lst [.tup [.int (shr h ts).1, .int (shr h ts).2], .bl true, sizeD h ts])) (e6 := .v (.bl (oddB h ts))) (e7 := .v (.str (kindS h ts))) b2 (by omega) v p lap (.v (sizeD h ts)) h3
  exact ⟨_, _, _, _, _, _, _, _, _, hp3, q3, b3.mono (by omega), sq_nx d0 (sq_nx d1 (sq_nx w1 (sq_nx w2 (sq_nx w3 (sq_nx w4 (sq_nx w5 (sq_nx (ask1_ok v lap _) (sq_nx (test1_ok lap _) (sq_nx o1 (sq_nx (ask2_ok v p lap) (sq_nx (test2_ok lap _ _ _) (sq_nx (up_ok v p lap _) m1))))))))))))⟩
theorem laps_ok : ∀ (is : List Int) (n : Nat) (hp : List Ob) (e2 e3 e4 e5 e6 e7 e8 e9 e10 e11 : DS.Slot), Bx n hp → n + 100 * is.length < 2000 → e3.isOwn = false → ∃ (e2' e3' e4' e5' e6' e7' e8' e9' e10' e11' : DS.Slot) (hp' : List Ob),
    forL (gN 2) (sqS (setS 5 (ifE (asB (op2 eqD (oS 2) (oV (cst (.int 0))))) (tupE [(cst (.int 0)), (tupE [(cst (.int 2)), (cst (.int 3)), (cst (.int 7))])]) (callE F__law_sheet [(var 1), (cst (.int 5)), (cst (.int 8)), (cst (.int 12))]))) (sqS (ifS (asB (op2 eqD (oS 2) (oV (cst (.int 1))))) (setS 5 (tupE [(cst (.int 0)), (op1 tupleD (oV (ofL (lcE (itR1 (callE F__law_take [(var 1), (cst (.int 4))])) (gN 3) [3] yesT (callE F__law_turn [(var 1), (cst (.int 12))])))))])) nxS) (sqS (asgS (callE F__law_share [(var 5)]) (gT 2 (gsC (gN 10) (gsC (gN 11) gsN)))) (sqS (setS 6 (callE F__law_odd [(var 5)])) (sqS (setS 7 (ifE (truT (oS 6)) (cst (.str "odd")) (ifE (asB (op2 gtD (oS 10) (oV (cst (.int 0))))) (cst (.str "finite")) (ifE (asB (op2 eqD (oS 10) (oV (cst (.int 0))))) (cst (.str "flat")) (cst (.str "bent")))))) (sqS (setS 8 (ifE (asB (op2 gtD (oS 10) (oV (cst (.int 0))))) (op2 divD (oV (op2 mulD (oV (cst (.int 2))) (oS 11))) (oS 10)) (cst .non))) (sqS (ifS (truT (oS 6)) (setS 8 (ifE (asB (op2 eqD (oV (op1 lenD (oV (op2 ixD (oS 5) (oV (cst (.int 1))))))) (oV (cst (.int 1))))) (cst (.int 1)) (callE F__law_common [(op2 ixD (oV (op2 ixD (oS 5) (oV (cst (.int 1))))) (oV (cst (.int 0)))), (op2 ixD (oV (op2 ixD (oS 5) (oV (cst (.int 1))))) (oV (cst (.int 1))))]))) nxS) (sqS (setS 4 (ofL (lstE [(callKE F_is_sheet (gId 0 1) [] [(var 5)]), (callKE F_sheet_share (gId 0 1) [] [(callE (F__law_lists 8) [(var 5)])]), (callKE F_sheet_kind (gId 0 1) [] [(var 5)]), (callKE F_sheet_size (gId 0 1) [] [(var 5)])]))) (sqS (ifS (notT (truT (oV (callE (F__law_same 8) [(var 4), (ofL (lstE [(cst (.bl true)), (tupE [(var 10), (var 11)]), (var 7), (var 8)]))])))) (retS (cst (.bl false))) nxS) (sqS (setS 9 (op1 tupleD (oV (callE F__law_pick [(var 1), (ofL (op1L listL (oV (op2 ixD (oS 5) (oV (cst (.int 1))))))), (op1 lenD (oV (op2 ixD (oS 5) (oV (cst (.int 1))))))])))) (sqS (setS 4 (ofL (lstE [(callE F_sheet_share [(tupE [(op2 ixD (oS 5) (oV (cst (.int 0)))), (var 9)])]), (callKE F_are_like_sheets (gId 0 2) [] [(var 5), (tupE [(op2 ixD (oS 5) (oV (cst (.int 0)))), (var 9)])]), (callE F_sheet_size [(tupE [(op2 ixD (oS 5) (oV (cst (.int 0)))), (var 9)])])]))) (sqS (ifS (notT (truT (oV (callE (F__law_same 8) [(var 4), (ofL (lstE [(tupE [(var 10), (var 11)]), (cst (.bl true)), (var 8)]))])))) (retS (cst (.bl false))) nxS) (sqS (ifS (andT (asB (op2 ltD (oV (op2 ixD (oS 5) (oV (cst (.int 0))))) (oV (cst (.int 5))))) (notT (truT (oV (callE (F__law_same 8) [(ofL (lstE [(callE F_sheet_share [(tupE [(op2 addD (oV (op2 ixD (oS 5) (oV (cst (.int 0))))) (oV (cst (.int 1)))), (var 9)])]), (callE F_are_like_sheets [(var 5), (tupE [(op2 addD (oV (op2 ixD (oS 5) (oV (cst (.int 0))))) (oV (cst (.int 1)))), (var 9)])])])), (ofL (lstE [(tupE [(op2 subD (oS 10) (oV (op2 mulD (oV (cst (.int 2))) (oS 11)))), (var 11)]), (cst (.bl false))]))]))))) (retS (cst (.bl false))) nxS) (ifS (asB (op2 ltD (oV (op1 lenD (oS 9))) (oV (cst (.int 8))))) (sqS (setS 3 (op2 addD (oV (cst (.int 2))) (oV (callE F__law_take [(var 1), (cst (.int 11))])))) (ifS (notT (truT (oV (callE (F__law_same 8) [(ofL (lstE [(callE F_sheet_share [(tupE [(op2 ixD (oS 5) (oV (cst (.int 0)))), (op2 addD (oS 9) (oV (tupE [(var 3)])))])]), (callE F_sheet_share [(tupE [(op2 ixD (oS 5) (oV (cst (.int 0)))), (op2 addD (oV (tupE [(cst (.int 0))])) (oS 9))])])])), (ofL (lstE [(callE F__law_slim [(op2 subD (oV (op2 mulD (oS 10) (oS 3))) (oV (op2 mulD (oS 11) (oV (op2 subD (oS 3) (oV (cst (.int 1)))))))), (op2 mulD (oS 11) (oS 3))]), (tupE [(op2 subD (oS 10) (oS 11)), (var 11)])]))])))) (retS (cst (.bl false))) nxS)) nxS)))))))))))))) (is.map .int) ⟨[s0, .v (.ref 0), e2, e3, e4, e5, e6, e7, e8, e9, e10, e11], hp⟩ = .ok .nx ⟨[s0, .v (.ref 0), e2', e3', e4', e5', e6', e7', e8', e9', e10', e11'], hp'⟩
  | [], n, hp, e2, e3, e4, e5, e6, e7, e8, e9, e10, e11, _, _, _ => ⟨_, _, _, _, _, _, _, _, _, _, _, rfl⟩
  | i :: is, n, hp, e2, e3, e4, e5, e6, e7, e8, e9, e10, e11, hb, hn, h3 => by
    simp only [List.length_cons] at hn
    obtain ⟨f3, f4, f5, f6, f7, f8, f9, f10, f11, hp1, q, b, e⟩ := lap_ok (s0 := s0) (e4 := e4) (e5 := e5) (e6 := e6) (e7 := e7) (e8 := e8) (e9 := e9) (e10 := e10) (e11 := e11) hb (by omega) i h3
    obtain ⟨g2, g3, g4, g5, g6, g7, g8, g9, g10, g11, hp2, ih⟩ := laps_ok is (n + 100) hp1 (.v (.int i)) f3 f4 f5 f6 f7 f8 f9 f10 f11 b (by omega) q
    exact ⟨g2, g3, g4, g5, g6, g7, g8, g9, g10, g11, hp2, Eq.trans (forL_cons (s1 := ⟨[s0, .v (.ref 0), .v (.int i), e3, e4, e5, e6, e7, e8, e9, e10, e11], hp⟩) (by simp (config := { failIfUnchanged := false }) only [DS.nxS, DS.bkS, DS.ctS, DS.badS, DS.retS, DS.retN, DS.exprS, DS.setS, DS.setL, DS.asgS, DS.gN, DS.gT, DS.gsN, DS.gsC, DS.op1, DS.op2, DS.op1L, DS.op2L, DS.oV, DS.oS, DS.var, DS.cst, DS.deref, DS.derefD, DS.ofL, DS.lstE, DS.evA, DS.tupE, DS.asB, DS.truT, DS.andT, DS.orT, DS.notT, DS.andE, DS.orE, DS.notE, DS.ifE, DS.chn, DS.sl, DS.slL, DS.part, DS.lcE, DS.lcL, DS.itA, DS.itE, DS.itZ, DS.par2, DS.evP, DS.setIx, DS.mutE, DS.lstTok, DS.updTok, DS.shr, DS.callE, DS.callKE, DS.runFn, DS.orL, DS.yesT, DS.noOwn, DS.addD, DS.subD, DS.mulD, DS.divD, DS.modD, DS.powD, DS.negD, DS.ltD, DS.leD, DS.gtD, DS.geD, DS.isN, DS.isntN, DS.notD, DS.ixD, DS.slD, DS.slLs, DS.lenD, DS.absD, DS.intD, DS.tupleD, DS.listL, DS.allD, DS.anyD, DS.sumD, DS.minD, DS.maxD, DS.sortedL, DS.truD, DS.isiD, DS.tyD, DS.gId, DS.wipeE, DS.restE, DS.R.bind_ok, DS.R.bind_exc, DS.R.bind_bad, DS.R.map_ok, DS.R.of_some, DS.R.of_none, Option.bind_some, Option.bind_none, Option.map_some, Option.map_none, List.getElem?_cons_zero, List.getElem?_cons_succ, List.getElem?_nil, List.set_cons_zero, List.set_cons_succ, List.length_cons, List.length_nil, List.map_cons, List.map_nil, Option.getD_some, Option.getD_none, List.cons_append, List.nil_append, List.replicate_succ, List.replicate_zero, Nat.reduceAdd, Nat.reduceSub, decide_eq_true_eq, Bool.and_eq_true, Bool.or_eq_true, if_true, if_false, Bool.not_eq_true', Bool.false_eq_true, reduceIte, DS.eqD_int, DS.neD_int, DS.eqD_bl, DS.neD_bl, ne_eq, not_false_eq_true, not_true_eq_false, true_and, and_true, true_or, or_true, false_or, or_false, and_self, Int.reduceEq, Int.reduceAbs, Nat.reduceLT, Int.reduceLT, Int.reduceLE, Int.reduceNeg, Nat.reduceEqDiff, decide_true, decide_false, Bool.not_true, Bool.not_false] <;> rfl) e) ih⟩
theorem size_is {h : Int} {ts : List Int} {a b c : Int} (ho : oddB h ts = false) (hs : shr h ts = (a, b)) (ha : 0 < a) (hc : 2 * b / a = c) : sizeD h ts = .int c := by
  unfold sizeD
  rw [ho, hs]
  simp [ha, hc]
theorem known (k : Int) (h1 : 2 ≤ k) (h2 : k ≤ 12) : sizeD 0 [2, k, 2] = .int (2 * k) ∧ sizeD 0 [k, k] = .int k ∧ kindS 0 [k, 2, 2] = "finite" := by
  have hk : k = 2 ∨ k = 3 ∨ k = 4 ∨ k = 5 ∨ k = 6 ∨ k = 7 ∨ k = 8 ∨ k = 9 ∨ k = 10 ∨ k = 11 ∨ k = 12 := by omega
  have fin : ∀ ts : List Int, oddB 0 ts = false → 0 < (shr 0 ts).1 → kindS 0 ts = "finite" := fun ts h1 h2 => by
    unfold kindS
    rw [h1, if_neg (by simp), if_pos h2]
  rcases hk with rfl | rfl | rfl | rfl | rfl | rfl | rfl | rfl | rfl | rfl | rfl <;>
    exact ⟨size_is (by decide +kernel) (show shr 0 _ = ((shr 0 _).1, (shr 0 _).2) from rfl) (by decide +kernel) (by decide +kernel), size_is (by decide +kernel) (show shr 0 _ = ((shr 0 _).1, (shr 0 _).2) from rfl) (by decide +kernel) (by decide +kernel), fin _ (by decide +kernel) (by decide +kernel)⟩
theorem vs3 {a b c : Int} (ha : Sp' a) (hb : Sp' b) (hc : Sp' c) : Vs 0 [a, b, c] := ⟨by decide, by decide, by simp, fun t ht => by
  simp at ht
  rcases ht with rfl | rfl | rfl <;> assumption⟩
theorem vs2 {a b : Int} (ha : Sp' a) (hb : Sp' b) : Vs 0 [a, b] := ⟨by decide, by decide, by simp, fun t ht => by
  simp at ht
  rcases ht with rfl | rfl <;> assumption⟩
end L30
namespace L30
open PySem PySem.Spec PyProof.Rows L2 DS
variable {s0 e2 e3 e4 e5 e6 e7 e8 e9 e10 e11 : DS.Slot} {hp : List Ob} {n : Nat}
theorem k_ok (k : Int) (h1 : 2 ≤ k) (h2 : k ≤ 12) : (ifS (notT (truT (oV (callE (F__law_same 8) [(ofL (lstE [(callE F_sheet_size [(tupE [(cst (.int 0)), (tupE [(cst (.int 2)), (var 3), (cst (.int 2))])])]), (callE F_sheet_size [(tupE [(cst (.int 0)), (tupE [(var 3), (var 3)])])]), (callE F_sheet_kind [(tupE [(cst (.int 0)), (tupE [(var 3), (cst (.int 2)), (cst (.int 2))])])])])), (ofL (lstE [(op2 mulD (oV (cst (.int 2))) (oS 3)), (var 3), (cst (.str "finite"))]))])))) (retS (cst (.bl false))) nxS) ⟨[s0, .v (.ref 0), e2, .v (.int k), e4, e5, e6, e7, e8, e9, e10, e11], hp⟩ = .ok .nx ⟨[s0, .v (.ref 0), e2, .v (.int k), e4, e5, e6, e7, e8, e9, e10, e11], hp⟩ := by
  have s2 : Sp' 2 := .inr (by decide)
  have sk : Sp' k := .inr ⟨h1, h2⟩
  obtain ⟨k1, k2, k3⟩ := known k h1 h2
  have e1 : F_sheet_size [.tup [.int 0, .tup [.int 2, .int k, .int 2]]] hp = .ok (sizeD 0 [2, k, 2]) hp := sheet_size_ok (shT_tup 0 [2, k, 2]) (vs3 s2 sk s2) hp
  have e2 : F_sheet_size [.tup [.int 0, .tup [.int k, .int k]]] hp = .ok (sizeD 0 [k, k]) hp := sheet_size_ok (shT_tup 0 [k, k]) (vs2 sk sk) hp
  have e3 : F_sheet_kind [.tup [.int 0, .tup [.int k, .int 2, .int 2]]] hp = .ok (.str (kindS 0 [k, 2, 2])) hp := sheet_kind_ok (shT_tup 0 [k, 2, 2]) (vs3 sk s2 s2) hp
  rw [k1] at e1
  rw [k2] at e2
  rw [k3] at e3
  have hs2 : DS.small64 2 = true := by decide
  have q : F__law_same 8 [.lst [.int (2 * k), .int k, .str "finite"], .lst [.int (2 * k), .int k, .str "finite"]] hp = .ok (.bl true) hp :=
    same_ok hp 7 _ (.lst 6 _ (by simp) fun x hx => by
      simp at hx
      rcases hx with rfl | rfl | rfl
      · exact .int _ _
      · exact .int _ _
      · exact .str _ _ (by decide +kernel))
  exact if_ff (by simp (config := { failIfUnchanged := false }) only [DS.nxS, DS.bkS, DS.ctS, DS.badS, DS.retS, DS.retN, DS.exprS, DS.setS, DS.setL, DS.asgS, DS.gN, DS.gT, DS.gsN, DS.gsC, DS.op1, DS.op2, DS.op1L, DS.op2L, DS.oV, DS.oS, DS.var, DS.cst, DS.deref, DS.derefD, DS.ofL, DS.lstE, DS.evA, DS.tupE, DS.asB, DS.truT, DS.andT, DS.orT, DS.notT, DS.andE, DS.orE, DS.notE, DS.ifE, DS.chn, DS.sl, DS.slL, DS.part, DS.lcE, DS.lcL, DS.itA, DS.itE, DS.itZ, DS.par2, DS.evP, DS.setIx, DS.mutE, DS.lstTok, DS.updTok, DS.shr, DS.callE, DS.callKE, DS.runFn, DS.orL, DS.yesT, DS.noOwn, DS.addD, DS.subD, DS.mulD, DS.divD, DS.modD, DS.powD, DS.negD, DS.ltD, DS.leD, DS.gtD, DS.geD, DS.isN, DS.isntN, DS.notD, DS.ixD, DS.slD, DS.slLs, DS.lenD, DS.absD, DS.intD, DS.tupleD, DS.listL, DS.allD, DS.anyD, DS.sumD, DS.minD, DS.maxD, DS.sortedL, DS.truD, DS.isiD, DS.tyD, DS.gId, DS.wipeE, DS.restE, DS.R.bind_ok, DS.R.bind_exc, DS.R.bind_bad, DS.R.map_ok, DS.R.of_some, DS.R.of_none, Option.bind_some, Option.bind_none, Option.map_some, Option.map_none, List.getElem?_cons_zero, List.getElem?_cons_succ, List.getElem?_nil, List.set_cons_zero, List.set_cons_succ, List.length_cons, List.length_nil, List.map_cons, List.map_nil, Option.getD_some, Option.getD_none, List.cons_append, List.nil_append, List.replicate_succ, List.replicate_zero, Nat.reduceAdd, Nat.reduceSub, decide_eq_true_eq, Bool.and_eq_true, Bool.or_eq_true, if_true, if_false, Bool.not_eq_true', Bool.false_eq_true, reduceIte, DS.eqD_int, DS.neD_int, DS.eqD_bl, DS.neD_bl, ne_eq, not_false_eq_true, not_true_eq_false, true_and, and_true, true_or, or_true, false_or, or_false, and_self, Int.reduceEq, Int.reduceAbs, Nat.reduceLT, Int.reduceLT, Int.reduceLE, Int.reduceNeg, Nat.reduceEqDiff, decide_true, decide_false, Bool.not_true, Bool.not_false, e1, e2, e3, hs2, q] <;> rfl) (by simp (config := { failIfUnchanged := false }) only [DS.nxS, DS.bkS, DS.ctS, DS.badS, DS.retS, DS.retN, DS.exprS, DS.setS, DS.setL, DS.asgS, DS.gN, DS.gT, DS.gsN, DS.gsC, DS.op1, DS.op2, DS.op1L, DS.op2L, DS.oV, DS.oS, DS.var, DS.cst, DS.deref, DS.derefD, DS.ofL, DS.lstE, DS.evA, DS.tupE, DS.asB, DS.truT, DS.andT, DS.orT, DS.notT, DS.andE, DS.orE, DS.notE, DS.ifE, DS.chn, DS.sl, DS.slL, DS.part, DS.lcE, DS.lcL, DS.itA, DS.itE, DS.itZ, DS.par2, DS.evP, DS.setIx, DS.mutE, DS.lstTok, DS.updTok, DS.shr, DS.callE, DS.callKE, DS.runFn, DS.orL, DS.yesT, DS.noOwn, DS.addD, DS.subD, DS.mulD, DS.divD, DS.modD, DS.powD, DS.negD, DS.ltD, DS.leD, DS.gtD, DS.geD, DS.isN, DS.isntN, DS.notD, DS.ixD, DS.slD, DS.slLs, DS.lenD, DS.absD, DS.intD, DS.tupleD, DS.listL, DS.allD, DS.anyD, DS.sumD, DS.minD, DS.maxD, DS.sortedL, DS.truD, DS.isiD, DS.tyD, DS.gId, DS.wipeE, DS.restE, DS.R.bind_ok, DS.R.bind_exc, DS.R.bind_bad, DS.R.map_ok, DS.R.of_some, DS.R.of_none, Option.bind_some, Option.bind_none, Option.map_some, Option.map_none, List.getElem?_cons_zero, List.getElem?_cons_succ, List.getElem?_nil, List.set_cons_zero, List.set_cons_succ, List.length_cons, List.length_nil, List.map_cons, List.map_nil, Option.getD_some, Option.getD_none, List.cons_append, List.nil_append, List.replicate_succ, List.replicate_zero, Nat.reduceAdd, Nat.reduceSub, decide_eq_true_eq, Bool.and_eq_true, Bool.or_eq_true, if_true, if_false, Bool.not_eq_true', Bool.false_eq_true, reduceIte, DS.eqD_int, DS.neD_int, DS.eqD_bl, DS.neD_bl, ne_eq, not_false_eq_true, not_true_eq_false, true_and, and_true, true_or, or_true, false_or, or_false, and_self, Int.reduceEq, Int.reduceAbs, Nat.reduceLT, Int.reduceLT, Int.reduceLE, Int.reduceNeg, Nat.reduceEqDiff, decide_true, decide_false, Bool.not_true, Bool.not_false] <;> rfl)
theorem ks_ok : ∀ (ks : List Int) (e3 : DS.Slot), (∀ k ∈ ks, 2 ≤ k ∧ k ≤ 12) → ∃ e3', forL (gN 3) (ifS (notT (truT (oV (callE (F__law_same 8) [(ofL (lstE [(callE F_sheet_size [(tupE [(cst (.int 0)), (tupE [(cst (.int 2)), (var 3), (cst (.int 2))])])]), (callE F_sheet_size [(tupE [(cst (.int 0)), (tupE [(var 3), (var 3)])])]), (callE F_sheet_kind [(tupE [(cst (.int 0)), (tupE [(var 3), (cst (.int 2)), (cst (.int 2))])])])])), (ofL (lstE [(op2 mulD (oV (cst (.int 2))) (oS 3)), (var 3), (cst (.str "finite"))]))])))) (retS (cst (.bl false))) nxS) (ks.map .int) ⟨[s0, .v (.ref 0), e2, e3, e4, e5, e6, e7, e8, e9, e10, e11], hp⟩ = .ok .nx ⟨[s0, .v (.ref 0), e2, e3', e4, e5, e6, e7, e8, e9, e10, e11], hp⟩
  | [], e3, _ => ⟨e3, rfl⟩
  | k :: ks, e3, h => by
    obtain ⟨e3', ih⟩ := ks_ok ks (.v (.int k)) fun x hx => h x (List.mem_cons_of_mem _ hx)
    obtain ⟨h1, h2⟩ := h k List.mem_cons_self
    exact ⟨e3', Eq.trans (forL_cons (s1 := ⟨[s0, .v (.ref 0), e2, .v (.int k), e4, e5, e6, e7, e8, e9, e10, e11], hp⟩) (by simp (config := { failIfUnchanged := false }) only [DS.nxS, DS.bkS, DS.ctS, DS.badS, DS.retS, DS.retN, DS.exprS, DS.setS, DS.setL, DS.asgS, DS.gN, DS.gT, DS.gsN, DS.gsC, DS.op1, DS.op2, DS.op1L, DS.op2L, DS.oV, DS.oS, DS.var, DS.cst, DS.deref, DS.derefD, DS.ofL, DS.lstE, DS.evA, DS.tupE, DS.asB, DS.truT, DS.andT, DS.orT, DS.notT, DS.andE, DS.orE, DS.notE, DS.ifE, DS.chn, DS.sl, DS.slL, DS.part, DS.lcE, DS.lcL, DS.itA, DS.itE, DS.itZ, DS.par2, DS.evP, DS.setIx, DS.mutE, DS.lstTok, DS.updTok, DS.shr, DS.callE, DS.callKE, DS.runFn, DS.orL, DS.yesT, DS.noOwn, DS.addD, DS.subD, DS.mulD, DS.divD, DS.modD, DS.powD, DS.negD, DS.ltD, DS.leD, DS.gtD, DS.geD, DS.isN, DS.isntN, DS.notD, DS.ixD, DS.slD, DS.slLs, DS.lenD, DS.absD, DS.intD, DS.tupleD, DS.listL, DS.allD, DS.anyD, DS.sumD, DS.minD, DS.maxD, DS.sortedL, DS.truD, DS.isiD, DS.tyD, DS.gId, DS.wipeE, DS.restE, DS.R.bind_ok, DS.R.bind_exc, DS.R.bind_bad, DS.R.map_ok, DS.R.of_some, DS.R.of_none, Option.bind_some, Option.bind_none, Option.map_some, Option.map_none, List.getElem?_cons_zero, List.getElem?_cons_succ, List.getElem?_nil, List.set_cons_zero, List.set_cons_succ, List.length_cons, List.length_nil, List.map_cons, List.map_nil, Option.getD_some, Option.getD_none, List.cons_append, List.nil_append, List.replicate_succ, List.replicate_zero, Nat.reduceAdd, Nat.reduceSub, decide_eq_true_eq, Bool.and_eq_true, Bool.or_eq_true, if_true, if_false, Bool.not_eq_true', Bool.false_eq_true, reduceIte, DS.eqD_int, DS.neD_int, DS.eqD_bl, DS.neD_bl, ne_eq, not_false_eq_true, not_true_eq_false, true_and, and_true, true_or, or_true, false_or, or_false, and_self, Int.reduceEq, Int.reduceAbs, Nat.reduceLT, Int.reduceLT, Int.reduceLE, Int.reduceNeg, Nat.reduceEqDiff, decide_true, decide_false, Bool.not_true, Bool.not_false] <;> rfl) (k_ok k h1 h2)) ih⟩
theorem last_ok : (setS 4 (ofL (lstE [(callE F_sheet_size [(tupE [(cst (.int 0)), (tupE [(cst (.int 3)), (cst (.int 2)), (cst (.int 3))])])]), (callE F_sheet_size [(tupE [(cst (.int 0)), (tupE [(cst (.int 4)), (cst (.int 3)), (cst (.int 2))])])]), (callE F_sheet_size [(tupE [(cst (.int 0)), (tupE [(cst (.int 2)), (cst (.int 5)), (cst (.int 3))])])]), (callE F_sheet_size [(tupE [(cst (.int 0)), (tupE [])])]), (callE F_sheet_size [(tupE [(cst (.int 0)), (tupE [(cst (.int 7))])])]), (callE F_sheet_kind [(tupE [(cst (.int 0)), (tupE [(cst (.int 2)), (cst (.int 3)), (cst (.int 6))])])]), (callE F_sheet_kind [(tupE [(cst (.int 0)), (tupE [(cst (.int 0)), (cst (.int 0))])])]), (callE F_sheet_size [(tupE [(cst (.int 0)), (tupE [(cst (.int 0)), (cst (.int 9))])])])]))) ⟨[s0, .v (.ref 0), e2, e3, e4, e5, e6, e7, e8, e9, e10, e11], hp⟩ = .ok .nx ⟨[s0, .v (.ref 0), e2, e3, .v (.lst [.int 12, .int 24, .int 60, .int 1, .int 1, .str "flat", .str "flat", .int 9]), e5, e6, e7, e8, e9, e10, e11], hp⟩ := by
  have p0 : Sp' 0 := .inl rfl
  have p : ∀ t : Int, 2 ≤ t → t ≤ 12 → Sp' t := fun t h1 h2 => .inr ⟨h1, h2⟩
  have flat : ∀ ts : List Int, oddB 0 ts = false → (shr 0 ts).1 = 0 → kindS 0 ts = "flat" := fun ts h1 h2 => by
    unfold kindS
    rw [h1, if_neg (by simp), if_neg (by omega), if_pos h2]
  have z1 : sizeD 0 [3, 2, 3] = .int 12 := size_is (by decide +kernel) (show shr 0 _ = ((shr 0 _).1, (shr 0 _).2) from rfl) (by decide +kernel) (by decide +kernel)
  have z2 : sizeD 0 [4, 3, 2] = .int 24 := size_is (by decide +kernel) (show shr 0 _ = ((shr 0 _).1, (shr 0 _).2) from rfl) (by decide +kernel) (by decide +kernel)
  have z3 : sizeD 0 [2, 5, 3] = .int 60 := size_is (by decide +kernel) (show shr 0 _ = ((shr 0 _).1, (shr 0 _).2) from rfl) (by decide +kernel) (by decide +kernel)
  have z4 : sizeD 0 [] = .int 1 := size_is (by decide +kernel) (show shr 0 _ = ((shr 0 _).1, (shr 0 _).2) from rfl) (by decide +kernel) (by decide +kernel)
  have z5 : sizeD 0 [7] = .int 1 := rfl
  have z8 : sizeD 0 [0, 9] = .int 9 := by
    show D.int (Int.gcd 0 9 : Int) = _
    rw [show (Int.gcd 0 9 : Int) = 9 by decide +kernel]
  have y6 : kindS 0 [2, 3, 6] = "flat" := flat _ (by decide +kernel) (by decide +kernel)
  have y7 : kindS 0 [0, 0] = "flat" := flat _ (by decide +kernel) (by decide +kernel)
  have x1 : F_sheet_size [.tup [.int 0, .tup [.int 3, .int 2, .int 3]]] hp = .ok (sizeD 0 [3, 2, 3]) hp := sheet_size_ok (shT_tup 0 [3, 2, 3]) (vs3 (p 3 (by decide) (by decide)) (p 2 (by decide) (by decide)) (p 3 (by decide) (by decide))) hp
  have x2 : F_sheet_size [.tup [.int 0, .tup [.int 4, .int 3, .int 2]]] hp = .ok (sizeD 0 [4, 3, 2]) hp := sheet_size_ok (shT_tup 0 [4, 3, 2]) (vs3 (p 4 (by decide) (by decide)) (p 3 (by decide) (by decide)) (p 2 (by decide) (by decide))) hp
  have x3 : F_sheet_size [.tup [.int 0, .tup [.int 2, .int 5, .int 3]]] hp = .ok (sizeD 0 [2, 5, 3]) hp := sheet_size_ok (shT_tup 0 [2, 5, 3]) (vs3 (p 2 (by decide) (by decide)) (p 5 (by decide) (by decide)) (p 3 (by decide) (by decide))) hp
  have x4 : F_sheet_size [.tup [.int 0, .tup []]] hp = .ok (sizeD 0 []) hp := sheet_size_ok (shT_tup 0 []) ⟨by decide, by decide, by simp, fun t ht => by simp at ht⟩ hp
  have x5 : F_sheet_size [.tup [.int 0, .tup [.int 7]]] hp = .ok (sizeD 0 [7]) hp := sheet_size_ok (shT_tup 0 [7]) ⟨by decide, by decide, by simp, fun t ht => by
    simp at ht
    subst ht
    exact p 7 (by decide) (by decide)⟩ hp
  have x6 : F_sheet_kind [.tup [.int 0, .tup [.int 2, .int 3, .int 6]]] hp = .ok (.str (kindS 0 [2, 3, 6])) hp := sheet_kind_ok (shT_tup 0 [2, 3, 6]) (vs3 (p 2 (by decide) (by decide)) (p 3 (by decide) (by decide)) (p 6 (by decide) (by decide))) hp
  have x7 : F_sheet_kind [.tup [.int 0, .tup [.int 0, .int 0]]] hp = .ok (.str (kindS 0 [0, 0])) hp := sheet_kind_ok (shT_tup 0 [0, 0]) (vs2 p0 p0) hp
  have x8 : F_sheet_size [.tup [.int 0, .tup [.int 0, .int 9]]] hp = .ok (sizeD 0 [0, 9]) hp := sheet_size_ok (shT_tup 0 [0, 9]) (vs2 p0 (p 9 (by decide) (by decide))) hp
  rw [z1] at x1
  rw [z2] at x2
  rw [z3] at x3
  rw [z4] at x4
  rw [z5] at x5
  rw [y6] at x6
  rw [y7] at x7
  rw [z8] at x8
  simp (config := { failIfUnchanged := false }) only [DS.nxS, DS.bkS, DS.ctS, DS.badS, DS.retS, DS.retN, DS.exprS, DS.setS, DS.setL, DS.asgS, DS.gN, DS.gT, DS.gsN, DS.gsC, DS.op1, DS.op2, DS.op1L, DS.op2L, DS.oV, DS.oS, DS.var, DS.cst, DS.deref, DS.derefD, DS.ofL, DS.lstE, DS.evA, DS.tupE, DS.asB, DS.truT, DS.andT, DS.orT, DS.notT, DS.andE, DS.orE, DS.notE, DS.ifE, DS.chn, DS.sl, DS.slL, DS.part, DS.lcE, DS.lcL, DS.itA, DS.itE, DS.itZ, DS.par2, DS.evP, DS.setIx, DS.mutE, DS.lstTok, DS.updTok, DS.shr, DS.callE, DS.callKE, DS.runFn, DS.orL, DS.yesT, DS.noOwn, DS.addD, DS.subD, DS.mulD, DS.divD, DS.modD, DS.powD, DS.negD, DS.ltD, DS.leD, DS.gtD, DS.geD, DS.isN, DS.isntN, DS.notD, DS.ixD, DS.slD, DS.slLs, DS.lenD, DS.absD, DS.intD, DS.tupleD, DS.listL, DS.allD, DS.anyD, DS.sumD, DS.minD, DS.maxD, DS.sortedL, DS.truD, DS.isiD, DS.tyD, DS.gId, DS.wipeE, DS.restE, DS.R.bind_ok, DS.R.bind_exc, DS.R.bind_bad, DS.R.map_ok, DS.R.of_some, DS.R.of_none, Option.bind_some, Option.bind_none, Option.map_some, Option.map_none, List.getElem?_cons_zero, List.getElem?_cons_succ, List.getElem?_nil, List.set_cons_zero, List.set_cons_succ, List.length_cons, List.length_nil, List.map_cons, List.map_nil, Option.getD_some, Option.getD_none, List.cons_append, List.nil_append, List.replicate_succ, List.replicate_zero, Nat.reduceAdd, Nat.reduceSub, decide_eq_true_eq, Bool.and_eq_true, Bool.or_eq_true, if_true, if_false, Bool.not_eq_true', Bool.false_eq_true, reduceIte, DS.eqD_int, DS.neD_int, DS.eqD_bl, DS.neD_bl, ne_eq, not_false_eq_true, not_true_eq_false, true_and, and_true, true_or, or_true, false_or, or_false, and_self, Int.reduceEq, Int.reduceAbs, Nat.reduceLT, Int.reduceLT, Int.reduceLE, Int.reduceNeg, Nat.reduceEqDiff, decide_true, decide_false, Bool.not_true, Bool.not_false, x1, x2, x3, x4, x5, x6, x7, x8]
theorem law_true : ∀ ns : List Int, ns.length ≤ 63 → ∃ hp, F_law [.scr (ns.map .int)] [] = .ok (.bl true) hp := by
  intro ns hl
  obtain ⟨x, hx⟩ := F__law_cells_ok ns hl []
  obtain ⟨hp1, hb, b1⟩ := F__law_box_ok x
  obtain ⟨g2, g3, g4, g5, g6, g7, g8, g9, g10, g11, hp2, hlap⟩ := laps_ok (s0 := .v (.scr (ns.map .int))) [0, 1, 2, 3, 4, 5] 0 hp1 .un .un .un .un .un .un .un .un .un .un b1 (by simp) rfl
  obtain ⟨f3, hk⟩ := ks_ok (s0 := .v (.scr (ns.map .int))) (e2 := g2) (e4 := g4) (e5 := g5) (e6 := g6) (e7 := g7) (e8 := g8) (e9 := g9) (e10 := g10) (e11 := g11) (hp := hp2) [2, 3, 4, 5, 6, 7, 8, 9, 10, 11, 12] g3 (by
    intro k hk
    simp at hk
    omega)
  have q : F__law_same 8 [.lst [.int 12, .int 24, .int 60, .int 1, .int 1, .str "flat", .str "flat", .int 9], .lst [.int 12, .int 24, .int 60, .int 1, .int 1, .str "flat", .str "flat", .int 9]] hp2 = .ok (.bl true) hp2 :=
    same_ok hp2 7 _ (.lst 6 _ (by simp) fun x hx => by
      simp at hx
      rcases hx with rfl | rfl | rfl | rfl | rfl | rfl <;> first | exact .int _ _ | exact .str _ _ (by decide +kernel))
  refine ⟨hp2, ?_⟩
  unfold F_law B_law
  refine fn_rt (sq_nx (s1 := ⟨[.v (.scr (ns.map .int)), .v (.ref 0), .un, .un, .un, .un, .un, .un, .un, .un, .un, .un], hp1⟩) (by simp (config := { failIfUnchanged := false }) only [DS.nxS, DS.bkS, DS.ctS, DS.badS, DS.retS, DS.retN, DS.exprS, DS.setS, DS.setL, DS.asgS, DS.gN, DS.gT, DS.gsN, DS.gsC, DS.op1, DS.op2, DS.op1L, DS.op2L, DS.oV, DS.oS, DS.var, DS.cst, DS.deref, DS.derefD, DS.ofL, DS.lstE, DS.evA, DS.tupE, DS.asB, DS.truT, DS.andT, DS.orT, DS.notT, DS.andE, DS.orE, DS.notE, DS.ifE, DS.chn, DS.sl, DS.slL, DS.part, DS.lcE, DS.lcL, DS.itA, DS.itE, DS.itZ, DS.par2, DS.evP, DS.setIx, DS.mutE, DS.lstTok, DS.updTok, DS.shr, DS.callE, DS.callKE, DS.runFn, DS.orL, DS.yesT, DS.noOwn, DS.addD, DS.subD, DS.mulD, DS.divD, DS.modD, DS.powD, DS.negD, DS.ltD, DS.leD, DS.gtD, DS.geD, DS.isN, DS.isntN, DS.notD, DS.ixD, DS.slD, DS.slLs, DS.lenD, DS.absD, DS.intD, DS.tupleD, DS.listL, DS.allD, DS.anyD, DS.sumD, DS.minD, DS.maxD, DS.sortedL, DS.truD, DS.isiD, DS.tyD, DS.gId, DS.wipeE, DS.restE, DS.R.bind_ok, DS.R.bind_exc, DS.R.bind_bad, DS.R.map_ok, DS.R.of_some, DS.R.of_none, Option.bind_some, Option.bind_none, Option.map_some, Option.map_none, List.getElem?_cons_zero, List.getElem?_cons_succ, List.getElem?_nil, List.set_cons_zero, List.set_cons_succ, List.length_cons, List.length_nil, List.map_cons, List.map_nil, Option.getD_some, Option.getD_none, List.cons_append, List.nil_append, List.replicate_succ, List.replicate_zero, Nat.reduceAdd, Nat.reduceSub, decide_eq_true_eq, Bool.and_eq_true, Bool.or_eq_true, if_true, if_false, Bool.not_eq_true', Bool.false_eq_true, reduceIte, DS.eqD_int, DS.neD_int, DS.eqD_bl, DS.neD_bl, ne_eq, not_false_eq_true, not_true_eq_false, true_and, and_true, true_or, or_true, false_or, or_false, and_self, Int.reduceEq, Int.reduceAbs, Nat.reduceLT, Int.reduceLT, Int.reduceLE, Int.reduceNeg, Nat.reduceEqDiff, decide_true, decide_false, Bool.not_true, Bool.not_false, hx, hb] <;> rfl)
    (sq_nx (for_of (ds := upTo 0 6) (s1 := ⟨[.v (.scr (ns.map .int)), .v (.ref 0), .un, .un, .un, .un, .un, .un, .un, .un, .un, .un], hp1⟩) (itR1_ok (j := 6) (by simp (config := { failIfUnchanged := false }) only [DS.nxS, DS.bkS, DS.ctS, DS.badS, DS.retS, DS.retN, DS.exprS, DS.setS, DS.setL, DS.asgS, DS.gN, DS.gT, DS.gsN, DS.gsC, DS.op1, DS.op2, DS.op1L, DS.op2L, DS.oV, DS.oS, DS.var, DS.cst, DS.deref, DS.derefD, DS.ofL, DS.lstE, DS.evA, DS.tupE, DS.asB, DS.truT, DS.andT, DS.orT, DS.notT, DS.andE, DS.orE, DS.notE, DS.ifE, DS.chn, DS.sl, DS.slL, DS.part, DS.lcE, DS.lcL, DS.itA, DS.itE, DS.itZ, DS.par2, DS.evP, DS.setIx, DS.mutE, DS.lstTok, DS.updTok, DS.shr, DS.callE, DS.callKE, DS.runFn, DS.orL, DS.yesT, DS.noOwn, DS.addD, DS.subD, DS.mulD, DS.divD, DS.modD, DS.powD, DS.negD, DS.ltD, DS.leD, DS.gtD, DS.geD, DS.isN, DS.isntN, DS.notD, DS.ixD, DS.slD, DS.slLs, DS.lenD, DS.absD, DS.intD, DS.tupleD, DS.listL, DS.allD, DS.anyD, DS.sumD, DS.minD, DS.maxD, DS.sortedL, DS.truD, DS.isiD, DS.tyD, DS.gId, DS.wipeE, DS.restE, DS.R.bind_ok, DS.R.bind_exc, DS.R.bind_bad, DS.R.map_ok, DS.R.of_some, DS.R.of_none, Option.bind_some, Option.bind_none, Option.map_some, Option.map_none, List.getElem?_cons_zero, List.getElem?_cons_succ, List.getElem?_nil, List.set_cons_zero, List.set_cons_succ, List.length_cons, List.length_nil, List.map_cons, List.map_nil, Option.getD_some, Option.getD_none, List.cons_append, List.nil_append, List.replicate_succ, List.replicate_zero, Nat.reduceAdd, Nat.reduceSub, decide_eq_true_eq, Bool.and_eq_true, Bool.or_eq_true, if_true, if_false, Bool.not_eq_true', Bool.false_eq_true, reduceIte, DS.eqD_int, DS.neD_int, DS.eqD_bl, DS.neD_bl, ne_eq, not_false_eq_true, not_true_eq_false, true_and, and_true, true_or, or_true, false_or, or_false, and_self, Int.reduceEq, Int.reduceAbs, Nat.reduceLT, Int.reduceLT, Int.reduceLE, Int.reduceNeg, Nat.reduceEqDiff, decide_true, decide_false, Bool.not_true, Bool.not_false] <;> rfl) (by decide) (by decide) (by decide)) hlap)
    (sq_nx (for_of (ds := upTo 2 11) (s1 := ⟨[.v (.scr (ns.map .int)), .v (.ref 0), g2, g3, g4, g5, g6, g7, g8, g9, g10, g11], hp2⟩) (itR2_ok (i := 2) (j := 13) (s1 := ⟨[.v (.scr (ns.map .int)), .v (.ref 0), g2, g3, g4, g5, g6, g7, g8, g9, g10, g11], hp2⟩) (by simp (config := { failIfUnchanged := false }) only [DS.nxS, DS.bkS, DS.ctS, DS.badS, DS.retS, DS.retN, DS.exprS, DS.setS, DS.setL, DS.asgS, DS.gN, DS.gT, DS.gsN, DS.gsC, DS.op1, DS.op2, DS.op1L, DS.op2L, DS.oV, DS.oS, DS.var, DS.cst, DS.deref, DS.derefD, DS.ofL, DS.lstE, DS.evA, DS.tupE, DS.asB, DS.truT, DS.andT, DS.orT, DS.notT, DS.andE, DS.orE, DS.notE, DS.ifE, DS.chn, DS.sl, DS.slL, DS.part, DS.lcE, DS.lcL, DS.itA, DS.itE, DS.itZ, DS.par2, DS.evP, DS.setIx, DS.mutE, DS.lstTok, DS.updTok, DS.shr, DS.callE, DS.callKE, DS.runFn, DS.orL, DS.yesT, DS.noOwn, DS.addD, DS.subD, DS.mulD, DS.divD, DS.modD, DS.powD, DS.negD, DS.ltD, DS.leD, DS.gtD, DS.geD, DS.isN, DS.isntN, DS.notD, DS.ixD, DS.slD, DS.slLs, DS.lenD, DS.absD, DS.intD, DS.tupleD, DS.listL, DS.allD, DS.anyD, DS.sumD, DS.minD, DS.maxD, DS.sortedL, DS.truD, DS.isiD, DS.tyD, DS.gId, DS.wipeE, DS.restE, DS.R.bind_ok, DS.R.bind_exc, DS.R.bind_bad, DS.R.map_ok, DS.R.of_some, DS.R.of_none, Option.bind_some, Option.bind_none, Option.map_some, Option.map_none, List.getElem?_cons_zero, List.getElem?_cons_succ, List.getElem?_nil, List.set_cons_zero, List.set_cons_succ, List.length_cons, List.length_nil, List.map_cons, List.map_nil, Option.getD_some, Option.getD_none, List.cons_append, List.nil_append, List.replicate_succ, List.replicate_zero, Nat.reduceAdd, Nat.reduceSub, decide_eq_true_eq, Bool.and_eq_true, Bool.or_eq_true, if_true, if_false, Bool.not_eq_true', Bool.false_eq_true, reduceIte, DS.eqD_int, DS.neD_int, DS.eqD_bl, DS.neD_bl, ne_eq, not_false_eq_true, not_true_eq_false, true_and, and_true, true_or, or_true, false_or, or_false, and_self, Int.reduceEq, Int.reduceAbs, Nat.reduceLT, Int.reduceLT, Int.reduceLE, Int.reduceNeg, Nat.reduceEqDiff, decide_true, decide_false, Bool.not_true, Bool.not_false] <;> rfl) (by simp (config := { failIfUnchanged := false }) only [DS.nxS, DS.bkS, DS.ctS, DS.badS, DS.retS, DS.retN, DS.exprS, DS.setS, DS.setL, DS.asgS, DS.gN, DS.gT, DS.gsN, DS.gsC, DS.op1, DS.op2, DS.op1L, DS.op2L, DS.oV, DS.oS, DS.var, DS.cst, DS.deref, DS.derefD, DS.ofL, DS.lstE, DS.evA, DS.tupE, DS.asB, DS.truT, DS.andT, DS.orT, DS.notT, DS.andE, DS.orE, DS.notE, DS.ifE, DS.chn, DS.sl, DS.slL, DS.part, DS.lcE, DS.lcL, DS.itA, DS.itE, DS.itZ, DS.par2, DS.evP, DS.setIx, DS.mutE, DS.lstTok, DS.updTok, DS.shr, DS.callE, DS.callKE, DS.runFn, DS.orL, DS.yesT, DS.noOwn, DS.addD, DS.subD, DS.mulD, DS.divD, DS.modD, DS.powD, DS.negD, DS.ltD, DS.leD, DS.gtD, DS.geD, DS.isN, DS.isntN, DS.notD, DS.ixD, DS.slD, DS.slLs, DS.lenD, DS.absD, DS.intD, DS.tupleD, DS.listL, DS.allD, DS.anyD, DS.sumD, DS.minD, DS.maxD, DS.sortedL, DS.truD, DS.isiD, DS.tyD, DS.gId, DS.wipeE, DS.restE, DS.R.bind_ok, DS.R.bind_exc, DS.R.bind_bad, DS.R.map_ok, DS.R.of_some, DS.R.of_none, Option.bind_some, Option.bind_none, Option.map_some, Option.map_none, List.getElem?_cons_zero, List.getElem?_cons_succ, List.getElem?_nil, List.set_cons_zero, List.set_cons_succ, List.length_cons, List.length_nil, List.map_cons, List.map_nil, Option.getD_some, Option.getD_none, List.cons_append, List.nil_append, List.replicate_succ, List.replicate_zero, Nat.reduceAdd, Nat.reduceSub, decide_eq_true_eq, Bool.and_eq_true, Bool.or_eq_true, if_true, if_false, Bool.not_eq_true', Bool.false_eq_true, reduceIte, DS.eqD_int, DS.neD_int, DS.eqD_bl, DS.neD_bl, ne_eq, not_false_eq_true, not_true_eq_false, true_and, and_true, true_or, or_true, false_or, or_false, and_self, Int.reduceEq, Int.reduceAbs, Nat.reduceLT, Int.reduceLT, Int.reduceLE, Int.reduceNeg, Nat.reduceEqDiff, decide_true, decide_false, Bool.not_true, Bool.not_false] <;> rfl) (by decide) (by decide) (by decide) (by decide) (by decide)) hk)
    (sq_nx last_ok (rt_of (by simp (config := { failIfUnchanged := false }) only [DS.nxS, DS.bkS, DS.ctS, DS.badS, DS.retS, DS.retN, DS.exprS, DS.setS, DS.setL, DS.asgS, DS.gN, DS.gT, DS.gsN, DS.gsC, DS.op1, DS.op2, DS.op1L, DS.op2L, DS.oV, DS.oS, DS.var, DS.cst, DS.deref, DS.derefD, DS.ofL, DS.lstE, DS.evA, DS.tupE, DS.asB, DS.truT, DS.andT, DS.orT, DS.notT, DS.andE, DS.orE, DS.notE, DS.ifE, DS.chn, DS.sl, DS.slL, DS.part, DS.lcE, DS.lcL, DS.itA, DS.itE, DS.itZ, DS.par2, DS.evP, DS.setIx, DS.mutE, DS.lstTok, DS.updTok, DS.shr, DS.callE, DS.callKE, DS.runFn, DS.orL, DS.yesT, DS.noOwn, DS.addD, DS.subD, DS.mulD, DS.divD, DS.modD, DS.powD, DS.negD, DS.ltD, DS.leD, DS.gtD, DS.geD, DS.isN, DS.isntN, DS.notD, DS.ixD, DS.slD, DS.slLs, DS.lenD, DS.absD, DS.intD, DS.tupleD, DS.listL, DS.allD, DS.anyD, DS.sumD, DS.minD, DS.maxD, DS.sortedL, DS.truD, DS.isiD, DS.tyD, DS.gId, DS.wipeE, DS.restE, DS.R.bind_ok, DS.R.bind_exc, DS.R.bind_bad, DS.R.map_ok, DS.R.of_some, DS.R.of_none, Option.bind_some, Option.bind_none, Option.map_some, Option.map_none, List.getElem?_cons_zero, List.getElem?_cons_succ, List.getElem?_nil, List.set_cons_zero, List.set_cons_succ, List.length_cons, List.length_nil, List.map_cons, List.map_nil, Option.getD_some, Option.getD_none, List.cons_append, List.nil_append, List.replicate_succ, List.replicate_zero, Nat.reduceAdd, Nat.reduceSub, decide_eq_true_eq, Bool.and_eq_true, Bool.or_eq_true, if_true, if_false, Bool.not_eq_true', Bool.false_eq_true, reduceIte, DS.eqD_int, DS.neD_int, DS.eqD_bl, DS.neD_bl, ne_eq, not_false_eq_true, not_true_eq_false, true_and, and_true, true_or, or_true, false_or, or_false, and_self, Int.reduceEq, Int.reduceAbs, Nat.reduceLT, Int.reduceLT, Int.reduceLE, Int.reduceNeg, Nat.reduceEqDiff, decide_true, decide_false, Bool.not_true, Bool.not_false, q] <;> rfl))))))
end L30
open PySem PySem.W PyProof.Rows
set_option maxHeartbeats 0 in
theorem PySem.Challenge.cw_spottedsheets_k30_main_shares_kinds_and_holds : PySem.Challenge.rw_spottedsheets_k30_main_shares_kinds_and.Holds := by
  w_on; o_law; k_head; (case hw => w_witness2)
  k_fill
  refine L2.walk_of (l := PySem.Challenge.rw_spottedsheets_k30_main_shares_kinds_and) (n := 63) (k := 11) (x := "script") (CX := fun w => L2.CX PySem.Challenge.rw_spottedsheets_k30_main_shares_kinds_and.prog w) (sp := fun w => DS.spT _) rfl (by decide) rfl ⟨rfl, by decide, by decide⟩ (fun w h Y => PySem.W.kIn_of Y) ?F (fun _ _ a ns hl hO hS => ⟨a, ns, rfl, hS, hl, hO, fun _ => rfl⟩) (fun w H s e s' h => by
    obtain ⟨_, _, _, _, _, _, _, _, _, _, _, _, z⟩ := h
    exact z.elim)
  case F =>
    intro w mg fa h KX G hmg
    refine' L30.all_mk L30.law_true KX G hmg ?a0 ?l0 ?c0 ?k0 ?a1 ?l1 ?c1 ?k1 ?a2 ?l2 ?c2 ?k2 ?a3 ?l3 ?c3 ?k3 ?a4 ?l4 ?c4 ?k4 ?a5 ?l5 ?c5 ?k5 ?a6 ?l6 ?c6 ?k6 ?a7 ?l7 ?c7 ?k7 ?a8 ?l8 ?c8 ?k8 ?a9 ?l9 ?c9 ?k9 ?a10 ?l10 ?c10 ?k10 ?a11 ?l11 ?c11 ?k11 ?a12 ?l12 ?c12 ?k12 ?a13 ?l13 ?c13 ?k13 ?a14 ?l14 ?c14 ?k14 ?a15 ?l15 ?c15 ?k15 ?a16 ?l16 ?c16 ?k16 ?a17 ?l17 ?c17 ?k17 ?a18 ?l18 ?c18 ?k18 ?a19 ?l19 ?c19 ?k19 ?a20 ?l20 ?c20 ?k20 ?a21 ?l21 ?c21 ?k21 ?a22 ?l22 ?c22 ?k22 ?a23 ?l23 ?c23 ?k23 ?a24 ?l24 ?c24 ?k24 ?a25 ?l25 ?c25 ?k25 ?a26 ?l26 ?c26 ?k26 ?a27 ?l27 ?c27 ?k27 ?a28 ?l28 ?c28 ?k28 ?a29 ?l29 ?c29 ?k29 ?a30 ?l30 ?c30 ?k30 ?a31 ?l31 ?c31 ?k31 ?z_abs ?z_all ?z_bool ?z_enumerate ?z_int ?z_isinstance ?z_len ?z_list ?z_min ?z_range ?z_sorted ?z_str ?z_sum ?z_tuple ?z_zip ?y_MOST_HANDLES ?y_MOST_SPOTS ?y_MOST_TURN
    (case a0 => k_is); (case l0 => k_is); (case c0 => k_is); (case k0 => k_is); (case a1 => k_is); (case l1 => k_is); (case c1 => k_is); (case k1 => k_is); (case a2 => k_is); (case l2 => k_is); (case c2 => k_is); (case k2 => k_is); (case a3 => k_is); (case l3 => k_is); (case c3 => k_is); (case k3 => k_is); (case a4 => k_is); (case l4 => k_is); (case c4 => k_is); (case k4 => k_is); (case a5 => k_is); (case l5 => k_is); (case c5 => k_is); (case k5 => k_is); (case a6 => k_is); (case l6 => k_is); (case c6 => k_is); (case k6 => k_is); (case a7 => k_is); (case l7 => k_is); (case c7 => k_is); (case k7 => k_is); (case a8 => k_is); (case l8 => k_is); (case c8 => k_is); (case k8 => k_is); (case a9 => k_is); (case l9 => k_is); (case c9 => k_is); (case k9 => k_is); (case a10 => k_is); (case l10 => k_is); (case c10 => k_is); (case k10 => k_is); (case a11 => k_is); (case l11 => k_is); (case c11 => k_is); (case k11 => k_is); (case a12 => k_is); (case l12 => k_is); (case c12 => k_is); (case k12 => k_is); (case a13 => k_is); (case l13 => k_is); (case c13 => k_is); (case k13 => k_is); (case a14 => k_is); (case l14 => k_is); (case c14 => k_is); (case k14 => k_is); (case a15 => k_is); (case l15 => k_is); (case c15 => k_is); (case k15 => k_is); (case a16 => k_is); (case l16 => k_is); (case c16 => k_is); (case k16 => k_is); (case a17 => k_is); (case l17 => k_is); (case c17 => k_is); (case k17 => k_is); (case a18 => k_is); (case l18 => k_is); (case c18 => k_is); (case k18 => k_is); (case a19 => k_is); (case l19 => k_is); (case c19 => k_is); (case k19 => k_is); (case a20 => k_is); (case l20 => k_is); (case c20 => k_is); (case k20 => k_is); (case a21 => k_is); (case l21 => k_is); (case c21 => k_is); (case k21 => k_is); (case a22 => k_is); (case l22 => k_is); (case c22 => k_is); (case k22 => k_is); (case a23 => k_is); (case l23 => k_is); (case c23 => k_is); (case k23 => k_is); (case a24 => k_is); (case l24 => k_is); (case c24 => k_is); (case k24 => k_is); (case a25 => k_is); (case l25 => k_is); (case c25 => k_is); (case k25 => k_is); (case a26 => k_is); (case l26 => k_is); (case c26 => k_is); (case k26 => k_is); (case a27 => k_is); (case l27 => k_is); (case c27 => k_is); (case k27 => k_is); (case a28 => k_is); (case l28 => k_is); (case c28 => k_is); (case k28 => k_is); (case a29 => k_is); (case l29 => k_is); (case c29 => k_is); (case k29 => k_is); (case a30 => k_is); (case l30 => k_is); (case c30 => k_is); (case k30 => k_is); (case a31 => k_is); (case l31 => k_is); (case c31 => k_is); (case k31 => k_is); (case z_abs => k_is); (case z_all => k_is); (case z_bool => k_is); (case z_enumerate => k_is); (case z_int => k_is); (case z_isinstance => k_is); (case z_len => k_is); (case z_list => k_is); (case z_min => k_is); (case z_range => k_is); (case z_sorted => k_is); (case z_str => k_is); (case z_sum => k_is); (case z_tuple => k_is); (case z_zip => k_is); (case y_MOST_HANDLES => k_is); (case y_MOST_SPOTS => k_is); (case y_MOST_TURN => k_is)
