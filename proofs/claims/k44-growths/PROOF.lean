import PyProof.Rows.All
import Wide.All
import OpenK.AllK
import Wide.FinOn
import HandS.ForMost
import HandS.Exc
import HandS.ExcOwn
import HandS.WordsExc
import HandS.TupAny
import HandS.TupMul
import KE.KeyNested
import KE.KDictKeyed
import KE.KDictDisplayH
import HandS.Wide
import HandS.Style
import HandS.Deep
import HandS.IsInst
import KE.SortData
import HandS.Zip
import HandS.Iter
import HandS.Comp
import HandS.List
import HandS.SortInts
import HandS.Flow
import KE.DataFind
import HandS.Strs
import KE.DataMinMax
import HandS.Conv
import KE.GoesMore
import KE.GoesEnum
import KE.KDictLaw
import KE.KDictSum
import HandS.TupLen
import HandS.ExcIs
import HandS.WordsDict
import HandS.Set
import HandS.SetFor
import KE.RegKIsAll
import HandS.NoneIn
import PySem.Challenge.RW_spottedsheets_k44_all_growths_and_maps_r
set_option Elab.async false
set_option linter.all false
set_option maxRecDepth 100000
/-! DSN: new tuples, told with their object (no dict): what HandS tells of them without it. -/
namespace DS
open PySem PySem.Spec PyProof.Rows L2
/-- the wish at a new tuple -/
def NewT (H : Hp) (xs : List V) (Q : VK) : Prop := ∀ p o, H p = none → o.cls = Value.type "tuple" → o.dict = none → Q (.ref p) (upd H p (.frz o (.tup xs)))
section
variable {X : Cx} {pins : List (Addr × Obj)} {σ : L2.St} {H : Hp} {s : Shared} {Q : VK}
theorem layT {xs : List V} {us : List Value} {tk : Nat} (I : Inv X pins σ H s) (r : Vals xs us) (z : xs.length ≤ sizeLine) (q : NewT H xs Q) : EP X pins σ Q (.ref s.heap.objs.size) { s with heap := s.heap.push { cls := .type "tuple", data := .seq us.toArray }, toks := tk } :=
  ⟨.ref s.heap.objs.size, upd H s.heap.objs.size (.frz _ (.tup xs)), I.laid (t' := tk) (fun b u e => Heap.get?_push_of_some _ e) (Nat.le_refl _) (show ObjOk X.prog X.w _ _ _ (.frz _ (.tup xs)) from ⟨Heap.get?_push_size _ rfl, z, us, r, IsTup.new _ _⟩), rfl, q _ _ (I.hok.fresh (Nat.le_refl _)) rfl rfl⟩
def tTupN (t : TA) : TE := fun σ H Q => t σ H fun xs H1 => xs.length ≤ sizeLine ∧ NewT H1 xs Q
theorem pe_tupN {es : List Expr} {t : TA} {pos : Pos} {x1} (h : PA X es t) : PE X (.Tuple es x1 pos) (tTupN t) := ⟨fun pins s σ H Q I hq =>
  wpAny_Tuple_spliced (thn (h.run pos pins s σ H _ I hq) fun us s1 ⟨xs, H1, I1, r, z, q⟩ => ⟨by rw [← r.length]; exact z, layT (tk := s1.toks) I1 r z q⟩)⟩
def rCatN (K : PySem.W.Frag) : R2 := fun x y H Q => ∃ a b xs ys, x = .ref a ∧ y = .ref b ∧ SqT K H a xs ∧ SqT K H b ys ∧ xs.length + ys.length ≤ sizeLine ∧ (xs = [] → Q (.ref b) H) ∧ (xs ≠ [] → ys = [] → Q (.ref a) H) ∧ NewT H (xs ++ ys) Q
theorem op_catN : OpR X (binaryOp .Add) (rCatN X.K) := by
  intro pins s σ H x y v u Q I rx ry ⟨a, b, xs, ys, e1, e2, ha, hb, hz, q0, q1, q2⟩
  subst e1 e2
  cases rx; cases ry
  obtain ⟨ia, ra, pa, _⟩ := I.tuple ha; obtain ⟨ib, rb, pb, _⟩ := I.tuple hb
  by_cases hx : xs = []
  · subst hx
    cases ra
    exact cat_tup0 pa pb ⟨.ref b, H, I, rfl, q0 rfl⟩
  · exact HT.cat_tup pa pb (fun z => hx (ra.nil_iff.mp z)) (fun z => ⟨.ref a, H, I, rfl, q1 hx (rb.nil_iff.mp z)⟩) (fun z => layT (tk := s.toks) I (ra.append rb) (by rw [List.length_append]; exact hz) q2) (by rw [← ra.length, ← rb.length]; exact hz)
def rSlN (K : PySem.W.Frag) : V → Option Int → Option Int → Hp → VK → Prop := fun x lo hi H Q => ∃ a xs, x = .ref a ∧ SqT K H a xs ∧ (HT.sIx xs.length 0 lo = 0 ∧ HT.sIx xs.length xs.length hi = xs.length → Q (.ref a) H) ∧ NewT H (cutV xs lo hi) Q
theorem sl_tupN : SlR X (rSlN X.K) := by
  intro pins s σ H x v vl vu lo hi sl Q I rx hs pl pu ⟨a, xs, e, hx, q1, q2⟩
  subst e; cases rx
  obtain ⟨its, r, ht, hz⟩ := I.tuple hx
  have hn : its.toArray.size = xs.length := by rw [List.size_toArray]; exact r.length.symm
  refine ⟨"tuple", _, PyProof.Rows.slot_tuple_getitem.lookup, ht.typeIs, ?_⟩
  by_cases hw : HT.sIx xs.length 0 lo = 0 ∧ HT.sIx xs.length xs.length hi = xs.length
  · exact getItem_tuple_whole ht hs pl pu (by rw [hn]; exact hw) ⟨.ref a, H, I, rfl, q1 hw⟩
  · refine HT.getItem_tuple_cut ht hs pl pu (by rw [hn]; exact hw) ?_ (by rw [hn]; exact hz); rw [hn]
    exact layT (tk := s.toks) I ((r.drop _).take _) (Nat.le_trans (cutV_length xs lo hi) hz) q2
theorem call_tupleN : CallR X (.type "tuple") (fun xs H Q => ∃ p ys, xs = [.ref p] ∧ ((SqL X.K H p ys ∧ NewT H ys Q) ∨ (SqT X.K H p ys ∧ Q (.ref p) H))) := by
  intro pins s σ H xs us Q I r ⟨p, ys, e, h⟩
  subst e
  obtain ⟨u, e, rx⟩ := vals1 r
  subst e; cases rx
  rcases h with ⟨hq, q⟩ | ⟨hq, q⟩
  · obtain ⟨its, ri, pl, hz⟩ := I.list hq
    exact call_tuple_list pl.isList (fun h' kp => layT (s := { s with heap := h' }) (tk := s.toks) (I.kept (t' := s.toks) kp) ri hz q) (by rw [List.size_toArray, ← ri.length]; exact hz)
  · obtain ⟨its, _, pl, _⟩ := I.tuple hq
    exact call_tuple_same pl ⟨.ref p, H, I, rfl, q⟩
def rRepN (K : PySem.W.Frag) : R2 := fun x y H Q => ∃ l k xs, x = .ref l ∧ y = .int k ∧ SqT K H l xs ∧ xs ≠ [] ∧ 2 ≤ k ∧ k ≤ 1000 ∧ xs.length ≤ 1000 ∧ NewT H (List.replicate k.toNat xs).flatten Q
theorem op_repN : OpR X (binaryOp .Mult) (rRepN X.K) := by
  intro pins s σ H x y v u Q I rx ry ⟨l, k, xs, ex, ey, hT, hne, h1, h2, hz, q⟩
  subst ex ey; cases rx
  obtain ⟨tk, rfl⟩ := ry
  obtain ⟨us, r, ⟨⟨cl, dd, da, sl⟩, ho, hc, n, hd⟩, hs⟩ := I.tuple hT
  simp only at hc hd; subst hc hd
  have el : us.length = xs.length := r.length.symm
  have en : us ≠ [] := fun e => hne (List.eq_nil_of_length_eq_zero (by rw [← el, e]; rfl))
  have ei : us.toArray.isEmpty = false := by cases us with | nil => exact absurd rfl en | cons a b => rfl
  have es : us.toArray.size = xs.length := by rw [List.size_toArray, el]
  have em : ((us.toArray.size : Nat) : Int) * k ≤ 1000000 := by have a1 : ((xs.length : Nat) : Int) * k ≤ 1000 * k := Int.mul_le_mul_of_nonneg_right (by omega) (by omega); rw [es]; omega
  have a2 : k.toNat * xs.length ≤ 1000 * 1000 := Nat.mul_le_mul (by omega) hz
  have fl : (List.replicate k.toNat us).flatten.length ≤ sizeLine := by rw [PyProof.Rows.lm_len_rep_flat, el, sizeLine_eq]; omega
  have fx : (List.replicate k.toNat xs).flatten.length ≤ sizeLine := by rw [PyProof.Rows.lm_len_rep_flat, sizeLine_eq]; omega
  have d0 : (decide (k < -(2 ^ 63)) || decide (k ≥ 2 ^ 63)) = false := by rw [decide_eq_false (by omega), decide_eq_false (by omega)]; rfl
  have d1 : (us.toArray.isEmpty || k == 1) = false := by rw [ei, Bool.false_or]; exact beq_eq_false_iff_ne.mpr (by omega)
  have d2 : (decide (k ≤ 0) || us.toArray.isEmpty) = false := by rw [ei, Bool.or_false]; exact decide_eq_false (by omega)
  have d4 : Builtin.Tuple.tupleTooMany (((us.toArray.size : Nat) : Int) * k) = false := by unfold Builtin.Tuple.tupleTooMany; rw [sizeLine_eq]; exact decide_eq_false (by omega)
  refine wpAny_binaryOp_repeat_ref (T := "tuple") (U := "int") (by decide) ⟨_, ho, rfl⟩ (fun s' => typeIs_int s' k tk) noFill_tuple_mul F.fills_int_mul F.slot_int_rmul repeat_tuple F.slot_int_index.lookup (call_meets F.slot_int_rmul (typeIs_int s k tk) F.entry_int_rmul (F.args_int_rmul_2 _ _) (int_rmul_tuple k tk l us.toArray n dd sl) ⟨ho, rfl, ⟨_, ho, rfl⟩, call_meets F.slot_tuple_mul ⟨_, ho, rfl⟩ F.entry_tuple_mul (F.args_tuple_mul_2 _ _) (tuple_mulW l us.toArray n dd sl k tk d0 d1 d2 (by omega) d4 (by rw [size_rep, List.size_toArray]; exact fl)) ⟨ho, ?_⟩⟩)
  rw [size_rep]
  exact layT (tk := s.toks) I (r.rep k.toNat) fx q
end
end DS
/-! DS1: data, states, the relation to values and the abstract heap; readings of semantic functions. -/
namespace DS
open PySem PySem.Spec PyProof.Rows L2

/-! ### data -/
inductive D where
  | non | bl (b : Bool) | int (i : Int) | str (x : Str) | fn (n : Str) | ref (j : Nat)
  | tup (xs : List D) | pr (xs : List D) | lst (xs : List D) | scr (xs : List D) | dct (k : Bool) (ks vs : List D)
  deriving Inhabited
/-- what a name holds: nothing, a value, an own list, an own dict -/
inductive Slot where
  | un | v (d : D) | ol (xs : List D) | od (k : Bool) (ks vs : List D)
  deriving Inhabited
abbrev Env := List Slot
/-- an object that is shared -/
inductive Ob where
  | lst (xs : List D)
  deriving Inhabited
structure S where
  env : Env
  hp : List Ob
structure Exn where
  cls : Str
  arg : Option D
inductive R (α : Type) where
  | ok (a : α) (s : S) | exc (x : Exn) (s : S) | bad
namespace R
variable {α β : Type}
def bind (r : R α) (f : α → S → R β) : R β := match r with
  | .ok a s => f a s
  | .exc x s => .exc x s
  | .bad => .bad
def map (f : α → β) (r : R α) : R β := r.bind fun a s => .ok (f a) s
def of (o : Option α) (s : S) : R α := match o with
  | some a => .ok a s
  | none => .bad
@[simp] theorem bind_ok (a : α) (s : S) (f : α → S → R β) : (R.ok a s).bind f = f a s := rfl
@[simp] theorem bind_exc (x : Exn) (s : S) (f : α → S → R β) : (R.exc x s : R α).bind f = .exc x s := rfl
@[simp] theorem bind_bad (f : α → S → R β) : (R.bad : R α).bind f = .bad := rfl
@[simp] theorem map_ok (a : α) (s : S) (f : α → β) : (R.ok a s).map f = .ok (f a) s := rfl
@[simp] theorem of_some (a : α) (s : S) : R.of (some a) s = .ok a s := rfl
@[simp] theorem of_none (s : S) : (R.of none s : R α) = .bad := rfl
end R
abbrev Ex := S → R D
abbrev ExL := S → R (List D)
inductive Fl where
  | nx | rt (d : D) | bk | ct
abbrev Sm := S → R Fl
/-- a function's result -/
inductive RF where
  | ok (d : D) (hp : List Ob) | exc (x : Exn) (hp : List Ob) | bad
abbrev Fn := List D → List Ob → RF

/-! ### the relation -/
def keyD : Key → D
  | .inl i => .int i
  | .inr x => .str x
structure Cn where
  K : PySem.W.Frag
  mg : Str → Option Value
  w : World
/-! ### keys that are tuples -/
mutual
def nk : D → Option NestedKey
  | .int i => some (.num i)
  | .str x => some (.text x)
  | .tup xs => (nks xs).map .tup
  | _ => none
def nks : List D → Option (List NestedKey)
  | [] => some []
  | x :: xs => (nk x).bind fun k => (nks xs).map (k :: ·)
end
/-- a thing that is known to the object, and may be written -/
def RawO (a : Addr) (o : Obj) : HO := .ext fun h => h.get? a = some o
abbrev Ent := NestedKey × Addr × Value
def DRaw (w : World) (a : Addr) (o : Obj) (xs : List Ent) : Prop :=
  (a == sysModules) = false ∧ o.ExactDict ∧ (∃ es ep, o.data = .dict es ep ∧ es.toList = xs.map (fun x => (⟨NestedKey.hash w x.1, .ref x.2.1, x.2.2⟩ : DictEntry))) ∧ (xs.map (·.1)).Nodup ∧ ∀ x ∈ xs, x.1.depth ≤ 8
abbrev Am := Addr → Prop
/-- a tuple without a dict of its own -/
def TupN (H : Hp) (a : Addr) (vs : List V) : Prop := ∃ o, H a = some (.frz o (.tup vs)) ∧ o.cls = Value.type "tuple" ∧ o.dict = none
section
variable (c : Cn) (M : Am) (ρ : List Addr) (H : Hp)
mutual
inductive RD : D → V → Prop
  | non : RD .non .non
  | bl (b : Bool) : RD (.bl b) (.bl b)
  | int (i : Int) : RD (.int i) (.int i)
  | str (x : Str) : RD (.str x) (.str x)
  | fn {n : Str} {f : Addr} (h : c.mg n = some (.ref f)) : RD (.fn n) (.ref f)
  | ref {j : Nat} {a : Addr} (h : ρ[j]? = some a) : RD (.ref j) (.ref a)
  | tupH {a : Addr} {xs : List D} {vs : List V} (h : TupN H a vs) (m : ¬ M a) (r : RDs xs vs) : RD (.tup xs) (.ref a)
  | pr {a : Addr} {xs : List D} {vs : List V} (h : Rd H a (.tup vs)) (m : ¬ M a) (r : RDs xs vs) : RD (.pr xs) (.ref a)
  | tupK {a : Addr} {xs : List D} {vs : List V} (h : ∃ (o : Obj) (its : Array Value) (n : Nat), c.K.lookup a = some o ∧ o.cls = .type "tuple" ∧ o.dict = none ∧ o.data = .seq its n ∧ its.size ≤ sizeLine ∧ Vals vs its.toList) (r : RDs xs vs) : RD (.tup xs) (.ref a)
  | lst {a : Addr} {xs : List D} {vs : List V} (h : H a = some (.lst vs)) (m : ¬ M a) (r : RDs xs vs) : RD (.lst xs) (.ref a)
  | dctK {a : Addr} {ks vs : List D} {kvs : List (Key × V)} (h : H a = some (.dK kvs)) (m : ¬ M a) (e : ks = kvs.map (fun p => keyD p.1)) (r : RDs vs (kvs.map (·.2))) : RD (.dct false ks vs) (.ref a)
  | dctT {a : Addr} {ks vs : List D} {o : Obj} {xs : List Ent} {us : List V} (h : H a = some (RawO a o)) (m : ¬ M a) (g : DRaw c.w a o xs) (e : nks ks = some (xs.map (·.1))) (kr : RDs ks (xs.map fun x => V.ref x.2.1)) (r : RDs vs us) (v : Vals us (xs.map (·.2.2))) : RD (.dct true ks vs) (.ref a)
  | scr {a : Addr} {o : Obj} {xs : List D} {vs : List V} (h : H a = some (.frz o (.lst vs))) (m : ¬ M a) (r : RDs xs vs) : RD (.scr xs) (.ref a)
  | scrK {a : Addr} {xs : List D} {vs : List V} (h : ∃ (o : Obj) (its : Array Value) (n : Nat), c.K.lookup a = some o ∧ o.cls = .type "list" ∧ o.dict = none ∧ o.data = .seq its n ∧ its.size ≤ sizeLine ∧ Vals vs its.toList) (r : RDs xs vs) : RD (.scr xs) (.ref a)
inductive RDs : List D → List V → Prop
  | nil : RDs [] []
  | cons {d : D} {v : V} {ds : List D} {vs : List V} (h : RD d v) (t : RDs ds vs) : RDs (d :: ds) (v :: vs)
end
end

/-- the ground: as it was at the def's entry; what is not to be touched for now -/
structure Gr where
  M0 : Am
  ρ0 : List Addr
  H0 : Hp
  P : Am
/-- from M, ρ, H on: what is not mutable stays, the shared ones stay numbered, what is held stays -/
structure Keep (g : Gr) (M : Am) (ρ : List Addr) (H : Hp) (M' : Am) (ρ' : List Addr) (H' : Hp) : Prop where
  st : ∀ a o, H a = some o → ¬ M a → H' a = some o ∧ ¬ M' a
  pre : ∃ l, ρ' = ρ ++ l
  pr : ∀ a, g.P a → H' a = H a
theorem Keep.refl (g : Gr) (M : Am) (ρ : List Addr) (H : Hp) : Keep g M ρ H M ρ H := ⟨fun _ _ h m => ⟨h, m⟩, ⟨[], (List.append_nil _).symm⟩, fun _ _ => rfl⟩
theorem Keep.trans {g : Gr} {M M1 M2 : Am} {ρ ρ1 ρ2 : List Addr} {H H1 H2 : Hp} (a : Keep g M ρ H M1 ρ1 H1) (b : Keep g M1 ρ1 H1 M2 ρ2 H2) : Keep g M ρ H M2 ρ2 H2 :=
  ⟨fun x o h m => let ⟨h1, m1⟩ := a.st x o h m; b.st x o h1 m1, by
    obtain ⟨l, e⟩ := a.pre
    obtain ⟨l', e'⟩ := b.pre
    exact ⟨l ++ l', by rw [e', e, List.append_assoc]⟩, fun x h => (b.pr x h).trans (a.pr x h)⟩
theorem rd_keep {a : Addr} {u : HO} {M M' : Am} {ρ ρ' : List Addr} {H H' : Hp} {g : Gr} (k : Keep g M ρ H M' ρ' H') (m : ¬ M a) (h : Rd H a u) : Rd H' a u ∧ ¬ M' a := by
  rcases h with h | ⟨o, h⟩
  · obtain ⟨h1, m1⟩ := k.st _ _ h m
    exact ⟨.inl h1, m1⟩
  · obtain ⟨h1, m1⟩ := k.st _ _ h m
    exact ⟨.inr ⟨o, h1⟩, m1⟩
theorem TupN.keep {a : Addr} {vs : List V} {M M' : Am} {ρ ρ' : List Addr} {H H' : Hp} {g : Gr} (k : Keep g M ρ H M' ρ' H') (m : ¬ M a) (h : TupN H a vs) : TupN H' a vs ∧ ¬ M' a := by
  obtain ⟨o, h1, h2⟩ := h
  obtain ⟨h3, m3⟩ := k.st _ _ h1 m
  exact ⟨⟨o, h3, h2⟩, m3⟩
section
variable {c : Cn} {g : Gr} {M M' : Am} {ρ ρ' : List Addr} {H H' : Hp}
mutual
theorem RD.keep (k : Keep g M ρ H M' ρ' H') : ∀ {d : D} {v : V}, RD c M ρ H d v → RD c M' ρ' H' d v
  | _, _, .non => .non
  | _, _, .bl b => .bl b
  | _, _, .int i => .int i
  | _, _, .str x => .str x
  | _, _, .fn h => .fn h
  | _, _, .ref h => .ref (by
      obtain ⟨l, e⟩ := k.pre
      rw [e, List.getElem?_append_left (by
        have := (List.getElem?_eq_some_iff.mp h).1
        exact this)]
      exact h)
  | _, _, .tupH h m r => .tupH (TupN.keep k m h).1 (TupN.keep k m h).2 (RDs.keep k r)
  | _, _, .pr h m r => .pr (rd_keep k m h).1 (rd_keep k m h).2 (RDs.keep k r)
  | _, _, .tupK h r => .tupK h (RDs.keep k r)
  | _, _, .lst h m r => .lst (k.st _ _ h m).1 (k.st _ _ h m).2 (RDs.keep k r)
  | _, _, .scr h m r => .scr (k.st _ _ h m).1 (k.st _ _ h m).2 (RDs.keep k r)
  | _, _, .scrK h r => .scrK h (RDs.keep k r)
  | _, _, .dctK h m e r => .dctK (k.st _ _ h m).1 (k.st _ _ h m).2 e (RDs.keep k r)
  | _, _, .dctT h m g e kr r v => .dctT (k.st _ _ h m).1 (k.st _ _ h m).2 g e (RDs.keep k kr) (RDs.keep k r) v
theorem RDs.keep (k : Keep g M ρ H M' ρ' H') : ∀ {ds : List D} {vs : List V}, RDs c M ρ H ds vs → RDs c M' ρ' H' ds vs
  | _, _, .nil => .nil
  | _, _, .cons h t => .cons (RD.keep k h) (RDs.keep k t)
end
/-- fewer mutable ones -/
theorem RD.less (l : ∀ a, M' a → M a) {d : D} {v : V} (h : RD c M ρ H d v) : RD c M' ρ H d v := h.keep (g := ⟨M, [], H, fun _ => False⟩) ⟨fun _ _ h m => ⟨h, fun z => m (l _ z)⟩, ⟨[], (List.append_nil _).symm⟩, fun _ z => z.elim⟩
theorem RDs.less (l : ∀ a, M' a → M a) {d : List D} {v : List V} (h : RDs c M ρ H d v) : RDs c M' ρ H d v := h.keep (g := ⟨M, [], H, fun _ => False⟩) ⟨fun _ _ h m => ⟨h, fun z => m (l _ z)⟩, ⟨[], (List.append_nil _).symm⟩, fun _ z => z.elim⟩
theorem RDs.length : ∀ {ds : List D} {vs : List V}, RDs c M ρ H ds vs → ds.length = vs.length
  | _, _, .nil => rfl
  | _, _, .cons _ t => congrArg (· + 1) (RDs.length t)
theorem RDs.get : ∀ {ds : List D} {vs : List V} {i : Nat} {d : D}, RDs c M ρ H ds vs → ds[i]? = some d → ∃ v, vs[i]? = some v ∧ RD c M ρ H d v
  | _, _, _, _, .nil, e => by simp at e
  | _, _, 0, _, .cons r _, e => by simp at e; subst e; exact ⟨_, rfl, r⟩
  | _, _, i + 1, x, .cons _ t, e => by
    obtain ⟨u, h1, h2⟩ := RDs.get (i := i) (d := x) t (by simpa using e)
    exact ⟨u, by simpa using h1, h2⟩
theorem RDs.getV {ds : List D} {vs : List V} {i : Nat} {v : V} (r : RDs c M ρ H ds vs) (e : vs[i]? = some v) : ∃ d, ds[i]? = some d ∧ RD c M ρ H d v := by
  have hi : i < ds.length := by
    rw [r.length]
    exact (List.getElem?_eq_some_iff.mp e).1
  obtain ⟨u, h1, h2⟩ := r.get (List.getElem?_eq_getElem hi)
  rw [e] at h1
  cases h1
  exact ⟨_, List.getElem?_eq_getElem hi, h2⟩
theorem RDs.append : ∀ {xs ys : List D} {us ws : List V}, RDs c M ρ H xs us → RDs c M ρ H ys ws → RDs c M ρ H (xs ++ ys) (us ++ ws)
  | _, _, _, _, .nil, s => s
  | _, _, _, _, .cons r t, s => .cons r (RDs.append t s)
theorem RDs.take : ∀ {xs : List D} {us : List V} (n : Nat), RDs c M ρ H xs us → RDs c M ρ H (xs.take n) (us.take n)
  | _, _, 0, _ => .nil
  | _, _, _ + 1, .nil => .nil
  | _, _, n + 1, .cons r t => .cons r (RDs.take n t)
theorem RDs.drop : ∀ {xs : List D} {us : List V} (n : Nat), RDs c M ρ H xs us → RDs c M ρ H (xs.drop n) (us.drop n)
  | _, _, 0, r => r
  | _, _, _ + 1, .nil => .nil
  | _, _, n + 1, .cons _ t => RDs.drop n t
theorem RDs.set {x : D} {u : V} (r : RD c M ρ H x u) : ∀ {xs : List D} {us : List V} (i : Nat), RDs c M ρ H xs us → RDs c M ρ H (xs.set i x) (us.set i u)
  | _, _, _, .nil => .nil
  | _, _, 0, .cons _ t => .cons r t
  | _, _, i + 1, .cons q t => .cons q (RDs.set r i t)
theorem RDs.eraseIdx : ∀ {xs : List D} {us : List V} (i : Nat), RDs c M ρ H xs us → RDs c M ρ H (xs.eraseIdx i) (us.eraseIdx i)
  | _, _, _, .nil => .nil
  | _, _, 0, .cons _ t => t
  | _, _, i + 1, .cons q t => .cons q (RDs.eraseIdx i t)
theorem RDs.dropLast {xs : List D} {us : List V} (h : RDs c M ρ H xs us) : RDs c M ρ H xs.dropLast us.dropLast := by
  rw [List.dropLast_eq_take, List.dropLast_eq_take, h.length]
  exact h.take _
theorem RDs.reverse {xs : List D} {us : List V} (h : RDs c M ρ H xs us) : RDs c M ρ H xs.reverse us.reverse := by
  induction h using RDs.rec (motive_1 := fun _ _ _ => True) with
  | nil => exact .nil
  | cons h t _ ih =>
    rw [List.reverse_cons, List.reverse_cons]
    exact ih.append (.cons h .nil)
  | _ => trivial
end
end DS
/-! DS2: states against slots and the abstract heap; readings. -/
namespace DS
open PySem PySem.Spec PyProof.Rows L2

def Slot.isOwn : Slot → Bool
  | .ol _ => true
  | .od _ _ _ => true
  | _ => false
section
variable (c : Cn) (M : Am) (ρ : List Addr) (H : Hp)
/-- a dict at a: by flat keys, or by tuples of such -/
def DctOk (k : Bool) (ks vs : List D) (a : Addr) : Prop := match k with
  | false => ∃ kvs : List (Key × V), H a = some (.dK kvs) ∧ ks = kvs.map (fun p => keyD p.1) ∧ RDs c M ρ H vs (kvs.map (·.2))
  | true => ∃ (o : Obj) (xs : List Ent) (us : List V), H a = some (RawO a o) ∧ DRaw c.w a o xs ∧ nks ks = some (xs.map (·.1)) ∧ RDs c M ρ H ks (xs.map fun x => V.ref x.2.1) ∧ RDs c M ρ H vs us ∧ Vals us (xs.map (·.2.2))
def OwnOk (sl : Slot) (a : Addr) : Prop := match sl with
  | .ol xs => ∃ vs, H a = some (.lst vs) ∧ RDs c M ρ H xs vs
  | .od k ks vs => DctOk c M ρ H k ks vs a
  | _ => False
def ObOk (o : Ob) (a : Addr) : Prop := match o with
  | .lst xs => ∃ vs, H a = some (.lst vs) ∧ RDs c M ρ H xs vs
end
/-- what may change -/
def mutO : HO → Bool
  | .lst _ => true
  | .dK _ => true
  | .dT _ => true
  | .ext _ => true
  | .ins _ _ _ => true
  | _ => false
structure HR (c : Cn) (M : Am) (ρ : List Addr) (hp : List Ob) (H : Hp) : Prop where
  hl : ρ.length = hp.length
  ho : ∀ (j : Nat) (o : Ob) (a : Addr), hp[j]? = some o → ρ[j]? = some a → ObOk c M ρ H o a
  nd : ρ.Nodup
  rm : ∀ a ∈ ρ, M a
  dom : ∀ a, M a → ∃ o, H a = some o ∧ mutO o = true
structure GR (g : Gr) (M : Am) (ρ : List Addr) (H : Hp) : Prop where
  g1 : ∀ a o, g.H0 a = some o → a ∉ g.ρ0 → H a = some o
  g2 : ∀ a o, g.H0 a = some o → ¬ g.M0 a → ¬ M a
  g3 : ∀ a, g.M0 a → M a
  gd : ∀ a, g.M0 a → ∃ o, g.H0 a = some o
  gm : ∀ a ∈ g.ρ0, g.M0 a
  gr : ∃ l, ρ = g.ρ0 ++ l ∧ ∀ a ∈ l, g.H0 a = none
  gp : ∀ a, g.P a → M a ∧ a ∉ ρ
structure ER (c : Cn) (g : Gr) (M : Am) (ρ : List Addr) (env : Env) (σ : L2.St) (H : Hp) : Prop where
  len : env.length = σ.length
  val : ∀ (i : Nat) (d : D), env[i]? = some (.v d) → ∃ v, σ[i]? = some (some v) ∧ RD c M ρ H d v
  own : ∀ (i : Nat) (sl : Slot), env[i]? = some sl → sl.isOwn = true → ∃ a, σ[i]? = some (some (.ref a)) ∧ OwnOk c M ρ H sl a ∧ M a ∧ a ∉ ρ ∧ g.H0 a = none
  pro : ∀ (i : Nat) (sl : Slot) (a : Addr), env[i]? = some sl → sl.isOwn = true → σ[i]? = some (some (.ref a)) → ¬ g.P a
  sep : ∀ (i j : Nat) (sl sl' : Slot) (a : Addr), env[i]? = some sl → sl.isOwn = true → env[j]? = some sl' → sl'.isOwn = true → σ[i]? = some (some (.ref a)) → σ[j]? = some (some (.ref a)) → i = j
structure Rel (c : Cn) (g : Gr) (M : Am) (ρ : List Addr) (s : S) (σ : L2.St) (H : Hp) : Prop where
  h : HR c M ρ s.hp H
  gd : GR g M ρ H
  e : ER c g M ρ s.env σ H

def Ext (H H' : Hp) : Prop := ∀ a o, H a = some o → H' a = some o
theorem Ext.refl (H : Hp) : Ext H H := fun _ _ h => h
theorem Ext.trans {H H1 H2 : Hp} (a : Ext H H1) (b : Ext H1 H2) : Ext H H2 := fun x o h => b x o (a x o h)
theorem Ext.new {H : Hp} {p : Addr} {o : HO} (n : H p = none) : Ext H (upd H p o) := fun a u e => by
  rw [upd_ne (ne_of_none e n)]
  exact e
section
variable {c : Cn} {g : Gr} {M M' : Am} {ρ ρ' : List Addr} {H H' : Hp} {s s' : S} {σ : L2.St}
theorem Keep.ext (e : Ext H H') (d : ∀ a, g.P a → ∃ o, H a = some o) : Keep g M ρ H M ρ H' := ⟨fun a o h m => ⟨e a o h, m⟩, ⟨[], (List.append_nil _).symm⟩, fun a h => by
  obtain ⟨o, ho⟩ := d a h
  rw [ho]
  exact e a o ho⟩
theorem RDs.ext (e : Ext H H') {d : List D} {v : List V} (h : RDs c M ρ H d v) : RDs c M ρ H' d v := h.keep (g := ⟨M, [], H, fun _ => False⟩) ⟨fun a o h m => ⟨e a o h, m⟩, ⟨[], (List.append_nil _).symm⟩, fun _ z => z.elim⟩
theorem RD.ext (e : Ext H H') {d : D} {v : V} (h : RD c M ρ H d v) : RD c M ρ H' d v := h.keep (g := ⟨M, [], H, fun _ => False⟩) ⟨fun a o h m => ⟨e a o h, m⟩, ⟨[], (List.append_nil _).symm⟩, fun _ z => z.elim⟩
theorem Rel.pd (r : Rel c g M ρ s σ H) : ∀ a, g.P a → ∃ o, H a = some o := fun a h => let ⟨o, ho, _⟩ := r.h.dom a (r.gd.gp a h).1; ⟨o, ho⟩
theorem Rel.kext (r : Rel c g M ρ s σ H) (e : Ext H H') : Keep g M ρ H M ρ H' := .ext e r.pd
theorem DctOk.keep (k : Keep g M ρ H M' ρ' H') {b : Bool} {ks vs : List D} {a : Addr} (he : H' a = H a) (h : DctOk c M ρ H b ks vs a) : DctOk c M' ρ' H' b ks vs a := by
  cases b with
  | false =>
    obtain ⟨kvs, h1, h2, h3⟩ := h
    exact ⟨kvs, by rw [he]; exact h1, h2, h3.keep k⟩
  | true =>
    obtain ⟨o, xs, us, h1, h2, h3, h4, h5, h6⟩ := h
    exact ⟨o, xs, us, by rw [he]; exact h1, h2, h3, h4.keep k, h5.keep k, h6⟩
theorem OwnOk.keep (k : Keep g M ρ H M' ρ' H') {sl : Slot} {a : Addr} (he : H' a = H a) (h : OwnOk c M ρ H sl a) : OwnOk c M' ρ' H' sl a := by
  cases sl with
  | ol xs =>
    obtain ⟨vs, h1, h2⟩ := h
    exact ⟨vs, by rw [he]; exact h1, h2.keep k⟩
  | od b ks vs => exact DctOk.keep k he h
  | un => exact h
  | v d => exact h
theorem ObOk.keep (k : Keep g M ρ H M' ρ' H') {o : Ob} {a : Addr} (he : H' a = H a) (h : ObOk c M ρ H o a) : ObOk c M' ρ' H' o a := by
  cases o with
  | lst xs =>
    obtain ⟨vs, h1, h2⟩ := h
    exact ⟨vs, by rw [he]; exact h1, h2.keep k⟩
/-- the mutable ones as they are, new untracked things -/
theorem Rel.ext (r : Rel c g M ρ s σ H) (e : Ext H H') : Rel c g M ρ s σ H' := by
  have k : Keep g M ρ H M ρ H' := r.kext e
  have same : ∀ a, M a → H' a = H a := fun a m => by
    obtain ⟨o, ho, _⟩ := r.h.dom a m
    rw [ho]
    exact e a o ho
  refine ⟨⟨r.h.hl, fun j o a h1 h2 => (r.h.ho j o a h1 h2).keep k (same a (r.h.rm a (List.mem_of_getElem? h2))), r.h.nd, r.h.rm, fun a m => ?_⟩,
    ⟨fun a o h n => e a o (r.gd.g1 a o h n), r.gd.g2, r.gd.g3, r.gd.gd, r.gd.gm, r.gd.gr, r.gd.gp⟩,
    ⟨r.e.len, fun i d h => ?_, fun i sl h o => ?_, r.e.pro, r.e.sep⟩⟩
  · obtain ⟨o, ho, q⟩ := r.h.dom a m
    exact ⟨o, e a o ho, q⟩
  · obtain ⟨v, hv, hd⟩ := r.e.val i d h
    exact ⟨v, hv, hd.keep k⟩
  · obtain ⟨a, h1, h2, h3, h4, h5⟩ := r.e.own i sl h o
    exact ⟨a, h1, h2.keep k (same a h3), h3, h4, h5⟩
end

/-! ### readings -/
/-- an exception that lies -/
def XR (c : Cn) (x : Exn) (cls : Value) (dd : Option Addr) (H : Hp) : Prop := x.arg = none ∧ dd = none ∧ ∃ C, cls = .ref C ∧ c.mg x.cls = some (.ref C)
section
variable (c : Cn) (g : Gr) (W : WX)
def OutE (M : Am) (ρ : List Addr) (σ : L2.St) (H : Hp) (r : R D) (Q : VK) : Prop := match r with
  | .ok d s' => ∀ M' ρ' v H', Rel c g M' ρ' s' σ H' → Keep g M ρ H M' ρ' H' → RD c M' ρ' H' d v → Q v H'
  | .exc x s' => ∀ M' ρ' H' cls dd, Rel c g M' ρ' s' σ H' → Keep g M ρ H M' ρ' H' → XR c x cls dd H' → W cls dd σ H'
  | .bad => False
def tE (f : Ex) : TE := fun σ H Q => ∃ g M ρ s, Rel c g M ρ s σ H ∧ OutE c g W M ρ σ H (f s) Q
/-- a value at hand, or a name's own list at its slot -/
inductive Tok where
  | d (x : D) | s (i : Nat)
abbrev Op := S → R DS.Tok
def TokR (M : Am) (ρ : List Addr) (σ : L2.St) (H : Hp) (t : DS.Tok) (v : V) : Prop := match t with
  | .d x => RD c M ρ H x v
  | .s i => σ[i]? = some (some v)
def OutO (M : Am) (ρ : List Addr) (σ : L2.St) (H : Hp) (r : R DS.Tok) (Q : VK) : Prop := match r with
  | .ok t s' => ∀ M' ρ' v H', Rel c g M' ρ' s' σ H' → Keep g M ρ H M' ρ' H' → TokR c M' ρ' σ H' t v → Q v H'
  | .exc x s' => ∀ M' ρ' H' cls dd, Rel c g M' ρ' s' σ H' → Keep g M ρ H M' ρ' H' → XR c x cls dd H' → W cls dd σ H'
  | .bad => False
def tO (f : Op) : TE := fun σ H Q => ∃ g M ρ s, Rel c g M ρ s σ H ∧ OutO c g W M ρ σ H (f s) Q
/-- a new list, no name's and no value's -/
def Free (M : Am) (ρ : List Addr) (env : Env) (σ : L2.St) (a : Addr) : Prop := M a ∧ a ∉ ρ ∧ g.H0 a = none ∧ ¬ g.P a ∧ ∀ (i : Nat) (sl : Slot), env[i]? = some sl → sl.isOwn = true → σ[i]? ≠ some (some (.ref a))
def OutL (M : Am) (ρ : List Addr) (σ : L2.St) (H : Hp) (r : R (List D)) (Q : VK) : Prop := match r with
  | .ok xs s' => ∀ M' ρ' a vs H', Rel c g M' ρ' s' σ H' → Keep g M ρ H M' ρ' H' → H' a = some (.lst vs) → RDs c M' ρ' H' xs vs → Free g M' ρ' s'.env σ a → Q (.ref a) H'
  | .exc x s' => ∀ M' ρ' H' cls dd, Rel c g M' ρ' s' σ H' → Keep g M ρ H M' ρ' H' → XR c x cls dd H' → W cls dd σ H'
  | .bad => False
def tL (f : ExL) : TE := fun σ H Q => ∃ g M ρ s, Rel c g M ρ s σ H ∧ OutL c g W M ρ σ H (f s) Q
def OutS (M : Am) (ρ : List Addr) (H : Hp) (r : R Fl) (D : Ends) : Prop := match r with
  | .ok .nx s' => ∀ M' ρ' σ' H', Rel c g M' ρ' s' σ' H' → Keep g M ρ H M' ρ' H' → D.nx σ' H'
  | .ok (.rt d) s' => ∀ M' ρ' σ' H' v, Rel c g M' ρ' s' σ' H' → Keep g M ρ H M' ρ' H' → RD c M' ρ' H' d v → D.rt v H'
  | .ok .bk s' => ∀ M' ρ' σ' H', Rel c g M' ρ' s' σ' H' → Keep g M ρ H M' ρ' H' → D.bk σ' H'
  | .ok .ct s' => ∀ M' ρ' σ' H', Rel c g M' ρ' s' σ' H' → Keep g M ρ H M' ρ' H' → D.ct σ' H'
  | .exc x s' => ∀ M' ρ' σ' H' cls dd, Rel c g M' ρ' s' σ' H' → Keep g M ρ H M' ρ' H' → XR c x cls dd H' → W cls dd σ' H'
  | .bad => False
def tS (f : Sm) : TS := fun D σ H => ∃ g M ρ s, Rel c g M ρ s σ H ∧ OutS c g W M ρ H (f s) D
end
section
variable {c : Cn} {g : Gr} {W : WX} {M M' M1 : Am} {ρ ρ' ρ1 : List Addr} {H H' H1 : Hp} {s s' : S} {σ : L2.St} {Q : VK}
theorem OutE.keep (k : Keep g M ρ H M1 ρ1 H1) {r : R D} (h : OutE c g W M ρ σ H r Q) : OutE c g W M1 ρ1 σ H1 r Q := by
  cases r with
  | ok d s' => exact fun M' ρ' v H' a b e => h M' ρ' v H' a (k.trans b) e
  | exc x s' => exact fun M' ρ' H' cls dd a b e => h M' ρ' H' cls dd a (k.trans b) e
  | bad => exact h
theorem OutL.keep (k : Keep g M ρ H M1 ρ1 H1) {r : R (List D)} (h : OutL c g W M ρ σ H r Q) : OutL c g W M1 ρ1 σ H1 r Q := by
  cases r with
  | ok d s' => exact fun M' ρ' a vs H' x b => h M' ρ' a vs H' x (k.trans b)
  | exc x s' => exact fun M' ρ' H' cls dd a b e => h M' ρ' H' cls dd a (k.trans b) e
  | bad => exact h
theorem OutS.keep (k : Keep g M ρ H M1 ρ1 H1) {r : R Fl} {D : Ends} (h : OutS c g W M ρ H r D) : OutS c g W M1 ρ1 H1 r D := by
  cases r with
  | ok fl s' =>
    cases fl with
    | nx => exact fun M' ρ' σ' H' a b => h M' ρ' σ' H' a (k.trans b)
    | bk => exact fun M' ρ' σ' H' a b => h M' ρ' σ' H' a (k.trans b)
    | ct => exact fun M' ρ' σ' H' a b => h M' ρ' σ' H' a (k.trans b)
    | rt d => exact fun M' ρ' σ' H' v a b e => h M' ρ' σ' H' v a (k.trans b) e
  | exc x s' => exact fun M' ρ' σ' H' cls dd a b e => h M' ρ' σ' H' cls dd a (k.trans b) e
  | bad => exact h
theorem TokR.keep (k : Keep g M ρ H M1 ρ1 H1) {t : DS.Tok} {v : V} (h : TokR c M ρ σ H t v) : TokR c M1 ρ1 σ H1 t v := by
  cases t with
  | d x => exact RD.keep k h
  | s i => exact h
/-- what leads on: an operand, then the rest -/
theorem tO.bind {β : Type} {f : Op} {k : DS.Tok → S → R β} {out : Am → List Addr → Hp → R β → Prop} (rel : Rel c g M ρ s σ H)
    (hx : ∀ x s', out M ρ H (.exc x s') → ∀ M' ρ' H' cls dd, Rel c g M' ρ' s' σ H' → Keep g M ρ H M' ρ' H' → XR c x cls dd H' → W cls dd σ H') (hb : ¬ out M ρ H .bad)
    (h : out M ρ H ((f s).bind k)) (hq : ∀ t s1 M1 ρ1 v H1, Rel c g M1 ρ1 s1 σ H1 → Keep g M ρ H M1 ρ1 H1 → TokR c M1 ρ1 σ H1 t v → out M ρ H (k t s1) → Q v H1) : tO c W f σ H Q := by
  refine ⟨g, M, ρ, s, rel, ?_⟩
  cases e : f s with
  | ok t s1 =>
    rw [e] at h
    exact fun M1 ρ1 v H1 r1 k1 t1 => hq t s1 M1 ρ1 v H1 r1 k1 t1 h
  | exc x s1 =>
    rw [e] at h
    exact hx x s1 h
  | bad =>
    rw [e] at h
    exact hb h
theorem tE.bind {β : Type} {f : Ex} {k : D → S → R β} {out : Am → List Addr → Hp → R β → Prop} (rel : Rel c g M ρ s σ H)
    (hx : ∀ x s', out M ρ H (.exc x s') → ∀ M' ρ' H' cls dd, Rel c g M' ρ' s' σ H' → Keep g M ρ H M' ρ' H' → XR c x cls dd H' → W cls dd σ H') (hb : ¬ out M ρ H .bad)
    (h : out M ρ H ((f s).bind k)) (hq : ∀ d s1 M1 ρ1 v H1, Rel c g M1 ρ1 s1 σ H1 → Keep g M ρ H M1 ρ1 H1 → RD c M1 ρ1 H1 d v → out M ρ H (k d s1) → Q v H1) : tE c W f σ H Q := by
  refine ⟨g, M, ρ, s, rel, ?_⟩
  cases e : f s with
  | ok t s1 =>
    rw [e] at h
    exact fun M1 ρ1 v H1 r1 k1 t1 => hq t s1 M1 ρ1 v H1 r1 k1 t1 h
  | exc x s1 =>
    rw [e] at h
    exact hx x s1 h
  | bad =>
    rw [e] at h
    exact hb h
theorem tL.bind {β : Type} {f : ExL} {k : List D → S → R β} {out : Am → List Addr → Hp → R β → Prop} (rel : Rel c g M ρ s σ H)
    (hx : ∀ x s', out M ρ H (.exc x s') → ∀ M' ρ' H' cls dd, Rel c g M' ρ' s' σ H' → Keep g M ρ H M' ρ' H' → XR c x cls dd H' → W cls dd σ H') (hb : ¬ out M ρ H .bad)
    (h : out M ρ H ((f s).bind k)) (hq : ∀ xs s1 M1 ρ1 a vs H1, Rel c g M1 ρ1 s1 σ H1 → Keep g M ρ H M1 ρ1 H1 → H1 a = some (.lst vs) → RDs c M1 ρ1 H1 xs vs → Free g M1 ρ1 s1.env σ a → out M ρ H (k xs s1) → Q (.ref a) H1) : tL c W f σ H Q := by
  refine ⟨g, M, ρ, s, rel, ?_⟩
  cases e : f s with
  | ok t s1 =>
    rw [e] at h
    exact fun M1 ρ1 a vs H1 r1 k1 q1 q2 q3 => hq t s1 M1 ρ1 a vs H1 r1 k1 q1 q2 q3 h
  | exc x s1 =>
    rw [e] at h
    exact hx x s1 h
  | bad =>
    rw [e] at h
    exact hb h
/-- another reading of the same code -/
theorem pe_imp {X : Cx} {e : Expr} {t t' : TE} (h : PE X e t) (i : ∀ σ H Q, t' σ H Q → t σ H Q) : PE X e t' := ⟨fun pins s σ H Q I q => h.run pins s σ H Q I (i _ _ _ q)⟩
theorem pt_imp {X : Cx} {e : Expr} {t t' : TT} (h : PT X e t) (i : ∀ σ H Q, t' σ H Q → t σ H Q) : PT X e t' := ⟨fun pins s σ H Q I q => h.run pins s σ H Q I (i _ _ _ q)⟩
theorem pw_imp {X : Cx} {e : Expr} {t t' : TT} (h : PW X e t) (i : ∀ σ H Q, t' σ H Q → t σ H Q) : PW X e t' := ⟨fun wh pins s σ H Q I q => h.run wh pins s σ H Q I (i _ _ _ q)⟩
theorem pa_imp {X : Cx} {e : List Expr} {t t' : TA} (h : PA X e t) (i : ∀ σ H Q, t' σ H Q → t σ H Q) : PA X e t' := ⟨fun pos pins s σ H Q I q => h.run pos pins s σ H Q I (i _ _ _ q)⟩
theorem ps_imp {X : Cx} {e : Stmt} {t t' : TS} (h : PS X e t) (i : ∀ D σ H, t' D σ H → t D σ H) : PS X e t' := ⟨fun pins s σ H D I q => h.run pins s σ H D I (i _ _ _ q)⟩
theorem pss_imp {X : Cx} {e : List Stmt} {t t' : TS} (h : PSs X e t) (i : ∀ D σ H, t' D σ H → t D σ H) : PSs X e t' := ⟨fun pins s σ H D I q => h.run pins s σ H D I (i _ _ _ q)⟩
end

/-! ### a name's own list as it stands -/
def derefD (s : S) : D → Option D
  | .ref j => match s.hp[j]? with
    | some (.lst xs) => some (.lst xs)
    | none => none
  | d => some d
def deref (s : S) : DS.Tok → Option D
  | .d x => derefD s x
  | .s i => match s.env[i]? with
    | some (.v d) => derefD s d
    | some (.ol xs) => some (.lst xs)
    | some (.od k ks vs) => some (.dct k ks vs)
    | _ => none
/-- data that stands for now -/
inductive RW (c : Cn) (M : Am) (ρ : List Addr) (H : Hp) : D → V → Prop
  | v {d : D} {v : V} (h : RD c M ρ H d v) (n : ∀ j, d ≠ .ref j) : RW c M ρ H d v
  | l {xs : List D} {a : Addr} {vs : List V} (h : H a = some (.lst vs)) (r : RDs c M ρ H xs vs) : RW c M ρ H (.lst xs) (.ref a)
  | d {k : Bool} {ks vs : List D} {a : Addr} (h : DctOk c M ρ H k ks vs a) : RW c M ρ H (.dct k ks vs) (.ref a)
section
variable {c : Cn} {g : Gr} {M : Am} {ρ : List Addr} {H : Hp} {s : S} {σ : L2.St}
theorem RW.of_deref (r : Rel c g M ρ s σ H) {x d : D} {v : V} (h : RD c M ρ H x v) (e : derefD s x = some d) : RW c M ρ H d v := by
  cases h with
  | ref h =>
    rename_i j a
    have e : (match s.hp[j]? with | some (Ob.lst xs) => some (D.lst xs) | none => none) = some d := e
    cases q : s.hp[j]? with
    | none => simp only [q] at e; cases e
    | some o =>
      simp only [q] at e
      cases o with
      | lst xs =>
        cases e
        obtain ⟨vs, h1, h2⟩ := r.h.ho j _ a q h
        exact .l h1 h2
  | non => cases e; exact .v .non (fun j z => by cases z)
  | bl b => cases e; exact .v (.bl b) (fun j z => by cases z)
  | int i => cases e; exact .v (.int i) (fun j z => by cases z)
  | str y => cases e; exact .v (.str y) (fun j z => by cases z)
  | fn h => cases e; exact .v (.fn h) (fun j z => by cases z)
  | tupH h m q => cases e; exact .v (.tupH h m q) (fun j z => by cases z)
  | pr h m q => cases e; exact .v (.pr h m q) (fun j z => by cases z)
  | tupK h q => cases e; exact .v (.tupK h q) (fun j z => by cases z)
  | lst h m q => cases e; exact .v (.lst h m q) (fun j z => by cases z)
  | scr h m q => cases e; exact .v (.scr h m q) (fun j z => by cases z)
  | scrK h q => cases e; exact .v (.scrK h q) (fun j z => by cases z)
  | dctK h m q r => cases e; exact .v (.dctK h m q r) (fun j z => by cases z)
  | dctT h m g q kr r v => cases e; exact .v (.dctT h m g q kr r v) (fun j z => by cases z)
theorem RW.of_tok (r : Rel c g M ρ s σ H) {t : DS.Tok} {d : D} {v : V} (h : TokR c M ρ σ H t v) (e : deref s t = some d) : RW c M ρ H d v := by
  cases t with
  | d x => exact RW.of_deref r h e
  | s i =>
    unfold deref at e
    have h : σ[i]? = some (some v) := h
    cases q : s.env[i]? with
    | none => simp only [q] at e; cases e
    | some sl =>
      simp only [q] at e
      cases sl with
      | un => cases e
      | v x =>
        obtain ⟨u, h1, h2⟩ := r.e.val i x q
        rw [h] at h1
        cases h1
        exact RW.of_deref r h2 e
      | ol xs =>
        cases e
        obtain ⟨a, h1, ⟨vs, h2, h3⟩, _⟩ := r.e.own i _ q rfl
        rw [h] at h1
        cases h1
        exact .l h2 h3
      | od k ks vs =>
        cases e
        obtain ⟨a, h1, h2, _⟩ := r.e.own i _ q rfl
        rw [h] at h1
        cases h1
        exact .d h2
end
end DS
/-! DS3: how states change; names, constants, operators, tests. -/
namespace DS
open PySem PySem.Spec PyProof.Rows L2

theorem set_self {α : Type} : ∀ {l : List α} {i : Nat} {x : α}, l[i]? = some x → l.set i x = l
  | [], _, _, h => by simp at h
  | y :: l, 0, x, h => by simp at h; subst h; rfl
  | y :: l, i + 1, x, h => by
    show y :: l.set i x = y :: l
    rw [set_self (by simpa using h)]
section
variable {c : Cn} {g : Gr} {M : Am} {ρ : List Addr} {env : Env} {hp : List Ob} {σ : L2.St} {H : Hp} {i : Nat} {a : Addr}
theorem get_set_ne {α : Type} {l : List α} {i j : Nat} {x : α} (h : j ≠ i) : (l.set i x)[j]? = l[j]? := List.getElem?_set_ne (Ne.symm h)
theorem get_set_eq {α : Type} {l : List α} {i : Nat} {x : α} (h : i < l.length) : (l.set i x)[i]? = some x := by simp [h]
theorem get_set_some {α : Type} {l : List α} {i j : Nat} {x y : α} (h : (l.set i x)[j]? = some y) : (j = i ∧ y = x ∧ i < l.length) ∨ (j ≠ i ∧ l[j]? = some y) := by
  by_cases e : j = i
  · subst e
    left
    have hl : j < (l.set j x).length := (List.getElem?_eq_some_iff.mp h).1
    rw [List.length_set] at hl
    rw [get_set_eq hl] at h
    exact ⟨rfl, (Option.some.inj h).symm, hl⟩
  · right
    rw [get_set_ne e] at h
    exact ⟨e, h⟩
/-- a slot holds a value -/
theorem Rel.setv (r : Rel c g M ρ ⟨env, hp⟩ σ H) {d : D} {v : V} (hv : RD c M ρ H d v) : Rel c g M ρ ⟨env.set i (.v d), hp⟩ (σ.set i (some v)) H := by
  refine ⟨r.h, r.gd, ⟨by simp [r.e.len], fun j d' h => ?_, fun j sl h o => ?_, fun j sl b h o e => ?_, fun j k sl sl' b h o h' o' e e' => ?_⟩⟩
  · rcases get_set_some h with ⟨rfl, e, hl⟩ | ⟨ne, h⟩
    · cases e
      exact ⟨v, get_set_eq (by rw [← r.e.len]; exact hl), hv⟩
    · obtain ⟨u, h1, h2⟩ := r.e.val j d' h
      exact ⟨u, by rw [get_set_ne ne]; exact h1, h2⟩
  · rcases get_set_some h with ⟨rfl, e, hl⟩ | ⟨ne, h⟩
    · cases e
      cases o
    · obtain ⟨a, h1, h2⟩ := r.e.own j sl h o
      exact ⟨a, by rw [get_set_ne ne]; exact h1, h2⟩
  · rcases get_set_some h with ⟨rfl, q, hl⟩ | ⟨ne, h⟩
    · cases q
      cases o
    · rw [get_set_ne ne] at e
      exact r.e.pro j sl b h o e
  · rcases get_set_some h with ⟨rfl, q, hl⟩ | ⟨ne, h⟩
    · cases q
      cases o
    · rcases get_set_some h' with ⟨rfl, q, hl⟩ | ⟨ne', h'⟩
      · cases q
        cases o'
      · rw [get_set_ne ne] at e
        rw [get_set_ne ne'] at e'
        exact r.e.sep j k sl sl' b h o h' o' e e'
/-- a slot is given up -/
theorem Rel.unslot (r : Rel c g M ρ ⟨env, hp⟩ σ H) (i : Nat) : Rel c g M ρ ⟨env.set i .un, hp⟩ σ H := by
  refine ⟨r.h, r.gd, ⟨by simp [r.e.len], fun j d' h => ?_, fun j sl h o => ?_, fun j sl b h o e => ?_, fun j k sl sl' b h o h' o' e e' => ?_⟩⟩
  · rcases get_set_some h with ⟨rfl, e, hl⟩ | ⟨ne, h⟩
    · cases e
    · exact r.e.val j d' h
  · rcases get_set_some h with ⟨rfl, e, hl⟩ | ⟨ne, h⟩
    · cases e
      cases o
    · exact r.e.own j sl h o
  · rcases get_set_some h with ⟨rfl, q, hl⟩ | ⟨ne, h⟩
    · cases q
      cases o
    · exact r.e.pro j sl b h o e
  · rcases get_set_some h with ⟨rfl, q, hl⟩ | ⟨ne, h⟩
    · cases q
      cases o
    · rcases get_set_some h' with ⟨rfl, q, hl⟩ | ⟨ne', h'⟩
      · cases q
        cases o'
      · exact r.e.sep j k sl sl' b h o h' o' e e'
/-- an own list is no name's any more, nor mutable -/
def less (M : Am) (a : Addr) : Am := fun b => M b ∧ b ≠ a
theorem Rel.lessM {s : S} (r : Rel c g M ρ s σ H) (f : Free g M ρ s.env σ a) : Rel c g (less M a) ρ s σ H := by
  have l : ∀ b, less M a b → M b := fun b h => h.1
  have k : Keep g M ρ H (less M a) ρ H := ⟨fun b o h m => ⟨h, fun z => m z.1⟩, ⟨[], (List.append_nil _).symm⟩, fun _ _ => rfl⟩
  obtain ⟨f1, f2, f3, f5, f4⟩ := f
  refine ⟨⟨r.h.hl, fun j o b h1 h2 => (r.h.ho j o b h1 h2).keep k rfl, r.h.nd, fun b hb => ⟨r.h.rm b hb, fun z => f2 (z ▸ hb)⟩, fun b m => r.h.dom b m.1⟩,
    ⟨r.gd.g1, fun b o h n z => r.gd.g2 b o h n z.1, fun b h => ⟨r.gd.g3 b h, fun z => ?_⟩, r.gd.gd, r.gd.gm, r.gd.gr, fun b h => ⟨⟨(r.gd.gp b h).1, fun z => f5 (z ▸ h)⟩, (r.gd.gp b h).2⟩⟩, ⟨r.e.len, fun j d h => ?_, fun j sl h o => ?_, r.e.pro, r.e.sep⟩⟩
  · subst z
    obtain ⟨o, ho⟩ := r.gd.gd b h
    rw [f3] at ho
    cases ho
  · obtain ⟨v, h1, h2⟩ := r.e.val j d h
    exact ⟨v, h1, h2.keep k⟩
  · obtain ⟨b, h1, h2, h3, h4, h5⟩ := r.e.own j sl h o
    exact ⟨b, h1, h2.keep k rfl, ⟨h3, fun z => f4 j sl h o (z ▸ h1)⟩, h4, h5⟩
theorem keep_less : Keep g M ρ H (less M a) ρ H := ⟨fun b o h m => ⟨h, fun z => m z.1⟩, ⟨[], (List.append_nil _).symm⟩, fun _ _ => rfl⟩
/-- a slot takes a free list -/
theorem Rel.setown (r : Rel c g M ρ ⟨env, hp⟩ σ H) (f : Free g M ρ env σ a) {sl : Slot} (ho : sl.isOwn = true) (h : OwnOk c M ρ H sl a) : Rel c g M ρ ⟨env.set i sl, hp⟩ (σ.set i (some (.ref a))) H := by
  obtain ⟨f1, f2, f3, f5, f4⟩ := f
  refine ⟨r.h, r.gd, ⟨by simp [r.e.len], fun j d' h' => ?_, fun j sl' h' o => ?_, fun j sl' b h' o e => ?_, fun j k sl1 sl2 b h1 o1 h2 o2 e e' => ?_⟩⟩
  · rcases get_set_some h' with ⟨rfl, e, hl⟩ | ⟨ne, h'⟩
    · subst e
      cases ho
    · obtain ⟨u, h1, h2⟩ := r.e.val j d' h'
      exact ⟨u, by rw [get_set_ne ne]; exact h1, h2⟩
  · rcases get_set_some h' with ⟨rfl, e, hl⟩ | ⟨ne, h'⟩
    · subst e
      exact ⟨a, get_set_eq (by rw [← r.e.len]; exact hl), h, f1, f2, f3⟩
    · obtain ⟨b, h1, h2⟩ := r.e.own j sl' h' o
      exact ⟨b, by rw [get_set_ne ne]; exact h1, h2⟩
  · rcases get_set_some h' with ⟨rfl, q, hl⟩ | ⟨ne, h'⟩
    · rw [get_set_eq (by rw [← r.e.len]; exact hl)] at e
      cases e
      exact f5
    · rw [get_set_ne ne] at e
      exact r.e.pro j sl' b h' o e
  · rcases get_set_some h1 with ⟨e1, q, hl⟩ | ⟨ne, p1⟩
    · rcases get_set_some h2 with ⟨e2, q', hl'⟩ | ⟨ne', p2⟩
      · rw [e1, e2]
      · rw [e1, get_set_eq (by rw [← r.e.len]; exact hl)] at e
        rw [get_set_ne ne'] at e'
        cases e
        exact absurd e' (f4 k sl2 p2 o2)
    · rcases get_set_some h2 with ⟨e2, q', hl'⟩ | ⟨ne', p2⟩
      · rw [e2, get_set_eq (by rw [← r.e.len]; exact hl')] at e'
        rw [get_set_ne ne] at e
        cases e'
        exact absurd e (f4 j sl1 p1 o1)
      · rw [get_set_ne ne] at e
        rw [get_set_ne ne'] at e'
        exact r.e.sep j k sl1 sl2 b p1 o1 p2 o2 e e'
/-- a new list is laid -/
def more (M : Am) (a : Addr) : Am := fun b => M b ∨ b = a
theorem keep_more {H' : Hp} (e : Ext H H') (n : H a = none) (d : ∀ a, g.P a → ∃ o, H a = some o) : Keep g M ρ H (more M a) ρ H' := ⟨fun b o h m => ⟨e b o h, fun z => z.elim m fun q => ne_of_none h n q⟩, ⟨[], (List.append_nil _).symm⟩, fun b h => by
  obtain ⟨o, ho⟩ := d b h
  rw [ho]
  exact e b o ho⟩
theorem Rel.newM {s : S} {H' : Hp} (r : Rel c g M ρ s σ H) (e : Ext H H') (n : H a = none) {o : HO} (ha : H' a = some o) (mo : mutO o = true) : Rel c g (more M a) ρ s σ H' ∧ Free g (more M a) ρ s.env σ a := by
  have k : Keep g M ρ H (more M a) ρ H' := keep_more e n r.pd
  have same : ∀ b, M b → H' b = H b := fun b m => by
    obtain ⟨o, ho, _⟩ := r.h.dom b m
    rw [ho]
    exact e b o ho
  have nM : ¬ M a := fun m => by
    obtain ⟨o, ho, _⟩ := r.h.dom a m
    rw [n] at ho
    cases ho
  have n0 : g.H0 a = none := by
    cases q : g.H0 a with
    | none => rfl
    | some o =>
      by_cases hr : a ∈ g.ρ0
      · exact absurd (r.gd.g3 a (r.gd.gm a hr)) nM
      · rw [r.gd.g1 a o q hr] at n
        cases n
  refine ⟨⟨⟨r.h.hl, fun j o b h1 h2 => (r.h.ho j o b h1 h2).keep k (same b (r.h.rm b (List.mem_of_getElem? h2))), r.h.nd, fun b hb => .inl (r.h.rm b hb), fun b m => ?_⟩,
    ⟨fun b o h q => e b o (r.gd.g1 b o h q), fun b o h q z => ?_, fun b h => .inl (r.gd.g3 b h), r.gd.gd, r.gd.gm, r.gd.gr, fun b h => ⟨.inl (r.gd.gp b h).1, (r.gd.gp b h).2⟩⟩, ⟨r.e.len, fun j d h => ?_, fun j sl h o => ?_, r.e.pro, r.e.sep⟩⟩,
    .inr rfl, fun hr => nM (r.h.rm a hr), n0, fun hp => nM (r.gd.gp a hp).1, fun j sl h o z => ?_⟩
  · rcases m with m | rfl
    · obtain ⟨o, ho, q⟩ := r.h.dom b m
      exact ⟨o, e b o ho, q⟩
    · exact ⟨_, ha, mo⟩
  · rcases z with z | z
    · exact r.gd.g2 b o h q z
    · subst z
      rw [n0] at h
      cases h
  · obtain ⟨v, h1, h2⟩ := r.e.val j d h
    exact ⟨v, h1, h2.keep k⟩
  · obtain ⟨b, h1, h2, h3, h4, h5⟩ := r.e.own j sl h o
    exact ⟨b, h1, h2.keep k (same b h3), .inl h3, h4, h5⟩
  · obtain ⟨b, h1, h2, h3, h4, h5⟩ := r.e.own j sl h o
    rw [h1] at z
    cases z
    exact nM h3
/-- a slot's own list is changed -/
theorem Rel.mutown (r : Rel c g M ρ ⟨env, hp⟩ σ H) {sl sl' : Slot} {o : HO} (h : env[i]? = some sl) (ho : sl.isOwn = true) (hs : σ[i]? = some (some (.ref a))) (ho' : sl'.isOwn = true) (mo : mutO o = true)
    (h' : OwnOk c M ρ (upd H a o) sl' a) : Rel c g M ρ ⟨env.set i sl', hp⟩ σ (upd H a o) := by
  obtain ⟨b, h1, h2, h3, h4, h5⟩ := r.e.own i sl h ho
  rw [hs] at h1
  cases h1
  have k : Keep g M ρ H M ρ (upd H a o) := ⟨fun b u q m => ⟨by rw [upd_ne (fun z : b = a => m (by rw [z]; exact h3))]; exact q, m⟩, ⟨[], (List.append_nil _).symm⟩, fun b hb => upd_ne (fun z : b = a => r.e.pro i sl a h ho hs (by rw [← z]; exact hb))⟩
  have same : ∀ b, b ≠ a → upd H a o b = H b := fun b q => upd_ne q
  have hi : i < env.length := (List.getElem?_eq_some_iff.mp h).1
  refine ⟨⟨r.h.hl, fun j ob b q1 q2 => (r.h.ho j ob b q1 q2).keep k (same b (fun z => h4 (z ▸ List.mem_of_getElem? q2))), r.h.nd, r.h.rm, fun b m => ?_⟩,
    ⟨fun b u q n => by rw [same b (fun z => by rw [z] at q; rw [h5] at q; cases q)]; exact r.gd.g1 b u q n, r.gd.g2, r.gd.g3, r.gd.gd, r.gd.gm, r.gd.gr, r.gd.gp⟩, ⟨by simp [r.e.len], fun j d q => ?_, fun j s2 q oq => ?_, fun j s2 b q oq e => ?_, fun j l s1 s2 b q1 o1 q2 o2 e1 e2 => ?_⟩⟩
  · by_cases e : b = a
    · subst e
      exact ⟨o, upd_same, mo⟩
    · obtain ⟨u, q1, q2⟩ := r.h.dom b m
      exact ⟨u, by rw [same b e]; exact q1, q2⟩
  · rcases get_set_some q with ⟨rfl, e, hl⟩ | ⟨ne, q⟩
    · subst e
      cases ho'
    · obtain ⟨v, q1, q2⟩ := r.e.val j d q
      exact ⟨v, q1, q2.keep k⟩
  · rcases get_set_some q with ⟨rfl, e, hl⟩ | ⟨ne, q⟩
    · subst e
      exact ⟨a, hs, h', h3, h4, h5⟩
    · obtain ⟨b, q1, q2, q3, q4, q5⟩ := r.e.own j s2 q oq
      refine ⟨b, q1, q2.keep k (same b fun z => ?_), q3, q4, q5⟩
      subst z
      exact ne (r.e.sep j i s2 sl b q oq h ho q1 hs)
  · rcases get_set_some q with ⟨rfl, e', hl⟩ | ⟨ne, q⟩
    · exact r.e.pro j sl b h ho e
    · exact r.e.pro j s2 b q oq e
  · have up : ∀ {j : Nat} {s1 : Slot}, (env.set i sl')[j]? = some s1 → s1.isOwn = true → ∃ s0, env[j]? = some s0 ∧ s0.isOwn = true := fun {j s1} q o => by
      rcases get_set_some q with ⟨rfl, e, hl⟩ | ⟨ne, q⟩
      · exact ⟨sl, h, ho⟩
      · exact ⟨s1, q, o⟩
    obtain ⟨u1, p1, p2⟩ := up q1 o1
    obtain ⟨u2, p3, p4⟩ := up q2 o2
    exact r.e.sep j l u1 u2 b p1 p2 p3 p4 e1 e2
theorem keep_mut {o : HO} (m : M a) (p : ¬ g.P a) : Keep g M ρ H M ρ (upd H a o) := ⟨fun b u q n => ⟨by rw [upd_ne (fun z : b = a => n (by rw [z]; exact m))]; exact q, n⟩, ⟨[], (List.append_nil _).symm⟩, fun b hb => upd_ne (fun z : b = a => p (by rw [← z]; exact hb))⟩
/-- a shared list is changed -/
theorem Rel.muthp {s : S} (r : Rel c g M ρ s σ H) {j : Nat} {ob : Ob} {o : HO} (hj : ρ[j]? = some a) (mo : mutO o = true) (h' : ObOk c M ρ (upd H a o) ob a) : Rel c g M ρ ⟨s.env, s.hp.set j ob⟩ σ (upd H a o) := by
  have hm : a ∈ ρ := List.mem_of_getElem? hj
  have k : Keep g M ρ H M ρ (upd H a o) := keep_mut (r.h.rm a hm) (fun hp => (r.gd.gp a hp).2 hm)
  have same : ∀ b, b ≠ a → upd H a o b = H b := fun b q => upd_ne q
  refine ⟨⟨by simp [r.h.hl], fun l ob' b q1 q2 => ?_, r.h.nd, r.h.rm, fun b m => ?_⟩, ⟨fun b u q n => ?_, r.gd.g2, r.gd.g3, r.gd.gd, r.gd.gm, r.gd.gr, r.gd.gp⟩, ⟨r.e.len, fun i d q => ?_, fun i s2 q oq => ?_, r.e.pro, r.e.sep⟩⟩
  · rcases get_set_some q1 with ⟨rfl, e, hl⟩ | ⟨ne, q1⟩
    · subst e
      rw [hj] at q2
      cases q2
      exact h'
    · refine (r.h.ho l ob' b q1 q2).keep k (same b fun z => ne ?_)
      subst z
      have n1 : j < ρ.length := (List.getElem?_eq_some_iff.mp hj).1
      have n2 : l < ρ.length := (List.getElem?_eq_some_iff.mp q2).1
      exact (List.getElem_inj r.h.nd).mp (by rw [(List.getElem?_eq_some_iff.mp q2).2, (List.getElem?_eq_some_iff.mp hj).2])
  · by_cases e : b = a
    · subst e
      exact ⟨o, upd_same, mo⟩
    · obtain ⟨u, q1, q2⟩ := r.h.dom b m
      exact ⟨u, by rw [same b e]; exact q1, q2⟩
  · rw [same b (fun z => ?_)]
    · exact r.gd.g1 b u q n
    · subst z
      obtain ⟨l, e, hl⟩ := r.gd.gr
      rw [e] at hm
      rcases List.mem_append.mp hm with hm | hm
      · exact n hm
      · rw [hl b hm] at q
        cases q
  · obtain ⟨v, q1, q2⟩ := r.e.val i d q
    exact ⟨v, q1, q2.keep k⟩
  · obtain ⟨b, q1, q2, q3, q4, q5⟩ := r.e.own i s2 q oq
    exact ⟨b, q1, q2.keep k (same b fun z => q4 (z ▸ hm)), q3, q4, q5⟩
end

/-! ### names and constants -/
def cst (d : D) : Ex := fun s => .ok d s
def var (i : Nat) : Ex := fun s => match s.env[i]? with
  | some (.v d) => .ok d s
  | some (.ol xs) => .ok (.lst xs) ⟨s.env.set i (.v (.lst xs)), s.hp⟩
  | some (.od k ks vs) => .ok (.dct k ks vs) ⟨s.env.set i (.v (.dct k ks vs)), s.hp⟩
  | _ => .bad
def oV (f : Ex) : Op := fun s => (f s).map .d
def oS (i : Nat) : Op := fun s => match s.env[i]? with
  | some .un => .bad
  | none => .bad
  | _ => .ok (.s i) s
/-- a list as a value -/
def ofL (f : ExL) : Ex := fun s => (f s).map .lst
section
variable {X : Cx} {c : Cn} {g : Gr} {W : WX} {pos : Pos}
theorem tE.cst {d : D} {v : V} {σ : L2.St} {H : Hp} {Q : VK} (hv : ∀ M ρ H, RD c M ρ H d v) (h : tE c W (cst d) σ H Q) : Q v H := by
  obtain ⟨g, M, ρ, s, rel, h⟩ := h
  exact h M ρ v H rel (Keep.refl _ _ _ _) (hv _ _ _)
theorem e_int {i : Int} {j} : PE X (.Constant (.int i) j pos) (tE c W (cst (.int i))) := pe_imp pe_int fun _ _ _ h => tE.cst (fun _ _ _ => .int i) h
theorem e_bl {b : Bool} {j} : PE X (.Constant (.bool b) j pos) (tE c W (cst (.bl b))) := pe_imp pe_bl fun _ _ _ h => tE.cst (fun _ _ _ => .bl b) h
theorem e_non {j} : PE X (.Constant .none j pos) (tE c W (cst .non)) := pe_imp pe_non fun _ _ _ h => tE.cst (fun _ _ _ => .non) h
theorem e_str {x : Str} {j} : PE X (.Constant (.str x) j pos) (tE c W (cst (.str x))) := pe_imp pe_str fun _ _ _ h => tE.cst (fun _ _ _ => .str x) h
theorem Free.of_own {M : Am} {ρ : List Addr} {env : Env} {hp : List Ob} {σ : L2.St} {H : Hp} (rel : Rel c g M ρ ⟨env, hp⟩ σ H) {i : Nat} {sl : Slot} {a : Addr} (h : env[i]? = some sl) (ho : sl.isOwn = true)
    (hs : σ[i]? = some (some (.ref a))) : Free g M ρ (env.set i .un) σ a := by
  obtain ⟨b, h1, h2, h3, h4, h5⟩ := rel.e.own i sl h ho
  rw [hs] at h1
  cases h1
  refine ⟨h3, h4, h5, rel.e.pro i sl a h ho hs, fun j s2 q o z => ?_⟩
  rcases get_set_some q with ⟨rfl, e, hl⟩ | ⟨ne, q⟩
  · subst e
    cases o
  · exact ne (rel.e.sep j i s2 sl a q o h ho z hs)
theorem e_var (i : Nat) {x : Str} (hN : X.N[i]? = some x := by rfl) (hv : Vis X.env.scope x := by first | exact Or.inl rfl | exact Or.inr (Or.inl rfl) | exact Or.inr (Or.inr rfl))
    (hd : (x == ("__debug__" : Str)) = false := by decide) (hcd : (x == ("__classdict__" : Str)) = false := by decide) : PE X (.Name x pos) (tE c W (var i)) := by
  refine pe_imp (pe_var hN hv hd hcd) fun σ H Q h => ?_
  obtain ⟨g, M, ρ, ⟨env, hp⟩, rel, h⟩ := h
  unfold var at h
  cases q : env[i]? with
  | none => simp only [q] at h; exact h.elim
  | some sl =>
    simp only [q] at h
    cases sl with
    | un => exact h.elim
    | od k ks ws =>
      obtain ⟨a, h1, h2, h3, h4, h5⟩ := rel.e.own i _ q rfl
      have r1 := rel.unslot i
      have r2 := r1.lessM (Free.of_own rel q rfl h1)
      have hd : RD c (less M a) ρ H (.dct k ks ws) (.ref a) := by
        cases k with
        | false =>
          obtain ⟨kvs, p1, p2, p3⟩ := h2
          exact .dctK p1 (fun z => z.2 rfl) p2 (p3.keep (keep_less (g := g)))
        | true =>
          obtain ⟨o, xs, us, p1, p2, p3, p4, p5, p6⟩ := h2
          exact .dctT p1 (fun z => z.2 rfl) p2 p3 (p4.keep (keep_less (g := g))) (p5.keep (keep_less (g := g))) p6
      have r3 := r2.setv (i := i) hd
      rw [set_self h1, List.set_set] at r3
      exact ⟨.ref a, h1, h (less M a) ρ (.ref a) H r3 keep_less hd⟩
    | v d =>
      obtain ⟨v, h1, h2⟩ := rel.e.val i d q
      exact ⟨v, h1, h M ρ v H rel (Keep.refl _ _ _ _) h2⟩
    | ol xs =>
      obtain ⟨a, h1, ⟨vs, h2, h2'⟩, h3, h4, h5⟩ := rel.e.own i _ q rfl
      have r1 := rel.unslot i
      have r2 := r1.lessM (Free.of_own rel q rfl h1)
      have hd : RD c (less M a) ρ H (.lst xs) (.ref a) := .lst h2 (fun z => z.2 rfl) (h2'.keep (keep_less (g := g)))
      have r3 := r2.setv (i := i) hd
      rw [set_self h1, List.set_set] at r3
      exact ⟨.ref a, h1, h (less M a) ρ (.ref a) H r3 keep_less hd⟩
theorem o_val {e : Expr} {f : Ex} (h : PE X e (tE c W f)) : PE X e (tO c W (oV f)) := pe_imp h fun σ H Q h => by
  obtain ⟨g, M, ρ, s, rel, h⟩ := h
  refine ⟨g, M, ρ, s, rel, ?_⟩
  unfold oV at h
  cases q : f s with
  | ok d s' =>
    rw [q] at h
    exact h
  | exc x s' =>
    rw [q] at h
    exact h
  | bad =>
    rw [q] at h
    exact h
theorem o_slot (i : Nat) {x : Str} (hN : X.N[i]? = some x := by rfl) (hv : Vis X.env.scope x := by first | exact Or.inl rfl | exact Or.inr (Or.inl rfl) | exact Or.inr (Or.inr rfl))
    (hd : (x == ("__debug__" : Str)) = false := by decide) (hcd : (x == ("__classdict__" : Str)) = false := by decide) : PE X (.Name x pos) (tO c W (oS i)) := by
  refine pe_imp (pe_var hN hv hd hcd) fun σ H Q h => ?_
  obtain ⟨g, M, ρ, s, rel, h⟩ := h
  unfold oS at h
  have fin : ∀ v, σ[i]? = some (some v) → OutO c g W M ρ σ H (.ok (.s i) s) Q → ∃ v, σ[i]? = some (some v) ∧ Q v H := fun v hv h => ⟨v, hv, h M ρ v H rel (Keep.refl _ _ _ _) hv⟩
  cases q : s.env[i]? with
  | none => simp only [q] at h; exact h.elim
  | some sl =>
    simp only [q] at h
    cases sl with
    | un => exact h.elim
    | v d =>
      obtain ⟨v, h1, h2⟩ := rel.e.val i d q
      exact fin v h1 h
    | ol xs =>
      obtain ⟨a, h1, _⟩ := rel.e.own i _ q rfl
      exact fin _ h1 h
    | od k ks vs =>
      obtain ⟨a, h1, _⟩ := rel.e.own i _ q rfl
      exact fin _ h1 h
/-- a list as a value -/
theorem tL.val {f : ExL} {σ : L2.St} {H : Hp} {Q : VK} (h : tE c W (ofL f) σ H Q) : tL c W f σ H Q := by
  obtain ⟨g, M, ρ, s, rel, h⟩ := h
  refine ⟨g, M, ρ, s, rel, ?_⟩
  unfold ofL at h
  cases q : f s with
  | bad =>
    rw [q] at h
    exact h
  | exc x s' =>
    rw [q] at h
    exact h
  | ok xs s' =>
    rw [q] at h
    intro M' ρ' a vs H' r k ha hx f
    exact h (less M' a) ρ' (.ref a) H' (r.lessM f) (k.trans keep_less) (.lst ha (fun z => z.2 rfl) (hx.keep (keep_less (g := g))))
theorem e_ofL {e : Expr} {f : ExL} (h : PE X e (tL c W f)) : PE X e (tE c W (ofL f)) := pe_imp h fun _ _ _ h => tL.val h
end
end DS
/-! DS4: operators on data. -/
namespace DS
open PySem PySem.Spec PyProof.Rows L2

/-! ### one, two operands -/
def op1 (F : D → Option D) (o : Op) : Ex := fun s => (o s).bind fun t s1 => R.of ((deref s1 t).bind F) s1
def op2 (F : D → D → Option D) (o1 o2 : Op) : Ex := fun s => (o1 s).bind fun t1 s1 => (o2 s1).bind fun t2 s2 => R.of ((deref s2 t1).bind fun x => (deref s2 t2).bind fun y => F x y) s2
def op3 (F : D → D → D → Option D) (o1 o2 o3 : Op) : Ex := fun s => (o1 s).bind fun t1 s1 => (o2 s1).bind fun t2 s2 => (o3 s2).bind fun t3 s3 => R.of ((deref s3 t1).bind fun x => (deref s3 t2).bind fun y => (deref s3 t3).bind fun z => F x y z) s3
/-- .. that make a new list -/
def op1L (F : D → Option (List D)) (o : Op) : ExL := fun s => (o s).bind fun t s1 => R.of ((deref s1 t).bind F) s1
def op2L (F : D → D → Option (List D)) (o1 o2 : Op) : ExL := fun s => (o1 s).bind fun t1 s1 => (o2 s1).bind fun t2 s2 => R.of ((deref s2 t1).bind fun x => (deref s2 t2).bind fun y => F x y) s2
def Dm (M : Am) (H : Hp) : Prop := ∀ a, M a → ∃ o, H a = some o ∧ mutO o = true
/-- what a rule by values asks is shown by data -/
def V1 (c : Cn) (r : V → Hp → VK → Prop) (F : D → Option D) : Prop := ∀ (M : Am) (ρ : List Addr) (H : Hp) (x e : D) (v : V) (Q : VK), Dm M H → RW c M ρ H x v → F x = some e → (∀ u H', Ext H H' → RD c M ρ H' e u → Q u H') → r v H Q
def V2 (c : Cn) (r : R2) (F : D → D → Option D) : Prop := ∀ (M : Am) (ρ : List Addr) (H : Hp) (x y e : D) (v u : V) (Q : VK), Dm M H → RW c M ρ H x v → RW c M ρ H y u → F x y = some e → (∀ w H', Ext H H' → RD c M ρ H' e w → Q w H') → r v u H Q
def V1L (c : Cn) (r : V → Hp → VK → Prop) (F : D → Option (List D)) : Prop := ∀ (M : Am) (ρ : List Addr) (H : Hp) (x : D) (v : V) (xs : List D) (Q : VK), Dm M H → RW c M ρ H x v → F x = some xs →
  (∀ a vs H', H a = none → Ext H H' → H' a = some (.lst vs) → RDs c M ρ H xs vs → Q (.ref a) H') → r v H Q
def V2L (c : Cn) (r : R2) (F : D → D → Option (List D)) : Prop := ∀ (M : Am) (ρ : List Addr) (H : Hp) (x y : D) (v u : V) (xs : List D) (Q : VK), Dm M H → RW c M ρ H x v → RW c M ρ H y u → F x y = some xs →
  (∀ a vs H', H a = none → Ext H H' → H' a = some (.lst vs) → RDs c M ρ H xs vs → Q (.ref a) H') → r v u H Q
section
variable {c : Cn} {g : Gr} {W : WX} {σ : L2.St} {H : Hp} {Q : VK} {o1 o2 : Op}
theorem t_op1 {r : V → Hp → VK → Prop} {F : D → Option D} (hr : V1 c r F) (h : tE c W (op1 F o1) σ H Q) : tUn r (tO c W o1) σ H Q := by
  obtain ⟨g, M, ρ, s, rel, h⟩ := h
  refine tO.bind (out := fun M ρ H r => OutE c g W M ρ σ H r Q) rel (fun _ _ z => z) (fun z => z) h fun t s1 M1 ρ1 v H1 r1 k1 t1 h1 => ?_
  cases q : (deref s1 t).bind F with
  | none =>
    rw [q] at h1
    exact h1.elim
  | some e =>
    rw [q] at h1
    obtain ⟨x, hx, hF⟩ := Option.bind_eq_some_iff.mp q
    exact hr M1 ρ1 H1 x e v Q r1.h.dom (RW.of_tok r1 t1 hx) hF fun u H2 e2 hd => h1 M1 ρ1 u H2 (r1.ext e2) (k1.trans (r1.kext e2)) hd
theorem t_op2 {r : R2} {F : D → D → Option D} (hr : V2 c r F) (h : tE c W (op2 F o1 o2) σ H Q) : tOp r (tO c W o1) (tO c W o2) σ H Q := by
  obtain ⟨g, M, ρ, s, rel, h⟩ := h
  refine tO.bind (out := fun M ρ H r => OutE c g W M ρ σ H r Q) rel (fun _ _ z => z) (fun z => z) h fun t s1 M1 ρ1 v H1 r1 k1 t1 h1 => ?_
  refine tO.bind (out := fun M ρ H r => OutE c g W M ρ σ H r Q) r1 (fun _ _ z => z) (fun z => z) (OutE.keep k1 h1) fun t' s2 M2 ρ2 v' H2 r2 k2 t2 h2 => ?_
  have h2 := OutE.keep k2 h2
  cases q : (deref s2 t).bind fun x => (deref s2 t').bind fun y => F x y with
  | none =>
    rw [q] at h2
    exact h2.elim
  | some e =>
    rw [q] at h2
    obtain ⟨x, hx, q⟩ := Option.bind_eq_some_iff.mp q
    obtain ⟨y, hy, hF⟩ := Option.bind_eq_some_iff.mp q
    exact hr M2 ρ2 H2 x y e v v' Q r2.h.dom (RW.of_tok r2 (t1.keep k2) hx) (RW.of_tok r2 t2 hy) hF fun u H3 e3 hd => h2 M2 ρ2 u H3 (r2.ext e3) (r2.kext e3) hd
theorem out_new {M : Am} {ρ : List Addr} {s : S} {a : Addr} {vs : List V} {xs : List D} {H' : Hp} (r : Rel c g M ρ s σ H) (h : OutL c g W M ρ σ H (.ok xs s) Q) (n : H a = none) (e : Ext H H') (ha : H' a = some (.lst vs)) (rd : RDs c M ρ H xs vs) : Q (.ref a) H' := by
  obtain ⟨r', f'⟩ := r.newM e n ha rfl
  exact h (more M a) ρ a vs H' r' (keep_more e n r.pd) ha (rd.keep (keep_more e n r.pd)) f'
theorem t_op1L {r : V → Hp → VK → Prop} {F : D → Option (List D)} (hr : V1L c r F) (h : tL c W (op1L F o1) σ H Q) : tUn r (tO c W o1) σ H Q := by
  obtain ⟨g, M, ρ, s, rel, h⟩ := h
  refine tO.bind (out := fun M ρ H r => OutL c g W M ρ σ H r Q) rel (fun _ _ z => z) (fun z => z) h fun t s1 M1 ρ1 v H1 r1 k1 t1 h1 => ?_
  have h1 := OutL.keep k1 h1
  cases q : (deref s1 t).bind F with
  | none =>
    rw [q] at h1
    exact h1.elim
  | some xs =>
    rw [q] at h1
    obtain ⟨x, hx, hF⟩ := Option.bind_eq_some_iff.mp q
    exact hr M1 ρ1 H1 x v xs Q r1.h.dom (RW.of_tok r1 t1 hx) hF fun a vs H' n e ha rd => out_new r1 h1 n e ha rd
theorem t_op2L {r : R2} {F : D → D → Option (List D)} (hr : V2L c r F) (h : tL c W (op2L F o1 o2) σ H Q) : tOp r (tO c W o1) (tO c W o2) σ H Q := by
  obtain ⟨g, M, ρ, s, rel, h⟩ := h
  refine tO.bind (out := fun M ρ H r => OutL c g W M ρ σ H r Q) rel (fun _ _ z => z) (fun z => z) h fun t s1 M1 ρ1 v H1 r1 k1 t1 h1 => ?_
  refine tO.bind (out := fun M ρ H r => OutL c g W M ρ σ H r Q) r1 (fun _ _ z => z) (fun z => z) (OutL.keep k1 h1) fun t' s2 M2 ρ2 v' H2 r2 k2 t2 h2 => ?_
  have h2 := OutL.keep k2 h2
  cases q : (deref s2 t).bind fun x => (deref s2 t').bind fun y => F x y with
  | none =>
    rw [q] at h2
    exact h2.elim
  | some xs =>
    rw [q] at h2
    obtain ⟨x, hx, q⟩ := Option.bind_eq_some_iff.mp q
    obtain ⟨y, hy, hF⟩ := Option.bind_eq_some_iff.mp q
    exact hr M2 ρ2 H2 x y v v' xs Q r2.h.dom (RW.of_tok r2 (t1.keep k2) hx) (RW.of_tok r2 t2 hy) hF fun a vs H' n e ha rd => out_new r2 h2 n e ha rd
end

/-! ### what stands behind data -/
section
variable {c : Cn} {M : Am} {ρ : List Addr} {H : Hp} {v : V}
theorem RW.int {i : Int} (h : RW c M ρ H (.int i) v) : v = .int i := by
  cases h with
  | v h _ => cases h; rfl
theorem RW.bl {i : Bool} (h : RW c M ρ H (.bl i) v) : v = .bl i := by
  cases h with
  | v h _ => cases h; rfl
theorem RW.str {i : Str} (h : RW c M ρ H (.str i) v) : v = .str i := by
  cases h with
  | v h _ => cases h; rfl
theorem RW.non (h : RW c M ρ H .non v) : v = .non := by
  cases h with
  | v h _ => cases h; rfl
theorem tupK_sq {K : PySem.W.Frag} {a : Addr} {vs : List V} (h : ∃ (o : Obj) (its : Array Value) (n : Nat), K.lookup a = some o ∧ o.cls = .type "tuple" ∧ o.dict = none ∧ o.data = .seq its n ∧ its.size ≤ sizeLine ∧ Vals vs its.toList) :
    ∃ (o : Obj) (its : Array Value) (n : Nat), K.lookup a = some o ∧ o.cls = .type "tuple" ∧ o.data = .seq its n ∧ its.size ≤ sizeLine ∧ Vals vs its.toList := by
  obtain ⟨o, its, n, h1, h2, _, h3⟩ := h
  exact ⟨o, its, n, h1, h2, h3⟩
theorem _root_.DS.TupN.sq {K : PySem.W.Frag} {a : Addr} {vs : List V} (h : TupN H a vs) : SqT K H a vs := by
  obtain ⟨o, h, _⟩ := h
  exact .inl (.inr ⟨o, h⟩)
/-- a tuple's object has no dict -/
def NoD (K : PySem.W.Frag) (H : Hp) (a : Addr) (vs : List V) : Prop := TupN H a vs ∨ ∃ o, K.lookup a = some o ∧ o.cls = .type "tuple" ∧ o.dict = none
theorem RW.tupN {xs : List D} (h : RW c M ρ H (.tup xs) v) : ∃ a vs, v = .ref a ∧ SqT c.K H a vs ∧ RDs c M ρ H xs vs ∧ NoD c.K H a vs := by
  cases h with
  | v h _ =>
    cases h with
    | tupH h m r => exact ⟨_, _, rfl, h.sq, r, .inl h⟩
    | tupK h r =>
      refine ⟨_, _, rfl, .inr (tupK_sq h), r, .inr ?_⟩
      obtain ⟨o, its, n, h1, h2, h3, _⟩ := h
      exact ⟨o, h1, h2, h3⟩
theorem RW.tup {xs : List D} (h : RW c M ρ H (.tup xs) v) : ∃ a vs, v = .ref a ∧ SqT c.K H a vs ∧ RDs c M ρ H xs vs := by
  cases h with
  | v h _ =>
    cases h with
    | tupH h m r => exact ⟨_, _, rfl, h.sq, r⟩
    | tupK h r => exact ⟨_, _, rfl, .inr (tupK_sq h), r⟩
theorem RW.rdt {xs : List D} (h : RW c M ρ H (.tup xs) v) : RD c M ρ H (.tup xs) v := by
  cases h with
  | v h _ => exact h
theorem RD.tup {xs : List D} (h : RD c M ρ H (.tup xs) v) : ∃ a vs, v = .ref a ∧ SqT c.K H a vs ∧ RDs c M ρ H xs vs := by
  cases h with
  | tupH h m r => exact ⟨_, _, rfl, h.sq, r⟩
  | tupK h r => exact ⟨_, _, rfl, .inr (tupK_sq h), r⟩
theorem RW.lst {xs : List D} (h : RW c M ρ H (.lst xs) v) : ∃ a vs, v = .ref a ∧ H a = some (.lst vs) ∧ RDs c M ρ H xs vs := by
  cases h with
  | v h _ =>
    cases h with
    | lst h m r => exact ⟨_, _, rfl, h, r⟩
  | l h r => exact ⟨_, _, rfl, h, r⟩
theorem RW.scr {xs : List D} (h : RW c M ρ H (.scr xs) v) : ∃ a vs, v = .ref a ∧ SqL c.K H a vs ∧ RDs c M ρ H xs vs := by
  cases h with
  | v h _ =>
    cases h with
    | scr h m r => exact ⟨_, _, rfl, .inl (.inr ⟨_, h⟩), r⟩
    | scrK h r => exact ⟨_, _, rfl, .inr h, r⟩
/-- a list or a tuple -/
theorem RW.seq {x : D} {xs : List D} (h : RW c M ρ H x v) (e : x = .tup xs ∨ x = .lst xs ∨ x = .scr xs) : ∃ a vs, v = .ref a ∧ (SqL c.K H a vs ∨ SqT c.K H a vs) ∧ RDs c M ρ H xs vs := by
  rcases e with rfl | rfl | rfl
  · obtain ⟨a, vs, e, h1, h2⟩ := h.tup
    exact ⟨a, vs, e, .inr h1, h2⟩
  · obtain ⟨a, vs, e, h1, h2⟩ := h.lst
    exact ⟨a, vs, e, .inl (.inl (.inl h1)), h2⟩
  · obtain ⟨a, vs, e, h1, h2⟩ := h.scr
    exact ⟨a, vs, e, .inl h1, h2⟩
theorem RW.dct {k : Bool} {ks vs : List D} (h : RW c M ρ H (.dct k ks vs) v) : ∃ a, v = .ref a ∧ DctOk c M ρ H k ks vs a := by
  cases h with
  | v h _ =>
    cases h with
    | dctK h m e r => exact ⟨_, rfl, _, h, e, r⟩
    | dctT h m g e kr r v => exact ⟨_, rfl, _, _, _, h, g, e, kr, r, v⟩
  | d h => exact ⟨_, rfl, h⟩
theorem Dm.new (d : Dm M H) {p : Addr} (n : H p = none) : ¬ M p := fun m => by
  obtain ⟨o, ho, _⟩ := d p m
  rw [n] at ho
  cases ho
theorem RD.newP {H' : Hp} (d : Dm M H) {p : Addr} {xs : List D} {vs : List V} (n : H p = none) (r : RDs c M ρ H xs vs) : RD c M ρ (upd H p (.tup vs)) (.pr xs) (.ref p) :=
  .pr (.inl upd_same) (d.new n) (r.ext (Ext.new n))
theorem RD.newT {H' : Hp} (d : Dm M H) {p : Addr} {o : Obj} {xs : List D} {vs : List V} (n : H p = none) (oc : o.cls = Value.type "tuple") (od : o.dict = none) (r : RDs c M ρ H xs vs) : RD c M ρ (upd H p (.frz o (.tup vs))) (.tup xs) (.ref p) :=
  .tupH ⟨o, upd_same, oc, od⟩ (d.new n) (r.ext (Ext.new n))
theorem RD.newL (d : Dm M H) {p : Addr} {xs : List D} {vs : List V} (n : H p = none) (r : RDs c M ρ H xs vs) : RD c M ρ (upd H p (.lst vs)) (.lst xs) (.ref p) :=
  .lst upd_same (d.new n) (r.ext (Ext.new n))
end
/-- two rules for one operator -/
theorem OpR.or {X : Cx} {f : Value → Value → Sem Value} {r r' : R2} (h : OpR X f r) (h' : OpR X f r') : OpR X f (fun x y H Q => r x y H Q ∨ r' x y H Q) := by
  intro pins s σ H x y v u Q I rx ry q
  rcases q with q | q
  · exact h pins s σ H x y v u Q I rx ry q
  · exact h' pins s σ H x y v u Q I rx ry q

/-! ### + - * // % ** -/
def LIM : Nat := 16777216
def addD : D → D → Option D
  | .int i, .int j => some (.int (i + j))
  | .str x, .str y => if x.length + y.length ≤ LIM then some (.str (x ++ y)) else none
  | .tup xs, .tup ys => if xs.length + ys.length ≤ LIM then some (.tup (xs ++ ys)) else none
  | .lst xs, .lst ys => if xs.length + ys.length ≤ LIM then some (.lst (xs ++ ys)) else none
  | _, _ => none
def addL : D → D → Option (List D)
  | .lst xs, .lst ys => if xs.length + ys.length ≤ LIM then some (xs ++ ys) else none
  | _, _ => none
def subD : D → D → Option D
  | .int i, .int j => some (.int (i - j))
  | _, _ => none
def small64 (i : Int) : Bool := decide (i.natAbs < 18446744073709551616)
def repD (k : Int) (xs : List D) : List D := (List.replicate k.toNat xs).flatten
def mulD : D → D → Option D
  | .int i, .int j => if small64 i || small64 j then some (.int (i * j)) else none
  | .lst xs, .int k => if decide (-(2 ^ 63) ≤ k) && decide (k < 2 ^ 63) && decide (xs.length * k.toNat ≤ LIM) then some (.lst (repD k xs)) else none
  | .tup xs, .int k => if decide (xs ≠ []) && decide (2 ≤ k) && decide (k ≤ 1000) && decide (xs.length ≤ 1000) then some (.tup (repD k xs)) else none
  | _, _ => none
def mulL : D → D → Option (List D)
  | .lst xs, .int k => if decide (-(2 ^ 63) ≤ k) && decide (k < 2 ^ 63) && decide (xs.length * k.toNat ≤ LIM) then some (repD k xs) else none
  | _, _ => none
def divD : D → D → Option D
  | .int i, .int j => if decide (j ≠ 0) && decide (j.natAbs < 1073741824) then some (.int (i.fdiv j)) else none
  | _, _ => none
def modD : D → D → Option D
  | .int i, .int j => if decide (j ≠ 0) then some (.int (i.fmod j)) else none
  | _, _ => none
def powD : D → D → Option D
  | .int i, .int j => if decide (0 ≤ j) && decide (j ≤ 1000000) && small64 i then some (.int (i ^ j.toNat)) else none
  | _, _ => none
def negD : D → Option D
  | .int i => some (.int (-i))
  | _ => none
theorem RDs.rep {c : Cn} {M : Am} {ρ : List Addr} {H : Hp} {xs : List D} {vs : List V} (r : RDs c M ρ H xs vs) : ∀ k : Nat, RDs c M ρ H (List.replicate k xs).flatten (List.replicate k vs).flatten
  | 0 => .nil
  | k + 1 => by
    rw [List.replicate_succ, List.replicate_succ, List.flatten_cons, List.flatten_cons]
    exact r.append (RDs.rep r k)
theorem RDs.nil_iff {c : Cn} {M : Am} {ρ : List Addr} {H : Hp} {xs : List D} {vs : List V} (r : RDs c M ρ H xs vs) : vs = [] ↔ xs = [] := by
  cases r <;> simp
section
variable {X : Cx} {c : Cn}
abbrev rStrA : R2 := fun x y H Q => ∃ i j, x = .str i ∧ y = .str j ∧ i.length + j.length ≤ sizeLine ∧ Q (.str (i ++ j)) H
theorem r_add : OpR X (binaryOp .Add) (fun x y H Q => rI0 (fun i j => .int (i + j)) x y H Q ∨ rStrA x y H Q ∨ rCatN X.K x y H Q ∨ rCat x y H Q) := OpR.or op_add (OpR.or op_add_str (OpR.or op_catN op_cat))
theorem v_add (hK : X.K = c.K) : V2 c (fun x y H Q => rI0 (fun i j => .int (i + j)) x y H Q ∨ rStrA x y H Q ∨ rCatN X.K x y H Q ∨ rCat x y H Q) addD := by
  intro M ρ H x y e v u Q d hx hy hF q
  unfold addD at hF
  split at hF
  · cases hF
    rename_i i j
    exact .inl ⟨i, j, hx.int, hy.int, q _ H (Ext.refl H) (.int _)⟩
  · rename_i x y
    split at hF
    · cases hF
      exact .inr (.inl ⟨x, y, hx.str, hy.str, by assumption, q _ H (Ext.refl H) (.str _)⟩)
    · cases hF
  · rename_i xs ys
    split at hF
    · cases hF
      rename_i hl
      obtain ⟨a, vs, e1, h1, h2⟩ := hx.tup
      obtain ⟨b, us, e2, h3, h4⟩ := hy.tup
      refine .inr (.inr (.inl ⟨a, b, vs, us, e1, e2, hK ▸ h1, hK ▸ h3, ?_, ?_⟩))
      · rw [← h2.length, ← h4.length]
        exact hl
      · refine ⟨fun e => ?_, fun n e => ?_, fun p o hp hc ho => ?_⟩
        · have e' := h2.nil_iff.mp e
          subst e' e2
          exact q _ H (Ext.refl H) hy.rdt
        · have e' := h4.nil_iff.mp e
          subst e' e1
          rw [List.append_nil] at q
          exact q _ H (Ext.refl H) hx.rdt
        · exact q _ _ (Ext.new hp) (RD.newT (H' := H) d hp hc ho (h2.append h4))
    · cases hF
  · rename_i xs ys
    split at hF
    · cases hF
      rename_i hl
      obtain ⟨a, vs, e1, h1, h2⟩ := hx.lst
      obtain ⟨b, us, e2, h3, h4⟩ := hy.lst
      refine .inr (.inr (.inr ⟨a, b, vs, us, e1, e2, h1, h3, ?_, fun p hp => ?_⟩))
      · rw [← h2.length, ← h4.length]
        exact hl
      · exact q _ _ (Ext.new hp) (RD.newL d hp (h2.append h4))
    · cases hF
  · cases hF
theorem v_addL : V2L c rCat addL := by
  intro M ρ H x y v u xs Q d hx hy hF q
  unfold addL at hF
  split at hF
  · rename_i xs ys
    split at hF
    · cases hF
      rename_i hl
      obtain ⟨a, vs, e1, h1, h2⟩ := hx.lst
      obtain ⟨b, us, e2, h3, h4⟩ := hy.lst
      refine ⟨a, b, vs, us, e1, e2, h1, h3, ?_, fun p hp => q p _ _ hp (Ext.new hp) upd_same (h2.append h4)⟩
      rw [← h2.length, ← h4.length]
      exact hl
    · cases hF
  · cases hF
theorem v_sub : V2 c (rI0 fun i j => .int (i - j)) subD := by
  intro M ρ H x y e v u Q d hx hy hF q
  unfold subD at hF
  split at hF
  · cases hF
    exact ⟨_, _, hx.int, hy.int, q _ H (Ext.refl H) (.int _)⟩
  · cases hF
theorem cmul_of {i j : Int} (h : (small64 i || small64 j) = true) : CMul i j := by
  rcases Bool.or_eq_true_iff.mp h with h | h
  · have h := of_decide_eq_true h
    exact .inl ⟨by omega, by omega⟩
  · have h := of_decide_eq_true h
    exact .inr ⟨by omega, by omega⟩
theorem r_mul : OpR X (binaryOp .Mult) (fun x y H Q => rI CMul (fun i j => .int (i * j)) x y H Q ∨ rRep x y H Q ∨ rRepN X.K x y H Q) := OpR.or op_mul (OpR.or op_rep op_repN)
theorem v_mul (hK : X.K = c.K) : V2 c (fun x y H Q => rI CMul (fun i j => .int (i * j)) x y H Q ∨ rRep x y H Q ∨ rRepN X.K x y H Q) mulD := by
  intro M ρ H x y e v u Q d hx hy hF q
  unfold mulD at hF
  split at hF
  · split at hF
    · cases hF
      exact .inl ⟨_, _, hx.int, hy.int, cmul_of (by assumption), q _ H (Ext.refl H) (.int _)⟩
    · cases hF
  · rename_i xs k
    split at hF
    · cases hF
      rename_i hl
      simp only [Bool.and_eq_true, decide_eq_true_eq] at hl
      obtain ⟨a, vs, e1, h1, h2⟩ := hx.lst
      refine .inr (.inl ⟨a, k, vs, e1, hy.int, h1, hl.1.1, hl.1.2, by rw [← h2.length]; exact hl.2, fun p hp => ?_⟩)
      exact q _ _ (Ext.new hp) (RD.newL d hp (h2.rep _))
    · cases hF
  · rename_i xs k
    split at hF
    · cases hF
      rename_i hl
      simp only [Bool.and_eq_true, decide_eq_true_eq] at hl
      obtain ⟨a, vs, e1, h1, h2⟩ := hx.tup
      refine .inr (.inr ⟨a, k, vs, e1, hy.int, hK ▸ h1, fun z => hl.1.1.1 (h2.nil_iff.mp z), hl.1.1.2, hl.1.2, by rw [← h2.length]; exact hl.2, fun p o hp hc ho => ?_⟩)
      exact q _ _ (Ext.new hp) (RD.newT (H' := H) d hp hc ho (h2.rep _))
    · cases hF
  · cases hF
theorem v_mulL : V2L c rRep mulL := by
  intro M ρ H x y v u xs Q d hx hy hF q
  unfold mulL at hF
  split at hF
  · rename_i xs k
    split at hF
    · cases hF
      rename_i hl
      simp only [Bool.and_eq_true, decide_eq_true_eq] at hl
      obtain ⟨a, vs, e1, h1, h2⟩ := hx.lst
      exact ⟨a, k, vs, e1, hy.int, h1, hl.1.1, hl.1.2, by rw [← h2.length]; exact hl.2, fun p hp => q p _ _ hp (Ext.new hp) upd_same (h2.rep _)⟩
    · cases hF
  · cases hF
theorem v_div : V2 c (rI CDivN fun i j => .int (i.fdiv j)) divD := by
  intro M ρ H x y e v u Q d hx hy hF q
  unfold divD at hF
  split at hF
  · split at hF
    · cases hF
      rename_i hl
      simp only [Bool.and_eq_true, decide_eq_true_eq] at hl
      exact ⟨_, _, hx.int, hy.int, ⟨hl.1, hl.2⟩, q _ H (Ext.refl H) (.int _)⟩
    · cases hF
  · cases hF
theorem v_mod : V2 c (rI (fun _ j => j ≠ 0) fun i j => .int (i.fmod j)) modD := by
  intro M ρ H x y e v u Q d hx hy hF q
  unfold modD at hF
  split at hF
  · split at hF
    · cases hF
      rename_i hl
      exact ⟨_, _, hx.int, hy.int, of_decide_eq_true hl, q _ H (Ext.refl H) (.int _)⟩
    · cases hF
  · cases hF
theorem v_pow : V2 c (rI CPow fun i j => .int (i ^ j.toNat)) powD := by
  intro M ρ H x y e v u Q d hx hy hF q
  unfold powD at hF
  split at hF
  · split at hF
    · cases hF
      rename_i hl
      simp only [Bool.and_eq_true, decide_eq_true_eq, small64] at hl
      exact ⟨_, _, hx.int, hy.int, ⟨hl.1.1, hl.1.2, hl.2⟩, q _ H (Ext.refl H) (.int _)⟩
    · cases hF
  · cases hF
theorem v_neg : V1 c (rU fun i => .int (-i)) negD := by
  intro M ρ H x e v Q d hx hF q
  unfold negD at hF
  split at hF
  · cases hF
    exact ⟨_, hx.int, q _ H (Ext.refl H) (.int _)⟩
  · cases hF
end

/-! ### comparisons -/
mutual
def toPy : D → Option PyData
  | .non => some .none
  | .bl b => some (.bool b)
  | .int i => some (.int i)
  | .str x => some (.str x)
  | .tup xs => (toPys xs).map .tuple
  | .lst xs => (toPys xs).map .list
  | _ => none
def toPys : List D → Option (List PyData)
  | [] => some []
  | d :: ds => (toPy d).bind fun p => (toPys ds).map fun ps => p :: ps
end
section
variable {c : Cn} {M : Am} {ρ : List Addr} {H : Hp}
mutual
theorem RD.dp : ∀ {d : D} {v : V} {p : PyData}, RD c M ρ H d v → toPy d = some p → Dp c.K H v p
  | _, _, _, .non, e => by unfold toPy at e; cases e; exact .non
  | _, _, _, .bl b, e => by unfold toPy at e; cases e; exact .bl b
  | _, _, _, .int i, e => by unfold toPy at e; cases e; exact .int i
  | _, _, _, .str x, e => by unfold toPy at e; cases e; exact .str x
  | _, _, _, .fn h, e => by unfold toPy at e; cases e
  | _, _, _, .ref h, e => by unfold toPy at e; cases e
  | _, _, _, .scr h m r, e => by unfold toPy at e; cases e
  | _, _, _, .pr h m r, e => by unfold toPy at e; cases e
  | _, _, _, .scrK h r, e => by unfold toPy at e; cases e
  | _, _, _, .dctK h m q r, e => by unfold toPy at e; cases e
  | _, _, _, .dctT h m g q kr r v, e => by unfold toPy at e; cases e
  | _, _, _, .tupH h m r, e => by
    unfold toPy at e
    obtain ⟨ps, e1, e2⟩ := Option.map_eq_some_iff.mp e
    subst e2
    exact .tup h.sq (RDs.dp r e1)
  | _, _, _, .tupK h r, e => by
    unfold toPy at e
    obtain ⟨ps, e1, e2⟩ := Option.map_eq_some_iff.mp e
    subst e2
    exact .tup (.inr (tupK_sq h)) (RDs.dp r e1)
  | _, _, _, .lst h m r, e => by
    unfold toPy at e
    obtain ⟨ps, e1, e2⟩ := Option.map_eq_some_iff.mp e
    subst e2
    exact .lst (.inl (.inl h)) (RDs.dp r e1)
theorem RDs.dp : ∀ {ds : List D} {vs : List V} {ps : List PyData}, RDs c M ρ H ds vs → toPys ds = some ps → DpAll c.K H vs ps
  | _, _, _, .nil, e => by unfold toPys at e; cases e; exact .nil
  | _, _, _, .cons h t, e => by
    unfold toPys at e
    obtain ⟨p, e1, e⟩ := Option.bind_eq_some_iff.mp e
    obtain ⟨ps, e2, e⟩ := Option.map_eq_some_iff.mp e
    subst e
    exact .cons (RD.dp h e1) (RDs.dp t e2)
end
theorem RW.dp {d : D} {v : V} {p : PyData} (h : RW c M ρ H d v) (e : toPy d = some p) : Dp c.K H v p := by
  cases h with
  | v h _ => exact h.dp e
  | l h r =>
    unfold toPy at e
    obtain ⟨ps, e1, e2⟩ := Option.map_eq_some_iff.mp e
    subst e2
    exact .lst (.inl (.inl h)) (r.dp e1)
  | d h => unfold toPy at e; cases e
end
/-- == of data -/
def pyEq (x y : D) : Option Bool := (toPy x).bind fun p => (toPy y).bind fun q => if SeqAt.shaped p && SeqAt.shaped q then some (PyData.eqv p q) else none
def eqD (x y : D) : Option D := (pyEq x y).map .bl
def neD (x y : D) : Option D := (pyEq x y).map fun b => .bl (!b)
def ltD : D → D → Option D
  | .int i, .int j => some (.bl (decide (i < j)))
  | _, _ => none
def leD : D → D → Option D
  | .int i, .int j => some (.bl (decide (i ≤ j)))
  | _, _ => none
def gtD : D → D → Option D
  | .int i, .int j => some (.bl (decide (j < i)))
  | _, _ => none
def geD : D → D → Option D
  | .int i, .int j => some (.bl (decide (j ≤ i)))
  | _, _ => none
def isN : D → D → Option D
  | .non, .non => some (.bl true)
  | .bl a, .bl b => some (.bl (decide (a = b)))
  | .bl _, .non => some (.bl false)
  | .int _, .non => some (.bl false)
  | .str _, .non => some (.bl false)
  | .tup _, .non => some (.bl false)
  | .lst _, .non => some (.bl false)
  | _, _ => none
def notD : D → Option D
  | .bl b => some (.bl (!b))
  | _ => none
def isntN (x y : D) : Option D := (isN x y).bind notD
/-- x in a list, a tuple -/
def inB (x : D) (ys : D) : Option Bool := match ys with
  | .str z => match x with
    | .str y => some (!(Builtin.Str.occurrences z y 0 z.length 1).isEmpty)
    | _ => none
  | .tup ys => (toPy x).bind fun p => (toPys ys).bind fun ps => if SeqAt.shaped p && SeqAt.shaped (.list ps) then some (ps.any fun z => PyData.eqv z p) else none
  | .lst ys => (toPy x).bind fun p => (toPys ys).bind fun ps => if SeqAt.shaped p && SeqAt.shaped (.list ps) then some (ps.any fun z => PyData.eqv z p) else none
  | _ => none
def inD (x ys : D) : Option D := (inB x ys).map .bl
def ninD (x ys : D) : Option D := (inB x ys).map fun b => .bl (!b)
section
variable {X : Cx} {c : Cn}
theorem v_eq (hK : X.K = c.K) : V2 c (rEqD X.K) eqD := by
  intro M ρ H x y e v u Q d hx hy hF q
  obtain ⟨b, hb, rfl⟩ := Option.map_eq_some_iff.mp hF
  obtain ⟨p, hp, hb⟩ := Option.bind_eq_some_iff.mp hb
  obtain ⟨p', hp', hb⟩ := Option.bind_eq_some_iff.mp hb
  by_cases hs : (SeqAt.shaped p && SeqAt.shaped p') = true
  · rw [if_pos hs] at hb
    cases hb
    obtain ⟨s1, s2⟩ := Bool.and_eq_true_iff.mp hs
    exact ⟨p, p', hK ▸ hx.dp hp, hK ▸ hy.dp hp', s1, s2, q _ H (Ext.refl H) (.bl _)⟩
  · rw [if_neg hs] at hb
    cases hb
theorem v_ne (hK : X.K = c.K) : V2 c (rNeD X.K) neD := by
  intro M ρ H x y e v u Q d hx hy hF q
  obtain ⟨b, hb, rfl⟩ := Option.map_eq_some_iff.mp hF
  obtain ⟨p, hp, hb⟩ := Option.bind_eq_some_iff.mp hb
  obtain ⟨p', hp', hb⟩ := Option.bind_eq_some_iff.mp hb
  by_cases hs : (SeqAt.shaped p && SeqAt.shaped p') = true
  · rw [if_pos hs] at hb
    cases hb
    obtain ⟨s1, s2⟩ := Bool.and_eq_true_iff.mp hs
    exact ⟨p, p', hK ▸ hx.dp hp, hK ▸ hy.dp hp', s1, s2, q _ H (Ext.refl H) (.bl _)⟩
  · rw [if_neg hs] at hb
    cases hb
theorem v_lt : V2 c (rI0 fun i j => .bl (decide (i < j))) ltD := by
  intro M ρ H x y e v u Q d hx hy hF q
  unfold ltD at hF
  split at hF
  · cases hF
    exact ⟨_, _, hx.int, hy.int, q _ H (Ext.refl H) (.bl _)⟩
  · cases hF
theorem v_le : V2 c (rI0 fun i j => .bl (decide (i ≤ j))) leD := by
  intro M ρ H x y e v u Q d hx hy hF q
  unfold leD at hF
  split at hF
  · cases hF
    exact ⟨_, _, hx.int, hy.int, q _ H (Ext.refl H) (.bl _)⟩
  · cases hF
theorem v_gt : V2 c (rI0 fun i j => .bl (decide (j < i))) gtD := by
  intro M ρ H x y e v u Q d hx hy hF q
  unfold gtD at hF
  split at hF
  · cases hF
    exact ⟨_, _, hx.int, hy.int, q _ H (Ext.refl H) (.bl _)⟩
  · cases hF
theorem v_ge : V2 c (rI0 fun i j => .bl (decide (j ≤ i))) geD := by
  intro M ρ H x y e v u Q d hx hy hF q
  unfold geD at hF
  split at hF
  · cases hF
    exact ⟨_, _, hx.int, hy.int, q _ H (Ext.refl H) (.bl _)⟩
  · cases hF
abbrev rIsN : R2 := fun x y H Q => y = .non ∧ Q (.bl (decide (x = .non))) H
abbrev rNotN : R2 := fun x y H Q => y = .non ∧ Q (.bl (!decide (x = .non))) H
theorem r_is : OpR X (compareOp .Is) (fun x y H Q => rIsN x y H Q ∨ rIsB x y H Q) := OpR.or op_isN op_isBl
theorem r_isnt : OpR X (compareOp .IsNot) (fun x y H Q => rNotN x y H Q ∨ rNotB x y H Q) := OpR.or op_notN op_notBl
theorem v_is : V2 c (fun x y H Q => rIsN x y H Q ∨ rIsB x y H Q) isN := by
  intro M ρ H x y e v u Q d hx hy hF q
  unfold isN at hF
  split at hF <;> first | cases hF | skip
  · exact .inl ⟨hy.non, by rw [hx.non]; exact q _ H (Ext.refl H) (.bl _)⟩
  · exact .inr ⟨_, _, hx.bl, hy.bl, q _ H (Ext.refl H) (.bl _)⟩
  · exact .inl ⟨hy.non, by rw [hx.bl]; exact q _ H (Ext.refl H) (.bl _)⟩
  · exact .inl ⟨hy.non, by rw [hx.int]; exact q _ H (Ext.refl H) (.bl _)⟩
  · exact .inl ⟨hy.non, by rw [hx.str]; exact q _ H (Ext.refl H) (.bl _)⟩
  · obtain ⟨a, vs, e1, _⟩ := hx.tup
    exact .inl ⟨hy.non, by rw [e1]; exact q _ H (Ext.refl H) (.bl _)⟩
  · obtain ⟨a, vs, e1, _⟩ := hx.lst
    exact .inl ⟨hy.non, by rw [e1]; exact q _ H (Ext.refl H) (.bl _)⟩
theorem v_isnt : V2 c (fun x y H Q => rNotN x y H Q ∨ rNotB x y H Q) isntN := by
  intro M ρ H x y e v u Q d hx hy hF q
  obtain ⟨b, hb, hF⟩ := Option.bind_eq_some_iff.mp hF
  unfold isN at hb
  split at hb <;> first | cases hb | skip
  all_goals (unfold notD at hF; cases hF)
  · exact .inl ⟨hy.non, by rw [hx.non]; exact q _ H (Ext.refl H) (.bl _)⟩
  · exact .inr ⟨_, _, hx.bl, hy.bl, q _ H (Ext.refl H) (.bl _)⟩
  · exact .inl ⟨hy.non, by rw [hx.bl]; exact q _ H (Ext.refl H) (.bl _)⟩
  · exact .inl ⟨hy.non, by rw [hx.int]; exact q _ H (Ext.refl H) (.bl _)⟩
  · exact .inl ⟨hy.non, by rw [hx.str]; exact q _ H (Ext.refl H) (.bl _)⟩
  · obtain ⟨a, vs, e1, _⟩ := hx.tup
    exact .inl ⟨hy.non, by rw [e1]; exact q _ H (Ext.refl H) (.bl _)⟩
  · obtain ⟨a, vs, e1, _⟩ := hx.lst
    exact .inl ⟨hy.non, by rw [e1]; exact q _ H (Ext.refl H) (.bl _)⟩
end

/-! ### membership -/
def rInT (K : PySem.W.Frag) : R2 := fun x y H Q => ∃ d ds, Dp K H x d ∧ Dp K H y (.tuple ds) ∧ SeqAt.shaped d = true ∧ SeqAt.shaped (.list ds) = true ∧ Q (.bl (ds.any fun z => PyData.eqv z d)) H
def rNinT (K : PySem.W.Frag) : R2 := fun x y H Q => ∃ d ds, Dp K H x d ∧ Dp K H y (.tuple ds) ∧ SeqAt.shaped d = true ∧ SeqAt.shaped (.list ds) = true ∧ Q (.bl (!ds.any fun z => PyData.eqv z d)) H
theorem sh_tup {ds : List PyData} (h : SeqAt.shaped (.list ds) = true) : SeqAt.shaped (.tuple ds) = true := by
  unfold SeqAt.shaped PyData.canLay0 PyData.depth at h ⊢
  exact h
section
variable {X : Cx} {c : Cn}
theorem op_inT (hu : X.A.units + 65 < cLine) : OpR X (compareOp .In) (rInT X.K) := by
  intro pins s σ H x y v u Q I rx ry h
  obtain ⟨d, ds, hd, he, sd, se, q⟩ := h
  obtain ⟨as, r1⟩ := Dp.reads I d x v hd rx
  obtain ⟨bs, r2⟩ := Dp.reads I (.tuple ds) y u he ry
  exact SeqAt.in_tuple_reads r2 r1 (SeqAt.canLay_of_shaped (sh_tup se)) (SeqAt.canLay_of_shaped sd) (room_in_shaped sd hu) ⟨.bl _, H, I, rfl, q⟩
theorem op_ninT (hu : X.A.units + 65 < cLine) : OpR X (compareOp .NotIn) (rNinT X.K) := by
  intro pins s σ H x y v u Q I rx ry h
  obtain ⟨d, ds, hd, he, sd, se, q⟩ := h
  obtain ⟨as, r1⟩ := Dp.reads I d x v hd rx
  obtain ⟨bs, r2⟩ := Dp.reads I (.tuple ds) y u he ry
  exact SeqAt.notIn_tuple_reads r2 r1 (SeqAt.canLay_of_shaped (sh_tup se)) (SeqAt.canLay_of_shaped sd) (room_in_shaped sd hu) ⟨.bl _, H, I, rfl, q⟩
abbrev rInS : R2 := fun x y H Q => ∃ i j, x = .str i ∧ y = .str j ∧ Q (.bl (!(Builtin.Str.occurrences j i 0 j.length 1).isEmpty)) H
abbrev rNinS : R2 := fun x y H Q => ∃ i j, x = .str i ∧ y = .str j ∧ Q (.bl (!(!(Builtin.Str.occurrences j i 0 j.length 1).isEmpty))) H
theorem r_in (hu : X.A.units + 65 < cLine) : OpR X (compareOp .In) (fun x y H Q => rInS x y H Q ∨ rInT X.K x y H Q ∨ rInD X.K x y H Q) := OpR.or op_in_str (OpR.or (op_inT hu) (op_inD hu))
theorem r_nin (hu : X.A.units + 65 < cLine) : OpR X (compareOp .NotIn) (fun x y H Q => rNinS x y H Q ∨ rNinT X.K x y H Q ∨ rNotInD X.K x y H Q) := OpR.or op_notin_str (OpR.or (op_ninT hu) (op_notInD hu))
theorem inB_str {x : D} {z : Str} {b : Bool} (h : inB x (.str z) = some b) : ∃ y, x = .str y ∧ b = !(Builtin.Str.occurrences z y 0 z.length 1).isEmpty := by
  cases x <;> first | cases h | skip
  rename_i y
  exact ⟨y, rfl, rfl⟩
theorem inB_seq {x : D} {ys : List D} {b : Bool} (h : inB x (.tup ys) = some b ∨ inB x (.lst ys) = some b) : ∃ p ps, toPy x = some p ∧ toPys ys = some ps ∧ SeqAt.shaped p = true ∧ SeqAt.shaped (.list ps) = true ∧ b = ps.any fun z => PyData.eqv z p := by
  have h : ((toPy x).bind fun p => (toPys ys).bind fun ps => if SeqAt.shaped p && SeqAt.shaped (.list ps) then some (ps.any fun z => PyData.eqv z p) else none) = some b := h.elim (fun z => z) (fun z => z)
  obtain ⟨p, hp, h⟩ := Option.bind_eq_some_iff.mp h
  obtain ⟨ps, hps, h⟩ := Option.bind_eq_some_iff.mp h
  by_cases hs : (SeqAt.shaped p && SeqAt.shaped (.list ps)) = true
  · rw [if_pos hs] at h
    cases h
    obtain ⟨s1, s2⟩ := Bool.and_eq_true_iff.mp hs
    exact ⟨p, ps, hp, hps, s1, s2, rfl⟩
  · rw [if_neg hs] at h
    cases h
theorem dp_tup {M : Am} {ρ : List Addr} {H : Hp} {y : List D} {u : V} {ps : List PyData} (h : RW c M ρ H (.tup y) u) (e : toPys y = some ps) : Dp c.K H u (.tuple ps) := h.dp (by unfold toPy; rw [e]; rfl)
theorem dp_lst {M : Am} {ρ : List Addr} {H : Hp} {y : List D} {u : V} {ps : List PyData} (h : RW c M ρ H (.lst y) u) (e : toPys y = some ps) : Dp c.K H u (.list ps) := h.dp (by unfold toPy; rw [e]; rfl)
theorem v_in (hK : X.K = c.K) : V2 c (fun x y H Q => rInS x y H Q ∨ rInT X.K x y H Q ∨ rInD X.K x y H Q) inD := by
  intro M ρ H x y e v u Q d hx hy hF q
  obtain ⟨b, hb, rfl⟩ := Option.map_eq_some_iff.mp hF
  cases y <;> first | (unfold inB at hb; cases hb) | skip
  · rename_i z
    obtain ⟨y, rfl, rfl⟩ := inB_str hb
    exact .inl ⟨y, z, hx.str, hy.str, q _ H (Ext.refl H) (.bl _)⟩
  · obtain ⟨p, ps, h1, h2, h3, h4, rfl⟩ := inB_seq (.inl hb)
    exact .inr (.inl ⟨p, ps, hK ▸ hx.dp h1, hK ▸ dp_tup hy h2, h3, h4, q _ H (Ext.refl H) (.bl _)⟩)
  · obtain ⟨p, ps, h1, h2, h3, h4, rfl⟩ := inB_seq (.inr hb)
    exact .inr (.inr ⟨p, ps, hK ▸ hx.dp h1, hK ▸ dp_lst hy h2, h3, h4, q _ H (Ext.refl H) (.bl _)⟩)
theorem v_nin (hK : X.K = c.K) : V2 c (fun x y H Q => rNinS x y H Q ∨ rNinT X.K x y H Q ∨ rNotInD X.K x y H Q) ninD := by
  intro M ρ H x y e v u Q d hx hy hF q
  obtain ⟨b, hb, rfl⟩ := Option.map_eq_some_iff.mp hF
  cases y <;> first | (unfold inB at hb; cases hb) | skip
  · rename_i z
    obtain ⟨y, rfl, rfl⟩ := inB_str hb
    exact .inl ⟨y, z, hx.str, hy.str, q _ H (Ext.refl H) (.bl _)⟩
  · obtain ⟨p, ps, h1, h2, h3, h4, rfl⟩ := inB_seq (.inl hb)
    exact .inr (.inl ⟨p, ps, hK ▸ hx.dp h1, hK ▸ dp_tup hy h2, h3, h4, q _ H (Ext.refl H) (.bl _)⟩)
  · obtain ⟨p, ps, h1, h2, h3, h4, rfl⟩ := inB_seq (.inr hb)
    exact .inr (.inr ⟨p, ps, hK ▸ hx.dp h1, hK ▸ dp_lst hy h2, h3, h4, q _ H (Ext.refl H) (.bl _)⟩)
end

/-! ### as expressions -/
section
variable {X : Cx} {c : Cn} {g : Gr} {W : WX} {a b : Expr} {o1 o2 : Op} {pos : Pos}
theorem e_add (hK : X.K = c.K) (ha : PE X a (tO c W o1)) (hb : PE X b (tO c W o2)) : PE X (.BinOp a .Add b pos) (tE c W (op2 addD o1 o2)) := pe_imp (pe_op r_add ha hb) fun _ _ _ h => t_op2 (v_add hK) h
theorem l_add (ha : PE X a (tO c W o1)) (hb : PE X b (tO c W o2)) : PE X (.BinOp a .Add b pos) (tL c W (op2L addL o1 o2)) := pe_imp (pe_op op_cat ha hb) fun _ _ _ h => t_op2L v_addL h
theorem e_sub (ha : PE X a (tO c W o1)) (hb : PE X b (tO c W o2)) : PE X (.BinOp a .Sub b pos) (tE c W (op2 subD o1 o2)) := pe_imp (pe_op op_sub ha hb) fun _ _ _ h => t_op2 v_sub h
theorem e_mul (hK : X.K = c.K) (ha : PE X a (tO c W o1)) (hb : PE X b (tO c W o2)) : PE X (.BinOp a .Mult b pos) (tE c W (op2 mulD o1 o2)) := pe_imp (pe_op r_mul ha hb) fun _ _ _ h => t_op2 (v_mul hK) h
theorem l_mul (ha : PE X a (tO c W o1)) (hb : PE X b (tO c W o2)) : PE X (.BinOp a .Mult b pos) (tL c W (op2L mulL o1 o2)) := pe_imp (pe_op op_rep ha hb) fun _ _ _ h => t_op2L v_mulL h
theorem e_div (ha : PE X a (tO c W o1)) (hb : PE X b (tO c W o2)) : PE X (.BinOp a .FloorDiv b pos) (tE c W (op2 divD o1 o2)) := pe_imp (pe_op op_fdivN ha hb) fun _ _ _ h => t_op2 v_div h
theorem e_mod (ha : PE X a (tO c W o1)) (hb : PE X b (tO c W o2)) : PE X (.BinOp a .Mod b pos) (tE c W (op2 modD o1 o2)) := pe_imp (pe_op op_modN ha hb) fun _ _ _ h => t_op2 v_mod h
theorem e_pow (ha : PE X a (tO c W o1)) (hb : PE X b (tO c W o2)) : PE X (.BinOp a .Pow b pos) (tE c W (op2 powD o1 o2)) := pe_imp (pe_op op_pow ha hb) fun _ _ _ h => t_op2 v_pow h
theorem e_neg (ha : PE X a (tO c W o1)) : PE X (.UnaryOp .USub a pos) (tE c W (op1 negD o1)) := pe_imp (pe_un un_neg ha) fun _ _ _ h => t_op1 v_neg h
/-- a comparison: as a value, as a test -/
def asB (f : Ex) : S → R Bool := fun s => (f s).bind fun d s1 => match d with
  | .bl b => .ok b s1
  | _ => .bad
def OutT (c : Cn) (g : Gr) (W : WX) (M : Am) (ρ : List Addr) (σ : L2.St) (H : Hp) (r : R Bool) (Q : Bool → Hp → Prop) : Prop := match r with
  | .ok b s' => ∀ M' ρ' H', Rel c g M' ρ' s' σ H' → Keep g M ρ H M' ρ' H' → Q b H'
  | .exc x s' => ∀ M' ρ' H' cls dd, Rel c g M' ρ' s' σ H' → Keep g M ρ H M' ρ' H' → XR c x cls dd H' → W cls dd σ H'
  | .bad => False
def tT (c : Cn) (W : WX) (f : S → R Bool) : TT := fun σ H Q => ∃ g M ρ s, Rel c g M ρ s σ H ∧ OutT c g W M ρ σ H (f s) Q
theorem OutT.keep {M M1 : Am} {ρ ρ1 : List Addr} {σ : L2.St} {H H1 : Hp} {Q : Bool → Hp → Prop} (k : Keep g M ρ H M1 ρ1 H1) {r : R Bool} (h : OutT c g W M ρ σ H r Q) : OutT c g W M1 ρ1 σ H1 r Q := by
  cases r with
  | ok d s' => exact fun M' ρ' H' a b => h M' ρ' H' a (k.trans b)
  | exc x s' => exact fun M' ρ' H' cls dd a b e => h M' ρ' H' cls dd a (k.trans b) e
  | bad => exact h
theorem t_asB {f : Ex} {σ : L2.St} {H : Hp} {Q : Bool → Hp → Prop} (h : tT c W (asB f) σ H Q) : tE c W f σ H fun x H' => ∃ k, x = .bl k ∧ Q k H' := by
  obtain ⟨g, M, ρ, s, rel, h⟩ := h
  refine tE.bind (out := fun M ρ H r => OutT c g W M ρ σ H r Q) rel (fun _ _ z => z) (fun z => z) h fun d s1 M1 ρ1 v H1 r1 k1 hd h1 => ?_
  cases d <;> first | exact h1.elim | skip
  cases hd
  exact ⟨_, rfl, h1 M1 ρ1 H1 r1 k1⟩
theorem e_cmp {op : CmpOp} {r : R2} {F : D → D → Option D} (ho : OpR X (compareOp op) r) (hv : V2 c r F) (ha : PE X a (tO c W o1)) (hb : PE X b (tO c W o2)) (hm : behindInMarks op b = false := by first | exact nobehind _ (by decide) (by decide) | rfl) :
    PE X (.Compare a [op] [b] pos) (tE c W (op2 F o1 o2)) := pe_imp (pe_cmpR ho ha hb hm) fun _ _ _ h => t_op2 hv h
theorem b_cmp {op : CmpOp} {r : R2} {F : D → D → Option D} (ho : OpR X (compareOp op) r) (hv : V2 c r F) (ha : PE X a (tO c W o1)) (hb : PE X b (tO c W o2)) (hm : behindInMarks op b = false := by first | exact nobehind _ (by decide) (by decide) | rfl) :
    PT X (.Compare a [op] [b] pos) (tT c W (asB (op2 F o1 o2))) := pt_imp (pt_cmpR ho ha hb hm) fun _ _ _ h => (by
  obtain ⟨g, M, ρ, s, rel, h⟩ := h
  exact t_op2 hv (t_asB ⟨g, M, ρ, s, rel, h⟩))
/-- an expression as a test -/
theorem b_val {e : Expr} {f : Ex} (h : PE X e (tE c W f)) (he : ∀ whole, isTrue e X.env whole = (do let v ← whole; standAt e.pos; holding [v] (truthy v)) := by intro _; rfl) : PT X e (tT c W (asB f)) := pt_imp (pt_val h he) fun _ _ _ h => t_asB h
def andT (f g : S → R Bool) : S → R Bool := fun s => (f s).bind fun b s1 => if b = true then g s1 else .ok false s1
def orT (f g : S → R Bool) : S → R Bool := fun s => (f s).bind fun b s1 => if b = true then .ok true s1 else g s1
def notT (f : S → R Bool) : S → R Bool := fun s => (f s).bind fun b s1 => .ok (!b) s1
theorem tT.bind {β : Type} {M : Am} {ρ : List Addr} {s : S} {σ : L2.St} {H : Hp} {Q : Bool → Hp → Prop} {f : S → R Bool} {k : Bool → S → R β} {out : Am → List Addr → Hp → R β → Prop} (rel : Rel c g M ρ s σ H)
    (hx : ∀ x s', out M ρ H (.exc x s') → ∀ M' ρ' H' cls dd, Rel c g M' ρ' s' σ H' → Keep g M ρ H M' ρ' H' → XR c x cls dd H' → W cls dd σ H') (hb : ¬ out M ρ H .bad)
    (h : out M ρ H ((f s).bind k)) (hq : ∀ b s1 M1 ρ1 H1, Rel c g M1 ρ1 s1 σ H1 → Keep g M ρ H M1 ρ1 H1 → out M ρ H (k b s1) → Q b H1) : tT c W f σ H Q := by
  refine ⟨g, M, ρ, s, rel, ?_⟩
  cases e : f s with
  | ok t s1 =>
    rw [e] at h
    exact fun M1 ρ1 H1 r1 k1 => hq t s1 M1 ρ1 H1 r1 k1 h
  | exc x s1 =>
    rw [e] at h
    exact hx x s1 h
  | bad =>
    rw [e] at h
    exact hb h
theorem t_and {f k : S → R Bool} {σ : L2.St} {H : Hp} {Q : Bool → Hp → Prop} (h : tT c W (andT f k) σ H Q) : tAnd (tT c W f) (tT c W k) σ H Q := by
  obtain ⟨g, M, ρ, s, rel, h⟩ := h
  refine tT.bind (out := fun M ρ H r => OutT c g W M ρ σ H r Q) rel (fun _ _ z => z) (fun z => z) h fun b s1 M1 ρ1 H1 r1 k1 h1 => ?_
  cases b with
  | true => exact ⟨g, M1, ρ1, s1, r1, OutT.keep k1 h1⟩
  | false => exact h1 M1 ρ1 H1 r1 k1
theorem t_or {f k : S → R Bool} {σ : L2.St} {H : Hp} {Q : Bool → Hp → Prop} (h : tT c W (orT f k) σ H Q) : tOr (tT c W f) (tT c W k) σ H Q := by
  obtain ⟨g, M, ρ, s, rel, h⟩ := h
  refine tT.bind (out := fun M ρ H r => OutT c g W M ρ σ H r Q) rel (fun _ _ z => z) (fun z => z) h fun b s1 M1 ρ1 H1 r1 k1 h1 => ?_
  cases b with
  | false => exact ⟨g, M1, ρ1, s1, r1, OutT.keep k1 h1⟩
  | true => exact h1 M1 ρ1 H1 r1 k1
theorem t_not {f : S → R Bool} {σ : L2.St} {H : Hp} {Q : Bool → Hp → Prop} (h : tT c W (notT f) σ H Q) : tNot (tT c W f) σ H Q := by
  obtain ⟨g, M, ρ, s, rel, h⟩ := h
  exact tT.bind (out := fun M ρ H r => OutT c g W M ρ σ H r Q) rel (fun _ _ z => z) (fun z => z) h fun b s1 M1 ρ1 H1 r1 k1 h1 => h1 M1 ρ1 H1 r1 k1
variable {f k : S → R Bool} {rest : List Expr}
theorem w_and (ha : PT X a (tT c W f)) (hb : PW X (.BoolOp .And (b :: rest) pos) (tT c W k)) : PW X (.BoolOp .And (a :: b :: rest) pos) (tT c W (andT f k)) := pw_imp (pw_and ha hb) fun _ _ _ h => t_and h
theorem w_or (ha : PT X a (tT c W f)) (hb : PW X (.BoolOp .Or (b :: rest) pos) (tT c W k)) : PW X (.BoolOp .Or (a :: b :: rest) pos) (tT c W (orT f k)) := pw_imp (pw_or ha hb) fun _ _ _ h => t_or h
theorem b_not (ha : PT X a (tT c W f)) : PT X (.UnaryOp .Not a pos) (tT c W (notT f)) := pt_imp (pt_not ha) fun _ _ _ h => t_not h
/-- and, or, not as values -/
def andE (f k : Ex) : Ex := fun s => (asB f s).bind fun b s1 => if b = true then k s1 else .ok (.bl false) s1
def orE (f k : Ex) : Ex := fun s => (asB f s).bind fun b s1 => if b = true then .ok (.bl true) s1 else k s1
def notE (f : Ex) : Ex := fun s => (asB f s).bind fun b s1 => .ok (.bl (!b)) s1
def ifE (t : S → R Bool) (f k : Ex) : Ex := fun s => (t s).bind fun b s1 => if b = true then f s1 else k s1
variable {fa fb : Ex}
theorem t_andE {σ : L2.St} {H : Hp} {Q : VK} (h : tE c W (andE fa fb) σ H Q) : tAndV (tE c W fa) (tE c W fb) σ H Q := by
  obtain ⟨g, M, ρ, s, rel, h⟩ := h
  refine t_asB (tT.bind (out := fun M ρ H r => OutE c g W M ρ σ H r Q) rel (fun _ _ z => z) (fun z => z) h fun b s1 M1 ρ1 H1 r1 k1 h1 => ?_)
  cases b with
  | true => exact ⟨g, M1, ρ1, s1, r1, OutE.keep k1 h1⟩
  | false => exact h1 M1 ρ1 _ H1 r1 k1 (.bl _)
theorem t_orE {σ : L2.St} {H : Hp} {Q : VK} (h : tE c W (orE fa fb) σ H Q) : tOrV (tE c W fa) (tE c W fb) σ H Q := by
  obtain ⟨g, M, ρ, s, rel, h⟩ := h
  refine t_asB (tT.bind (out := fun M ρ H r => OutE c g W M ρ σ H r Q) rel (fun _ _ z => z) (fun z => z) h fun b s1 M1 ρ1 H1 r1 k1 h1 => ?_)
  cases b with
  | false => exact ⟨g, M1, ρ1, s1, r1, OutE.keep k1 h1⟩
  | true => exact h1 M1 ρ1 _ H1 r1 k1 (.bl _)
theorem t_notE {σ : L2.St} {H : Hp} {Q : VK} (h : tE c W (notE fa) σ H Q) : tNotV (tE c W fa) σ H Q := by
  obtain ⟨g, M, ρ, s, rel, h⟩ := h
  exact t_asB (tT.bind (out := fun M ρ H r => OutE c g W M ρ σ H r Q) rel (fun _ _ z => z) (fun z => z) h fun b s1 M1 ρ1 H1 r1 k1 h1 => h1 M1 ρ1 _ H1 r1 k1 (.bl _))
theorem e_and (ha : PE X a (tE c W fa)) (hb : PE X (.BoolOp .And (b :: rest) pos) (tE c W fb)) : PE X (.BoolOp .And (a :: b :: rest) pos) (tE c W (andE fa fb)) := pe_imp (pe_and ha hb) fun _ _ _ h => t_andE h
theorem e_or (ha : PE X a (tE c W fa)) (hb : PE X (.BoolOp .Or (b :: rest) pos) (tE c W fb)) : PE X (.BoolOp .Or (a :: b :: rest) pos) (tE c W (orE fa fb)) := pe_imp (pe_or ha hb) fun _ _ _ h => t_orE h
theorem e_not (ha : PE X a (tE c W fa)) : PE X (.UnaryOp .Not a pos) (tE c W (notE fa)) := pe_imp (pe_not ha) fun _ _ _ h => t_notE h
theorem e_if {t : Expr} {ft : S → R Bool} (ht : PT X t (tT c W ft)) (ha : PE X a (tE c W fa)) (hb : PE X b (tE c W fb)) : PE X (.IfExp t a b pos) (tE c W (ifE ft fa fb)) := pe_imp (pe_ifExp ht ha hb) fun σ H Q h => by
  obtain ⟨g, M, ρ, s, rel, h⟩ := h
  refine tT.bind (out := fun M ρ H r => OutE c g W M ρ σ H r Q) rel (fun _ _ z => z) (fun z => z) h fun b s1 M1 ρ1 H1 r1 k1 h1 => ?_
  cases b with
  | false => exact ⟨g, M1, ρ1, s1, r1, OutE.keep k1 h1⟩
  | true => exact ⟨g, M1, ρ1, s1, r1, OutE.keep k1 h1⟩
/-- a < b < c -/
def chn (F F' : D → D → Option D) (o1 o2 o3 : Op) : Ex := fun s => (o1 s).bind fun t1 s1 => (o2 s1).bind fun t2 s2 => match (deref s2 t1).bind fun x => (deref s2 t2).bind fun y => F x y with
  | some (.bl true) => (o3 s2).bind fun t3 s3 => R.of ((deref s3 t2).bind fun y => (deref s3 t3).bind fun z => F' y z) s3
  | some (.bl false) => .ok (.bl false) s2
  | _ => .bad
theorem t_chn {r r' : R2} {F F' : D → D → Option D} {o3 : Op} (hr : V2 c r F) (hr' : V2 c r' F') {σ : L2.St} {H : Hp} {Q : VK} (h : tE c W (chn F F' o1 o2 o3) σ H Q) : tChain r r' (tO c W o1) (tO c W o2) (tO c W o3) σ H Q := by
  obtain ⟨g, M, ρ, s, rel, h⟩ := h
  refine tO.bind (out := fun M ρ H r => OutE c g W M ρ σ H r Q) rel (fun _ _ z => z) (fun z => z) h fun t s1 M1 ρ1 v H1 r1 k1 t1 h1 => ?_
  refine tO.bind (out := fun M ρ H r => OutE c g W M ρ σ H r Q) r1 (fun _ _ z => z) (fun z => z) (OutE.keep k1 h1) fun t' s2 M2 ρ2 v' H2 r2 k2 t2 h2 => ?_
  have h2 := OutE.keep k2 h2
  cases q : (deref s2 t).bind fun x => (deref s2 t').bind fun y => F x y with
  | none =>
    simp only [q] at h2
    exact h2.elim
  | some e =>
    simp only [q] at h2
    obtain ⟨x, hx, q⟩ := Option.bind_eq_some_iff.mp q
    obtain ⟨y, hy, hF⟩ := Option.bind_eq_some_iff.mp q
    refine hr M2 ρ2 H2 x y e v v' _ r2.h.dom (RW.of_tok r2 (t1.keep k2) hx) (RW.of_tok r2 t2 hy) hF fun u H3 e3 hd => ?_
    have he : ∃ b, e = .bl b := by
      cases e with
      | bl b => exact ⟨b, rfl⟩
      | _ => exact h2.elim
    obtain ⟨b, rfl⟩ := he
    cases hd
    refine ⟨b, rfl, ?_⟩
    cases b with
    | false => exact h2 M2 ρ2 _ H3 (r2.ext e3) (r2.kext e3) (.bl _)
    | true =>
      have r3 := r2.ext e3
      have k3 : Keep g M2 ρ2 H2 M2 ρ2 H3 := r2.kext e3
      refine tO.bind (out := fun M ρ H r => OutE c g W M ρ σ H r Q) r3 (fun _ _ z => z) (fun z => z) (OutE.keep k3 h2) fun t'' s4 M4 ρ4 v'' H4 r4 k4 t4 h4 => ?_
      have h4 := OutE.keep k4 h4
      cases q' : (deref s4 t').bind fun y => (deref s4 t'').bind fun z => F' y z with
      | none =>
        rw [q'] at h4
        exact h4.elim
      | some e' =>
        rw [q'] at h4
        obtain ⟨y', hy', q'⟩ := Option.bind_eq_some_iff.mp q'
        obtain ⟨z, hz, hF'⟩ := Option.bind_eq_some_iff.mp q'
        exact hr' M4 ρ4 H4 y' z e' v' v'' Q r4.h.dom (RW.of_tok r4 ((t2.keep k3).keep k4) hy') (RW.of_tok r4 t4 hz) hF' fun u H5 e5 hd => h4 M4 ρ4 u H5 (r4.ext e5) (r4.kext e5) hd
theorem e_chn {op op' : CmpOp} {r r' : R2} {F F' : D → D → Option D} {d : Expr} {o3 : Op} (ho : OpR X (compareOp op) r) (hr : V2 c r F) (ho' : OpR X (compareOp op') r') (hr' : V2 c r' F') (ha : PE X a (tO c W o1)) (hb : PE X b (tO c W o2)) (hc : PE X d (tO c W o3))
    (hm : lastMarks [op, op'] [b, d] = false := by with_unfolding_all rfl) : PE X (.Compare a [op, op'] [b, d] pos) (tE c W (chn F F' o1 o2 o3)) := pe_imp (pe_chain ho ho' ha hb hc hm) fun _ _ _ h => t_chn hr hr' h
theorem b_chn {op op' : CmpOp} {r r' : R2} {F F' : D → D → Option D} {d : Expr} {o3 : Op} (ho : OpR X (compareOp op) r) (hr : V2 c r F) (ho' : OpR X (compareOp op') r') (hr' : V2 c r' F') (ha : PE X a (tO c W o1)) (hb : PE X b (tO c W o2)) (hc : PE X d (tO c W o3))
    (hm : lastMarks [op, op'] [b, d] = false := by with_unfolding_all rfl) : PT X (.Compare a [op, op'] [b, d] pos) (tT c W (asB (chn F F' o1 o2 o3))) := pt_imp (pt_chain ho ho' ha hb hc hm) fun _ _ _ h => (by
  obtain ⟨g, M, ρ, s, rel, h⟩ := h
  exact t_chn hr hr' (t_asB ⟨g, M, ρ, s, rel, h⟩))
end
end DS
/-! DS5: items, slices, displays, built-ins. -/
namespace DS
open PySem PySem.Spec PyProof.Rows L2

/-! ### items -/
def ixD : D → D → Option D
  | .tup xs, .int i => atI xs i
  | .lst xs, .int i => atI xs i
  | .scr xs, .int i => atI xs i
  | .str z, .int i => if z.length ≤ LIM then (atI z.cps.toList i).map fun k => .str ⟨#[k]⟩ else none
  | _, _ => none
section
variable {c : Cn} {M : Am} {ρ : List Addr} {H : Hp}
theorem RDs.at {xs : List D} {vs : List V} {i : Int} {d : D} (r : RDs c M ρ H xs vs) (h : atI xs i = some d) : ∃ v, atI vs i = some v ∧ RD c M ρ H d v := by
  unfold atI at h ⊢
  obtain ⟨j, hj, h⟩ := Option.bind_eq_some_iff.mp h
  obtain ⟨v, h1, h2⟩ := r.get h
  refine ⟨v, ?_, h2⟩
  rw [← r.length, hj]
  exact h1
end
section
variable {X : Cx} {c : Cn} {g : Gr} {W : WX} {a b : Expr} {o1 o2 : Op} {pos : Pos}
theorem v_ix (hK : X.K = c.K) : V2 c (rIx X.K) ixD := by
  intro M ρ H x y e v u Q d hx hy hF q
  unfold ixD at hF
  split at hF
  · obtain ⟨a, vs, e1, h1, h2⟩ := hx.tup
    obtain ⟨w, h3, h4⟩ := h2.at hF
    exact .inr (.inl ⟨a, vs, _, w, e1, hy.int, hK ▸ h1, h3, q w H (Ext.refl H) h4⟩)
  · obtain ⟨a, vs, e1, h1, h2⟩ := hx.lst
    obtain ⟨w, h3, h4⟩ := h2.at hF
    exact .inl ⟨a, vs, _, w, e1, hy.int, .inl (.inl h1), h3, q w H (Ext.refl H) h4⟩
  · obtain ⟨a, vs, e1, h1, h2⟩ := hx.scr
    obtain ⟨w, h3, h4⟩ := h2.at hF
    exact .inl ⟨a, vs, _, w, e1, hy.int, hK ▸ h1, h3, q w H (Ext.refl H) h4⟩
  · split at hF
    · obtain ⟨k, h1, rfl⟩ := Option.map_eq_some_iff.mp hF
      exact .inr (.inr ⟨_, _, k, hx.str, hy.int, by assumption, h1, q _ H (Ext.refl H) (.str _)⟩)
    · cases hF
  · cases hF
theorem e_ix (hK : X.K = c.K) (ha : PE X a (tO c W o1)) (hb : PE X b (tO c W o2)) (hs : PlainIx b := by intro _ _; rfl) : PE X (.Subscript a b pos) (tE c W (op2 ixD o1 o2)) := pe_imp (pe_ix ix_seq ha hb hs) fun _ _ _ h => t_op2 (v_ix hK) h
end

/-! ### slices -/
def cutL {α : Type} (xs : List α) (lo hi : Option Int) : List α := (xs.drop (HT.sIx xs.length 0 lo)).take (HT.sIx xs.length xs.length hi - HT.sIx xs.length 0 lo)
def slD (x : D) (lo hi : Option Int) : Option D := match x with
  | .tup xs => some (.tup (cutL xs lo hi))
  | .lst xs => some (.lst (cutL xs lo hi))
  | .scr xs => some (.lst (cutL xs lo hi))
  | .str z => if z.length ≤ LIM then some (.str (cutS z lo hi)) else none
  | _ => none
def slLs (x : D) (lo hi : Option Int) : Option (List D) := match x with
  | .lst xs => some (cutL xs lo hi)
  | .scr xs => some (cutL xs lo hi)
  | _ => none
def part : Option Ex → S → R (Option Int)
  | none, s => .ok none s
  | some f, s => (f s).bind fun d s1 => match d with
    | .int i => .ok (some i) s1
    | _ => .bad
def sl (o : Op) (lo hi : Option Ex) : Ex := fun s => (o s).bind fun t s1 => (part lo s1).bind fun l s2 => (part hi s2).bind fun u s3 => R.of ((deref s3 t).bind fun x => slD x l u) s3
def slL (o : Op) (lo hi : Option Ex) : ExL := fun s => (o s).bind fun t s1 => (part lo s1).bind fun l s2 => (part hi s2).bind fun u s3 => R.of ((deref s3 t).bind fun x => slLs x l u) s3
section
variable {X : Cx} {c : Cn} {g : Gr} {W : WX} {a b : Expr} {o1 o2 : Op} {pos : Pos}
def OutP (c : Cn) (g : Gr) (W : WX) (M : Am) (ρ : List Addr) (σ : L2.St) (H : Hp) (r : R (Option Int)) (Q : Option Int → Hp → Prop) : Prop := match r with
  | .ok i s' => ∀ M' ρ' H', Rel c g M' ρ' s' σ H' → Keep g M ρ H M' ρ' H' → Q i H'
  | .exc x s' => ∀ M' ρ' H' cls dd, Rel c g M' ρ' s' σ H' → Keep g M ρ H M' ρ' H' → XR c x cls dd H' → W cls dd σ H'
  | .bad => False
def tP (c : Cn) (W : WX) (p : Option Ex) : TO := fun σ H Q => ∃ g M ρ s, Rel c g M ρ s σ H ∧ OutP c g W M ρ σ H (part p s) Q
theorem po_imp {e : Option Expr} {t t' : TO} (h : PO X e t) (i : ∀ σ H Q, t' σ H Q → t σ H Q) : PO X e t' := ⟨fun pins s σ H Q I q => h.run pins s σ H Q I (i _ _ _ q)⟩
theorem p_none : PO X none (tP c W none) := po_imp po_none fun σ H Q h => by
  obtain ⟨g, M, ρ, s, rel, h⟩ := h
  exact h M ρ H rel (Keep.refl _ _ _ _)
theorem p_some {e : Expr} {f : Ex} (h : PE X e (tE c W f)) : PO X (some e) (tP c W (some f)) := po_imp (po_some h) fun σ H Q h => by
  obtain ⟨g, M, ρ, s, rel, h⟩ := h
  refine tE.bind (out := fun M ρ H r => OutP c g W M ρ σ H r Q) rel (fun _ _ z => z) (fun z => z) h fun d s1 M1 ρ1 v H1 r1 k1 hd h1 => ?_
  have he : ∃ i, d = .int i := by
    cases d with
    | int i => exact ⟨i, rfl⟩
    | _ => exact h1.elim
  obtain ⟨i, rfl⟩ := he
  cases hd
  exact ⟨i, rfl, h1 M1 ρ1 H1 r1 k1⟩
theorem tP.bind {β : Type} {M : Am} {ρ : List Addr} {s : S} {σ : L2.St} {H : Hp} {Q : Option Int → Hp → Prop} {f : Option Ex} {k : Option Int → S → R β} {out : Am → List Addr → Hp → R β → Prop} (rel : Rel c g M ρ s σ H)
    (hx : ∀ x s', out M ρ H (.exc x s') → ∀ M' ρ' H' cls dd, Rel c g M' ρ' s' σ H' → Keep g M ρ H M' ρ' H' → XR c x cls dd H' → W cls dd σ H') (hb : ¬ out M ρ H .bad)
    (h : out M ρ H ((part f s).bind k)) (hq : ∀ b s1 M1 ρ1 H1, Rel c g M1 ρ1 s1 σ H1 → Keep g M ρ H M1 ρ1 H1 → out M ρ H (k b s1) → Q b H1) : tP c W f σ H Q := by
  refine ⟨g, M, ρ, s, rel, ?_⟩
  cases e : part f s with
  | ok t s1 =>
    rw [e] at h
    exact fun M1 ρ1 H1 r1 k1 => hq t s1 M1 ρ1 H1 r1 k1 h
  | exc x s1 =>
    rw [e] at h
    exact hx x s1 h
  | bad =>
    rw [e] at h
    exact hb h
theorem RDs.cut {M : Am} {ρ : List Addr} {H : Hp} {xs : List D} {vs : List V} (r : RDs c M ρ H xs vs) (lo hi : Option Int) : RDs c M ρ H (cutL xs lo hi) (cutV vs lo hi) := by
  unfold cutL cutV
  rw [r.length]
  exact (r.drop _).take _
abbrev rSl (K : PySem.W.Frag) : V → Option Int → Option Int → Hp → VK → Prop := fun x lo hi H Q => rSlN K x lo hi H Q ∨ rSlL K x lo hi H Q ∨ rSlS x lo hi H Q
theorem r_sl : SlR X (rSl X.K) := SlR.or sl_tupN (SlR.or sl_list sl_str)
theorem cutL_all {α : Type} {xs : List α} {lo hi : Option Int} (h : HT.sIx xs.length 0 lo = 0 ∧ HT.sIx xs.length xs.length hi = xs.length) : cutL xs lo hi = xs := by
  unfold cutL
  rw [h.1, h.2]
  simp
theorem e_sl (hK : X.K = c.K) {lo hi : Option Expr} {fl fh : Option Ex} {p2 : Pos} (ha : PE X a (tO c W o1)) (hl : PO X lo (tP c W fl)) (hh : PO X hi (tP c W fh)) : PE X (.Subscript a (.Slice lo hi none p2) pos) (tE c W (sl o1 fl fh)) :=
  pe_imp (pe_slice r_sl ha hl hh) fun σ H Q h => by
    obtain ⟨g, M, ρ, s, rel, h⟩ := h
    refine tO.bind (out := fun M ρ H r => OutE c g W M ρ σ H r Q) rel (fun _ _ z => z) (fun z => z) h fun t s1 M1 ρ1 v H1 r1 k1 t1 h1 => ?_
    refine tP.bind (out := fun M ρ H r => OutE c g W M ρ σ H r Q) r1 (fun _ _ z => z) (fun z => z) (OutE.keep k1 h1) fun l s2 M2 ρ2 H2 r2 k2 h2 => ?_
    refine tP.bind (out := fun M ρ H r => OutE c g W M ρ σ H r Q) r2 (fun _ _ z => z) (fun z => z) (OutE.keep k2 h2) fun u s3 M3 ρ3 H3 r3 k3 h3 => ?_
    have h3 := OutE.keep k3 h3
    cases q : (deref s3 t).bind fun x => slD x l u with
    | none =>
      rw [q] at h3
      exact h3.elim
    | some e =>
      rw [q] at h3
      obtain ⟨x, hx, q⟩ := Option.bind_eq_some_iff.mp q
      have rw3 := RW.of_tok r3 ((t1.keep k2).keep k3) hx
      cases x <;> first | cases q | skip
      · rename_i z
        have q2 : (if z.length ≤ LIM then some (D.str (cutS z l u)) else none) = some e := q
        by_cases hz : z.length ≤ LIM
        · rw [if_pos hz] at q2
          cases q2
          exact .inr (.inr ⟨z, rw3.str, hz, h3 M3 ρ3 _ H3 r3 (Keep.refl _ _ _ _) (.str _)⟩)
        · rw [if_neg hz] at q2
          cases q2
      · rename_i xs
        obtain ⟨a, vs, e1, h4, h5⟩ := rw3.tup
        refine .inl ⟨a, vs, e1, hK ▸ h4, fun hw => ?_, fun p o hp hc ho => ?_⟩
        · subst e1
          rw [← h5.length] at hw
          rw [cutL_all hw] at h3
          exact h3 M3 ρ3 _ H3 r3 (Keep.refl _ _ _ _) rw3.rdt
        · exact h3 M3 ρ3 _ _ (r3.ext (Ext.new hp)) (r3.kext (Ext.new hp)) (RD.newT (H' := H3) r3.h.dom hp hc ho (h5.cut l u))
      · rename_i xs
        obtain ⟨a, vs, e1, h4, h5⟩ := rw3.lst
        exact .inr (.inl ⟨a, vs, e1, .inl (.inl h4), fun p hp => h3 M3 ρ3 _ _ (r3.ext (Ext.new hp)) (r3.kext (Ext.new hp)) (RD.newL r3.h.dom hp (h5.cut l u))⟩)
      · rename_i xs
        obtain ⟨a, vs, e1, h4, h5⟩ := rw3.scr
        exact .inr (.inl ⟨a, vs, e1, hK ▸ h4, fun p hp => h3 M3 ρ3 _ _ (r3.ext (Ext.new hp)) (r3.kext (Ext.new hp)) (RD.newL r3.h.dom hp (h5.cut l u))⟩)
theorem l_sl (hK : X.K = c.K) {lo hi : Option Expr} {fl fh : Option Ex} {p2 : Pos} (ha : PE X a (tO c W o1)) (hl : PO X lo (tP c W fl)) (hh : PO X hi (tP c W fh)) : PE X (.Subscript a (.Slice lo hi none p2) pos) (tL c W (slL o1 fl fh)) :=
  pe_imp (pe_slice sl_list ha hl hh) fun σ H Q h => by
    obtain ⟨g, M, ρ, s, rel, h⟩ := h
    refine tO.bind (out := fun M ρ H r => OutL c g W M ρ σ H r Q) rel (fun _ _ z => z) (fun z => z) h fun t s1 M1 ρ1 v H1 r1 k1 t1 h1 => ?_
    refine tP.bind (out := fun M ρ H r => OutL c g W M ρ σ H r Q) r1 (fun _ _ z => z) (fun z => z) (OutL.keep k1 h1) fun l s2 M2 ρ2 H2 r2 k2 h2 => ?_
    refine tP.bind (out := fun M ρ H r => OutL c g W M ρ σ H r Q) r2 (fun _ _ z => z) (fun z => z) (OutL.keep k2 h2) fun u s3 M3 ρ3 H3 r3 k3 h3 => ?_
    have h3 := OutL.keep k3 h3
    cases q : (deref s3 t).bind fun x => slLs x l u with
    | none =>
      rw [q] at h3
      exact h3.elim
    | some e =>
      rw [q] at h3
      obtain ⟨x, hx, q⟩ := Option.bind_eq_some_iff.mp q
      have rw3 := RW.of_tok r3 ((t1.keep k2).keep k3) hx
      cases x <;> first | cases q | skip
      · rename_i xs
        obtain ⟨a, vs, e1, h4, h5⟩ := rw3.lst
        exact ⟨a, vs, e1, .inl (.inl h4), fun p hp => out_new r3 h3 hp (Ext.new hp) upd_same (h5.cut l u)⟩
      · rename_i xs
        obtain ⟨a, vs, e1, h4, h5⟩ := rw3.scr
        exact ⟨a, vs, e1, hK ▸ h4, fun p hp => out_new r3 h3 hp (Ext.new hp) upd_same (h5.cut l u)⟩
end

/-! ### argument lists, displays -/
def evA : List Ex → S → R (List D)
  | [], s => .ok [] s
  | f :: fs, s => (f s).bind fun d s1 => (evA fs s1).bind fun ds s2 => .ok (d :: ds) s2
def tupE (fs : List Ex) : Ex := fun s => (evA fs s).bind fun ds s1 => .ok (.tup ds) s1
def lstE (fs : List Ex) : ExL := evA fs
section
variable {X : Cx} {c : Cn} {g : Gr} {W : WX} {a b : Expr} {o1 o2 : Op} {pos : Pos}
def OutA (c : Cn) (g : Gr) (W : WX) (M : Am) (ρ : List Addr) (σ : L2.St) (H : Hp) (r : R (List D)) (Q : List V → Hp → Prop) : Prop := match r with
  | .ok ds s' => ∀ M' ρ' vs H', Rel c g M' ρ' s' σ H' → Keep g M ρ H M' ρ' H' → RDs c M' ρ' H' ds vs → Q vs H'
  | .exc x s' => ∀ M' ρ' H' cls dd, Rel c g M' ρ' s' σ H' → Keep g M ρ H M' ρ' H' → XR c x cls dd H' → W cls dd σ H'
  | .bad => False
def tA (c : Cn) (W : WX) (fs : List Ex) : TA := fun σ H Q => ∃ g M ρ s, Rel c g M ρ s σ H ∧ OutA c g W M ρ σ H (evA fs s) Q
theorem OutA.keep {M M1 : Am} {ρ ρ1 : List Addr} {σ : L2.St} {H H1 : Hp} {Q : List V → Hp → Prop} (k : Keep g M ρ H M1 ρ1 H1) {r : R (List D)} (h : OutA c g W M ρ σ H r Q) : OutA c g W M1 ρ1 σ H1 r Q := by
  cases r with
  | ok d s' => exact fun M' ρ' v H' a b e => h M' ρ' v H' a (k.trans b) e
  | exc x s' => exact fun M' ρ' H' cls dd a b e => h M' ρ' H' cls dd a (k.trans b) e
  | bad => exact h
theorem tA.bind {β : Type} {M : Am} {ρ : List Addr} {s : S} {σ : L2.St} {H : Hp} {Q : List V → Hp → Prop} {f : List Ex} {k : List D → S → R β} {out : Am → List Addr → Hp → R β → Prop} (rel : Rel c g M ρ s σ H)
    (hx : ∀ x s', out M ρ H (.exc x s') → ∀ M' ρ' H' cls dd, Rel c g M' ρ' s' σ H' → Keep g M ρ H M' ρ' H' → XR c x cls dd H' → W cls dd σ H') (hb : ¬ out M ρ H .bad)
    (h : out M ρ H ((evA f s).bind k)) (hq : ∀ ds s1 M1 ρ1 vs H1, Rel c g M1 ρ1 s1 σ H1 → Keep g M ρ H M1 ρ1 H1 → RDs c M1 ρ1 H1 ds vs → out M ρ H (k ds s1) → Q vs H1) : tA c W f σ H Q := by
  refine ⟨g, M, ρ, s, rel, ?_⟩
  cases e : evA f s with
  | ok t s1 =>
    rw [e] at h
    exact fun M1 ρ1 vs H1 r1 k1 rd => hq t s1 M1 ρ1 vs H1 r1 k1 rd h
  | exc x s1 =>
    rw [e] at h
    exact hx x s1 h
  | bad =>
    rw [e] at h
    exact hb h
theorem a_nil : PA X [] (tA c W []) := pa_imp pa_nil fun σ H Q h => by
  obtain ⟨g, M, ρ, s, rel, h⟩ := h
  exact h M ρ [] H rel (Keep.refl _ _ _ _) .nil
theorem a_cons {e : Expr} {es : List Expr} {f : Ex} {fs : List Ex} (ha : PE X e (tE c W f)) (hr : PA X es (tA c W fs)) (hs : starEach (e :: es) X.env = (false, eval e X.env) :: starEach es X.env := by rfl) : PA X (e :: es) (tA c W (f :: fs)) :=
  pa_imp (pa_cons ha hr hs) fun σ H Q h => by
    obtain ⟨g, M, ρ, s, rel, h⟩ := h
    refine tE.bind (out := fun M ρ H r => OutA c g W M ρ σ H r Q) rel (fun _ _ z => z) (fun z => z) h fun d s1 M1 ρ1 v H1 r1 k1 hd h1 => ?_
    refine tA.bind (out := fun M ρ H r => OutA c g W M ρ σ H r Q) r1 (fun _ _ z => z) (fun z => z) (OutA.keep k1 h1) fun ds s2 M2 ρ2 vs H2 r2 k2 hds h2 => ?_
    exact OutA.keep k2 h2 M2 ρ2 (v :: vs) H2 r2 (Keep.refl _ _ _ _) (.cons (hd.keep k2) hds)
theorem evA_len : ∀ {fs : List Ex} {s s' : S} {ds : List D}, evA fs s = .ok ds s' → ds.length = fs.length
  | [], s, s', ds, h => by cases h; rfl
  | f :: fs, s, s', ds, h => by
    unfold evA at h
    cases e : f s with
    | exc x s1 => rw [e] at h; cases h
    | bad => rw [e] at h; cases h
    | ok d s1 =>
      rw [e] at h
      simp only [R.bind_ok] at h
      cases e2 : evA fs s1 with
      | exc x s1 => rw [e2] at h; cases h
      | bad => rw [e2] at h; cases h
      | ok ds2 s2 =>
        rw [e2] at h
        cases h
        show ds2.length + 1 = fs.length + 1
        rw [evA_len e2]
theorem e_tup {es : List Expr} {fs : List Ex} {k : Nat} (h : PA X es (tA c W fs)) (hl : fs.length ≤ LIM := by decide) : PE X (.Tuple es k pos) (tE c W (tupE fs)) := pe_imp (pe_tupN h) fun σ H Q h => by
  obtain ⟨g, M, ρ, s, rel, h⟩ := h
  refine ⟨g, M, ρ, s, rel, ?_⟩
  unfold tupE at h
  cases e : evA fs s with
  | exc x s1 => rw [e] at h; exact h
  | bad => rw [e] at h; exact h
  | ok ds s1 =>
    rw [e] at h
    intro M' ρ' vs H' r k rd
    refine ⟨?_, fun p o hp hc ho => h M' ρ' (.ref p) _ (r.ext (Ext.new hp)) (k.trans (r.kext (Ext.new hp))) (RD.newT (H' := H') r.h.dom hp hc ho rd)⟩
    rw [← rd.length, evA_len e]
    exact hl
theorem l_lst {es : List Expr} {fs : List Ex} (h : PA X es (tA c W fs)) (hl : fs.length ≤ LIM := by decide) : PE X (.List es pos) (tL c W (lstE fs)) := pe_imp (pe_lst h) fun σ H Q h => by
  obtain ⟨g, M, ρ, s, rel, h⟩ := h
  refine ⟨g, M, ρ, s, rel, ?_⟩
  unfold lstE at h
  cases e : evA fs s with
  | exc x s1 => rw [e] at h; exact h
  | bad => rw [e] at h; exact h
  | ok ds s1 =>
    rw [e] at h
    intro M' ρ' vs H' r k rd
    refine ⟨?_, fun p hp => ?_⟩
    · rw [← rd.length, evA_len e]
      exact hl
    · obtain ⟨r', f'⟩ := r.newM (Ext.new hp) hp (upd_same (o := .lst vs)) rfl
      exact h (more M' p) ρ' p vs _ r' (k.trans (keep_more (Ext.new hp) hp r.pd)) upd_same (rd.keep (keep_more (Ext.new hp) hp r.pd)) f'
end

/-! ### built-ins of one argument -/
section
variable {X : Cx} {c : Cn} {g : Gr} {W : WX} {a b : Expr} {o1 o2 : Op} {p pos : Pos} {x : Str} {id T : String}
theorem CallR.or3 {f : Value} {r r' : List V → Hp → VK → Prop} (h : CallR X f r) (h' : CallR X f r') : CallR X f (fun xs H Q => r xs H Q ∨ r' xs H Q) := CallR.or h h'
theorem e_B1 {r : List V → Hp → VK → Prop} {F : D → Option D} (hc : CallR X (.builtin id) r) (hv : V1 c (fun v H Q => r [v] H Q) F) (hg : Gl X x) (hm : X.mg x = none) (hb : bootBuiltins x = some (.builtin id)) (ha : PE X a (tO c W o1))
    (hn : x ≠ "__name__" := by decide) (hdb : (x == ("__debug__" : Str)) = false := by decide) (hs : starEach [a] X.env = (false, eval a X.env) :: starEach [] X.env := by rfl) (he : starEach [a] X.env = (false, eval a X.env) :: starEach [] X.env := by rfl) (hpl : (backTo pos (starEach [] X.env)).any (·.1) = false := by rfl) :
    PE X (.Call (.Name x p) [a] [] pos) (tE c W (op1 F o1)) := pe_imp (pe_callB hc hg hm hb (pa_cons ha pa_nil hs) hn hdb he hpl) fun _ _ _ h => t_op1 hv h
theorem e_T1 {r : List V → Hp → VK → Prop} {F : D → Option D} (hc : CallR X (.type T) r) (hv : V1 c (fun v H Q => r [v] H Q) F) (hg : Gl X x) (hm : X.mg x = none) (hb : bootBuiltins x = some (.type T)) (ha : PE X a (tO c W o1))
    (hn : x ≠ "__name__" := by decide) (hdb : (x == ("__debug__" : Str)) = false := by decide) (hs : starEach [a] X.env = (false, eval a X.env) :: starEach [] X.env := by rfl) (he : starEach [a] X.env = (false, eval a X.env) :: starEach [] X.env := by rfl) (hpl : (backTo pos (starEach [] X.env)).any (·.1) = false := by rfl) :
    PE X (.Call (.Name x p) [a] [] pos) (tE c W (op1 F o1)) := pe_imp (pe_callTy hc hg hm hb (pa_cons ha pa_nil hs) hn hdb he hpl) fun _ _ _ h => t_op1 hv h
theorem l_B1 {r : List V → Hp → VK → Prop} {F : D → Option (List D)} (hc : CallR X (.builtin id) r) (hv : V1L c (fun v H Q => r [v] H Q) F) (hg : Gl X x) (hm : X.mg x = none) (hb : bootBuiltins x = some (.builtin id)) (ha : PE X a (tO c W o1))
    (hn : x ≠ "__name__" := by decide) (hdb : (x == ("__debug__" : Str)) = false := by decide) (hs : starEach [a] X.env = (false, eval a X.env) :: starEach [] X.env := by rfl) (he : starEach [a] X.env = (false, eval a X.env) :: starEach [] X.env := by rfl) (hpl : (backTo pos (starEach [] X.env)).any (·.1) = false := by rfl) :
    PE X (.Call (.Name x p) [a] [] pos) (tL c W (op1L F o1)) := pe_imp (pe_callB hc hg hm hb (pa_cons ha pa_nil hs) hn hdb he hpl) fun _ _ _ h => t_op1L hv h
theorem l_T1 {r : List V → Hp → VK → Prop} {F : D → Option (List D)} (hc : CallR X (.type T) r) (hv : V1L c (fun v H Q => r [v] H Q) F) (hg : Gl X x) (hm : X.mg x = none) (hb : bootBuiltins x = some (.type T)) (ha : PE X a (tO c W o1))
    (hn : x ≠ "__name__" := by decide) (hdb : (x == ("__debug__" : Str)) = false := by decide) (hs : starEach [a] X.env = (false, eval a X.env) :: starEach [] X.env := by rfl) (he : starEach [a] X.env = (false, eval a X.env) :: starEach [] X.env := by rfl) (hpl : (backTo pos (starEach [] X.env)).any (·.1) = false := by rfl) :
    PE X (.Call (.Name x p) [a] [] pos) (tL c W (op1L F o1)) := pe_imp (pe_callTy hc hg hm hb (pa_cons ha pa_nil hs) hn hdb he hpl) fun _ _ _ h => t_op1L hv h
end
def lenD : D → Option D
  | .tup xs => some (.int xs.length)
  | .lst xs => some (.int xs.length)
  | .scr xs => some (.int xs.length)
  | .str z => if z.length ≤ LIM then some (.int z.length) else none
  | _ => none
def absD : D → Option D
  | .int i => some (.int (if i < 0 then -i else i))
  | _ => none
def intD : D → Option D
  | .int i => some (.int i)
  | .bl b => some (.int (if b then 1 else 0))
  | _ => none
def tupleD : D → Option D
  | .tup xs => some (.tup xs)
  | .lst xs => some (.tup xs)
  | .scr xs => some (.tup xs)
  | _ => none
def listL : D → Option (List D)
  | .tup xs => some xs
  | .lst xs => some xs
  | .scr xs => some xs
  | _ => none
def toBls : List D → Option (List Bool)
  | [] => some []
  | .bl b :: ds => (toBls ds).map fun bs => b :: bs
  | _ => none
def toInts : List D → Option (List Int)
  | [] => some []
  | .int b :: ds => (toInts ds).map fun bs => b :: bs
  | _ => none
def allD : D → Option D
  | .lst xs => (toBls xs).map fun bs => .bl (bs.all id)
  | _ => none
def anyD : D → Option D
  | .lst xs => (toBls xs).map fun bs => .bl (bs.any id)
  | _ => none
def sumD : D → Option D
  | .lst xs => (toInts xs).map fun bs => .int bs.sum
  | _ => none
section
variable {c : Cn} {M : Am} {ρ : List Addr} {H : Hp}
theorem RDs.bls : ∀ {xs : List D} {vs : List V} {bs : List Bool}, RDs c M ρ H xs vs → toBls xs = some bs → vs = bs.map V.bl
  | _, _, _, .nil, e => by cases e; rfl
  | _, _, _, .cons (d := d) h t, e => by
    cases d <;> first | cases e | skip
    obtain ⟨bs, e1, rfl⟩ := Option.map_eq_some_iff.mp e
    cases h
    rw [RDs.bls t e1]
    rfl
theorem RDs.ints : ∀ {xs : List D} {vs : List V} {bs : List Int}, RDs c M ρ H xs vs → toInts xs = some bs → vs = bs.map V.int
  | _, _, _, .nil, e => by cases e; rfl
  | _, _, _, .cons (d := d) h t, e => by
    cases d <;> first | cases e | skip
    obtain ⟨bs, e1, rfl⟩ := Option.map_eq_some_iff.mp e
    cases h
    rw [RDs.ints t e1]
    rfl
end
section
variable {X : Cx} {c : Cn}
theorem r_len : CallR X (.builtin "len") (fun xs H Q => (∃ p ys, xs = [.ref p] ∧ (SqL X.K H p ys ∨ SqT X.K H p ys) ∧ Q (.int ys.length) H) ∨ (∃ z, xs = [.str z] ∧ z.length ≤ sizeLine ∧ Q (.int z.length) H)) := CallR.or call_len_seq call_len_str
theorem v_len (hK : X.K = c.K) : V1 c (fun v H Q => (∃ p ys, [v] = [.ref p] ∧ (SqL X.K H p ys ∨ SqT X.K H p ys) ∧ Q (.int ys.length) H) ∨ (∃ z, [v] = [.str z] ∧ z.length ≤ sizeLine ∧ Q (.int z.length) H)) lenD := by
  intro M ρ H x e v Q d hx hF q
  unfold lenD at hF
  split at hF
  · cases hF
    obtain ⟨a, vs, e1, h1, h2⟩ := hx.tup
    exact .inl ⟨a, vs, by rw [e1], .inr (hK ▸ h1), by rw [← h2.length]; exact q _ H (Ext.refl H) (.int _)⟩
  · cases hF
    obtain ⟨a, vs, e1, h1, h2⟩ := hx.lst
    exact .inl ⟨a, vs, by rw [e1], .inl (.inl (.inl h1)), by rw [← h2.length]; exact q _ H (Ext.refl H) (.int _)⟩
  · cases hF
    obtain ⟨a, vs, e1, h1, h2⟩ := hx.scr
    exact .inl ⟨a, vs, by rw [e1], .inl (hK ▸ h1), by rw [← h2.length]; exact q _ H (Ext.refl H) (.int _)⟩
  · split at hF
    · cases hF
      exact .inr ⟨_, by rw [hx.str], by assumption, q _ H (Ext.refl H) (.int _)⟩
    · cases hF
  · cases hF
theorem v_abs : V1 c (fun v H Q => ∃ i, [v] = [.int i] ∧ Q (.int (if i < 0 then -i else i)) H) absD := by
  intro M ρ H x e v Q d hx hF q
  unfold absD at hF
  split at hF
  · cases hF
    exact ⟨_, by rw [hx.int], q _ H (Ext.refl H) (.int _)⟩
  · cases hF
theorem v_int : V1 c (fun v H Q => (∃ i, [v] = [.int i] ∧ Q (.int i) H) ∨ ∃ k, [v] = [.bl k] ∧ Q (.int (if k then 1 else 0)) H) intD := by
  intro M ρ H x e v Q d hx hF q
  unfold intD at hF
  split at hF
  · cases hF
    exact .inl ⟨_, by rw [hx.int], q _ H (Ext.refl H) (.int _)⟩
  · cases hF
    exact .inr ⟨_, by rw [hx.bl], q _ H (Ext.refl H) (.int _)⟩
  · cases hF
theorem v_tuple (hK : X.K = c.K) : V1 c (fun v H Q => ∃ p ys, [v] = [.ref p] ∧ ((SqL X.K H p ys ∧ NewT H ys Q) ∨ (SqT X.K H p ys ∧ Q (.ref p) H))) tupleD := by
  intro M ρ H x e v Q d hx hF q
  unfold tupleD at hF
  split at hF
  · cases hF
    obtain ⟨a, vs, e1, h1, h2⟩ := hx.tup
    subst e1
    exact ⟨a, vs, rfl, .inr ⟨hK ▸ h1, q _ H (Ext.refl H) hx.rdt⟩⟩
  · cases hF
    obtain ⟨a, vs, e1, h1, h2⟩ := hx.lst
    exact ⟨a, vs, by rw [e1], .inl ⟨.inl (.inl h1), fun l o hl hc ho => q _ _ (Ext.new hl) (RD.newT (H' := H) d hl hc ho h2)⟩⟩
  · cases hF
    obtain ⟨a, vs, e1, h1, h2⟩ := hx.scr
    exact ⟨a, vs, by rw [e1], .inl ⟨hK ▸ h1, fun l o hl hc ho => q _ _ (Ext.new hl) (RD.newT (H' := H) d hl hc ho h2)⟩⟩
  · cases hF
theorem v_list (hK : X.K = c.K) : V1L c (fun v H Q => ∃ p ys, [v] = [.ref p] ∧ (SqL X.K H p ys ∨ SqT X.K H p ys) ∧ ∀ l, H l = none → Q (.ref l) (upd H l (.lst ys))) listL := by
  intro M ρ H x v xs Q d hx hF q
  unfold listL at hF
  split at hF
  · cases hF
    obtain ⟨a, vs, e1, h1, h2⟩ := hx.tup
    exact ⟨a, vs, by rw [e1], .inr (hK ▸ h1), fun l hl => q l _ _ hl (Ext.new hl) upd_same h2⟩
  · cases hF
    obtain ⟨a, vs, e1, h1, h2⟩ := hx.lst
    exact ⟨a, vs, by rw [e1], .inl (.inl (.inl h1)), fun l hl => q l _ _ hl (Ext.new hl) upd_same h2⟩
  · cases hF
    obtain ⟨a, vs, e1, h1, h2⟩ := hx.scr
    exact ⟨a, vs, by rw [e1], .inl (hK ▸ h1), fun l hl => q l _ _ hl (Ext.new hl) upd_same h2⟩
  · cases hF
theorem v_all : V1 c (fun v H Q => rAll X.K [v] H Q) allD := by
  intro M ρ H x e v Q d hx hF q
  unfold allD at hF
  split at hF
  · obtain ⟨bs, h, rfl⟩ := Option.map_eq_some_iff.mp hF
    obtain ⟨a, vs, e1, h1, h2⟩ := hx.lst
    exact ⟨a, bs, by rw [e1], .inl (.inl (by rw [← h2.bls h]; exact h1)), q _ H (Ext.refl H) (.bl _)⟩
  · cases hF
theorem v_any : V1 c (fun v H Q => rAny X.K [v] H Q) anyD := by
  intro M ρ H x e v Q d hx hF q
  unfold anyD at hF
  split at hF
  · obtain ⟨bs, h, rfl⟩ := Option.map_eq_some_iff.mp hF
    obtain ⟨a, vs, e1, h1, h2⟩ := hx.lst
    exact ⟨a, bs, by rw [e1], .inl (.inl (by rw [← h2.bls h]; exact h1)), q _ H (Ext.refl H) (.bl _)⟩
  · cases hF
theorem v_sum : V1 c (fun v H Q => rSum X.K [v] H Q) sumD := by
  intro M ρ H x e v Q d hx hF q
  unfold sumD at hF
  split at hF
  · obtain ⟨bs, h, rfl⟩ := Option.map_eq_some_iff.mp hF
    obtain ⟨a, vs, e1, h1, h2⟩ := hx.lst
    exact ⟨a, bs, by rw [e1], .inl (.inl (by rw [← h2.ints h]; exact h1)), q _ H (Ext.refl H) (.int _)⟩
  · cases hF
end
end DS
/-! DS6: defs: their promise by data, calls. -/
namespace DS
open PySem PySem.Spec PyProof.Rows L2

/-! ### what a def does -/
def fnOf (n : Nat) (body : Sm) : Fn := fun as hp => match body ⟨as.map .v ++ List.replicate (n - as.length) .un, hp⟩ with
  | .ok .nx s => .ok .non s.hp
  | .ok (.rt d) s => .ok d s.hp
  | .exc x s => .exc x s.hp
  | _ => .bad
/-- from M, ρ, H on, a call's heap -/
structure KeepF (M : Am) (ρ : List Addr) (H : Hp) (M' : Am) (ρ' : List Addr) (H' : Hp) : Prop where
  k1 : ∀ a o, H a = some o → a ∉ ρ → H' a = some o
  k2 : ∀ a o, H a = some o → ¬ M a → ¬ M' a
  k3 : ∀ a, M a → M' a
  pre : ∃ l, ρ' = ρ ++ l ∧ ∀ a ∈ l, H a = none
def OutF (c : Cn) (M : Am) (ρ : List Addr) (H : Hp) (r : RF) (Q : VK) (E : XK) : Prop := match r with
  | .ok d hp => ∀ M' ρ' v H', HR c M' ρ' hp H' → KeepF M ρ H M' ρ' H' → RD c M' ρ' H' d v → Q v H'
  | .exc x hp => ∀ M' ρ' H' cls dd, HR c M' ρ' hp H' → KeepF M ρ H M' ρ' H' → XR c x cls dd H' → E cls dd H'
  | .bad => False
def spF (c : Cn) (n : Nat) (F : Fn) : Sp := fun vs H Q E => vs.length = n ∧ ∃ M ρ hp as, HR c M ρ hp H ∧ RDs c M ρ H as vs ∧ OutF c M ρ H (F as hp) Q E
section
variable {c : Cn} {g : Gr} {M M' : Am} {ρ ρ' : List Addr} {H H' : Hp} {s : S} {hp hp' : List Ob} {σ : L2.St}
theorem KeepF.of (G : GR ⟨M, ρ, H, fun _ => False⟩ M' ρ' H') : KeepF M ρ H M' ρ' H' := ⟨G.g1, G.g2, G.g3, G.gr⟩
theorem GR.start (h : HR c M ρ hp H) : GR ⟨M, ρ, H, fun _ => False⟩ M ρ H := ⟨fun _ _ h _ => h, fun _ _ _ m => m, fun _ m => m, fun a m => let ⟨o, e, _⟩ := h.dom a m; ⟨o, e⟩, h.rm, ⟨[], (List.append_nil _).symm, fun a z => by simp at z⟩, fun _ z => z.elim⟩
theorem start_get {as : List D} {n i : Nat} {sl : Slot} (h : (as.map Slot.v ++ List.replicate n .un)[i]? = some sl) : (∃ d, as[i]? = some d ∧ sl = .v d) ∨ sl = .un := by
  by_cases hi : i < as.length
  · left
    rw [List.getElem?_append_left (by simpa using hi), List.getElem?_map] at h
    cases e : as[i]? with
    | none => rw [e] at h; cases h
    | some d => rw [e] at h; cases h; exact ⟨d, rfl, rfl⟩
  · right
    rw [List.getElem?_append_right (by simpa using hi), List.getElem?_replicate] at h
    split at h
    · cases h; rfl
    · cases h
theorem Rel.start {N : List Str} {vs : List V} {as : List D} (h : HR c M ρ hp H) (r : RDs c M ρ H as vs) (hl : as.length ≤ N.length) : Rel c ⟨M, ρ, H, fun _ => False⟩ M ρ ⟨as.map .v ++ List.replicate (N.length - as.length) .un, hp⟩ (L2.start N vs) H := by
  refine ⟨h, .start h, ⟨?_, fun i d e => ?_, fun i sl e o => ?_, fun i sl a e o => ?_, fun i j sl sl' a e o => ?_⟩⟩
  · unfold L2.start
    simp [r.length]
  · rcases start_get e with ⟨d', e', q⟩ | q
    · cases q
      obtain ⟨v, h1, h2⟩ := r.get e'
      refine ⟨v, ?_, h2⟩
      unfold L2.start
      rw [List.getElem?_append_left (by
        have := (List.getElem?_eq_some_iff.mp h1).1
        simpa using this), List.getElem?_map, h1]
      rfl
    · cases q
  · rcases start_get e with ⟨d', e', q⟩ | q <;> (subst q; cases o)
  · rcases start_get e with ⟨d', e', q⟩ | q <;> (subst q; cases o)
  · rcases start_get e with ⟨d', e', q⟩ | q <;> (subst q; cases o)
/-- behind a call -/
theorem Rel.call (r : Rel c g M ρ s σ H) (h : HR c M' ρ' hp' H') (k : KeepF M ρ H M' ρ' H') : Rel c g M' ρ' ⟨s.env, hp'⟩ σ H' ∧ Keep g M ρ H M' ρ' H' := by
  obtain ⟨l', e', n'⟩ := k.pre
  have out : ∀ a, M a → a ∉ ρ → a ∉ ρ' := fun a m n z => by
    rw [e'] at z
    rcases List.mem_append.mp z with z | z
    · exact n z
    · obtain ⟨o, ho, _⟩ := r.h.dom a m
      rw [n' a z] at ho
      cases ho
  have same : ∀ a, M a → a ∉ ρ → H' a = H a := fun a m n => by
    obtain ⟨o, ho, _⟩ := r.h.dom a m
    rw [ho]
    exact k.k1 a o ho n
  have K : Keep g M ρ H M' ρ' H' := ⟨fun a o e m => ⟨k.k1 a o e (fun z => m (r.h.rm a z)), k.k2 a o e m⟩, ⟨l', e'⟩, fun a p => same a (r.gd.gp a p).1 (r.gd.gp a p).2⟩
  obtain ⟨l, e, n⟩ := r.gd.gr
  have old : ∀ a o, g.H0 a = some o → a ∉ g.ρ0 → a ∉ ρ := fun a o q m z => by
    rw [e] at z
    rcases List.mem_append.mp z with z | z
    · exact m z
    · rw [n a z] at q
      cases q
  refine ⟨⟨h, ⟨fun a o q m => k.k1 a o (r.gd.g1 a o q m) (old a o q m), fun a o q m => ?_, fun a m => k.k3 a (r.gd.g3 a m), r.gd.gd, r.gd.gm, ⟨l ++ l', by rw [e', e, List.append_assoc], fun a z => ?_⟩, fun a p => ⟨k.k3 a (r.gd.gp a p).1, out a (r.gd.gp a p).1 (r.gd.gp a p).2⟩⟩,
    ⟨r.e.len, fun i d q => ?_, fun i sl q o => ?_, r.e.pro, r.e.sep⟩⟩, K⟩
  · have m' : a ∉ g.ρ0 := fun z => m (r.gd.gm a z)
    exact k.k2 a o (r.gd.g1 a o q m') (r.gd.g2 a o q m)
  · rcases List.mem_append.mp z with z | z
    · exact n a z
    · cases q : g.H0 a with
      | none => rfl
      | some o =>
        by_cases m : a ∈ g.ρ0
        · obtain ⟨u, hu, _⟩ := r.h.dom a (r.gd.g3 a (r.gd.gm a m))
          rw [n' a z] at hu
          cases hu
        · have := r.gd.g1 a o q m
          rw [n' a z] at this
          cases this
  · obtain ⟨v, h1, h2⟩ := r.e.val i d q
    exact ⟨v, h1, h2.keep K⟩
  · obtain ⟨a, h1, h2, h3, h4, h5⟩ := r.e.own i sl q o
    exact ⟨a, h1, h2.keep K (same a h3 h4), k.k3 a h3, out a h3 h4, h5⟩
end

/-! ### a def is proved -/
section
variable {P : Program} {w : World} {K : PySem.W.Frag} {mg : Str → Option Value} {base : Heap}
/-- the wish of a def's body -/
abbrev wE (E : XK) : WX := fun cls dd _ H => E cls dd H
theorem fn_ok {x qual : Str} {st : Stmt} {f : Addr} {fd : FuncData} {N ps : List Str} {k : Nat} {body : Sm} (F : L2.Fun K x qual st f fd) (Sc : FnScope N ps (defScope st))
    (hb : ∀ (cdv : Value) (A : Around) (outer : List PySem.Env) (s : Shared) (H : Hp) (E : XK), Room k (A.deeper (envOfC qual (defScope st) s.heap.objs.size f cdv)) → Takes (cxOf (L2.CX P w) P w K mg base N qual (defScope st) f cdv A outer s H E) (wE E) →
      PSs (cxOf (L2.CX P w) P w K mg base N qual (defScope st) f cdv A outer s H E) (defBody st) (tS ⟨K, mg, w⟩ (wE E) body)) : FnOk P w K mg base (L2.CX P w) (k + 1) f fd ps (spF ⟨K, mg, w⟩ ps.length (fnOf N.length body)) := by
  refine Fun.okX F Sc (fun vs H Q E h => h.1) fun cdv A outer s H vs Q E hr h => ?_
  obtain ⟨hl, M, ρ, hp, as, h1, h2, h3⟩ := h
  refine ⟨_, hb cdv A outer s H E hr (takes_of rfl rfl rfl rfl), ?_⟩
  have hpl : as.length ≤ N.length := by
    rw [h2.length, hl]
    have := congrArg List.length Sc.pre
    rw [List.length_take] at this
    omega
  refine ⟨_, M, ρ, _, Rel.start (N := N) h1 h2 hpl, ?_⟩
  unfold fnOf at h3
  cases q : body ⟨as.map .v ++ List.replicate (N.length - as.length) .un, hp⟩ with
  | ok fl s' =>
    simp only [q] at h3
    cases fl with
    | nx => exact fun M' ρ' σ' H' r _ => h3 M' ρ' .non H' r.h (.of r.gd) .non
    | rt d => exact fun M' ρ' σ' H' v r _ hv => h3 M' ρ' v H' r.h (.of r.gd) hv
    | bk => exact h3.elim
    | ct => exact h3.elim
  | exc x s' =>
    simp only [q] at h3
    exact fun M' ρ' σ' H' cls dd r _ hx => h3 M' ρ' H' cls dd r.h (.of r.gd) hx
  | bad =>
    simp only [q] at h3
    exact h3.elim
end

/-! ### a def as the others know it -/
structure FnR (c : Cn) (P : Program) (w : World) (base : Heap) (n : Str) (st : Stmt) (k : Nat) (ps : List Str) (F : Fn) : Prop where
  ex : ∃ f fd, c.mg n = some (.ref f) ∧ L2.Fun c.K n n st f fd ∧ FnOk P w c.K c.mg base (L2.CX P w) k f fd ps (spF c ps.length F) ∧ Binds c.K fd ps []
/-- what a context has -/
structure Cc (X : Cx) (c : Cn) (W : WX) (k : Nat) : Prop where
  hK : X.K = c.K
  hm : X.mg = c.mg
  tk : Takes X W
  rm : Room k X.A
  hc : X.calm = true
  nd : X.N.Nodup
  hw : X.w = c.w
/-- a call -/
def runFn (F : Fn) (as : List D) (s : S) : R D := match F as s.hp with
  | .ok d hp => .ok d ⟨s.env, hp⟩
  | .exc x hp => .exc x ⟨s.env, hp⟩
  | .bad => .bad
def callE (F : Fn) (fs : List Ex) : Ex := fun s => (evA fs s).bind fun as s1 => runFn F as s1
section
variable {X : Cx} {c : Cn} {g : Gr} {W : WX} {k k' : Nat} {n : Str} {st : Stmt} {ps : List Str} {F : Fn} {fs : List Ex} {e : Expr} {es : List Expr} {p pos : Pos} {M : Am} {ρ : List Addr} {σ : L2.St} {H : Hp} {Q : VK}
theorem out_call {s : S} {as : List D} {vs : List V} {N : Nat} (rel : Rel c g M ρ s σ H) (hv : RDs c M ρ H as vs) (hl : vs.length = N) (h : OutE c g W M ρ σ H (runFn F as s) Q) : spF c N F vs H Q (WE W σ) := by
  refine ⟨hl, M, ρ, s.hp, as, rel.h, hv, ?_⟩
  unfold runFn at h
  cases q : F as s.hp with
  | ok d hp =>
    simp only [q] at h
    intro M' ρ' v H' h1 h2 h3
    obtain ⟨r', k'⟩ := rel.call h1 h2
    exact h M' ρ' v H' r' k' h3
  | exc x hp =>
    simp only [q] at h
    intro M' ρ' H' cls dd h1 h2 h3
    obtain ⟨r', k'⟩ := rel.call h1 h2
    exact h M' ρ' H' cls dd r' k' h3
  | bad =>
    simp only [q] at h
    exact h.elim
theorem t_call {N : Nat} (hn : fs.length = N) (h : tE c W (callE F fs) σ H Q) : tA c W fs σ H fun vs H1 => spF c N F vs H1 Q (WE W σ) := by
  obtain ⟨g, M, ρ, s, rel, h⟩ := h
  refine ⟨g, M, ρ, s, rel, ?_⟩
  unfold callE at h
  cases e : evA fs s with
  | exc x s1 => rw [e] at h; exact h
  | bad => rw [e] at h; exact h
  | ok as s1 =>
    rw [e] at h
    intro M1 ρ1 vs H1 r1 k1 rd
    exact out_call r1 rd (by rw [← rd.length, evA_len e, hn]) (OutE.keep k1 h)
/-- f(e, ..) -/
theorem e_call (C : Cc X c W k') (R : FnR c X.prog X.w X.base n st k ps F) (ha : PA X (e :: es) (tA c W fs)) (hk : k ≤ k' := by decide) (hn : fs.length = ps.length := by rfl) (hg : Gl X n := by rfl) (hdb : (n == ("__debug__" : Str)) = false := by decide)
    (he : starEach (e :: es) X.env = (false, eval e X.env) :: starEach es X.env := by rfl) (hpl : (backTo pos (starEach es X.env)).any (·.1) = false := by rfl) : PE X (.Call (.Name n p) (e :: es) [] pos) (tE c W (callE F fs)) := by
  obtain ⟨f, fd, h1, h2, h3, h4⟩ := R.ex
  have hK := C.hK
  have hm := C.hm
  refine pe_imp (pe_callS (E := WE W) (hK ▸ hm ▸ h3) (C.rm.mono hk) hg (by rw [hm]; exact h1) (by rw [hK]; exact h2.kp) (hK ▸ h4) (fun σ => passAt C.tk σ) ha hdb he hpl) fun σ H Q h => ?_
  exact t_call hn h
/-- f() -/
theorem e_call0 (C : Cc X c W k') (R : FnR c X.prog X.w X.base n st k [] F) (hk : k ≤ k' := by decide) (hg : Gl X n := by rfl) (hdb : (n == ("__debug__" : Str)) = false := by decide) : PE X (.Call (.Name n p) [] [] pos) (tE c W (callE F [])) := by
  obtain ⟨f, fd, h1, h2, h3, h4⟩ := R.ex
  have hK := C.hK
  have hm := C.hm
  refine ⟨fun pins s σ H Q I h => ?_⟩
  refine wpAny_Call_Name_kw (ld_glob I hg (by rw [hm]; exact h1) ?_ hdb)
  refine PySem.W.callWith_K0 I.kIn (by rw [hK]; exact h2.kp) (run_fnS (us := []) (E := WE W) (hK ▸ hm ▸ h3) (C.rm.mono hk) (hK ▸ h4) (passAt C.tk σ) I .nil ?_)
  obtain ⟨g, M, ρ, s, rel, h⟩ := h
  exact out_call rel .nil rfl h
/-! ### with keywords -/
/-- the values from the left, then in the parameters' order -/
def callKE (F : Fn) (gD : List D → List D → List D) (fs ks : List Ex) : Ex := fun s => (evA fs s).bind fun as s1 => (evA ks s1).bind fun bs s2 => runFn F (gD as bs) s2
/-- how to put in order: natural in what is put -/
structure Ord (gD : List D → List D → List D) (gV : List V → List V → List V) (gU : List Value → List Value → List Value) : Prop where
  d : ∀ {c : Cn} {M : Am} {ρ : List Addr} {H : Hp} {as bs : List D} {us vs : List V}, RDs c M ρ H as us → RDs c M ρ H bs vs → RDs c M ρ H (gD as bs) (gV us vs)
  v : ∀ {vs : List V} {us : List Value} {zs : List V} {ws : List Value}, Vals vs us → Vals zs ws → Vals (gV vs zs) (gU us ws)
theorem k_nil : PK X [] (tA c W []) := ⟨fun pos pins s σ H Q I h => (pk_nil (X := X)).run pos pins s σ H Q I (by
  obtain ⟨g, M, ρ, s, rel, h⟩ := h
  exact h M ρ [] H rel (Keep.refl _ _ _ _) .nil)⟩
theorem k_cons {e : Expr} {kws : List Keyword} {nm : Option Str} {kpos : Pos} {f : Ex} {fs : List Ex} (ha : PE X e (tE c W f)) (hr : PK X kws (tA c W fs)) : PK X (⟨nm, e, kpos⟩ :: kws) (tA c W (f :: fs)) :=
  ⟨fun pos pins s σ H Q I h => (pk_cons ha hr).run pos pins s σ H Q I (by
    obtain ⟨g, M, ρ, s, rel, h⟩ := h
    refine tE.bind (out := fun M ρ H r => OutA c g W M ρ σ H r Q) rel (fun _ _ z => z) (fun z => z) h fun d s1 M1 ρ1 v H1 r1 k1 hd h1 => ?_
    refine tA.bind (out := fun M ρ H r => OutA c g W M ρ σ H r Q) r1 (fun _ _ z => z) (fun z => z) (OutA.keep k1 h1) fun ds s2 M2 ρ2 vs H2 r2 k2 hds h2 => ?_
    exact OutA.keep k2 h2 M2 ρ2 (v :: vs) H2 r2 (Keep.refl _ _ _ _) (.cons (hd.keep k2) hds))⟩
theorem run_fnkS {pins : List (Addr × Obj)} {s : Shared} {us ws : List Value} {vs zs : List V} {CX : CXT} {f : Addr} {fd : FuncData} {ks : List Str} {sp : Sp} {E : L2.St → XK} {gU : List Value → List Value → List Value} {gV : List V → List V → List V}
    (F : FnOk X.prog X.w X.K X.mg X.base CX k f fd ps sp) (hr : Room k X.A) (hb : KBinds X.K fd ps ks gU gV) (hx : PassesAt CX X σ (E σ))
    (I : Inv X pins σ H s) (r : Vals vs us) (rz : Vals zs ws) (h : sp (gV vs zs) H Q (E σ)) : wpAny (model X.prog X.w) X.A (call (.ref f) us (ks.zip ws)) (EP X pins σ Q) X.xe s := by
  have r2 := hb.rel r rz
  have hl : (gU us ws).length = ps.length := by rw [← r2.length]; exact F.len _ _ _ _ h
  refine wpAny_call (codeAny_mono (F.run X.A X.stack s H ⟨us, ks.zip ws⟩ (gU us ws) (gV vs zs) Q (E σ) hr I.env0 (hb.to s us ws I.kIn hl) r2 h) fun r s' hq => ?_)
  cases r with
  | error e => exact hx pins H s e s' I hq
  | ok fl =>
    cases fl with
    | ret u => exact I.after hq
    | next => exact False.elim hq
    | brk => exact False.elim hq
    | cont => exact False.elim hq
theorem t_callK {N : Nat} {gD : List D → List D → List D} {gV : List V → List V → List V} {gU : List Value → List Value → List Value} (O : Ord gD gV gU) {ks : List Ex} (hn : ∀ as bs : List D, as.length = fs.length → bs.length = ks.length → (gD as bs).length = N)
    (h : tE c W (callKE F gD fs ks) σ H Q) : tA c W fs σ H fun vs H1 => tA c W ks σ H1 fun zs H2 => spF c N F (gV vs zs) H2 Q (WE W σ) := by
  obtain ⟨g, M, ρ, s, rel, h⟩ := h
  refine ⟨g, M, ρ, s, rel, ?_⟩
  unfold callKE at h
  cases e : evA fs s with
  | exc x s1 => rw [e] at h; exact h
  | bad => rw [e] at h; exact h
  | ok as s1 =>
    rw [e] at h
    intro M1 ρ1 vs H1 r1 k1 rd
    have h := OutE.keep k1 h
    refine ⟨g, M1, ρ1, s1, r1, ?_⟩
    simp only [R.bind_ok] at h
    cases e2 : evA ks s1 with
    | exc x s2 => rw [e2] at h; exact h
    | bad => rw [e2] at h; exact h
    | ok bs s2 =>
      rw [e2] at h
      intro M2 ρ2 zs H2 r2 k2 rd2
      have q := O.d (rd.keep k2) rd2
      exact out_call r2 q (by rw [← q.length, hn as bs (evA_len e) (evA_len e2)]) (OutE.keep k2 h)
/-- f(e, .., k = v, ..) -/
theorem e_callK (C : Cc X c W k') (R : FnR c X.prog X.w X.base n st k ps F) {gD : List D → List D → List D} {gV : List V → List V → List V} {gU : List Value → List Value → List Value} {kws : List Keyword} {ks : List Ex} {kn : List Str} (O : Ord gD gV gU) (ha : PA X (e :: es) (tA c W fs)) (hkw : PK X kws (tA c W ks))
    (hb : ∀ (kV doc pm : Value) (an : Option Addr) (cdv ct : Value) (us ws : List Value), (gU us ws).length = ps.length → bindArgs (PySem.W.fnOf n n (defArgs st) (defBody st) (defScope st) .none kV doc pm an cdv ct) ⟨us, kn.zip ws⟩ = pure (ps.zip (gU us ws)))
    (hn : ∀ as bs : List D, as.length = fs.length → bs.length = ks.length → (gD as bs).length = ps.length) (hk : k ≤ k' := by decide) (hall : (backToKw pos (keywordEach kws X.env)).all (·.1.isSome) = true := by rfl) (hks : (backToKw pos (keywordEach kws X.env)).filterMap (·.1) = kn := by rfl) (hg : Gl X n := by rfl)
    (hdb : (n == ("__debug__" : Str)) = false := by decide) (he : starEach (e :: es) X.env = (false, eval e X.env) :: starEach es X.env := by rfl)
    (hpl : ((backTo pos (starEach (e :: es) X.env)).any (·.1) || (backToKw pos (keywordEach kws X.env)).any (·.1.isNone)) = false := by rfl) : PE X (.Call (.Name n p) (e :: es) kws pos) (tE c W (callKE F gD fs ks)) := by
  obtain ⟨f, fd, h1, h2, h3, h4⟩ := R.ex
  have hK := C.hK
  have hm := C.hm
  have kb : KBinds X.K fd ps kn gU gV := ⟨fun s us ws _ hl => by
    obtain ⟨oc, od, kV, doc, pm, an, cdv, ct, osl, rfl, lk, hcd⟩ := h2.ex
    exact .of_eq (hb kV doc pm an cdv ct us ws hl), O.v⟩
  refine ⟨fun pins s σ H Q I h => ?_⟩
  refine wpAny_Call_Name_kw (ld_glob I hg (by rw [hm]; exact h1) ?_ hdb)
  refine PySem.W.callWith_KW (h₀ := X.base) I.ok.mod.kin (by rw [hK]; exact h2.kp) hall (thn (ha.run pos pins s σ H _ I (t_callK O hn h)) fun us s1 ⟨vs, H1, I1, r, q⟩ => ?_) hpl he
  refine thn (hkw.run pos pins s1 σ H1 _ I1 q) fun ws s2 ⟨zs, H2, I2, rz, q2⟩ => ⟨I2.kIn, ?_⟩
  rw [hks]
  exact run_fnkS (E := WE W) (hK ▸ hm ▸ h3) (C.rm.mono hk) kb (passAt C.tk σ) I2 r rz q2
/-- f(k = v, ..) -/
theorem e_callK0 (C : Cc X c W k') (R : FnR c X.prog X.w X.base n st k ps F) {gD : List D → List D → List D} {gV : List V → List V → List V} {gU : List Value → List Value → List Value} {kws : List Keyword} {ks : List Ex} {kn : List Str} (O : Ord gD gV gU) (hkw : PK X kws (tA c W ks))
    (hb : ∀ (kV doc pm : Value) (an : Option Addr) (cdv ct : Value) (us ws : List Value), (gU us ws).length = ps.length → bindArgs (PySem.W.fnOf n n (defArgs st) (defBody st) (defScope st) .none kV doc pm an cdv ct) ⟨us, kn.zip ws⟩ = pure (ps.zip (gU us ws)))
    (hn : ∀ as bs : List D, as.length = 0 → bs.length = ks.length → (gD as bs).length = ps.length) (hk : k ≤ k' := by decide) (hall : (backToKw pos (keywordEach kws X.env)).all (·.1.isSome) = true := by rfl) (hks : (backToKw pos (keywordEach kws X.env)).filterMap (·.1) = kn := by rfl) (hg : Gl X n := by rfl)
    (hdb : (n == ("__debug__" : Str)) = false := by decide)
    (hpl : ((backTo pos (starEach [] X.env)).any (·.1) || (backToKw pos (keywordEach kws X.env)).any (·.1.isNone)) = false := by rfl) : PE X (.Call (.Name n p) [] kws pos) (tE c W (callKE F gD [] ks)) := by
  obtain ⟨f, fd, h1, h2, h3, h4⟩ := R.ex
  have hK := C.hK
  have hm := C.hm
  have kb : KBinds X.K fd ps kn gU gV := ⟨fun s us ws _ hl => by
    obtain ⟨oc, od, kV, doc, pm, an, cdv, ct, osl, rfl, lk, hcd⟩ := h2.ex
    exact .of_eq (hb kV doc pm an cdv ct us ws hl), O.v⟩
  refine ⟨fun pins s σ H Q I h => ?_⟩
  refine wpAny_Call_Name_kw (ld_glob I hg (by rw [hm]; exact h1) ?_ hdb)
  obtain ⟨vs0, H0, I0, r0, q0⟩ : ∃ vs H1, Inv X pins σ H1 s ∧ Vals vs ([] : List Value) ∧ tA c W ks σ H1 fun zs H2 => spF c ps.length F (gV vs zs) H2 Q (WE W σ) := by
    have t := t_callK (fs := []) O hn h
    obtain ⟨g, M, ρ, s', rel, t⟩ := t
    exact ⟨[], H, I, .nil, t M ρ [] H rel (Keep.refl _ _ _ _) .nil⟩
  cases r0
  refine PySem.W.callWith_KW0 (h₀ := X.base) I.ok.mod.kin (by rw [hK]; exact h2.kp) hall ?_ hpl
  refine thn (hkw.run pos pins s σ H0 _ I0 q0) fun ws s2 ⟨zs, H2, I2, rz, q2⟩ => ⟨I2.kIn, ?_⟩
  rw [hks]
  exact run_fnkS (E := WE W) (us := []) (vs := []) (hK ▸ hm ▸ h3) (C.rm.mono hk) kb (passAt C.tk σ) I2 .nil rz q2
end
end DS
/-! DS7: statements, targets, loops, comprehensions. -/
namespace DS
open PySem PySem.Spec PyProof.Rows L2

/-! ### blocks -/
def sqS (a b : Sm) : Sm := fun s => (a s).bind fun fl s1 => match fl with
  | .nx => b s1
  | fl => .ok fl s1
def nxS : Sm := fun s => .ok .nx s
def bkS : Sm := fun s => .ok .bk s
def ctS : Sm := fun s => .ok .ct s
def badS : Sm := fun _ => .bad
def retS (f : Ex) : Sm := fun s => (f s).bind fun d s1 => .ok (.rt d) s1
def retN : Sm := fun s => .ok (.rt .non) s
def exprS (f : Ex) : Sm := fun s => (f s).bind fun _ s1 => .ok .nx s1
def ifS (t : S → R Bool) (a b : Sm) : Sm := fun s => (t s).bind fun c s1 => if c = true then a s1 else b s1
def setS (i : Nat) (f : Ex) : Sm := fun s => (f s).bind fun d s1 => .ok .nx ⟨s1.env.set i (.v d), s1.hp⟩
/-- a name takes a new list for its own -/
def setL (i : Nat) (f : ExL) : Sm := fun s => (f s).bind fun xs s1 => .ok .nx ⟨s1.env.set i (.ol xs), s1.hp⟩
section
variable {X : Cx} {c : Cn} {g : Gr} {W : WX} {st : Stmt} {rest : List Stmt} {a b : Sm} {f : Ex} {fl : ExL} {e : Expr} {pos : Pos} {M : Am} {ρ : List Addr} {σ : L2.St} {H : Hp} {D : Ends} {s : S}
theorem s_nil : PSs X [] (tS c W nxS) := pss_imp pss_nil fun D σ H h => by
  obtain ⟨g, M, ρ, s, rel, h⟩ := h
  exact h M ρ σ H rel (Keep.refl _ _ _ _)
theorem t_sq (h : tS c W (sqS a b) D σ H) : tSeq (tS c W a) (tS c W b) D σ H := by
  obtain ⟨g, M, ρ, s, rel, h⟩ := h
  refine ⟨g, M, ρ, s, rel, ?_⟩
  unfold sqS at h
  cases e : a s with
  | exc x s1 => rw [e] at h; exact h
  | bad => rw [e] at h; exact h
  | ok fl s1 =>
    rw [e] at h
    cases fl with
    | nx => exact fun M' ρ' σ' H' r k => ⟨g, M', ρ', s1, r, OutS.keep k h⟩
    | rt d => exact h
    | bk => exact h
    | ct => exact h
theorem s_cons (h1 : PS X st (tS c W a)) (h2 : PSs X rest (tS c W b)) : PSs X (st :: rest) (tS c W (sqS a b)) := pss_imp (pss_cons h1 h2) fun D σ H h => t_sq h
theorem s_one (h1 : PS X st (tS c W a)) : PSs X [st] (tS c W a) := pss_one h1
theorem s_pass : PS X (.Pass pos) (tS c W nxS) := ps_imp ps_pass fun D σ H h => by
  obtain ⟨g, M, ρ, s, rel, h⟩ := h
  exact h M ρ σ H rel (Keep.refl _ _ _ _)
theorem s_doc {x j pos'} : PS X (.Expr (.Constant (.str x) j pos) pos') (tS c W nxS) := ps_imp ps_doc fun D σ H h => by
  obtain ⟨g, M, ρ, s, rel, h⟩ := h
  exact h M ρ σ H rel (Keep.refl _ _ _ _)
theorem s_bk : PS X (.Break pos) (tS c W bkS) := ps_imp ps_break fun D σ H h => by
  obtain ⟨g, M, ρ, s, rel, h⟩ := h
  exact h M ρ σ H rel (Keep.refl _ _ _ _)
theorem s_ct : PS X (.Continue pos) (tS c W ctS) := ps_imp ps_continue fun D σ H h => by
  obtain ⟨g, M, ρ, s, rel, h⟩ := h
  exact h M ρ σ H rel (Keep.refl _ _ _ _)
theorem s_bad : PS X st (tS c W badS) := ps_imp ps_never fun D σ H h => by
  obtain ⟨g, M, ρ, s, rel, h⟩ := h
  exact h
theorem s_ret (he : PE X e (tE c W f)) : PS X (.Return (some e) pos) (tS c W (retS f)) := ps_imp (ps_ret he) fun D σ H h => by
  obtain ⟨g, M, ρ, s, rel, h⟩ := h
  exact tE.bind (out := fun M ρ H r => OutS c g W M ρ H r D) rel (fun _ _ z M' ρ' H' cls dd r k x => z M' ρ' σ H' cls dd r k x) (fun z => z) h fun d s1 M1 ρ1 v H1 r1 k1 hd h1 => h1 M1 ρ1 σ H1 v r1 k1 hd
theorem s_retN : PS X (.Return none pos) (tS c W retN) := ps_imp ps_retN fun D σ H h => by
  obtain ⟨g, M, ρ, s, rel, h⟩ := h
  exact h M ρ σ H .non rel (Keep.refl _ _ _ _) .non
theorem s_expr (he : PE X e (tE c W f)) (hs : swapsWith e none pos.line X.env = pure false := by rfl) : PS X (.Expr e pos) (tS c W (exprS f)) := ps_imp (ps_expr he hs) fun D σ H h => by
  obtain ⟨g, M, ρ, s, rel, h⟩ := h
  exact tE.bind (out := fun M ρ H r => OutS c g W M ρ H r D) rel (fun _ _ z M' ρ' H' cls dd r k x => z M' ρ' σ H' cls dd r k x) (fun z => z) h fun d s1 M1 ρ1 v H1 r1 k1 hd h1 => h1 M1 ρ1 σ H1 r1 k1
theorem s_if {t : Expr} {ft : S → R Bool} {x y : List Stmt} (ht : PT X t (tT c W ft)) (ha : PSs X x (tS c W a)) (hb : PSs X y (tS c W b)) : PS X (.If t x y pos) (tS c W (ifS ft a b)) := ps_imp (ps_if ht ha hb) fun D σ H h => by
  obtain ⟨g, M, ρ, s, rel, h⟩ := h
  refine tT.bind (out := fun M ρ H r => OutS c g W M ρ H r D) rel (fun _ _ z M' ρ' H' cls dd r k x => z M' ρ' σ H' cls dd r k x) (fun z => z) h fun b s1 M1 ρ1 H1 r1 k1 h1 => ?_
  cases b with
  | true => exact ⟨g, M1, ρ1, s1, r1, OutS.keep k1 h1⟩
  | false => exact ⟨g, M1, ρ1, s1, r1, OutS.keep k1 h1⟩
/-- a place of a def's names -/
theorem s_set {k : Nat} (C : Cc X c W k) (i : Nat) {x : Str} {pos' : Pos} (he : PE X e (tE c W f)) (hi : X.N[i]? = some x := by rfl) (hx : Loc X.env.scope x := by first | exact Or.inl rfl | exact Or.inr rfl) (hs : swapsWith e (some (.Name x pos')) pos.line X.env = pure false := by rfl)
    (hf : X.fn x = true ∨ X.env.scope.names.lookup x = some .local := by first | exact .inl rfl | exact .inr rfl) : PS X (.Assign [.Name x pos'] e pos) (tS c W (setS i f)) := ps_imp (ps_set C.nd hi hx he hs hf) fun D σ H h => by
  obtain ⟨g, M, ρ, s, rel, h⟩ := h
  exact tE.bind (out := fun M ρ H r => OutS c g W M ρ H r D) rel (fun _ _ z M' ρ' H' cls dd r k x => z M' ρ' σ H' cls dd r k x) (fun z => z) h fun d s1 M1 ρ1 v H1 r1 k1 hd h1 => h1 M1 ρ1 _ H1 (r1.setv hd) k1
theorem t_setL {i : Nat} (h : tS c W (setL i fl) D σ H) : tL c W fl σ H fun v H1 => D.nx (σ.set i (some v)) H1 := by
  obtain ⟨g, M, ρ, s, rel, h⟩ := h
  exact tL.bind (out := fun M ρ H r => OutS c g W M ρ H r D) rel (fun _ _ z M' ρ' H' cls dd r k x => z M' ρ' σ H' cls dd r k x) (fun z => z) h fun xs s1 M1 ρ1 a vs H1 r1 k1 ha hd hf h1 => h1 M1 ρ1 _ H1 (r1.setown hf (sl := .ol xs) rfl ⟨vs, ha, hd⟩) k1
theorem s_setL {k : Nat} (C : Cc X c W k) (i : Nat) {x : Str} {pos' : Pos} (he : PE X e (tL c W fl)) (hi : X.N[i]? = some x := by rfl) (hx : Loc X.env.scope x := by first | exact Or.inl rfl | exact Or.inr rfl) (hs : swapsWith e (some (.Name x pos')) pos.line X.env = pure false := by rfl)
    (hf : X.fn x = true ∨ X.env.scope.names.lookup x = some .local := by first | exact .inl rfl | exact .inr rfl) : PS X (.Assign [.Name x pos'] e pos) (tS c W (setL i fl)) := ps_imp (ps_set C.nd hi hx he hs hf) fun D σ H h => t_setL h
end

/-! ### targets -/
abbrev Tg := D → S → Option S
def tG (c : Cn) (W : WX) (vs : List Nat) (f : Tg) : TG := fun v σ H Q => ∃ g M ρ s d s', Rel c g M ρ s σ H ∧ RD c M ρ H d v ∧ f d s = some s' ∧ ∀ M' ρ' σ' H', Rel c g M' ρ' s' σ' H' → Keep g M ρ H M' ρ' H' → wipe σ' vs = wipe σ vs → Q σ' H'
def tGs (c : Cn) (W : WX) (vs : List Nat) (f : List D → S → Option S) : TGs := fun us σ H Q => ∃ g M ρ s ds s', Rel c g M ρ s σ H ∧ RDs c M ρ H ds us ∧ f ds s = some s' ∧ ∀ M' ρ' σ' H', Rel c g M' ρ' s' σ' H' → Keep g M ρ H M' ρ' H' → wipe σ' vs = wipe σ vs → Q σ' H'
def gN (i : Nat) : Tg := fun d s => some ⟨s.env.set i (.v d), s.hp⟩
def gT (n : Nat) (f : List D → S → Option S) : Tg := fun d s => match d with
  | .tup ds => if ds.length = n then f ds s else none
  | .pr ds => if ds.length = n then f ds s else none
  | _ => none
def gsN : List D → S → Option S := fun ds s => match ds with
  | [] => some s
  | _ => none
def gsC (f : Tg) (k : List D → S → Option S) : List D → S → Option S := fun ds s => match ds with
  | d :: ds => (f d s).bind fun s1 => k ds s1
  | [] => none
theorem wipe_set_in {σ : L2.St} {x : Option V} : ∀ {vs : List Nat} {i : Nat}, i ∈ vs → wipe (σ.set i x) vs = wipe σ vs
  | v :: vs, i, h => by
    unfold wipe
    by_cases e : i ∈ vs
    · rw [wipe_set_in e]
    · have e' : i = v := by
        rcases List.mem_cons.mp h with h | h
        · exact h
        · exact absurd h e
      subst e'
      have : ∀ (ws : List Nat), i ∉ ws → (wipe (σ.set i x) ws) = (wipe σ ws).set i x := by
        intro ws
        induction ws with
        | nil => intro _; rfl
        | cons w ws ih =>
          intro hn
          have h1 : i ≠ w := fun z => hn (z ▸ List.mem_cons_self)
          have h2 : i ∉ ws := fun z => hn (List.mem_cons_of_mem _ z)
          unfold wipe
          rw [ih h2, List.set_comm _ _ h1]
      rw [this vs e, List.set_set]
section
variable {X : Cx} {c : Cn} {g : Gr} {W : WX} {pos : Pos} {vs : List Nat} {f : Tg} {fs : List D → S → Option S} {e : Expr} {es : List Expr}
theorem pg_imp {t t' : TG} (h : PG X e t) (i : ∀ v σ H Q, t' v σ H Q → t v σ H Q) : PG X e t' := ⟨fun pins s σ H v u Q I r q => h.run pins s σ H v u Q I r (i _ _ _ _ q)⟩
theorem pgs_imp {t t' : TGs} (h : PGs X es t) (i : ∀ v σ H Q, t' v σ H Q → t v σ H Q) : PGs X es t' := ⟨fun pins s σ H v u Q I r q => h.run pins s σ H v u Q I r (i _ _ _ _ q)⟩
theorem g_name (i : Nat) {x : Str} (hN : X.N.Nodup) (hi : X.N[i]? = some x := by rfl) (hx : Loc X.env.scope x := by first | exact Or.inl rfl | exact Or.inr rfl) (hf : X.fn x = true ∨ X.env.scope.names.lookup x = some .local := by first | exact .inl rfl | exact .inr rfl)
    (hv : i ∈ vs := by decide) : PG X (.Name x pos) (tG c W vs (gN i)) := pg_imp (pg_name hN hi hx hf) fun v σ H Q h => by
  obtain ⟨g, M, ρ, s, d, s', rel, hd, e, h⟩ := h
  cases e
  exact h M ρ _ H (rel.setv hd) (Keep.refl _ _ _ _) (wipe_set_in hv)
theorem gs_nil : PGs X [] (tGs c W vs gsN) := pgs_imp pgs_nil fun us σ H Q h => by
  obtain ⟨g, M, ρ, s, ds, s', rel, hd, e, h⟩ := h
  cases hd with
  | nil => cases e; exact ⟨rfl, h M ρ σ H rel (Keep.refl _ _ _ _) rfl⟩
  | cons r t => cases e
theorem gs_cons (h1 : PG X e (tG c W vs f)) (h2 : PGs X es (tGs c W vs fs)) (hs : (assignEach (e :: es) X.env).map (·.2) = assign e X.env :: (assignEach es X.env).map (·.2) := by rfl) : PGs X (e :: es) (tGs c W vs (gsC f fs)) := pgs_imp (pgs_cons h1 h2 hs) fun us σ H Q h => by
  obtain ⟨g, M, ρ, s, ds, s', rel, hd, q, h⟩ := h
  cases hd with
  | nil => cases q
  | @cons d v ds' us' r t =>
    obtain ⟨s1, q1, q2⟩ := Option.bind_eq_some_iff.mp q
    exact ⟨v, us', rfl, g, M, ρ, s, d, s1, rel, r, q1, fun M1 ρ1 σ1 H1 r1 k1 w1 => ⟨g, M1, ρ1, s1, ds', s', r1, t.keep k1, q2, fun M2 ρ2 σ2 H2 r2 k2 w2 => h M2 ρ2 σ2 H2 r2 (k1.trans k2) (w2.trans w1)⟩⟩
theorem g_tup {n : Nat} {k : Nat} (hc : X.calm = true) (hK : X.K = c.K) (h : PGs X es (tGs c W vs fs)) (hn : (assignEach es X.env).length = n := by rfl) (hst : (assignEach es X.env).findIdx? (·.1) = none := by rfl) : PG X (.Tuple es k pos) (tG c W vs (gT n fs)) := pg_imp (pg_tup hc h hn hst) fun v σ H Q h => by
  obtain ⟨g, M, ρ, s, d, s', rel, hd, q, h⟩ := h
  cases d <;> first | cases q | skip
  · rename_i ds
    obtain ⟨a, us, rfl, h1, h2⟩ := hd.tup
    by_cases hl : ds.length = n
    · exact ⟨a, us, rfl, hK ▸ h1, by rw [← h2.length]; exact hl, g, M, ρ, s, ds, s', rel, h2, by simpa only [gT, if_pos hl] using q, h⟩
    · simp only [gT, if_neg hl] at q
      cases q
  · rename_i ds
    cases hd with
    | pr h1 m h2 =>
      by_cases hl : ds.length = n
      · exact ⟨_, _, rfl, .inl h1, by rw [← h2.length]; exact hl, g, M, ρ, s, ds, s', rel, h2, by simpa only [gT, if_pos hl] using q, h⟩
      · simp only [gT, if_neg hl] at q
        cases q
end
/-- target = value -/
def asgS (f : Ex) (t : Tg) : Sm := fun s => (f s).bind fun d s1 => match t d s1 with
  | some s2 => .ok .nx s2
  | none => .bad
section
variable {X : Cx} {c : Cn} {g : Gr} {W : WX} {pos : Pos} {vs : List Nat} {f : Ex} {t : Tg} {e tg : Expr} {σ : L2.St} {H : Hp} {D : Ends}
theorem t_asg (h : tS c W (asgS f t) D σ H) : tAsg (tE c W f) (tG c W vs t) D σ H := by
  obtain ⟨g, M, ρ, s, rel, h⟩ := h
  refine tE.bind (out := fun M ρ H r => OutS c g W M ρ H r D) rel (fun _ _ z M' ρ' H' cls dd r k x => z M' ρ' σ H' cls dd r k x) (fun z => z) h fun d s1 M1 ρ1 v H1 r1 k1 hd h1 => ?_
  have h1 := OutS.keep k1 h1
  cases q : t d s1 with
  | none => rw [q] at h1; exact h1.elim
  | some s2 =>
    rw [q] at h1
    exact ⟨g, M1, ρ1, s1, d, s2, r1, hd, q, fun M2 ρ2 σ2 H2 r2 k2 w2 => h1 M2 ρ2 σ2 H2 r2 k2⟩
theorem s_asg (he : PE X e (tE c W f)) (hg : PG X tg (tG c W vs t)) (hs : swapsWithSole [tg] e pos.line X.env = pure false := by rfl) (hw : swappedStores [tg] e X.env = pure none := by rfl)
    (h1 : (assignEach [tg] X.env).map (·.2) = [assign tg X.env] := by rfl) : PS X (.Assign [tg] e pos) (tS c W (asgS f t)) := ps_imp (ps_asg he hg hs hw h1) fun D σ H h => t_asg h
end

/-! ### a list held while more is worked out -/
def Gr.hold (g : Gr) (a : Addr) : Gr := { g with P := fun b => g.P b ∨ b = a }
section
variable {c : Cn} {g : Gr} {M M' : Am} {ρ ρ' : List Addr} {H H' : Hp} {s : S} {σ : L2.St} {a : Addr}
theorem Rel.hold (r : Rel c g M ρ s σ H) (f : Free g M ρ s.env σ a) : Rel c (g.hold a) M ρ s σ H :=
  ⟨r.h, ⟨r.gd.g1, r.gd.g2, r.gd.g3, r.gd.gd, r.gd.gm, r.gd.gr, fun b h => h.elim (r.gd.gp b) fun z => by rw [z]; exact ⟨f.1, f.2.1⟩⟩,
    ⟨r.e.len, r.e.val, r.e.own, fun i sl b h o e z => z.elim (r.e.pro i sl b h o e) fun z => f.2.2.2.2 i sl h o (by rw [← z]; exact e), r.e.sep⟩⟩
theorem Rel.unhold (r : Rel c (g.hold a) M ρ s σ H) : Rel c g M ρ s σ H :=
  ⟨r.h, ⟨r.gd.g1, r.gd.g2, r.gd.g3, r.gd.gd, r.gd.gm, r.gd.gr, fun b h => r.gd.gp b (.inl h)⟩, ⟨r.e.len, r.e.val, r.e.own, fun i sl b h o e z => r.e.pro i sl b h o e (.inl z), r.e.sep⟩⟩
theorem Rel.free (r : Rel c (g.hold a) M ρ s σ H) (n : g.H0 a = none) (p : ¬ g.P a) : Free g M ρ s.env σ a :=
  ⟨(r.gd.gp a (.inr rfl)).1, (r.gd.gp a (.inr rfl)).2, n, p, fun i sl h o e => r.e.pro i sl a h o e (.inr rfl)⟩
theorem Keep.unhold (k : Keep (g.hold a) M ρ H M' ρ' H') : Keep g M ρ H M' ρ' H' := ⟨k.st, k.pre, fun b h => k.pr b (.inl h)⟩
/-- the list held is put anew -/
theorem Rel.put {o : HO} (r : Rel c (g.hold a) M ρ s σ H) (mo : mutO o = true) (n : g.H0 a = none) (p : ¬ g.P a) : Rel c (g.hold a) M ρ s σ (upd H a o) ∧ Keep g M ρ H M ρ (upd H a o) := by
  have hm := (r.gd.gp a (.inr rfl)).1
  have hr := (r.gd.gp a (.inr rfl)).2
  have k : Keep g M ρ H M ρ (upd H a o) := keep_mut hm p
  have same : ∀ b, b ≠ a → upd H a o b = H b := fun b q => upd_ne q
  refine ⟨⟨⟨r.h.hl, fun j ob b q1 q2 => (r.h.ho j ob b q1 q2).keep k (same b (fun z => hr (z ▸ List.mem_of_getElem? q2))), r.h.nd, r.h.rm, fun b m => ?_⟩,
    ⟨fun b u q n' => by rw [same b (fun z => by rw [z] at q; exact absurd (q.symm.trans n) (by simp))]; exact r.gd.g1 b u q n', r.gd.g2, r.gd.g3, r.gd.gd, r.gd.gm, r.gd.gr, r.gd.gp⟩, ⟨r.e.len, fun j d q => ?_, fun j s2 q oq => ?_, r.e.pro, r.e.sep⟩⟩, k⟩
  · by_cases e : b = a
    · subst e
      exact ⟨o, upd_same, mo⟩
    · obtain ⟨u, q1, q2⟩ := r.h.dom b m
      exact ⟨u, by rw [same b e]; exact q1, q2⟩
  · obtain ⟨v, q1, q2⟩ := r.e.val j d q
    exact ⟨v, q1, q2.keep k⟩
  · obtain ⟨b, q1, q2, q3, q4, q5⟩ := r.e.own j s2 q oq
    exact ⟨b, q1, q2.keep k (same b fun z => r.e.pro j s2 b q oq q1 (.inr z)), q3, q4, q5⟩
end

/-! ### what is walked -/
/-- J walks ds, as long as what stands stays -/
def Walk (c : Cn) (M : Am) (ρ : List Addr) (H : Hp) (J : It) (ds : List D) : Prop := ∀ (g : Gr) (M1 : Am) (ρ1 : List Addr) (H1 : Hp), Keep g M ρ H M1 ρ1 H1 → Dm M1 H1 →
  (J.stop ds.length H1) ∧ ∀ i d, ds[i]? = some d → J.go i H1 ∧ ∀ x H2, J.yld i H1 x H2 → Ext H1 H2 ∧ RD c M1 ρ1 H2 d x
abbrev Itr := S → R (List D)
def OutI (c : Cn) (g : Gr) (W : WX) (M : Am) (ρ : List Addr) (σ : L2.St) (H : Hp) (r : R (List D)) (Rk : It → Hp → Prop) : Prop := match r with
  | .ok ds s' => ∀ M' ρ' J H', Rel c g M' ρ' s' σ H' → Keep g M ρ H M' ρ' H' → Walk c M' ρ' H' J ds → Rk J H'
  | .exc x s' => ∀ M' ρ' H' cls dd, Rel c g M' ρ' s' σ H' → Keep g M ρ H M' ρ' H' → XR c x cls dd H' → W cls dd σ H'
  | .bad => False
def tI (c : Cn) (W : WX) (f : DS.Itr) : TI := fun σ H Rk => ∃ g M ρ s, Rel c g M ρ s σ H ∧ OutI c g W M ρ σ H (f s) Rk
theorem pi_imp {X : Cx} {tg e : Expr} {t t' : TI} (h : PI X tg e t) (i : ∀ σ H R, t' σ H R → t σ H R) : PI X tg e t' := ⟨fun pins s σ H R I q => h.run pins s σ H R I (i _ _ _ q)⟩
/-! ### for -/
def forL (t : Tg) (b : Sm) : List D → Sm
  | [], s => .ok .nx s
  | d :: ds, s => match t d s with
    | none => .bad
    | some s1 => (b s1).bind fun fl s2 => match fl with
      | .nx => forL t b ds s2
      | .ct => forL t b ds s2
      | .bk => .ok .nx s2
      | .rt d => .ok (.rt d) s2
def forS (it : DS.Itr) (t : Tg) (b : Sm) : Sm := fun s => (it s).bind fun ds s1 => forL t b ds s1
section
variable {X : Cx} {c : Cn} {g : Gr} {W : WX} {pos : Pos} {vs : List Nat} {t : Tg} {it : DS.Itr} {b : Sm} {e tg : Expr} {σ : L2.St} {H : Hp} {D : Ends}
theorem tI.bind {β : Type} {M : Am} {ρ : List Addr} {s : S} {Rk : It → Hp → Prop} {f : DS.Itr} {k : List DS.D → S → R β} {out : Am → List Addr → Hp → R β → Prop} (rel : Rel c g M ρ s σ H)
    (hx : ∀ x s', out M ρ H (.exc x s') → ∀ M' ρ' H' cls dd, Rel c g M' ρ' s' σ H' → Keep g M ρ H M' ρ' H' → XR c x cls dd H' → W cls dd σ H') (hb : ¬ out M ρ H .bad)
    (h : out M ρ H ((f s).bind k)) (hq : ∀ ds s1 M1 ρ1 J H1, Rel c g M1 ρ1 s1 σ H1 → Keep g M ρ H M1 ρ1 H1 → Walk c M1 ρ1 H1 J ds → out M ρ H (k ds s1) → Rk J H1) : tI c W f σ H Rk := by
  refine ⟨g, M, ρ, s, rel, ?_⟩
  cases e : f s with
  | ok t s1 =>
    rw [e] at h
    exact fun M1 ρ1 J H1 r1 k1 w1 => hq t s1 M1 ρ1 J H1 r1 k1 w1 h
  | exc x s1 =>
    rw [e] at h
    exact hx x s1 h
  | bad =>
    rw [e] at h
    exact hb h
theorem t_for (h : tS c W (forS it t b) D σ H) : tFor (tI c W it) (tG c W vs t) (tS c W b) D σ H := by
  obtain ⟨g, M, ρ, s, rel, h⟩ := h
  refine tI.bind (out := fun M ρ H r => OutS c g W M ρ H r D) rel (fun _ _ z M' ρ' H' cls dd r k x => z M' ρ' σ H' cls dd r k x) (fun z => z) h fun ds s1 M1 ρ1 J H1 r1 k1 wk h1 => ?_
  have h1 := OutS.keep k1 h1
  refine ⟨fun i m σ H => m = ds.length - i ∧ i ≤ ds.length ∧ ∃ M ρ s, Rel c g M ρ s σ H ∧ Keep g M1 ρ1 H1 M ρ H ∧ OutS c g W M ρ H (forL t b (ds.drop i) s) D, ⟨ds.length, by simp, Nat.zero_le _, M1, ρ1, s1, r1, Keep.refl _ _ _ _, h1⟩, ?_⟩
  rintro i m σ H ⟨rfl, hi, M, ρ, s, r, k, h⟩
  obtain ⟨w1, w2⟩ := wk g M ρ H k r.h.dom
  by_cases hlt : i < ds.length
  · obtain ⟨go, yl⟩ := w2 i ds[i] (List.getElem?_eq_getElem hlt)
    rw [List.drop_eq_getElem_cons hlt] at h
    refine .inr ⟨go, fun σ' H' => ∃ M ρ s, Rel c g M ρ s σ' H' ∧ Keep g M1 ρ1 H1 M ρ H' ∧ OutS c g W M ρ H' (forL t b (ds.drop (i + 1)) s) D, fun σ' H' hN => ⟨_, by omega, rfl, hlt, hN⟩, fun x H2 y => ?_⟩
    obtain ⟨e2, hd⟩ := yl x H2 y
    have r2 := r.ext e2
    have k2 : Keep g M ρ H M ρ H2 := r.kext e2
    have h := OutS.keep k2 h
    unfold forL at h
    cases q : t ds[i] s with
    | none => simp only [q] at h; exact h.elim
    | some s3 =>
      simp only [q] at h
      refine ⟨g, M, ρ, s, ds[i], s3, r2, hd, q, fun M3 ρ3 σ3 H3 r3 k3 _ => ⟨g, M3, ρ3, s3, r3, ?_⟩⟩
      have h := OutS.keep k3 h
      cases q4 : b s3 with
      | bad => rw [q4] at h; exact h.elim
      | exc x s4 => rw [q4] at h; exact h
      | ok fl s4 =>
        rw [q4] at h
        cases fl with
        | nx => exact fun M4 ρ4 σ4 H4 r4 k4 => ⟨M4, ρ4, s4, r4, ((k.trans k2).trans k3).trans k4, OutS.keep k4 h⟩
        | ct => exact fun M4 ρ4 σ4 H4 r4 k4 => ⟨M4, ρ4, s4, r4, ((k.trans k2).trans k3).trans k4, OutS.keep k4 h⟩
        | bk => exact h
        | rt d => exact h
  · have e : i = ds.length := by omega
    subst e
    rw [List.drop_length] at h
    exact .inl ⟨w1, h M ρ σ H r (Keep.refl _ _ _ _)⟩
/-- a loop's body passes its own exceptions -/
theorem s_for {k : Nat} {body : List Stmt} (C : Cc X c W k) (hp : PassesOwn (model X.prog X.w) X.A X.env X.xe) (hi : PI X tg e (tI c W it)) (hg : PG X tg (tG c W vs t)) (hb : PSs X body (tS c W b)) (hs : ∀ x, foldedSetIterable e X.env x = pure x := by intro _; rfl) :
    PS X (.For tg e body [] pos) (tS c W (forS it t b)) := ps_imp (ps_for hp C.hc hi hg hb hs) fun D σ H h => t_for h
end

/-! ### while -/
def whlN (t : S → R Bool) (b : Sm) : Nat → Sm
  | 0, _ => .bad
  | n + 1, s => (t s).bind fun c s1 => if c = true then (b s1).bind fun fl s2 => match fl with
      | .nx => whlN t b n s2
      | .ct => whlN t b n s2
      | .bk => .ok .nx s2
      | .rt d => .ok (.rt d) s2
    else .ok .nx s1
section
variable {X : Cx} {c : Cn} {g : Gr} {W : WX} {pos : Pos} {t : S → R Bool} {b : Sm} {e : Expr} {σ : L2.St} {H : Hp} {D : Ends}
theorem t_whl {n : Nat} (h : tS c W (whlN t b n) D σ H) : tWhile (tT c W t) (tS c W b) D σ H := by
  obtain ⟨g, M, ρ, s, rel, h⟩ := h
  refine ⟨fun m σ H => ∃ g M ρ s, Rel c g M ρ s σ H ∧ OutS c g W M ρ H (whlN t b m s) D, ⟨n, g, M, ρ, s, rel, h⟩, ?_⟩
  rintro m σ H ⟨g, M, ρ, s, r, h⟩
  cases m with
  | zero => exact h.elim
  | succ m =>
    refine tT.bind (out := fun M ρ H r => OutS c g W M ρ H r D) r (fun _ _ z M' ρ' H' cls dd r k x => z M' ρ' σ H' cls dd r k x) (fun z => z) h fun c' s1 M1 ρ1 H1 r1 k1 h1 => ?_
    have h1 := OutS.keep k1 h1
    cases c' with
    | false => exact h1 M1 ρ1 σ H1 r1 (Keep.refl _ _ _ _)
    | true =>
      refine ⟨fun σ' H' => ∃ g M ρ s, Rel c g M ρ s σ' H' ∧ OutS c g W M ρ H' (whlN t b m s) D, fun σ' H' hN => ⟨m, Nat.lt_succ_self m, hN⟩, ?_⟩
      refine ⟨g, M1, ρ1, s1, r1, ?_⟩
      simp only [if_true] at h1
      cases q4 : b s1 with
      | bad => rw [q4] at h1; exact h1.elim
      | exc x s4 => rw [q4] at h1; exact h1
      | ok fl s4 =>
        rw [q4] at h1
        cases fl with
        | nx => exact fun M4 ρ4 σ4 H4 r4 k4 => ⟨g, M4, ρ4, s4, r4, OutS.keep k4 h1⟩
        | ct => exact fun M4 ρ4 σ4 H4 r4 k4 => ⟨g, M4, ρ4, s4, r4, OutS.keep k4 h1⟩
        | bk => exact h1
        | rt d => exact h1
open Classical in
/-- as often as it takes -/
noncomputable def whlS (t : S → R Bool) (b : Sm) : Sm := fun s => if h : ∃ n, whlN t b n s ≠ .bad then whlN t b (Classical.choose h) s else .bad
theorem whlN_mono {n m : Nat} {s : S} (hn : n ≤ m) (h : whlN t b n s ≠ .bad) : whlN t b m s = whlN t b n s := by
  induction n generalizing m s with
  | zero => exact absurd rfl h
  | succ n ih =>
    obtain ⟨m, rfl⟩ : ∃ k, m = k + 1 := ⟨m - 1, by omega⟩
    unfold whlN at h ⊢
    cases q : t s with
    | bad => rfl
    | exc x s1 => rfl
    | ok c s1 =>
      rw [q] at h
      simp only [R.bind_ok] at h ⊢
      cases c with
      | false => rfl
      | true =>
        simp only [if_true] at h ⊢
        cases q2 : b s1 with
        | bad => rfl
        | exc x s2 => rfl
        | ok fl s2 =>
          rw [q2] at h
          cases fl with
          | nx => exact ih (by omega) h
          | ct => exact ih (by omega) h
          | bk => rfl
          | rt d => rfl
theorem whlS_of {n : Nat} {s : S} {r : R Fl} (h : whlN t b n s = r) (hr : r ≠ .bad) : whlS t b s = r := by
  unfold whlS
  have hx : ∃ n, whlN t b n s ≠ .bad := ⟨n, by rw [h]; exact hr⟩
  rw [dif_pos hx]
  have h2 := Classical.choose_spec hx
  rcases Nat.le_total n (Classical.choose hx) with q | q
  · rw [whlN_mono q (by rw [h]; exact hr), h]
  · rw [← whlN_mono q h2, h]
theorem s_whl {k : Nat} {body : List Stmt} (C : Cc X c W k) (hp : PassesOwn (model X.prog X.w) X.A X.env X.xe) (hc : PT X e (tT c W t)) (hb : PSs X body (tS c W b)) : PS X (.While e body [] pos) (tS c W (whlS t b)) := ps_imp (ps_while hp hc hb) fun D σ H h => by
  obtain ⟨g, M, ρ, s, rel, h⟩ := h
  unfold whlS at h
  split at h
  · exact t_whl ⟨g, M, ρ, s, rel, h⟩
  · exact h.elim
/-- so often at most -/
abbrev whlF (t : S → R Bool) (b : Sm) : Sm := whlN t b 1000000000
theorem s_whlF {k : Nat} {body : List Stmt} (C : Cc X c W k) (hp : PassesOwn (model X.prog X.w) X.A X.env X.xe) (hc : PT X e (tT c W t)) (hb : PSs X body (tS c W b)) : PS X (.While e body [] pos) (tS c W (whlF t b)) := ps_imp (ps_while hp hc hb) fun D σ H h => t_whl h
end
end DS
/-! DS8: lists that change, parallel stores, comprehensions, what is walked. -/
namespace DS
open PySem PySem.Spec PyProof.Rows L2

/-! ### lists that change -/
def lstTok (s : S) : DS.Tok → Option (List D)
  | .s i => match s.env[i]? with
    | some (.ol xs) => some xs
    | some (.v (.ref j)) => match s.hp[j]? with
      | some (.lst xs) => some xs
      | none => none
    | _ => none
  | .d (.ref j) => match s.hp[j]? with
      | some (.lst xs) => some xs
      | none => none
  | .d _ => none
def updTok (s : S) (ys : List D) : DS.Tok → S
  | .s i => match s.env[i]? with
    | some (.ol _) => ⟨s.env.set i (.ol ys), s.hp⟩
    | some (.v (.ref j)) => ⟨s.env, s.hp.set j (.lst ys)⟩
    | _ => s
  | .d (.ref j) => ⟨s.env, s.hp.set j (.lst ys)⟩
  | .d _ => s
section
variable {c : Cn} {g : Gr} {M : Am} {ρ : List Addr} {σ : L2.St} {H : Hp} {s : S}
theorem put_ref (r : Rel c g M ρ s σ H) {j : Nat} {v : V} {xs : List D} (h : RD c M ρ H (.ref j) v) (e : s.hp[j]? = some (.lst xs)) : ∃ a vs, v = .ref a ∧ H a = some (.lst vs) ∧ RDs c M ρ H xs vs ∧ ∀ ys ws, RDs c M ρ H ys ws →
    Rel c g M ρ ⟨s.env, s.hp.set j (.lst ys)⟩ σ (upd H a (.lst ws)) ∧ Keep g M ρ H M ρ (upd H a (.lst ws)) := by
  cases h with
  | ref h =>
    rename_i a
    obtain ⟨vs, h1, h2⟩ := r.h.ho j _ a e h
    refine ⟨a, vs, rfl, h1, h2, fun ys ws hy => ?_⟩
    have hm : a ∈ ρ := List.mem_of_getElem? h
    have k : Keep g M ρ H M ρ (upd H a (.lst ws)) := keep_mut (r.h.rm a hm) (fun hp => (r.gd.gp a hp).2 hm)
    exact ⟨r.muthp h rfl ⟨ws, upd_same, hy.keep k⟩, k⟩
theorem put_tok (r : Rel c g M ρ s σ H) {t : DS.Tok} {v : V} {xs : List D} (h : TokR c M ρ σ H t v) (e : lstTok s t = some xs) : ∃ a vs, v = .ref a ∧ H a = some (.lst vs) ∧ RDs c M ρ H xs vs ∧ ∀ ys ws, RDs c M ρ H ys ws →
    Rel c g M ρ (updTok s ys t) σ (upd H a (.lst ws)) ∧ Keep g M ρ H M ρ (upd H a (.lst ws)) := by
  cases t with
  | d x =>
    cases x <;> first | cases e | skip
    rename_i j
    have e : (match s.hp[j]? with | some (Ob.lst xs) => some xs | none => none) = some xs := e
    cases q : s.hp[j]? with
    | none => simp only [q] at e; cases e
    | some o =>
      cases o with
      | lst zs =>
        simp only [q] at e
        cases e
        exact put_ref r h q
  | s i =>
    have h : σ[i]? = some (some v) := h
    unfold lstTok at e
    unfold updTok
    cases q : s.env[i]? with
    | none => simp only [q] at e; cases e
    | some sl =>
      simp only [q] at e ⊢
      cases sl with
      | un => cases e
      | od k ks vs => cases e
      | ol zs =>
        cases e
        obtain ⟨a, h1, ⟨vs, h2, h3⟩, h4, h5, h6⟩ := r.e.own i _ q rfl
        rw [h] at h1
        cases h1
        refine ⟨a, vs, rfl, h2, h3, fun ys ws hy => ?_⟩
        have k : Keep g M ρ H M ρ (upd H a (.lst ws)) := keep_mut h4 (r.e.pro i _ a q rfl h)
        exact ⟨r.mutown q rfl h (sl' := .ol ys) rfl rfl ⟨ws, upd_same, hy.keep k⟩, k⟩
      | v x =>
        cases x <;> first | cases e | skip
        rename_i j
        simp only at e ⊢
        obtain ⟨u, h1, h2⟩ := r.e.val i _ q
        rw [h] at h1
        cases h1
        cases q2 : s.hp[j]? with
        | none => simp only [q2] at e; cases e
        | some o =>
          cases o with
          | lst zs =>
            simp only [q2] at e
            cases e
            exact put_ref r h2 q2
end
/-- a method that changes its list -/
def mutE (o : Op) (fs : List Ex) (F : List D → List D → Option (D × List D)) : Ex := fun s => (o s).bind fun t s1 => match lstTok s1 t with
  | none => .bad
  | some _ => (evA fs s1).bind fun as s2 => match (lstTok s2 t).bind fun xs => F xs as with
    | none => .bad
    | some (d, ys) => .ok d (updTok s2 ys t)
/-- by values -/
def VM (c : Cn) (r : V → List V → Hp → VK → Prop) (F : List D → List D → Option (D × List D)) : Prop := ∀ (M : Am) (ρ : List Addr) (H : Hp) (a : Addr) (xs as ys : List D) (d : D) (vs us : List V) (Q : VK), H a = some (.lst vs) → RDs c M ρ H xs vs → RDs c M ρ H as us → M a → F xs as = some (d, ys) →
  (∀ ws v, RDs c M ρ H ys ws → (∀ H', Keep ⟨M, [], H, fun _ => False⟩ M ρ H M ρ H' → RD c M ρ H' d v) → Q v (upd H a (.lst ws))) → r (.ref a) us H Q
def appF (xs as : List D) : Option (D × List D) := match as with
  | [d] => if xs.length < LIM then some (.non, xs ++ [d]) else none
  | _ => none
def extF (xs as : List D) : Option (D × List D) := match as with
  | [.lst zs] => if xs.length + zs.length ≤ LIM then some (.non, xs ++ zs) else none
  | _ => none
def popF (xs as : List D) : Option (D × List D) := match as with
  | [] => (xs[xs.length - 1]?).map fun d => (d, xs.dropLast)
  | _ => none
def popAtF (xs as : List D) : Option (D × List D) := match as with
  | [.int i] => if decide (-(2 ^ 63) ≤ i) && decide (i < 2 ^ 63) then (seqIndex? i xs.length).bind fun k => (xs[k]?).map fun d => (d, xs.eraseIdx k) else none
  | _ => none
section
variable {X : Cx} {c : Cn} {g : Gr} {W : WX} {a e : Expr} {es : List Expr} {o : Op} {fs : List Ex} {name : Str} {apos cpos : Pos} {id : String} {r : V → List V → Hp → VK → Prop} {F : List D → List D → Option (D × List D)} {σ : L2.St} {H : Hp} {Q : VK}
theorem vm_app : VM c rAppend appF := by
  intro M ρ H a xs as ys d vs us Q h1 h2 h3 hm hF q
  unfold appF at hF
  split at hF
  · split at hF
    · cases hF
      rename_i hl
      cases h3 with
      | cons r t =>
        cases t
        exact ⟨a, vs, _, rfl, rfl, h1, by rw [← h2.length]; exact hl, q _ .non (h2.append (.cons r .nil)) fun _ _ => .non⟩
    · cases hF
  · cases hF
theorem vm_ext : VM c rExtend extF := by
  intro M ρ H a xs as ys d vs us Q h1 h2 h3 hm hF q
  unfold extF at hF
  split at hF
  · split at hF
    · cases hF
      rename_i hl
      cases h3 with
      | cons r t =>
        cases t
        cases r with
        | lst hb m rb => exact ⟨a, _, vs, _, rfl, rfl, h1, hb, by rw [← h2.length, ← rb.length]; exact hl, q _ .non (h2.append rb) fun _ _ => .non⟩
    · cases hF
  · cases hF
theorem vm_pop : VM c rPop popF := by
  intro M ρ H a xs as ys d vs us Q h1 h2 h3 hm hF q
  unfold popF at hF
  split at hF
  · obtain ⟨x, hx, e⟩ := Option.map_eq_some_iff.mp hF
    cases e
    cases h3
    obtain ⟨v, h4, h5⟩ := h2.get hx
    exact ⟨a, vs, v, rfl, rfl, h1, by rw [← h2.length]; exact h4, q _ v h2.dropLast fun H' k => h5.keep k⟩
  · cases hF
theorem vm_popAt : VM c rPopAt popAtF := by
  intro M ρ H a xs as ys d vs us Q h1 h2 h3 hm hF q
  unfold popAtF at hF
  split at hF
  · rename_i i
    split at hF
    · rename_i hi
      simp only [Bool.and_eq_true, decide_eq_true_eq] at hi
      obtain ⟨k, hk, hF⟩ := Option.bind_eq_some_iff.mp hF
      obtain ⟨x, hx, e⟩ := Option.map_eq_some_iff.mp hF
      cases e
      cases h3 with
      | cons r t =>
        cases t
        cases r
        obtain ⟨v, h4, h5⟩ := h2.get hx
        exact ⟨a, vs, i, k, v, rfl, rfl, h1, hi.1, hi.2, by rw [← h2.length]; exact hk, h4, q _ v (h2.eraseIdx k) fun H' k => h5.keep k⟩
    · cases hF
  · cases hF
theorem mt_or {id : String} {r r' : V → List V → Hp → VK → Prop} (h : MtM X id r) (h' : MtM X id r') : MtM X id (fun x xs H Q => r x xs H Q ∨ r' x xs H Q) := by
  intro pins s σ H x xs v us Q I rx rv q
  rcases q with q | q
  · exact h pins s σ H x xs v us Q I rx rv q
  · exact h' pins s σ H x xs v us Q I rx rv q
theorem t_mut_fin {M : Am} {ρ : List Addr} {s2 : S} {t : DS.Tok} {as : List D} {us : List V} {v : V} (r2 : Rel c g M ρ s2 σ H) (t2 : TokR c M ρ σ H t v) (hv : VM c r F) (rd : RDs c M ρ H as us)
    (h : OutE c g W M ρ σ H (match (lstTok s2 t).bind fun xs => F xs as with | none => R.bad | some (d, ys) => R.ok d (updTok s2 ys t)) Q) : r v us H Q := by
  cases q : (lstTok s2 t).bind fun xs => F xs as with
  | none => rw [q] at h; exact h.elim
  | some p =>
    rw [q] at h
    obtain ⟨d, ys⟩ := p
    obtain ⟨xs, h1, h2⟩ := Option.bind_eq_some_iff.mp q
    obtain ⟨a, vs, rfl, h3, h4, h5⟩ := put_tok r2 t2 h1
    have hm : M a := by
      have k := (h5 xs vs h4).2
      have z := (h5 xs vs h4).1
      cases t with
      | d x =>
        cases x <;> first | cases h1 | skip
        cases t2 with
        | ref t2 => exact r2.h.rm _ (List.mem_of_getElem? t2)
      | s i =>
        unfold lstTok at h1
        cases q3 : s2.env[i]? with
        | none => simp only [q3] at h1; cases h1
        | some sl =>
          simp only [q3] at h1
          cases sl with
          | un => cases h1
          | od k ks vs => cases h1
          | ol zs =>
            obtain ⟨b, g1, _, g4, _⟩ := r2.e.own i _ q3 rfl
            rw [show σ[i]? = some (some (.ref a)) from t2] at g1
            cases g1
            exact g4
          | v x =>
            cases x <;> first | cases h1 | skip
            obtain ⟨u, g1, g2⟩ := r2.e.val i _ q3
            rw [show σ[i]? = some (some (.ref a)) from t2] at g1
            cases g1
            cases g2 with
            | ref g2 => exact r2.h.rm _ (List.mem_of_getElem? g2)
    refine hv M ρ H a xs as ys d vs us Q h3 h4 rd hm h2 fun ws v hw hd => ?_
    obtain ⟨r3, k3⟩ := h5 ys ws hw
    exact h M ρ v _ r3 k3 (hd _ ⟨k3.st, k3.pre, fun _ z => z.elim⟩)
theorem tok_ty {M : Am} {ρ : List Addr} {s1 : S} {t : DS.Tok} {v : V} {xs : List D} (r1 : Rel c g M ρ s1 σ H) (t1 : TokR c M ρ σ H t v) (h : lstTok s1 t = some xs) {K : PySem.W.Frag} : tyV K "list" v H := by
  obtain ⟨a, vs, rfl, h3, h4, h5⟩ := put_tok r1 t1 h
  exact .inl ⟨rfl, vs, .inl (.inl h3)⟩
/-- o.m(e, ..) -/
theorem e_mut (slot : PySem.Slot "list" name id) (hty : typeOf (.builtin id) = pure (.type "method_descriptor")) (hm : MtM X id r) (hv : VM c r F) (ho : PE X a (tO c W o)) (ha : PA X (e :: es) (tA c W fs))
    (hbase : attributeBase a name X.env (eval a X.env) = eval a X.env := by rfl)
    (hfew : ((backTo cpos (starEach (e :: es) X.env)).all (fun x => !x.1) && (backToKw cpos (keywordEach [] X.env)).all (fun x => x.1.isSome)
      && decide ((e :: es).length + ([] : List Keyword).length + (if ([] : List Keyword).isEmpty then 0 else 1) < 30)) = true := by rfl)
    (hline : (apos.endLine == cpos.line) = true := by rfl) (hs : starEach (e :: es) X.env = (false, eval e X.env) :: starEach es X.env := by rfl) (hplain : (backTo cpos (starEach es X.env)).any (·.1) = false := by rfl) :
    PE X (.Call (.Attribute a name apos) (e :: es) [] cpos) (tE c W (mutE o fs F)) := pe_imp (pe_bm PySem.F.plainAttrs_list slot hty hm ho ha hbase hfew hline hs hplain) fun σ H Q h => by
  obtain ⟨g, M, ρ, s, rel, h⟩ := h
  refine tO.bind (out := fun M ρ H r => OutE c g W M ρ σ H r Q) rel (fun _ _ z => z) (fun z => z) h fun t s1 M1 ρ1 v H1 r1 k1 t1 h1 => ?_
  have h1 := OutE.keep k1 h1
  cases q : lstTok s1 t with
  | none => rw [q] at h1; exact h1.elim
  | some xs =>
    rw [q] at h1
    refine ⟨tok_ty r1 t1 q, ?_⟩
    exact tA.bind (out := fun M ρ H r => OutE c g W M ρ σ H r Q) r1 (fun _ _ z => z) (fun z => z) h1 fun as s2 M2 ρ2 us H2 r2 k2 rd h2 => t_mut_fin r2 (t1.keep k2) hv rd (OutE.keep k2 h2)
theorem e_mut0 (slot : PySem.Slot "list" name id) (hty : typeOf (.builtin id) = pure (.type "method_descriptor")) (hm : MtM X id r) (hv : VM c r F) (ho : PE X a (tO c W o))
    (hbase : attributeBase a name X.env (eval a X.env) = eval a X.env := by rfl) (hline : (apos.endLine == cpos.line) = true := by rfl) :
    PE X (.Call (.Attribute a name apos) [] [] cpos) (tE c W (mutE o [] F)) := pe_imp (pe_bm0 PySem.F.plainAttrs_list slot hty hm ho hbase hline) fun σ H Q h => by
  obtain ⟨g, M, ρ, s, rel, h⟩ := h
  refine tO.bind (out := fun M ρ H r => OutE c g W M ρ σ H r Q) rel (fun _ _ z => z) (fun z => z) h fun t s1 M1 ρ1 v H1 r1 k1 t1 h1 => ?_
  have h1 := OutE.keep k1 h1
  cases q : lstTok s1 t with
  | none => rw [q] at h1; exact h1.elim
  | some xs =>
    rw [q] at h1
    exact ⟨tok_ty r1 t1 q, t_mut_fin r1 t1 hv .nil h1⟩
theorem e_app (ho : PE X a (tO c W o)) {f : Ex} (hf : PE X e (tE c W f)) (hbase : attributeBase a "append" X.env (eval a X.env) = eval a X.env := by rfl)
    (hline : (apos.endLine == cpos.line) = true := by rfl) (hs : starEach [e] X.env = (false, eval e X.env) :: starEach [] X.env := by rfl)
    (hfew : ((backTo cpos (starEach [e] X.env)).all (fun x => !x.1) && (backToKw cpos (keywordEach [] X.env)).all (fun x => x.1.isSome)
      && decide ([e].length + ([] : List Keyword).length + (if ([] : List Keyword).isEmpty then 0 else 1) < 30)) = true := by rfl) :
    PE X (.Call (.Attribute a "append" apos) [e] [] cpos) (tE c W (mutE o [f] appF)) := e_mut PySem.F.slot_list_append PySem.F.type_list_append mt_append vm_app ho (a_cons hf a_nil hs) hbase hfew hline hs
theorem e_ext (ho : PE X a (tO c W o)) {f : Ex} (hf : PE X e (tE c W f)) (hbase : attributeBase a "extend" X.env (eval a X.env) = eval a X.env := by rfl)
    (hline : (apos.endLine == cpos.line) = true := by rfl) (hs : starEach [e] X.env = (false, eval e X.env) :: starEach [] X.env := by rfl)
    (hfew : ((backTo cpos (starEach [e] X.env)).all (fun x => !x.1) && (backToKw cpos (keywordEach [] X.env)).all (fun x => x.1.isSome)
      && decide ([e].length + ([] : List Keyword).length + (if ([] : List Keyword).isEmpty then 0 else 1) < 30)) = true := by rfl) :
    PE X (.Call (.Attribute a "extend" apos) [e] [] cpos) (tE c W (mutE o [f] extF)) := e_mut PySem.F.slot_list_extend PySem.F.type_list_extend mt_extend vm_ext ho (a_cons hf a_nil hs) hbase hfew hline hs
theorem e_pop (ho : PE X a (tO c W o)) (hbase : attributeBase a "pop" X.env (eval a X.env) = eval a X.env := by rfl)
    (hline : (apos.endLine == cpos.line) = true := by rfl) : PE X (.Call (.Attribute a "pop" apos) [] [] cpos) (tE c W (mutE o [] popF)) := e_mut0 PySem.F.slot_list_pop PySem.F.type_list_pop mt_pop vm_pop ho hbase hline
theorem e_popAt (ho : PE X a (tO c W o)) {f : Ex} (hf : PE X e (tE c W f)) (hbase : attributeBase a "pop" X.env (eval a X.env) = eval a X.env := by rfl)
    (hline : (apos.endLine == cpos.line) = true := by rfl) (hs : starEach [e] X.env = (false, eval e X.env) :: starEach [] X.env := by rfl)
    (hfew : ((backTo cpos (starEach [e] X.env)).all (fun x => !x.1) && (backToKw cpos (keywordEach [] X.env)).all (fun x => x.1.isSome)
      && decide ([e].length + ([] : List Keyword).length + (if ([] : List Keyword).isEmpty then 0 else 1) < 30)) = true := by rfl) :
    PE X (.Call (.Attribute a "pop" apos) [e] [] cpos) (tE c W (mutE o [f] popAtF)) := e_mut PySem.F.slot_list_pop PySem.F.type_list_pop mt_popAt vm_popAt ho (a_cons hf a_nil hs) hbase hfew hline hs
end
/-- xs[i] = e -/
def setIx (f : Ex) (o : Op) (i : Ex) : Sm := fun s => (f s).bind fun d s1 => (o s1).bind fun t s2 => (i s2).bind fun k s3 => match k with
  | .int k => match lstTok s3 t with
    | some xs => match ixN xs.length k with
      | some j => .ok .nx (updTok s3 (xs.set j d) t)
      | none => .bad
    | none => .bad
  | _ => .bad
section
variable {X : Cx} {c : Cn} {g : Gr} {W : WX} {f fi : Ex} {o : Op} {e a i : Expr} {pos p2 : Pos}
theorem s_setIx (he : PE X e (tE c W f)) (ho : PE X a (tO c W o)) (hi : PE X i (tE c W fi)) (hs : swapsWithSole [.Subscript a i p2] e pos.line X.env = pure false := by rfl) (hw : swappedStores [.Subscript a i p2] e X.env = pure none := by rfl)
    (h1 : (assignEach [.Subscript a i p2] X.env).map (·.2) = [assign (.Subscript a i p2) X.env] := by rfl)
    (ha : ∀ v, assign (.Subscript a i p2) X.env v = (do
      let ov ← holding [v] (eval a X.env)
      let iv ← holding [v, ov] (eval i X.env)
      standAt p2
      holding [v, ov, iv] (setItem ov iv v)
      release [v, ov, iv] []) := by intro _; rfl) : PS X (.Assign [.Subscript a i p2] e pos) (tS c W (setIx f o fi)) := ps_imp (ps_asg he (pg_sub ho hi set_list ha) hs hw h1) fun D σ H h => by
  obtain ⟨g, M, ρ, s, rel, h⟩ := h
  refine tE.bind (out := fun M ρ H r => OutS c g W M ρ H r D) rel (fun _ _ z M' ρ' H' cls dd r k x => z M' ρ' σ H' cls dd r k x) (fun z => z) h fun d s1 M1 ρ1 v H1 r1 k1 hd h1 => ?_
  refine tO.bind (out := fun M ρ H r => OutS c g W M ρ H r D) r1 (fun _ _ z M' ρ' H' cls dd r k x => z M' ρ' σ H' cls dd r k x) (fun z => z) (OutS.keep k1 h1) fun t s2 M2 ρ2 u H2 r2 k2 t2 h2 => ?_
  refine tE.bind (out := fun M ρ H r => OutS c g W M ρ H r D) r2 (fun _ _ z M' ρ' H' cls dd r k x => z M' ρ' σ H' cls dd r k x) (fun z => z) (OutS.keep k2 h2) fun kd s3 M3 ρ3 w H3 r3 k3 hk h3' => ?_
  have h3 := OutS.keep k3 h3'
  clear h3'
  have hkd : ∃ k, kd = .int k := by
    cases kd with
    | int k => exact ⟨k, rfl⟩
    | _ => exact h3.elim
  obtain ⟨k, rfl⟩ := hkd
  cases hk
  cases q : lstTok s3 t with
  | none => simp only [q] at h3; exact h3.elim
  | some xs =>
    simp only [q] at h3
    obtain ⟨a, vs, rfl, h4, h5, h6⟩ := put_tok r3 (t2.keep k3) q
    cases q2 : ixN xs.length k with
    | none => simp only [q2] at h3; exact h3.elim
    | some j =>
      simp only [q2] at h3
      refine ⟨a, vs, k, j, rfl, rfl, h4, by rw [← h5.length]; exact q2, ?_⟩
      obtain ⟨r4, k4⟩ := h6 (xs.set j d) (vs.set j v) (RDs.set ((hd.keep k2).keep k3) j h5)
      exact h3 M3 ρ3 σ _ r4 k4
end
end DS
/-! DS9: comprehensions, what is walked, parallel stores. -/
namespace DS
open PySem PySem.Spec PyProof.Rows L2

/-! ### a block's own names -/
def wipeE (env : Env) : List Nat → Env
  | [] => env
  | v :: vs => (wipeE env vs).set v .un
def restE (env0 env : Env) : List Nat → Env
  | [] => env
  | v :: vs => (restE env0 env vs).set v (env0[v]?.getD .un)
theorem restE_len (env0 env : Env) : ∀ vs, (restE env0 env vs).length = env.length
  | [] => rfl
  | v :: vs => by
    unfold restE
    rw [List.length_set, restE_len env0 env vs]
theorem restE_out {env0 env : Env} {i : Nat} : ∀ {vs}, i ∉ vs → (restE env0 env vs)[i]? = env[i]?
  | [], _ => rfl
  | v :: vs, h => by
    unfold restE
    rw [get_set_ne (fun z => h (by rw [z]; exact List.mem_cons_self)), restE_out (fun z => h (List.mem_cons_of_mem _ z))]
theorem restE_in {env0 env : Env} {i : Nat} {sl : Slot} (hl : env0.length = env.length) : ∀ {vs}, i ∈ vs → (restE env0 env vs)[i]? = some sl → env0[i]? = some sl
  | v :: vs, h, e => by
    unfold restE at e
    rcases get_set_some e with ⟨rfl, e, hi⟩ | ⟨ne, e⟩
    · rw [restE_len, ← hl] at hi
      rw [e, List.getElem?_eq_getElem hi]
      rfl
    · exact restE_in hl (by
        rcases List.mem_cons.mp h with h | h
        · exact absurd h ne
        · exact h) e
theorem wipe_out {σ : L2.St} {i : Nat} : ∀ {vs}, i ∉ vs → (wipe σ vs)[i]? = σ[i]?
  | [], _ => rfl
  | v :: vs, h => by
    unfold wipe
    rw [get_set_ne (fun z => h (by rw [z]; exact List.mem_cons_self)), wipe_out (fun z => h (List.mem_cons_of_mem _ z))]
theorem wipe_set_out {σ : L2.St} {i : Nat} {x : Option V} : ∀ {ws : List Nat}, i ∉ ws → wipe (σ.set i x) ws = (wipe σ ws).set i x
  | [], _ => rfl
  | w :: ws, hn => by
    unfold wipe
    rw [wipe_set_out (fun z => hn (List.mem_cons_of_mem _ z)), List.set_comm _ _ (fun z => hn (by rw [z]; exact List.mem_cons_self))]
theorem wipe_wipe {σ : L2.St} : ∀ {vs ws : List Nat}, (∀ v ∈ vs, v ∈ ws) → wipe (wipe σ vs) ws = wipe σ ws
  | [], _, _ => rfl
  | v :: vs, ws, h => by
    show wipe ((wipe σ vs).set v none) ws = _
    rw [wipe_set_in (h v List.mem_cons_self), wipe_wipe fun u hu => h u (List.mem_cons_of_mem _ hu)]
section
variable {c : Cn} {g : Gr} {M M' : Am} {ρ ρ' : List Addr} {H H' : Hp} {env env0 : Env} {hp hp' : List Ob} {σ : L2.St}
theorem Rel.wipe1 (r : Rel c g M ρ ⟨env, hp⟩ σ H) (i : Nat) : Rel c g M ρ ⟨env.set i .un, hp⟩ (σ.set i none) H := by
  refine ⟨r.h, r.gd, ⟨by simp [r.e.len], fun j d' h => ?_, fun j sl h o => ?_, fun j sl b h o e => ?_, fun j k sl sl' b h o h' o' e e' => ?_⟩⟩
  · rcases get_set_some h with ⟨rfl, e, hl⟩ | ⟨ne, h⟩
    · cases e
    · rw [get_set_ne ne]
      exact r.e.val j d' h
  · rcases get_set_some h with ⟨rfl, e, hl⟩ | ⟨ne, h⟩
    · cases e
      cases o
    · rw [get_set_ne ne]
      exact r.e.own j sl h o
  · rcases get_set_some h with ⟨rfl, q, hl⟩ | ⟨ne, h⟩
    · cases q
      cases o
    · rw [get_set_ne ne] at e
      exact r.e.pro j sl b h o e
  · rcases get_set_some h with ⟨rfl, q, hl⟩ | ⟨ne, h⟩
    · cases q
      cases o
    · rcases get_set_some h' with ⟨rfl, q, hl⟩ | ⟨ne', h'⟩
      · cases q
        cases o'
      · rw [get_set_ne ne] at e
        rw [get_set_ne ne'] at e'
        exact r.e.sep j k sl sl' b h o h' o' e e'
theorem Rel.wipe (r : Rel c g M ρ ⟨env, hp⟩ σ H) : ∀ vs : List Nat, Rel c g M ρ ⟨wipeE env vs, hp⟩ (L2.wipe σ vs) H
  | [] => r
  | v :: vs => (Rel.wipe r vs).wipe1 v
theorem Rel.rest {vs : List Nat} (r0 : Rel c g M ρ ⟨env0, hp⟩ σ H) (k : Keep g M ρ H M' ρ' H') (r : Rel c g M' ρ' ⟨env, hp'⟩ (L2.wipe σ vs) H') (hn : ∀ v ∈ vs, ∀ sl, env0[v]? = some sl → sl.isOwn = false) : Rel c g M' ρ' ⟨restE env0 env vs, hp'⟩ σ H' := by
  have hl : env0.length = env.length := by
    have a : env0.length = σ.length := r0.e.len
    have b : env.length = (L2.wipe σ vs).length := r.e.len
    rw [a, b, wipe_length]
  have up : ∀ {i : Nat} {sl : Slot}, (restE env0 env vs)[i]? = some sl → sl.isOwn = true → i ∉ vs ∧ env[i]? = some sl := fun {i sl} h o => by
    by_cases hi : i ∈ vs
    · have := hn i hi sl (restE_in hl hi h)
      rw [o] at this
      cases this
    · rw [restE_out hi] at h
      exact ⟨hi, h⟩
  refine ⟨r.h, r.gd, ⟨?_, fun i d h => ?_, fun i sl h o => ?_, fun i sl b h o e => ?_, fun i j sl sl' b h o h' o' e e' => ?_⟩⟩
  · show (restE env0 env vs).length = σ.length
    rw [restE_len, ← hl]
    exact r0.e.len
  · by_cases hi : i ∈ vs
    · obtain ⟨v, h1, h2⟩ := r0.e.val i d (restE_in hl hi h)
      exact ⟨v, h1, h2.keep k⟩
    · have h : (restE env0 env vs)[i]? = some (.v d) := h
      rw [restE_out hi] at h
      obtain ⟨v, h1, h2⟩ := r.e.val i d h
      rw [wipe_out hi] at h1
      exact ⟨v, h1, h2⟩
  · obtain ⟨hi, h⟩ := up h o
    obtain ⟨a, h1, h2⟩ := r.e.own i sl h o
    rw [wipe_out hi] at h1
    exact ⟨a, h1, h2⟩
  · obtain ⟨hi, h⟩ := up h o
    exact r.e.pro i sl b h o (by rw [wipe_out hi]; exact e)
  · obtain ⟨hi, h⟩ := up h o
    obtain ⟨hj, h'⟩ := up h' o'
    exact r.e.sep i j sl sl' b h o h' o' (by rw [wipe_out hi]; exact e) (by rw [wipe_out hj]; exact e')
end

/-! ### [f for t in it if tt] -/
def yesT : S → R Bool := fun s => .ok true s
def lcL (t : Tg) (vs : List Nat) (tt : S → R Bool) (f : Ex) : List D → List D → S → R (List D)
  | [], acc, s => .ok acc s
  | d :: ds, acc, s => match t d s with
    | none => .bad
    | some s1 => match tt s1 with
      | .ok true s2 => match f s2 with
        | .ok y s3 => if acc.length < LIM then lcL t vs tt f ds (acc ++ [y]) ⟨wipeE s3.env vs, s3.hp⟩ else .bad
        | _ => .bad
      | .ok false s2 => lcL t vs tt f ds acc ⟨wipeE s2.env vs, s2.hp⟩
      | _ => .bad
def noOwn (env : Env) (vs : List Nat) : Bool := vs.all fun v => match env[v]? with
  | some sl => !sl.isOwn
  | none => true
def lcE (it : DS.Itr) (t : Tg) (vs : List Nat) (tt : S → R Bool) (f : Ex) : ExL := fun s => (it s).bind fun ds s1 => if noOwn s1.env vs = true then match lcL t vs tt f ds [] ⟨wipeE s1.env vs, s1.hp⟩ with
    | .ok acc s2 => .ok acc ⟨restE s1.env s2.env vs, s2.hp⟩
    | _ => .bad
  else .bad
abbrev W0 : WX := fun _ _ _ _ => False
section
variable {X : Cx} {c : Cn} {g : Gr} {W : WX} {pos : Pos} {vs : List Nat} {t : Tg} {it : DS.Itr} {tt : S → R Bool} {f : Ex} {e tg iter : Expr} {σ : L2.St} {H : Hp} {Q : VK}
theorem t_lc (h : tL c W (lcE it t vs tt f) σ H Q) : tLc (tI c W it) (tG c W0 vs t) (tT c W0 tt) (tE c W0 f) vs σ H Q := by
  obtain ⟨g, M, ρ, s, rel, h⟩ := h
  refine tI.bind (out := fun M ρ H r => OutL c g W M ρ σ H r Q) rel (fun _ _ z => z) (fun z => z) h fun ds s1 M1 ρ1 J H1 r1 k1 wk h1 => ?_
  have h1 := OutL.keep k1 h1
  by_cases hn : noOwn s1.env vs = true
  · rw [if_pos hn] at h1
    have hno : ∀ v ∈ vs, ∀ sl, s1.env[v]? = some sl → sl.isOwn = false := fun v hv sl e => by
      have := List.all_eq_true.mp hn v hv
      simp only [e] at this
      simpa using this
    generalize hF : lcL t vs tt f ds [] ⟨wipeE s1.env vs, s1.hp⟩ = fin at h1
    intro Da hD
    obtain ⟨r2, f2⟩ := r1.newM (Ext.new hD) hD (upd_same (o := .lst [])) rfl
    have k2 : Keep g M1 ρ1 H1 (more M1 Da) ρ1 (upd H1 Da (.lst [])) := keep_more (Ext.new hD) hD r1.pd
    have r2h := r2.hold f2
    refine ⟨fun i m H => m = ds.length - i ∧ i ≤ ds.length ∧ ∃ M ρ s acc us, Rel c (g.hold Da) M ρ s (wipe σ vs) H ∧ Keep g (more M1 Da) ρ1 (upd H1 Da (.lst [])) M ρ H ∧ H Da = some (.lst us) ∧ RDs c M ρ H acc us ∧
      (match lcL t vs tt f (ds.drop i) acc s with
        | .ok acc' s' => fin = .ok acc' s'
        | _ => False), ⟨ds.length, by simp, Nat.zero_le _, more M1 Da, ρ1, ⟨wipeE s1.env vs, s1.hp⟩, [], [], Rel.wipe r2h vs, Keep.refl _ _ _ _, upd_same, .nil, ?_⟩, ?_⟩
    · rw [List.drop_zero, hF]
      cases fin with
      | ok acc s2 => rfl
      | exc x s2 => exact h1.elim
      | bad => exact h1.elim
    rintro i m H ⟨rfl, hi, M, ρ, s, acc, us, r, k, hu, hr, hq⟩
    obtain ⟨w1, w2⟩ := wk g M ρ H (k2.trans k) r.h.dom
    by_cases hlt : i < ds.length
    · right
      obtain ⟨go, yl⟩ := w2 i ds[i] (List.getElem?_eq_getElem hlt)
      rw [List.drop_eq_getElem_cons hlt] at hq
      refine ⟨go, fun H' => ∃ M ρ s acc us, Rel c (g.hold Da) M ρ s (wipe σ vs) H' ∧ Keep g (more M1 Da) ρ1 (upd H1 Da (.lst [])) M ρ H' ∧ H' Da = some (.lst us) ∧ RDs c M ρ H' acc us ∧
        (match lcL t vs tt f (ds.drop (i + 1)) acc s with
        | .ok acc' s' => fin = .ok acc' s'
        | _ => False), fun H' hN => ⟨_, by omega, rfl, hlt, hN⟩, fun x H2 y => ?_⟩
      obtain ⟨e2, hd⟩ := yl x H2 y
      have r3 := r.ext e2
      have k3 : Keep (g.hold Da) M ρ H M ρ H2 := r.kext e2
      unfold lcL at hq
      cases qt : t ds[i] s with
      | none => simp only [qt] at hq
      | some s3 =>
        simp only [qt] at hq
        refine ⟨g.hold Da, M, ρ, s, ds[i], s3, r3, hd, qt, fun M4 ρ4 σ4 H4 r4 k4 w4 => ?_⟩
        have w4 : wipe σ4 vs = wipe σ vs := w4.trans (wipe_wipe fun _ h => h)
        refine ⟨w4, g.hold Da, M4, ρ4, s3, r4, ?_⟩
        cases q5 : tt s3 with
        | bad => simp only [q5] at hq
        | exc x s5 => simp only [q5] at hq
        | ok b s5 =>
          simp only [q5] at hq
          intro M5 ρ5 H5 r5 k5
          have k45 := (k3.trans k4).trans k5
          cases b with
          | false =>
            simp only at hq
            have r6 := Rel.wipe (env := s5.env) (hp := s5.hp) r5 vs
            rw [w4] at r6
            exact ⟨M5, ρ5, _, acc, us, r6, k.trans k45.unhold, by rw [k45.pr Da (.inr rfl)]; exact hu, hr.keep k45, hq⟩
          | true =>
            simp only at hq
            refine ⟨g.hold Da, M5, ρ5, s5, r5, ?_⟩
            cases q6 : f s5 with
            | bad => simp only [q6] at hq
            | exc x s6 => simp only [q6] at hq
            | ok yd s6 =>
              simp only [q6] at hq
              intro M6 ρ6 y H6 r6 k6 hy
              have k46 := k45.trans k6
              by_cases hlen : acc.length < LIM
              · rw [if_pos hlen] at hq
                refine ⟨us, by rw [k46.pr Da (.inr rfl)]; exact hu, by rw [← hr.length]; exact hlen, ?_⟩
                have hyk := hr.keep k46
                obtain ⟨r7, k7⟩ := r6.put (o := .lst (us ++ [y])) rfl f2.2.2.1 f2.2.2.2.1
                have r8 := Rel.wipe (env := s6.env) (hp := s6.hp) r7 vs
                rw [w4] at r8
                exact ⟨M6, ρ6, _, acc ++ [yd], us ++ [y], r8, (k.trans k46.unhold).trans k7, upd_same, (hyk.keep k7).append (.cons (hy.keep k7) .nil), hq⟩
              · rw [if_neg hlen] at hq
                exact hq.elim
    · have e : i = ds.length := by omega
      subst e
      left
      rw [List.drop_length] at hq
      simp only [lcL] at hq
      rw [hq] at h1
      refine ⟨w1, ?_⟩
      have kk : Keep (g.hold Da) (more M1 Da) ρ1 (upd H1 Da (.lst [])) (more M1 Da) ρ1 (upd H1 Da (.lst [])) := Keep.refl _ _ _ _
      have r9 : Rel c g M ρ ⟨restE s1.env s.env vs, s.hp⟩ σ H := Rel.rest (env0 := s1.env) (hp := s1.hp) r2 k r.unhold hno
      refine h1 M ρ Da us H r9 (k2.trans k) hu hr ⟨(r.gd.gp Da (.inr rfl)).1, (r.gd.gp Da (.inr rfl)).2, f2.2.2.1, f2.2.2.2.1, fun j sl hj ho z => ?_⟩
      have hl : s1.env.length = s.env.length := by
        have a := r2.e.len
        have b : s.env.length = (wipe σ vs).length := r.e.len
        rw [a, b, wipe_length]
      by_cases hjv : j ∈ vs
      · have := hno j hjv sl (restE_in hl hjv hj)
        rw [ho] at this
        cases this
      · have hj : (restE s1.env s.env vs)[j]? = some sl := hj
        rw [restE_out hjv] at hj
        exact r.e.pro j sl Da hj ho (by rw [wipe_out hjv]; exact z) (.inr rfl)
  · rw [if_neg hn] at h1
    exact h1.elim
theorem Cc.blk {k : Nat} (C : Cc X c W k) {s : Shared} {H : Hp} {scope : Scope} {cenv : PySem.Env} {fp : List Addr} : Cc (X.blk s H scope cenv fp) c W0 k := ⟨C.hK, C.hm, takes0, C.rm, C.hc, C.nd, C.hw⟩
theorem ts_nil : PTs X [] (tT c W yesT) := ⟨fun pins s σ H Q I h => pts_nil.run pins s σ H Q I (by
  obtain ⟨g, M, ρ, s, rel, h⟩ := h
  exact h M ρ H rel (Keep.refl _ _ _ _))⟩
theorem ts_one {x : Expr} (h : PT X x (tT c W tt)) : PTs X [x] (tT c W tt) := pts_one h
theorem l_lc {k : Nat} {scope : Scope} {own : List (Str × Nat)} {ifs : List Expr} (C : Cc X c W k) (hv : own.map (·.2) = vs) (hi : PI X tg iter (tI c W it)) (ok : BlkOk X.N X.env.scope scope own)
    (hg : ∀ (s : Shared) (H : Hp) (A : Addr) (cl : List (Str × Addr)) (fp : List Addr), PG (X.blk s H scope (compEnvC scope cl A X.env) fp) tg (tG c W0 vs t))
    (ht : ∀ (s : Shared) (H : Hp) (A : Addr) (cl : List (Str × Addr)) (fp : List Addr), Cc (X.blk s H scope (compEnvC scope cl A X.env) fp) c W0 k → PTs (X.blk s H scope (compEnvC scope cl A X.env) fp) ifs (tT c W0 tt))
    (he : ∀ (s : Shared) (H : Hp) (A : Addr) (cl : List (Str × Addr)) (fp : List Addr), Cc (X.blk s H scope (compEnvC scope cl A X.env) fp) c W0 k → PE (X.blk s H scope (compEnvC scope cl A X.env) fp) e (tE c W0 f)) (hs : ∀ x, foldedSetIterable iter X.env x = pure x := by intro _; rfl) :
    PE X (.ListComp e [⟨tg, iter, ifs, 0⟩] scope pos) (tL c W (lcE it t vs tt f)) := by
  subst hv
  exact pe_imp (pe_lc C.hc C.nd hi ok hg (fun s H A cl fp => ht s H A cl fp C.blk) (fun s H A cl fp => he s H A cl fp C.blk) hs) fun σ H Q h => t_lc h
end

/-! ### what is walked -/
def itD (o : Ex) : DS.Itr := fun s => (o s).bind fun d s1 => match d with
  | .lst xs => .ok xs s1
  | .scr xs => .ok xs s1
  | _ => .bad
def itT (o : Ex) : DS.Itr := fun s => (o s).bind fun d s1 => match d with
  | .tup xs => .ok xs s1
  | _ => .bad
/-- lo, lo + 1, .. -/
def upTo (lo : Int) (n : Nat) : List D := (List.range n).map fun i => .int (lo + (i : Nat))
def itR1 (a : Ex) : DS.Itr := fun s => (a s).bind fun d s1 => match d with
  | .int j => if decide (-(2 ^ 62) ≤ j) && decide (j < 2 ^ 62) then .ok (upTo 0 j.toNat) s1 else .bad
  | _ => .bad
def itR2 (a b : Ex) : DS.Itr := fun s => (a s).bind fun x s1 => (b s1).bind fun y s2 => match x, y with
  | .int i, .int j => if decide (-(2 ^ 62) ≤ i) && decide (i < 2 ^ 62) && decide (-(2 ^ 62) ≤ j) && decide (j < 2 ^ 62) then .ok (upTo i (j - i).toNat) s2 else .bad
  | _, _ => .bad
def enumL : Nat → List D → List D
  | _, [] => []
  | n, d :: ds => .pr [.int n, d] :: enumL (n + 1) ds
def itE (o : Ex) : DS.Itr := fun s => (o s).bind fun d s1 => match d with
  | .lst xs => .ok (enumL 0 xs) s1
  | .scr xs => .ok (enumL 0 xs) s1
  | _ => .bad
def zipL : List D → List D → List D
  | d :: ds, e :: es => .pr [d, e] :: zipL ds es
  | _, _ => []
def itZ (a b : Ex) : DS.Itr := fun s => (a s).bind fun x s1 => (b s1).bind fun y s2 => match x, y with
  | .lst xs, .lst ys => .ok (zipL xs ys) s2
  | .scr xs, .lst ys => .ok (zipL xs ys) s2
  | .tup xs, .tup ys => .ok (zipL xs ys) s2
  | _, _ => .bad
section
variable {c : Cn} {g : Gr} {M M' : Am} {ρ ρ' : List Addr} {H H' : Hp} {K : PySem.W.Frag}
theorem RD.sqt {xs : List D} {v : V} (h : RD c M ρ H (.tup xs) v) : ∃ a vs, v = .ref a ∧ RDs c M ρ H xs vs ∧ ∀ (g : Gr) (M1 : Am) (ρ1 : List Addr) (H1 : Hp), Keep g M ρ H M1 ρ1 H1 → SqT c.K H1 a vs := by
  cases h with
  | tupH h m r => exact ⟨_, _, rfl, r, fun g M1 ρ1 H1 k => (TupN.keep k m h).1.sq⟩
  | tupK h r => exact ⟨_, _, rfl, r, fun g M1 ρ1 H1 k => .inr (tupK_sq h)⟩
theorem RD.sql {d : D} {xs : List D} {v : V} (h : RD c M ρ H d v) (e : d = .lst xs ∨ d = .scr xs) : ∃ a vs, v = .ref a ∧ RDs c M ρ H xs vs ∧ ∀ (g : Gr) (M1 : Am) (ρ1 : List Addr) (H1 : Hp), Keep g M ρ H M1 ρ1 H1 → SqL c.K H1 a vs := by
  rcases e with rfl | rfl
  · cases h with
    | lst h m r => exact ⟨_, _, rfl, r, fun g M1 ρ1 H1 k => .inl (.inl (k.st _ _ h m).1)⟩
  · cases h with
    | scr h m r => exact ⟨_, _, rfl, r, fun g M1 ρ1 H1 k => .inl (.inr ⟨_, (k.st _ _ h m).1⟩)⟩
    | scrK h r => exact ⟨_, _, rfl, r, fun g M1 ρ1 H1 k => .inr h⟩
theorem walk_l {a : Addr} {xs : List D} {vs : List V} (r : RDs c M ρ H xs vs) (h : ∀ (g : Gr) (M1 : Am) (ρ1 : List Addr) (H1 : Hp), Keep g M ρ H M1 ρ1 H1 → SqL K H1 a vs) : Walk c M ρ H (Itl K a) xs := by
  intro g M1 ρ1 H1 k dm
  have h1 := h g M1 ρ1 H1 k
  refine ⟨⟨vs, h1, by rw [r.length]; exact Nat.le_refl _⟩, fun i d e => ?_⟩
  obtain ⟨v, hv, hd⟩ := (r.keep k).get e
  exact ⟨⟨vs, v, h1, hv⟩, fun x H2 ⟨e2, y⟩ => by
    subst e2
    have := y vs h1
    rw [hv] at this
    cases this
    exact ⟨Ext.refl _, hd⟩⟩
theorem walk_t {a : Addr} {xs : List D} {vs : List V} (r : RDs c M ρ H xs vs) (h : ∀ (g : Gr) (M1 : Am) (ρ1 : List Addr) (H1 : Hp), Keep g M ρ H M1 ρ1 H1 → SqT K H1 a vs) : Walk c M ρ H (Itt K a) xs := by
  intro g M1 ρ1 H1 k dm
  have h1 := h g M1 ρ1 H1 k
  refine ⟨⟨vs, h1, by rw [r.length]; exact Nat.le_refl _⟩, fun i d e => ?_⟩
  obtain ⟨v, hv, hd⟩ := (r.keep k).get e
  exact ⟨⟨vs, v, h1, hv⟩, fun x H2 ⟨e2, y⟩ => by
    subst e2
    have := y vs h1
    rw [hv] at this
    cases this
    exact ⟨Ext.refl _, hd⟩⟩
theorem walk_r {lo : Int} {n : Nat} : Walk c M ρ H (L2.Itr lo n) (upTo lo n) := by
  intro g M1 ρ1 H1 k dm
  refine ⟨by show n ≤ (upTo lo n).length; simp [upTo], fun i d e => ?_⟩
  unfold upTo at e
  rw [List.getElem?_map] at e
  obtain ⟨j, hj, rfl⟩ := Option.map_eq_some_iff.mp e
  have hi : i < n := by
    have := (List.getElem?_eq_some_iff.mp hj).1
    simpa using this
  rw [List.getElem?_range hi] at hj
  cases hj
  exact ⟨hi, fun x H2 ⟨e2, ex⟩ => by
    subst e2 ex
    exact ⟨Ext.refl _, .int _⟩⟩
theorem enumL_len : ∀ (n : Nat) (xs : List D), (enumL n xs).length = xs.length
  | _, [] => rfl
  | n, _ :: xs => congrArg (· + 1) (enumL_len (n + 1) xs)
theorem enumL_get : ∀ {n : Nat} {xs : List D} {i : Nat} {d : D}, (enumL n xs)[i]? = some d → ∃ x, xs[i]? = some x ∧ d = .pr [.int ((n + i : Nat) : Int), x]
  | _, [], _, _, e => by simp [enumL] at e
  | n, x :: xs, 0, d, e => by
    simp [enumL] at e
    exact ⟨x, rfl, e.symm⟩
  | n, x :: xs, i + 1, d, e => by
    obtain ⟨y, h1, h2⟩ := enumL_get (n := n + 1) (xs := xs) (i := i) (d := d) (by simpa [enumL] using e)
    exact ⟨y, by simpa using h1, by rw [h2, show n + 1 + i = n + (i + 1) by omega]⟩
theorem walk_e {a : Addr} {xs : List D} {vs : List V} (r : RDs c M ρ H xs vs) (h : ∀ (g : Gr) (M1 : Am) (ρ1 : List Addr) (H1 : Hp), Keep g M ρ H M1 ρ1 H1 → SqL K H1 a vs) : Walk c M ρ H (Ite K a) (enumL 0 xs) := by
  intro g M1 ρ1 H1 k dm
  have h1 := h g M1 ρ1 H1 k
  refine ⟨⟨vs, h1, by rw [enumL_len, r.length]; exact Nat.le_refl _⟩, fun i d e => ?_⟩
  obtain ⟨x0, e0, rfl⟩ := enumL_get e
  obtain ⟨v, hv, hd⟩ := (r.keep k).get e0
  refine ⟨⟨vs, v, h1, hv⟩, fun x H2 ⟨T, x1, ex, hT, e2, y⟩ => ?_⟩
  subst ex e2
  have := y vs h1
  rw [hv] at this
  cases this
  refine ⟨Ext.new hT, ?_⟩
  rw [Nat.zero_add]
  exact RD.newP (H' := H1) dm hT (.cons (.int _) (.cons hd .nil))
theorem zipL_len : ∀ (xs ys : List D), (zipL xs ys).length = min xs.length ys.length
  | [], _ => by simp [zipL]
  | _ :: _, [] => by simp [zipL]
  | _ :: xs, _ :: ys => by simp [zipL, zipL_len xs ys]
theorem zipL_get : ∀ {xs ys : List D} {i : Nat} {d : D}, (zipL xs ys)[i]? = some d → ∃ x y, xs[i]? = some x ∧ ys[i]? = some y ∧ d = .pr [x, y]
  | [], _, _, _, e => by simp [zipL] at e
  | _ :: _, [], _, _, e => by simp [zipL] at e
  | x :: xs, y :: ys, 0, d, e => by
    simp [zipL] at e
    exact ⟨x, y, rfl, rfl, e.symm⟩
  | x :: xs, y :: ys, i + 1, d, e => by
    obtain ⟨u, v, h1, h2, h3⟩ := zipL_get (xs := xs) (ys := ys) (i := i) (d := d) (by simpa [zipL] using e)
    exact ⟨u, v, by simpa using h1, by simpa using h2, h3⟩
theorem walk_z {a b : Addr} {xs ys : List D} {vs us : List V} (r : RDs c M ρ H xs vs) (r' : RDs c M ρ H ys us) (h : ∀ (g : Gr) (M1 : Am) (ρ1 : List Addr) (H1 : Hp), Keep g M ρ H M1 ρ1 H1 → SqL K H1 a vs)
    (h' : ∀ (g : Gr) (M1 : Am) (ρ1 : List Addr) (H1 : Hp), Keep g M ρ H M1 ρ1 H1 → SqL K H1 b us) : Walk c M ρ H (Itz K a b) (zipL xs ys) := by
  intro g M1 ρ1 H1 k dm
  have h1 := h g M1 ρ1 H1 k
  have h2 := h' g M1 ρ1 H1 k
  refine ⟨⟨vs, us, h1, h2, by rw [zipL_len, r.length, r'.length]; omega⟩, fun i d e => ?_⟩
  obtain ⟨x0, y0, e0, e1, rfl⟩ := zipL_get e
  obtain ⟨v, hv, hd⟩ := (r.keep k).get e0
  obtain ⟨u, hu, hd'⟩ := (r'.keep k).get e1
  refine ⟨⟨vs, us, v, u, h1, h2, hv, hu⟩, fun x H2 ⟨T, x1, y1, ex, hT, e2, p, q⟩ => ?_⟩
  subst ex e2
  have p := p vs h1
  have q := q us h2
  rw [hv] at p
  rw [hu] at q
  cases p
  cases q
  exact ⟨Ext.new hT, RD.newP (H' := H1) dm hT (.cons hd (.cons hd' .nil))⟩
theorem walk_zT {a b : Addr} {xs ys : List D} {vs us : List V} (r : RDs c M ρ H xs vs) (r' : RDs c M ρ H ys us) (h : ∀ (g : Gr) (M1 : Am) (ρ1 : List Addr) (H1 : Hp), Keep g M ρ H M1 ρ1 H1 → SqT K H1 a vs)
    (h' : ∀ (g : Gr) (M1 : Am) (ρ1 : List Addr) (H1 : Hp), Keep g M ρ H M1 ρ1 H1 → SqT K H1 b us) : Walk c M ρ H (RZ.ItzT K a b) (zipL xs ys) := by
  intro g M1 ρ1 H1 k dm
  have h1 := h g M1 ρ1 H1 k
  have h2 := h' g M1 ρ1 H1 k
  refine ⟨⟨vs, us, h1, h2, by rw [zipL_len, r.length, r'.length]; omega⟩, fun i d e => ?_⟩
  obtain ⟨x0, y0, e0, e1, rfl⟩ := zipL_get e
  obtain ⟨v, hv, hd⟩ := (r.keep k).get e0
  obtain ⟨u, hu, hd'⟩ := (r'.keep k).get e1
  refine ⟨⟨vs, us, v, u, h1, h2, hv, hu⟩, fun x H2 ⟨T, x1, y1, ex, hT, e2, p, q⟩ => ?_⟩
  subst ex e2
  have p := p vs h1
  have q := q us h2
  rw [hv] at p
  rw [hu] at q
  cases p
  cases q
  exact ⟨Ext.new hT, RD.newP (H' := H1) dm hT (.cons hd (.cons hd' .nil))⟩
end
section
variable {X : Cx} {c : Cn} {g : Gr} {W : WX} {k : Nat} {a b : Ex} {e e2 tg : Expr} {p pos tpos : Pos} {elts : List Expr} {kk : Nat}
theorem OutI.keep {M M1 : Am} {ρ ρ1 : List Addr} {σ : L2.St} {H H1 : Hp} {Q : It → Hp → Prop} (k : Keep g M ρ H M1 ρ1 H1) {r : R (List DS.D)} (h : OutI c g W M ρ σ H r Q) : OutI c g W M1 ρ1 σ H1 r Q := by
  cases r with
  | ok d s' => exact fun M' ρ' J H' a b => h M' ρ' J H' a (k.trans b)
  | exc x s' => exact fun M' ρ' H' cls dd a b e => h M' ρ' H' cls dd a (k.trans b) e
  | bad => exact h
theorem i_lst (C : Cc X c W k) (h : PE X e (tE c W a)) : PI X tg e (tI c W (itD a)) := pi_imp (pi_list h) fun σ H Rk h => by
  obtain ⟨g, M, ρ, s, rel, h⟩ := h
  refine tE.bind (out := fun M ρ H r => OutI c g W M ρ σ H r Rk) rel (fun _ _ z => z) (fun z => z) h fun d s1 M1 ρ1 v H1 r1 k1 hd h1 => ?_
  have he : ∃ xs, (d = .lst xs ∨ d = .scr xs) := by
    cases d with
    | lst xs => exact ⟨xs, .inl rfl⟩
    | scr xs => exact ⟨xs, .inr rfl⟩
    | _ => exact h1.elim
  obtain ⟨xs, he⟩ := he
  obtain ⟨ad, vs, rfl, h2, h3⟩ := hd.sql he
  rw [C.hK]
  refine ⟨ad, rfl, ⟨vs, h3 g M1 ρ1 H1 (Keep.refl _ _ _ _)⟩, ?_⟩
  rcases he with rfl | rfl
  · exact h1 M1 ρ1 _ H1 r1 k1 (walk_l h2 h3)
  · exact h1 M1 ρ1 _ H1 r1 k1 (walk_l h2 h3)
theorem i_tup (C : Cc X c W k) (h : PE X e (tE c W a)) : PI X tg e (tI c W (itT a)) := pi_imp (pi_tup h) fun σ H Rk h => by
  obtain ⟨g, M, ρ, s, rel, h⟩ := h
  refine tE.bind (out := fun M ρ H r => OutI c g W M ρ σ H r Rk) rel (fun _ _ z => z) (fun z => z) h fun d s1 M1 ρ1 v H1 r1 k1 hd h1 => ?_
  have he : ∃ xs, d = .tup xs := by
    cases d with
    | tup xs => exact ⟨xs, rfl⟩
    | _ => exact h1.elim
  obtain ⟨xs, rfl⟩ := he
  obtain ⟨ad, vs, rfl, h2, h3⟩ := hd.sqt
  rw [C.hK]
  exact ⟨ad, rfl, ⟨vs, h3 g M1 ρ1 H1 (Keep.refl _ _ _ _)⟩, h1 M1 ρ1 _ H1 r1 k1 (walk_t h2 h3)⟩
theorem i_r1 (C : Cc X c W k) (hm : c.mg "range" = none) (h : PE X e (tE c W a)) (hg : Gl X "range" := by rfl) (hs : starEach [e] X.env = [(false, eval e X.env)] := by rfl) : PI X tg (.Call (.Name "range" p) [e] [] pos) (tI c W (itR1 a)) :=
  pi_imp (pi_range1 hg (by rw [C.hm]; exact hm) (pa_cons h pa_nil hs) hs) fun σ H Rk h => by
  obtain ⟨g, M, ρ, s, rel, h⟩ := h
  refine tE.bind (out := fun M ρ H r => OutI c g W M ρ σ H r Rk) rel (fun _ _ z => z) (fun z => z) h fun d s1 M1 ρ1 v H1 r1 k1 hd h1 => ?_
  have he : ∃ i, d = .int i := by
    cases d with
    | int i => exact ⟨i, rfl⟩
    | _ => exact h1.elim
  obtain ⟨j, rfl⟩ := he
  cases hd
  simp only at h1
  split at h1
  · rename_i hb
    simp only [Bool.and_eq_true, decide_eq_true_eq] at hb
    exact ⟨j, rfl, hb.1, hb.2, h1 M1 ρ1 _ H1 r1 k1 walk_r⟩
  · exact h1.elim
theorem i_r2 (C : Cc X c W k) (hm : c.mg "range" = none) (h : PE X e (tE c W a)) (h' : PE X e2 (tE c W b)) (hg : Gl X "range" := by rfl) (hs : starEach [e, e2] X.env = [(false, eval e X.env), (false, eval e2 X.env)] := by rfl)
    (hs2 : starEach [e2] X.env = [(false, eval e2 X.env)] := by rfl) : PI X tg (.Call (.Name "range" p) [e, e2] [] pos) (tI c W (itR2 a b)) :=
  pi_imp (pi_range2 hg (by rw [C.hm]; exact hm) (pa_cons h (pa_cons h' pa_nil hs2) (by rw [hs, hs2])) hs hs2) fun σ H Rk h => by
  obtain ⟨g, M, ρ, s, rel, h⟩ := h
  refine tE.bind (out := fun M ρ H r => OutI c g W M ρ σ H r Rk) rel (fun _ _ z => z) (fun z => z) h fun d s1 M1 ρ1 v H1 r1 k1 hd h1 => ?_
  refine tE.bind (out := fun M ρ H r => OutI c g W M ρ σ H r Rk) r1 (fun _ _ z => z) (fun z => z) (OutI.keep k1 h1) fun d' s2 M2 ρ2 v' H2 r2 k2 hd' h2 => ?_
  have he : ∃ i j, d = .int i ∧ d' = .int j := by
    cases d <;> first | exact h2.elim | skip
    cases d' <;> first | exact h2.elim | skip
    exact ⟨_, _, rfl, rfl⟩
  obtain ⟨i, j, rfl, rfl⟩ := he
  cases hd
  cases hd'
  simp only at h2
  split at h2
  · rename_i hb
    simp only [Bool.and_eq_true, decide_eq_true_eq] at hb
    exact ⟨i, j, rfl, ⟨hb.1.1.1, hb.1.1.2, hb.1.2, hb.2⟩, h2 M2 ρ2 _ H2 r2 k2 walk_r⟩
  · exact h2.elim
theorem i_enum (C : Cc X c W k) (hm : c.mg "enumerate" = none) (h : PE X e (tE c W a)) (hg : Gl X "enumerate" := by rfl) (hs : starEach [e] X.env = [(false, eval e X.env)] := by rfl) : PI X (.Tuple elts kk tpos) (.Call (.Name "enumerate" p) [e] [] pos) (tI c W (itE a)) :=
  pi_imp (pi_enum hg (by rw [C.hm]; exact hm) (pa_cons h pa_nil hs) hs) fun σ H Rk h => by
  obtain ⟨g, M, ρ, s, rel, h⟩ := h
  refine tE.bind (out := fun M ρ H r => OutI c g W M ρ σ H r Rk) rel (fun _ _ z => z) (fun z => z) h fun d s1 M1 ρ1 v H1 r1 k1 hd h1 => ?_
  have he : ∃ xs, (d = .lst xs ∨ d = .scr xs) := by
    cases d with
    | lst xs => exact ⟨xs, .inl rfl⟩
    | scr xs => exact ⟨xs, .inr rfl⟩
    | _ => exact h1.elim
  obtain ⟨xs, he⟩ := he
  obtain ⟨ad, vs, rfl, h2, h3⟩ := hd.sql he
  rw [C.hK]
  refine ⟨ad, vs, rfl, h3 g M1 ρ1 H1 (Keep.refl _ _ _ _), ?_⟩
  rcases he with rfl | rfl
  · exact h1 M1 ρ1 _ H1 r1 k1 (walk_e h2 h3)
  · exact h1 M1 ρ1 _ H1 r1 k1 (walk_e h2 h3)
theorem i_zip (C : Cc X c W k) (hm : c.mg "zip" = none) (h : PE X e (tE c W a)) (h' : PE X e2 (tE c W b)) (hg : Gl X "zip" := by rfl) (hs : starEach [e, e2] X.env = (false, eval e X.env) :: starEach [e2] X.env := by rfl)
    (hs2 : starEach [e2] X.env = (false, eval e2 X.env) :: starEach [] X.env := by rfl) (hpl : (backTo pos (starEach [e2] X.env)).any (·.1) = false := by rfl) : PI X (.Tuple elts kk tpos) (.Call (.Name "zip" p) [e, e2] [] pos) (tI c W (itZ a b)) :=
  pi_imp (RZ.pi_zipA hg (by rw [C.hm]; exact hm) (pa_cons h (pa_cons h' pa_nil hs2) hs) hs hpl) fun σ H Rk h => by
  obtain ⟨g, M, ρ, s, rel, h⟩ := h
  refine tE.bind (out := fun M ρ H r => OutI c g W M ρ σ H r Rk) rel (fun _ _ z => z) (fun z => z) h fun d s1 M1 ρ1 v H1 r1 k1 hd h1 => ?_
  refine tE.bind (out := fun M ρ H r => OutI c g W M ρ σ H r Rk) r1 (fun _ _ z => z) (fun z => z) (OutI.keep k1 h1) fun d' s2 M2 ρ2 v' H2 r2 k2 hd' h2 => ?_
  have h2 := OutI.keep k2 h2
  have hd := hd.keep k2
  rw [C.hK]
  have he : (∃ xs ys, (d = .lst xs ∨ d = .scr xs) ∧ d' = .lst ys ∧ OutI c g W M2 ρ2 σ H2 (.ok (zipL xs ys) s2) Rk) ∨ ∃ xs ys, d = .tup xs ∧ d' = .tup ys ∧ OutI c g W M2 ρ2 σ H2 (.ok (zipL xs ys) s2) Rk := by
    cases d <;> cases d' <;> first | exact h2.elim | skip
    · exact .inr ⟨_, _, rfl, rfl, h2⟩
    · exact .inl ⟨_, _, .inl rfl, rfl, h2⟩
    · exact .inl ⟨_, _, .inr rfl, rfl, h2⟩
  rcases he with ⟨xs, ys, e1, rfl, h3⟩ | ⟨xs, ys, rfl, rfl, h3⟩
  · obtain ⟨ad, vs, rfl, h4, h5⟩ := hd.sql e1
    obtain ⟨ad', us, rfl, h6, h7⟩ := hd'.sql (.inl rfl)
    exact ⟨ad, ad', vs, us, rfl, .inl ⟨h5 g M2 ρ2 H2 (Keep.refl _ _ _ _), h7 g M2 ρ2 H2 (Keep.refl _ _ _ _), h3 M2 ρ2 _ H2 r2 (Keep.refl _ _ _ _) (walk_z h4 h6 h5 h7)⟩⟩
  · obtain ⟨ad, vs, rfl, h4, h5⟩ := hd.sqt
    obtain ⟨ad', us, rfl, h6, h7⟩ := hd'.sqt
    exact ⟨ad, ad', vs, us, rfl, .inr ⟨h5 g M2 ρ2 H2 (Keep.refl _ _ _ _), h7 g M2 ρ2 H2 (Keep.refl _ _ _ _), h3 M2 ρ2 _ H2 r2 (Keep.refl _ _ _ _) (walk_zT h4 h6 h5 h7)⟩⟩
end
end DS
/-! DS10: isinstance, min, max, sorted, or of lists, parallel stores. -/
namespace DS
open PySem PySem.Spec PyProof.Rows L2

/-! ### isinstance -/
inductive Ty where
  | non | bl | int | str | tup | lst | dct
  deriving DecidableEq
def Ty.name : Ty → String
  | .non => "NoneType" | .bl => "bool" | .int => "int" | .str => "str" | .tup => "tuple" | .lst => "list" | .dct => "dict"
def Ty.sub (a b : Ty) : Bool := decide (a = b) || (decide (a = .bl) && decide (b = .int))
def tyD : D → Option Ty
  | .non => some .non
  | .bl _ => some .bl
  | .int _ => some .int
  | .str _ => some .str
  | .tup _ => some .tup
  | .lst _ => some .lst
  | .scr _ => some .lst
  | .dct false _ _ => some .dct
  | _ => none
def isiD (ts : List Ty) (d : D) : Option D := (tyD d).map fun a => .bl (ts.any a.sub)
theorem kit_sub (K : PySem.W.Frag) (a b : Ty) (h : b ≠ .non) : PySem.W.kitOne K (.type a.name) (.type b.name) = some (a.sub b) := by
  cases b <;> first | exact absurd rfl h | (cases a <;> exact kit_ty (by decide +kernel))
section
variable {c : Cn} {M : Am} {ρ : List Addr} {H : Hp} {v : V}
theorem RW.ty {d : D} {a : Ty} (h : RW c M ρ H d v) (e : tyD d = some a) : TyX c.K H v (.type a.name) := by
  cases d <;> first | cases e | skip
  · rw [h.non]; exact .base .non
  · rw [h.bl]; exact .base (.bl _)
  · rw [h.int]; exact .base (.int _)
  · rw [h.str]; exact .base (.str _)
  · cases h.rdt with
    | tupH q m r =>
      obtain ⟨o, q, _⟩ := q
      exact .fTuple q
    | tupK q r =>
      obtain ⟨o, its, n, h1, h2, _⟩ := q
      exact .kTuple h1 h2
  · obtain ⟨p, vs, rfl, h1, _⟩ := h.lst
    exact .base (.lst h1)
  · cases h with
    | v h _ =>
      cases h with
      | scr h m r => exact .base (.frz h)
      | scrK h r =>
        obtain ⟨o, its, n, h1, h2, _⟩ := h
        exact .kList h1 h2
  · obtain ⟨p, rfl, h1⟩ := h.dct
    rename_i k ks vs
    cases k with
    | false =>
      cases e
      obtain ⟨kvs, h1, _⟩ := h1
      exact .base (.dK h1)
    | true => cases e
end
theorem kit_any (K : PySem.W.Frag) (a : Ty) : ∀ ts : List Ty, (∀ t ∈ ts, t ≠ .non) → PySem.W.kitAny K (.type a.name) (ts.map fun t => .type t.name) = some (ts.any a.sub)
  | [], _ => rfl
  | t :: ts, h => by
    refine kitAny_cons (b := a.sub t) (r := (t :: ts).any a.sub) (kit_sub K a t (h t List.mem_cons_self)) (fun e => ?_) (fun e => by simp [e])
    rw [List.any_cons, e, Bool.false_or]
    exact kit_any K a ts fun u hu => h u (List.mem_cons_of_mem _ hu)
/-- names of types -/
def TyArgs (X : Cx) (es : List Expr) (ts : List Ty) : Prop := ∃ t, PA X es t ∧ ∀ σ H Q, Q (ts.map fun t => V.ty t.name) H → t σ H Q
section
variable {X : Cx} {c : Cn} {g : Gr} {W : WX} {k : Nat} {a : Expr} {o : Op} {p p2 pos : Pos} {ts : List Ty} {t : Ty} {x : Str} {es : List Expr}
theorem ty_nil : TyArgs X [] [] := ⟨_, pa_nil, fun _ _ _ h => h⟩
theorem ty_cons (hm : X.mg x = none) (hr : TyArgs X es ts) (hv : bootBuiltins x = some (.type t.name) := by first | rfl | decide +kernel) (hg : Gl X x := by rfl) (hn : x ≠ "__name__" := by decide) (hd : (x == ("__debug__" : Str)) = false := by decide)
    (hs : starEach (.Name x p :: es) X.env = (false, eval (.Name x p) X.env) :: starEach es X.env := by rfl) : TyArgs X (.Name x p :: es) (t :: ts) := by
  obtain ⟨tr, h1, h2⟩ := hr
  exact ⟨_, pa_cons (pe_bltn (v := .ty t.name) hg hm hv rfl hn hd) h1 hs, fun σ H Q h => h2 σ H _ h⟩
theorem e_isi (C : Cc X c W k) (ha : PE X a (tO c W o)) {e : Expr} (ht : TyArgs X [e] [t]) (hm : c.mg "isinstance" = none) (hb : t ≠ .non := by decide) (hg : Gl X "isinstance" := by rfl)
    (hs : starEach [a, e] X.env = (false, eval a X.env) :: starEach [e] X.env := by rfl) (hpl : (backTo pos (starEach [e] X.env)).any (·.1) = false := by rfl) :
    PE X (.Call (.Name "isinstance" p) [a, e] [] pos) (tE c W (op1 (isiD [t]) o)) := by
  obtain ⟨tr, h1, h2⟩ := ht
  refine pe_imp (pe_callB call_isi hg (by rw [C.hm]; exact hm) (by first | rfl | decide +kernel) (pa_cons ha h1 hs) (by decide) (by decide) hs hpl) fun σ H Q h => ?_
  have z := t_op1 (c := c) (r := fun v H Q => rIsi X.K [v, .ty t.name] H Q) (F := isiD [t]) (fun M ρ H x e v Q d hx hF q => by
    obtain ⟨b, hb', rfl⟩ := Option.map_eq_some_iff.mp hF
    exact ⟨v, _, _, _, _, rfl, .ty t.name, C.hK ▸ hx.ty hb', by rw [kit_sub X.K b t hb], by
      have : ([t].any b.sub) = b.sub t := by simp
      rw [← this]
      exact q _ H (Ext.refl H) (.bl _)⟩) h
  obtain ⟨g, M, ρ, s, rel, z⟩ := z
  refine ⟨g, M, ρ, s, rel, ?_⟩
  cases q : o s with
  | bad => rw [q] at z; exact z
  | exc x s' => rw [q] at z; exact z
  | ok tk s' =>
    rw [q] at z
    exact fun M' ρ' v H' r k' t' => h2 σ H' _ (z M' ρ' v H' r k' t')
theorem e_isiT (C : Cc X c W k) (ha : PE X a (tO c W o)) {kk : Nat} {tp : Pos} (ht : TyArgs X es ts) (hm : c.mg "isinstance" = none) (hb : ∀ t ∈ ts, t ≠ .non := by decide) (hl : ts.length ≤ 100 := by decide) (hg : Gl X "isinstance" := by rfl)
    (hs : starEach [a, .Tuple es kk tp] X.env = (false, eval a X.env) :: starEach [.Tuple es kk tp] X.env := by rfl) (hs2 : starEach [.Tuple es kk tp] X.env = (false, eval (.Tuple es kk tp) X.env) :: starEach [] X.env := by rfl) (hpl : (backTo pos (starEach [.Tuple es kk tp] X.env)).any (·.1) = false := by rfl) :
    PE X (.Call (.Name "isinstance" p) [a, .Tuple es kk tp] [] pos) (tE c W (op1 (isiD ts) o)) := by
  obtain ⟨tr, h1, h2⟩ := ht
  refine pe_imp (pe_callB call_isiT hg (by rw [C.hm]; exact hm) (by first | rfl | decide +kernel) (pa_cons ha (pa_cons (pe_tup h1) pa_nil hs2) hs) (by decide) (by decide) hs hpl) fun σ H Q h => ?_
  have z := t_op1 (c := c) (r := fun v H Q => ∀ p, H p = none → rIsiT X.K [v, .ref p] (upd H p (.tup (ts.map fun t => V.ty t.name))) Q) (F := isiD ts) (fun M ρ H x e v Q d hx hF q => by
    obtain ⟨b, hb', rfl⟩ := Option.map_eq_some_iff.mp hF
    intro p hp
    have ty : TyX X.K (upd H p (.tup (ts.map fun t => V.ty t.name))) v (.type b.name) := by
      have hx2 : RW c M ρ (upd H p (.tup (ts.map fun t => V.ty t.name))) x v := by
        cases hx with
        | v h n => exact .v (h.ext (Ext.new hp)) n
        | l h r => exact .l (Ext.new hp _ _ h) (r.ext (Ext.new hp))
        | d h =>
          rename_i k2 ks vs a'
          refine .d ?_
          cases k2 with
          | false =>
            obtain ⟨kvs, g1, g2, g3⟩ := h
            exact ⟨kvs, Ext.new hp _ _ g1, g2, g3.ext (Ext.new hp)⟩
          | true =>
            obtain ⟨o2, xs2, us2, g1, g2, g3, g4, g5, g6⟩ := h
            exact ⟨o2, xs2, us2, Ext.new hp _ _ g1, g2, g3, g4.ext (Ext.new hp), g5.ext (Ext.new hp), g6⟩
      exact C.hK ▸ hx2.ty hb'
    have pr : ∀ ts : List Ty, Paired ClsV (ts.map fun t => V.ty t.name) (ts.map fun t => Value.type t.name) := fun ts => by
      induction ts with
      | nil => exact .nil
      | cons t ts ih => exact .cons (.ty t.name) ih
    exact ⟨v, p, _, _, _, _, rfl, upd_same, pr ts, ty, kit_any X.K b ts hb, q _ _ (Ext.new hp) (.bl _)⟩) h
  obtain ⟨g, M, ρ, s, rel, z⟩ := z
  refine ⟨g, M, ρ, s, rel, ?_⟩
  cases q : o s with
  | bad => rw [q] at z; exact z
  | exc x s' => rw [q] at z; exact z
  | ok tk s' =>
    rw [q] at z
    exact fun M' ρ' v H' r k' t' => h2 σ H' _ ⟨by rw [List.length_map]; exact Nat.le_trans hl (by decide), z M' ρ' v H' r k' t'⟩
end

/-! ### min, max of two -/
def minD : D → D → Option D
  | .int i, .int j => some (.int (if j < i then j else i))
  | _, _ => none
def maxD : D → D → Option D
  | .int i, .int j => some (.int (if j > i then j else i))
  | _, _ => none
section
variable {X : Cx} {c : Cn} {g : Gr} {W : WX} {k : Nat} {a b : Expr} {o1 o2 : Op} {p pos : Pos}
theorem e_min2 (C : Cc X c W k) (ha : PE X a (tO c W o1)) (hb : PE X b (tO c W o2)) (hm : c.mg "min" = none) (hg : Gl X "min" := by rfl) (hs : starEach [a, b] X.env = (false, eval a X.env) :: starEach [b] X.env := by rfl) (hs2 : starEach [b] X.env = (false, eval b X.env) :: starEach [] X.env := by rfl)
    (hpl : (backTo pos (starEach [b] X.env)).any (·.1) = false := by rfl) : PE X (.Call (.Name "min" p) [a, b] [] pos) (tE c W (op2 minD o1 o2)) :=
  pe_imp (pe_callB (call_min2 C.hc) hg (by rw [C.hm]; exact hm) (by first | rfl | decide +kernel) (pa_cons ha (pa_cons hb pa_nil hs2) hs) (by decide) (by decide) hs hpl) fun σ H Q h => t_op2 (r := fun x y H Q => ∃ i j, [x, y] = [.int i, .int j] ∧ Q (.int (if j < i then j else i)) H) (fun M ρ H x y e v u Q d hx hy hF q => by
    unfold minD at hF
    split at hF
    · cases hF
      exact ⟨_, _, by rw [hx.int, hy.int], q _ H (Ext.refl H) (.int _)⟩
    · cases hF) h
theorem e_max2 (C : Cc X c W k) (ha : PE X a (tO c W o1)) (hb : PE X b (tO c W o2)) (hm : c.mg "max" = none) (hg : Gl X "max" := by rfl) (hs : starEach [a, b] X.env = (false, eval a X.env) :: starEach [b] X.env := by rfl) (hs2 : starEach [b] X.env = (false, eval b X.env) :: starEach [] X.env := by rfl)
    (hpl : (backTo pos (starEach [b] X.env)).any (·.1) = false := by rfl) : PE X (.Call (.Name "max" p) [a, b] [] pos) (tE c W (op2 maxD o1 o2)) :=
  pe_imp (pe_callB (call_max2 C.hc) hg (by rw [C.hm]; exact hm) (by first | rfl | decide +kernel) (pa_cons ha (pa_cons hb pa_nil hs2) hs) (by decide) (by decide) hs hpl) fun σ H Q h => t_op2 (r := fun x y H Q => ∃ i j, [x, y] = [.int i, .int j] ∧ Q (.int (if j > i then j else i)) H) (fun M ρ H x y e v u Q d hx hy hF q => by
    unfold maxD at hF
    split at hF
    · cases hF
      exact ⟨_, _, by rw [hx.int, hy.int], q _ H (Ext.refl H) (.int _)⟩
    · cases hF) h
end

/-! ### sorted, ints -/
def insI (a : Int) : List Int → List Int
  | [] => [a]
  | b :: l => if a ≤ b then a :: b :: l else b :: insI a l
def sortI : List Int → List Int
  | [] => []
  | a :: l => insI a (sortI l)
theorem insI_perm (a : Int) : ∀ l : List Int, (insI a l).Perm (a :: l)
  | [] => .refl _
  | b :: l => by
    unfold insI
    split
    · exact .refl _
    · exact ((insI_perm a l).cons b).trans (.swap a b l)
theorem sortI_perm : ∀ l : List Int, (sortI l).Perm l
  | [] => .refl _
  | a :: l => (insI_perm a (sortI l)).trans ((sortI_perm l).cons a)
theorem insI_sorted (a : Int) : ∀ {l : List Int}, l.Pairwise (· ≤ ·) → (insI a l).Pairwise (· ≤ ·)
  | [], _ => List.pairwise_singleton _ _
  | b :: l, h => by
    obtain ⟨h1, h2⟩ := List.pairwise_cons.mp h
    unfold insI
    by_cases q : a ≤ b
    · rw [if_pos q]
      refine List.pairwise_cons.mpr ⟨fun x hx => ?_, h⟩
      rcases List.mem_cons.mp hx with rfl | hx
      · exact q
      · exact Int.le_trans q (h1 x hx)
    · rw [if_neg q]
      refine List.pairwise_cons.mpr ⟨fun x hx => ?_, insI_sorted a h2⟩
      rcases List.mem_cons.mp ((insI_perm a l).mem_iff.mp hx) with rfl | hx
      · exact Int.le_of_lt (Int.not_le.mp q)
      · exact h1 x hx
theorem sortI_sorted : ∀ l : List Int, (sortI l).Pairwise (· ≤ ·)
  | [] => .nil
  | a :: l => insI_sorted a (sortI_sorted l)
theorem sortI_of {ns ns' : List Int} (h1 : ns'.Perm ns) (h2 : ns'.Pairwise (· ≤ ·)) : ns' = sortI ns :=
  List.Perm.eq_of_pairwise (le := fun a b => a ≤ b) (fun a b _ _ h h' => Int.le_antisymm h h') h2 (sortI_sorted ns) (h1.trans (sortI_perm ns).symm)
def sortedL : D → Option (List D)
  | .lst xs => (toInts xs).map fun ns => (sortI ns).map .int
  | .scr xs => (toInts xs).map fun ns => (sortI ns).map .int
  | .tup xs => (toInts xs).map fun ns => (sortI ns).map .int
  | _ => none
section
open PySem.W
variable {prog : Program} {w : World} {A : Around} {E : Value → Shared → Prop} {s : Shared}
theorem collect_tup {t : Addr} {us : List Value} {R : List Value → Shared → Prop} (ht : s.heap.IsTuple t us.toArray)
    (hR : R us { s with heap := (s.heap.push (seqObj "list" #[] 0)).update s.heap.objs.size (Obj.mapSeq (· ++ us.toArray)) }) (hz : us.length ≤ sizeLine) :
    wpAny (model prog w) A (collect (.ref t)) R E s := by
  obtain ⟨ob, e1, e2, m, e3⟩ := id ht
  unfold collect
  refine wpAny_bind (wpAny_runValue (codeAny_builtin entry_proto_collect' ?_)); show wpAny _ _ (do again (.builtin "list.__iadd__" ⟨[← newList [], .ref t], []⟩)) _ _ s
  refine wpAny_bind (wpAny_newList (wpAny_pure ⟨Code.quiet_builtin _ (by decide +kernel), codeAny_builtin entry_list_iadd' ?_⟩)); show wpAny _ _ (Builtin.List.listExtendWith (.ref s.heap.objs.size) (.ref t) (.ref s.heap.objs.size)) _ _ { s with heap := s.heap.push (seqObj "list" #[] 0) }
  unfold Builtin.List.listExtendWith
  have e4 : (s.heap.push (seqObj "list" #[] 0)).get? t = some ob := Heap.get?_push_of_some _ e1
  have e5 : (Value.type "tuple" == Value.type "tuple") = true := by rfl
  refine wpAny_bind (wpAny_typeOf (T := "tuple") ⟨ob, e4, e2⟩ ?_); rw [if_pos (by rw [e5]; simp)]
  refine wpAny_bind (listItems_at e4 e3 (wpAny_bind (listItems_at (xs := #[]) (n := 0) (Heap.get?_push_size _ rfl) rfl ?_))); rw [if_neg (by simp)]
  refine wpAny_bind (listUpdate_at (xs := #[]) (n := 0) (Heap.get?_push_size _ rfl) rfl (wpAny_pure ?_) (Nat.zero_le _) (by show (#[] ++ us.toArray).size ≤ sizeLine + 1; simp only [Array.size_append, List.size_toArray, List.length_nil]; omega))
  refine wpAny_bind (wpAny_load (get?_update_seq (Heap.get?_push_size _ rfl) _) ?_); show wpAny _ _ (pure ((#[] : Array Value) ++ us.toArray).toList) R E _
  rw [show ((#[] : Array Value) ++ us.toArray).toList = us by simp]; exact wpAny_pure hR
theorem sorted_tup {t : Addr} {us : List Value} {lt : Value → Value → Bool} {R : Value → Shared → Prop} (O : SrtO.Swo lt) (ht : s.heap.IsTuple t us.toArray) (hz : us.length ≤ sizeLine)
    (hS : 2 ≤ us.length → ∀ (h₁ : Heap) (a : Addr), h₁.get? a = some (seqObj "list" us.toArray 0) → (∀ b o, s.heap.get? b = some o → b ≠ a ∧ h₁.get? b = some o) → SrtO.SortableO prog w A.in1.in1 { s with heap := h₁ } a us lt)
    (hR : ∀ out : List Value, SrtO.Srtd lt out → SrtO.Stb lt out us → R (.ref (s.heap.objs.size + 1)) { s with heap := sortedAll s.heap us out.toArray }) :
    wpAny (model prog w) A (call (.builtin "sorted") [.ref t]) R E s := by
  refine Calls.call_function_entry kind_sorted plain_sorted entry_sorted (args_sorted1 _) ?_; unfold Builtin.«sorted»
  refine wpAny_bind (m := checkCount "sorted" 1 1 _) (wpAny_pure (wpAny_bind (collect_tup ht (wpAny_bind (wpAny_newList ?_ hz)) hz)))
  have e1 : ((s.heap.push (seqObj "list" #[] 0)).update s.heap.objs.size (Obj.mapSeq (· ++ us.toArray))).objs.size = s.heap.objs.size + 1 := by rw [Heap.size_update, size_push']
  have e2 : (((s.heap.push (seqObj "list" #[] 0)).update s.heap.objs.size (Obj.mapSeq (· ++ us.toArray))).push (seqObj "list" us.toArray 0)).get? (s.heap.objs.size + 1) = some (seqObj "list" us.toArray 0) := by rw [← e1]; exact Heap.get?_push_size _ rfl
  have e3 : ∀ b o, s.heap.get? b = some o → b ≠ s.heap.objs.size + 1 ∧ (((s.heap.push (seqObj "list" #[] 0)).update s.heap.objs.size (Obj.mapSeq (· ++ us.toArray))).push (seqObj "list" us.toArray 0)).get? b = some o := fun b o q => by
    have l : b < s.heap.objs.size := Heap.lt_size q
    exact ⟨Nat.ne_of_lt (Nat.lt_succ_of_lt l), Heap.get?_push_of_some _ (by rw [Heap.get?_update_ne _ _ _ _ (Nat.ne_of_lt l)]; exact Heap.get?_push_of_some _ q)⟩
  show wpAny _ _ _ _ _ { s with heap := ((s.heap.push (seqObj "list" #[] 0)).update s.heap.objs.size (Obj.mapSeq (· ++ us.toArray))).push (seqObj "list" us.toArray 0) }; rw [e1]
  exact wpAny_bind (wpAny_holding (wpAny_call_entry slot_list_sort ⟨_, e2, rfl⟩ entry_list_sort (SrtO.list_sort_ord O e2 hz (fun h2 => hS h2 _ _ e2 e3) fun out h1 h2 => ⟨_, rfl, wpAny_pure ⟨_, rfl, hR out h1 h2⟩⟩) (args_list_sort _)))
end
section
variable {X : Cx} {c : Cn} {g : Gr} {W : WX} {k : Nat} {a b : Expr} {o1 o2 : Op} {p pos : Pos}
/-- .. of a tuple -/
def rSortedTI (K : PySem.W.Frag) : List V → Hp → VK → Prop := fun vs H Q => ∃ (a : Addr) (ns : List Int), vs = [V.ref a] ∧ SqT K H a (ns.map V.int) ∧
  ∀ (ns' : List Int) (p : Addr), ns'.Perm ns → ns'.Pairwise (· ≤ ·) → H p = none → Q (.ref p) (upd H p (.lst (ns'.map V.int)))
theorem cr_sortedTI : CallR X (.builtin "sorted") (rSortedTI X.K) := by
  intro pins s σ H vs us Q I r h
  obtain ⟨a, ns, rfl, hs, q⟩ := h
  obtain ⟨its, rv, hl, hz⟩ := I.tuple hs
  rw [Vals.ref1 r]
  have hi := rv.ints
  refine sorted_tup SrtO.swo_int hl (by rw [← rv.length]; exact hz) (fun h2 h₁ a' _ _ => SrtO.ints_sortable hi h2) fun out h1 h2 => ?_
  obtain ⟨k1, k2, k3⟩ := SrtO.ints_out hi h1 h2
  obtain ⟨ep, he'⟩ := PyProof.Rows.sortedAll_at s.heap its out.toArray
  have hlen : ((out.map SrtO.iv).map V.int).length ≤ sizeLine := by
    rw [List.length_map, k2.length_eq]
    rw [List.length_map] at hz
    exact hz
  exact ⟨.ref _, upd H (s.heap.objs.size + 1) (.lst ((out.map SrtO.iv).map V.int)), I.laid (t' := s.toks) (fun _ _ => PyProof.Rows.sortedAll_old) (Nat.le_succ _) ⟨hlen, out, ep, vals_of_ints k1, he'⟩, rfl, q _ _ k2 k3 (I.hok.fresh (Nat.le_succ _))⟩
theorem rds_ints {M : Am} {ρ : List Addr} {H : Hp} : ∀ ns : List Int, RDs c M ρ H (ns.map .int) (ns.map .int)
  | [] => .nil
  | n :: ns => .cons (.int n) (rds_ints ns)
theorem v_sorted (hK : X.K = c.K) : V1L c (fun v H Q => rSortedI X.K [v] H Q ∨ rSortedTI X.K [v] H Q) sortedL := by
  intro M ρ H x v xs Q d hx hF q
  unfold sortedL at hF
  split at hF
  · obtain ⟨ns, h, rfl⟩ := Option.map_eq_some_iff.mp hF
    obtain ⟨a, vs, e1, h1, h2⟩ := hx.lst
    refine .inl ⟨a, ns, by rw [e1], .inl (.inl (by rw [← h2.ints h]; exact h1)), fun ns' p h3 h4 hp => ?_⟩
    rw [sortI_of h3 h4]
    exact q p _ _ hp (Ext.new hp) upd_same (rds_ints _)
  · obtain ⟨ns, h, rfl⟩ := Option.map_eq_some_iff.mp hF
    obtain ⟨a, vs, e1, h1, h2⟩ := hx.scr
    refine .inl ⟨a, ns, by rw [e1], by rw [← h2.ints h]; exact hK ▸ h1, fun ns' p h3 h4 hp => ?_⟩
    rw [sortI_of h3 h4]
    exact q p _ _ hp (Ext.new hp) upd_same (rds_ints _)
  · obtain ⟨ns, h, rfl⟩ := Option.map_eq_some_iff.mp hF
    obtain ⟨a, vs, e1, h1, h2⟩ := hx.tup
    refine .inr ⟨a, ns, by rw [e1], by rw [← h2.ints h]; exact hK ▸ h1, fun ns' p h3 h4 hp => ?_⟩
    rw [sortI_of h3 h4]
    exact q p _ _ hp (Ext.new hp) upd_same (rds_ints _)
  · cases hF
theorem l_sorted (C : Cc X c W k) (ha : PE X a (tO c W o1)) (hm : c.mg "sorted" = none) (hg : Gl X "sorted" := by rfl) (hs : starEach [a] X.env = (false, eval a X.env) :: starEach [] X.env := by rfl) (hpl : (backTo pos (starEach [] X.env)).any (·.1) = false := by rfl) :
    PE X (.Call (.Name "sorted" p) [a] [] pos) (tL c W (op1L sortedL o1)) := l_B1 (CallR.or cr_sortedI cr_sortedTI) (v_sorted C.hK) hg (by rw [C.hm]; exact hm) (by first | rfl | decide +kernel) ha (by decide) (by decide) hs hs hpl
/-! ### the other built-ins -/
theorem e_len (C : Cc X c W k) (ha : PE X a (tO c W o1)) (hm : c.mg "len" = none) (hg : Gl X "len" := by rfl) (hs : starEach [a] X.env = (false, eval a X.env) :: starEach [] X.env := by rfl) (hpl : (backTo pos (starEach [] X.env)).any (·.1) = false := by rfl) :
    PE X (.Call (.Name "len" p) [a] [] pos) (tE c W (op1 lenD o1)) := e_B1 r_len (v_len C.hK) hg (by rw [C.hm]; exact hm) (by first | rfl | decide +kernel) ha (by decide) (by decide) hs hs hpl
theorem e_abs (C : Cc X c W k) (ha : PE X a (tO c W o1)) (hm : c.mg "abs" = none) (hg : Gl X "abs" := by rfl) (hs : starEach [a] X.env = (false, eval a X.env) :: starEach [] X.env := by rfl) (hpl : (backTo pos (starEach [] X.env)).any (·.1) = false := by rfl) :
    PE X (.Call (.Name "abs" p) [a] [] pos) (tE c W (op1 absD o1)) := e_B1 call_abs v_abs hg (by rw [C.hm]; exact hm) (by first | rfl | decide +kernel) ha (by decide) (by decide) hs hs hpl
theorem e_int1 (C : Cc X c W k) (ha : PE X a (tO c W o1)) (hm : c.mg "int" = none) (hg : Gl X "int" := by rfl) (hs : starEach [a] X.env = (false, eval a X.env) :: starEach [] X.env := by rfl) (hpl : (backTo pos (starEach [] X.env)).any (·.1) = false := by rfl) :
    PE X (.Call (.Name "int" p) [a] [] pos) (tE c W (op1 intD o1)) := e_T1 call_int1 v_int hg (by rw [C.hm]; exact hm) (by first | rfl | decide +kernel) ha (by decide) (by decide) hs hs hpl
theorem e_tuple1 (C : Cc X c W k) (ha : PE X a (tO c W o1)) (hm : c.mg "tuple" = none) (hg : Gl X "tuple" := by rfl) (hs : starEach [a] X.env = (false, eval a X.env) :: starEach [] X.env := by rfl) (hpl : (backTo pos (starEach [] X.env)).any (·.1) = false := by rfl) :
    PE X (.Call (.Name "tuple" p) [a] [] pos) (tE c W (op1 tupleD o1)) := e_T1 call_tupleN (v_tuple C.hK) hg (by rw [C.hm]; exact hm) (by first | rfl | decide +kernel) ha (by decide) (by decide) hs hs hpl
theorem l_list1 (C : Cc X c W k) (ha : PE X a (tO c W o1)) (hm : c.mg "list" = none) (hg : Gl X "list" := by rfl) (hs : starEach [a] X.env = (false, eval a X.env) :: starEach [] X.env := by rfl) (hpl : (backTo pos (starEach [] X.env)).any (·.1) = false := by rfl) :
    PE X (.Call (.Name "list" p) [a] [] pos) (tL c W (op1L listL o1)) := l_T1 call_list_of (v_list C.hK) hg (by rw [C.hm]; exact hm) (by first | rfl | decide +kernel) ha (by decide) (by decide) hs hs hpl
theorem e_all (C : Cc X c W k) (ha : PE X a (tO c W o1)) (hm : c.mg "all" = none) (hg : Gl X "all" := by rfl) (hs : starEach [a] X.env = (false, eval a X.env) :: starEach [] X.env := by rfl) (hpl : (backTo pos (starEach [] X.env)).any (·.1) = false := by rfl) :
    PE X (.Call (.Name "all" p) [a] [] pos) (tE c W (op1 allD o1)) := e_B1 (cr_all C.hc) v_all hg (by rw [C.hm]; exact hm) (by first | rfl | decide +kernel) ha (by decide) (by decide) hs hs hpl
theorem e_any (C : Cc X c W k) (ha : PE X a (tO c W o1)) (hm : c.mg "any" = none) (hg : Gl X "any" := by rfl) (hs : starEach [a] X.env = (false, eval a X.env) :: starEach [] X.env := by rfl) (hpl : (backTo pos (starEach [] X.env)).any (·.1) = false := by rfl) :
    PE X (.Call (.Name "any" p) [a] [] pos) (tE c W (op1 anyD o1)) := e_B1 (cr_any C.hc) v_any hg (by rw [C.hm]; exact hm) (by first | rfl | decide +kernel) ha (by decide) (by decide) hs hs hpl
theorem e_sum (C : Cc X c W k) (ha : PE X a (tO c W o1)) (hm : c.mg "sum" = none) (hg : Gl X "sum" := by rfl) (hs : starEach [a] X.env = (false, eval a X.env) :: starEach [] X.env := by rfl) (hpl : (backTo pos (starEach [] X.env)).any (·.1) = false := by rfl) :
    PE X (.Call (.Name "sum" p) [a] [] pos) (tE c W (op1 sumD o1)) := e_B1 (cr_sum C.hc) v_sum hg (by rw [C.hm]; exact hm) (by first | rfl | decide +kernel) ha (by decide) (by decide) hs hs hpl
end
end DS
/-! DSX: new dicts by tuples: as a name's own, as a value. -/
namespace DS
open PySem PySem.Spec PyProof.Rows L2
abbrev ExX := S → R (List D × List D)
section
variable {c : Cn} {g : Gr} {W : WX} {σ : L2.St} {H : Hp} {Q : VK}
def OutX (c : Cn) (g : Gr) (W : WX) (M : Am) (ρ : List Addr) (σ : L2.St) (H : Hp) (r : R (List D × List D)) (Q : VK) : Prop := match r with
  | .ok kv s' => ∀ M' ρ' a H', Rel c g M' ρ' s' σ H' → Keep g M ρ H M' ρ' H' → DctOk c M' ρ' H' true kv.1 kv.2 a → Free g M' ρ' s'.env σ a → Q (.ref a) H'
  | .exc x s' => ∀ M' ρ' H' cls dd, Rel c g M' ρ' s' σ H' → Keep g M ρ H M' ρ' H' → XR c x cls dd H' → W cls dd σ H'
  | .bad => False
def tX (c : Cn) (W : WX) (f : ExX) : TE := fun σ H Q => ∃ g M ρ s, Rel c g M ρ s σ H ∧ OutX c g W M ρ σ H (f s) Q
def ofX (f : ExX) : Ex := fun s => (f s).map fun kv => .dct true kv.1 kv.2
theorem tX.val {f : ExX} (h : tE c W (ofX f) σ H Q) : tX c W f σ H Q := by
  obtain ⟨g, M, ρ, s, rel, h⟩ := h
  refine ⟨g, M, ρ, s, rel, ?_⟩
  unfold ofX at h
  cases q : f s with
  | bad => rw [q] at h; exact h
  | exc x s' => rw [q] at h; exact h
  | ok kv s' =>
    rw [q] at h
    intro M' ρ' a H' r k ha fr
    obtain ⟨o, xs, us, p1, p2, p3, p4, p5, p6⟩ := ha
    exact h (less M' a) ρ' (.ref a) H' (r.lessM fr) (k.trans keep_less) (.dctT p1 (fun z => z.2 rfl) p2 p3 (p4.keep (keep_less (g := g))) (p5.keep (keep_less (g := g))) p6)
def setX (i : Nat) (f : ExX) : Sm := fun s => (f s).bind fun kv s1 => .ok .nx ⟨s1.env.set i (.od true kv.1 kv.2), s1.hp⟩
theorem t_setX {i : Nat} {f : ExX} {D : Ends} (h : tS c W (setX i f) D σ H) : tX c W f σ H fun v H1 => D.nx (σ.set i (some v)) H1 := by
  obtain ⟨g, M, ρ, s, rel, h⟩ := h
  refine ⟨g, M, ρ, s, rel, ?_⟩
  unfold setX at h
  cases q : f s with
  | bad => rw [q] at h; exact h
  | exc x s' => rw [q] at h; exact fun M' ρ' H' cls dd r k x => h M' ρ' σ H' cls dd r k x
  | ok kv s' =>
    rw [q] at h
    exact fun M' ρ' a H' r k ha fr => h M' ρ' _ H' (r.setown fr (sl := .od true kv.1 kv.2) rfl ha) k
end
section
variable {X : Cx} {c : Cn} {W : WX} {f : ExX} {e : Expr} {pos : Pos}
theorem e_ofX (h : PE X e (tX c W f)) : PE X e (tE c W (ofX f)) := pe_imp h fun _ _ _ h => tX.val h
theorem s_setX {k : Nat} (C : Cc X c W k) (i : Nat) {x : Str} {pos' : Pos} (he : PE X e (tX c W f)) (hi : X.N[i]? = some x := by rfl) (hx : Loc X.env.scope x := by first | exact Or.inl rfl | exact Or.inr rfl) (hs : swapsWith e (some (.Name x pos')) pos.line X.env = pure false := by rfl)
    (hf : X.fn x = true ∨ X.env.scope.names.lookup x = some .local := by first | exact .inl rfl | exact .inr rfl) : PS X (.Assign [.Name x pos'] e pos) (tS c W (setX i f)) := ps_imp (ps_set C.nd hi hx he hs hf) fun D σ H h => t_setX h
end
/-! ### dicts by ints and texts -/
section
variable {c : Cn} {g : Gr} {W : WX} {σ : L2.St} {H : Hp} {Q : VK}
def OutY (c : Cn) (g : Gr) (W : WX) (M : Am) (ρ : List Addr) (σ : L2.St) (H : Hp) (r : R (List D × List D)) (Q : VK) : Prop := match r with
  | .ok kv s' => ∀ M' ρ' a H', Rel c g M' ρ' s' σ H' → Keep g M ρ H M' ρ' H' → DctOk c M' ρ' H' false kv.1 kv.2 a → Free g M' ρ' s'.env σ a → Q (.ref a) H'
  | .exc x s' => ∀ M' ρ' H' cls dd, Rel c g M' ρ' s' σ H' → Keep g M ρ H M' ρ' H' → XR c x cls dd H' → W cls dd σ H'
  | .bad => False
def tY (c : Cn) (W : WX) (f : ExX) : TE := fun σ H Q => ∃ g M ρ s, Rel c g M ρ s σ H ∧ OutY c g W M ρ σ H (f s) Q
def ofY (f : ExX) : Ex := fun s => (f s).map fun kv => .dct false kv.1 kv.2
theorem tY.val {f : ExX} (h : tE c W (ofY f) σ H Q) : tY c W f σ H Q := by
  obtain ⟨g, M, ρ, s, rel, h⟩ := h
  refine ⟨g, M, ρ, s, rel, ?_⟩
  unfold ofY at h
  cases q : f s with
  | bad => rw [q] at h; exact h
  | exc x s' => rw [q] at h; exact h
  | ok kv s' =>
    rw [q] at h
    intro M' ρ' a H' r k ha fr
    obtain ⟨kvs, p1, p2, p3⟩ := ha
    exact h (less M' a) ρ' (.ref a) H' (r.lessM fr) (k.trans keep_less) (.dctK p1 (fun z => z.2 rfl) p2 (p3.keep (keep_less (g := g))))
def setY (i : Nat) (f : ExX) : Sm := fun s => (f s).bind fun kv s1 => .ok .nx ⟨s1.env.set i (.od false kv.1 kv.2), s1.hp⟩
theorem t_setY {i : Nat} {f : ExX} {D : Ends} (h : tS c W (setY i f) D σ H) : tY c W f σ H fun v H1 => D.nx (σ.set i (some v)) H1 := by
  obtain ⟨g, M, ρ, s, rel, h⟩ := h
  refine ⟨g, M, ρ, s, rel, ?_⟩
  unfold setY at h
  cases q : f s with
  | bad => rw [q] at h; exact h
  | exc x s' => rw [q] at h; exact fun M' ρ' H' cls dd r k x => h M' ρ' σ H' cls dd r k x
  | ok kv s' =>
    rw [q] at h
    exact fun M' ρ' a H' r k ha fr => h M' ρ' _ H' (r.setown fr (sl := .od false kv.1 kv.2) rfl ha) k
end
section
variable {X : Cx} {c : Cn} {W : WX} {f : ExX} {e : Expr} {pos : Pos}
theorem e_ofY (h : PE X e (tY c W f)) : PE X e (tE c W (ofY f)) := pe_imp h fun _ _ _ h => tY.val h
theorem s_setY {k : Nat} (C : Cc X c W k) (i : Nat) {x : Str} {pos' : Pos} (he : PE X e (tY c W f)) (hi : X.N[i]? = some x := by rfl) (hx : Loc X.env.scope x := by first | exact Or.inl rfl | exact Or.inr rfl) (hs : swapsWith e (some (.Name x pos')) pos.line X.env = pure false := by rfl)
    (hf : X.fn x = true ∨ X.env.scope.names.lookup x = some .local := by first | exact .inl rfl | exact .inr rfl) : PS X (.Assign [.Name x pos'] e pos) (tS c W (setY i f)) := ps_imp (ps_set C.nd hi hx he hs hf) fun D σ H h => t_setY h
end
end DS
/-! DS11: truth, or of lists, parallel stores, a list that is shared, stores of comprehensions. -/
namespace DS
open PySem PySem.Spec PyProof.Rows L2

/-! ### truth -/
def truD : D → Option Bool
  | .non => some false
  | .bl b => some b
  | .int i => some (i != 0)
  | .str y => if y.length ≤ LIM then some ((y.length : Int) != 0) else none
  | .tup xs => some (!xs.isEmpty)
  | .lst xs => some (!xs.isEmpty)
  | .scr xs => some (!xs.isEmpty)
  | .dct false ks _ => some (!ks.isEmpty)
  | _ => none
section
variable {c : Cn} {M : Am} {ρ : List Addr} {H : Hp} {v : V}
theorem RDs.empty {xs : List D} {vs : List V} (h : RDs c M ρ H xs vs) : vs.isEmpty = xs.isEmpty := by cases h <;> rfl
theorem RW.tru {d : D} {k : Bool} (h : RW c M ρ H d v) (e : truD d = some k) : TruV c.K v H k := by
  unfold truD at e
  split at e
  · cases e; rw [h.non]; rfl
  · cases e; rw [h.bl]; rfl
  · cases e; rw [h.int]; rfl
  · split at e
    · cases e; rw [h.str]; exact ⟨by assumption, rfl⟩
    · cases e
  · cases e
    obtain ⟨a, vs, rfl, h1, h2⟩ := h.tup
    exact .inr (.inl ⟨vs, h1, by rw [h2.empty]⟩)
  · cases e
    obtain ⟨a, vs, rfl, h1, h2⟩ := h.lst
    exact .inl ⟨vs, .inl (.inl h1), by rw [h2.empty]⟩
  · cases e
    obtain ⟨a, vs, rfl, h1, h2⟩ := h.scr
    exact .inl ⟨vs, h1, by rw [h2.empty]⟩
  · cases e
    obtain ⟨a, rfl, kvs, h1, h2, h3⟩ := h.dct
    refine .inr (.inr ⟨kvs, h1, ?_⟩)
    subst h2
    cases kvs <;> rfl
  · cases e
end
/-- an operand's truth -/
def truT (o : Op) : S → R Bool := fun s => (o s).bind fun t s1 => R.of ((deref s1 t).bind truD) s1
/-- x or y, of lists made anew -/
def orL (f k : ExL) : ExL := fun s => (f s).bind fun xs s1 => if xs.isEmpty = true then k s1 else .ok xs s1
section
variable {X : Cx} {c : Cn} {g : Gr} {W : WX} {k : Nat} {a b : Expr} {o : Op} {fl fk : ExL} {rest : List Expr} {pos : Pos}
theorem b_tru (C : Cc X c W k) (h : PE X a (tO c W o)) (he : ∀ whole, isTrue a X.env whole = (do let v ← whole; standAt a.pos; holding [v] (truthy v)) := by intro _; rfl) : PT X a (tT c W (truT o)) := pt_imp (pt_truth h he) fun σ H Q h => by
  obtain ⟨g, M, ρ, s, rel, h⟩ := h
  refine tO.bind (out := fun M ρ H r => OutT c g W M ρ σ H r Q) rel (fun _ _ z => z) (fun z => z) h fun t s1 M1 ρ1 v H1 r1 k1 t1 h1 => ?_
  cases q : (deref s1 t).bind truD with
  | none => rw [q] at h1; exact h1.elim
  | some b =>
    rw [q] at h1
    obtain ⟨x, hx, hF⟩ := Option.bind_eq_some_iff.mp q
    exact ⟨b, C.hK ▸ (RW.of_tok r1 t1 hx).tru hF, h1 M1 ρ1 H1 r1 k1⟩
theorem l_or (C : Cc X c W k) (ha : PE X a (tL c W fl)) (hb : PE X (.BoolOp .Or (b :: rest) pos) (tL c W fk)) : PE X (.BoolOp .Or (a :: b :: rest) pos) (tL c W (orL fl fk)) := pe_imp (pe_orT ha hb) fun σ H Q h => by
  obtain ⟨g, M, ρ, s, rel, h⟩ := h
  refine tL.bind (out := fun M ρ H r => OutL c g W M ρ σ H r Q) rel (fun _ _ z => z) (fun z => z) h fun xs s1 M1 ρ1 ad vs H1 r1 k1 ha hx hf h1 => ?_
  have h1 := OutL.keep k1 h1
  refine ⟨!xs.isEmpty, .inl ⟨vs, .inl (.inl ha), by rw [hx.empty]⟩, ?_⟩
  cases q : xs.isEmpty with
  | true =>
    simp only [q, if_true] at h1
    exact ⟨g, M1, ρ1, s1, r1, h1⟩
  | false =>
    simp only [q, Bool.false_eq_true, if_false] at h1
    exact h1 M1 ρ1 ad vs H1 r1 (Keep.refl _ _ _ _) ha hx hf
end
/-! ### a new list that is shared -/
def shr (f : ExL) : Ex := fun s => (f s).bind fun xs s1 => .ok (.ref s1.hp.length) ⟨s1.env, s1.hp ++ [.lst xs]⟩
section
variable {X : Cx} {c : Cn} {g : Gr} {W : WX} {M : Am} {ρ : List Addr} {H : Hp} {s : S} {σ : L2.St} {e : Expr} {fl : ExL} {Q : VK}
theorem Rel.share {a : Addr} {xs : List D} {vs : List V} (r : Rel c g M ρ s σ H) (ha : H a = some (.lst vs)) (hx : RDs c M ρ H xs vs) (f : Free g M ρ s.env σ a) : Rel c g M (ρ ++ [a]) ⟨s.env, s.hp ++ [.lst xs]⟩ σ H ∧ Keep g M ρ H M (ρ ++ [a]) H := by
  have k : Keep g M ρ H M (ρ ++ [a]) H := ⟨fun b o h m => ⟨h, m⟩, ⟨[a], rfl⟩, fun _ _ => rfl⟩
  obtain ⟨f1, f2, f3, f5, f4⟩ := f
  obtain ⟨l, e, n⟩ := r.gd.gr
  refine ⟨⟨⟨by simp [r.h.hl], fun j ob b h1 h2 => ?_, ?_, fun b hb => ?_, r.h.dom⟩, ⟨r.gd.g1, r.gd.g2, r.gd.g3, r.gd.gd, r.gd.gm, ⟨l ++ [a], by rw [e, List.append_assoc], fun b hb => ?_⟩, fun b hb => ⟨(r.gd.gp b hb).1, fun z => ?_⟩⟩, ⟨r.e.len, fun i d h => ?_, fun i sl h o => ?_, r.e.pro, r.e.sep⟩⟩, k⟩
  · by_cases hj : j < s.hp.length
    · rw [List.getElem?_append_left hj] at h1
      rw [List.getElem?_append_left (by rw [r.h.hl]; exact hj)] at h2
      exact (r.h.ho j ob b h1 h2).keep k rfl
    · have hj2 : j = s.hp.length := by
        have := (List.getElem?_eq_some_iff.mp h1).1
        rw [List.length_append, List.length_singleton] at this
        omega
      subst hj2
      rw [List.getElem?_append_right (Nat.le_refl _)] at h1
      rw [List.getElem?_append_right (by rw [r.h.hl]; exact Nat.le_refl _)] at h2
      simp at h1
      rw [r.h.hl] at h2
      simp at h2
      subst h1 h2
      exact ⟨vs, ha, hx.keep k⟩
  · rw [List.nodup_append]
    refine ⟨r.h.nd, by simp, fun x hx y hy z => ?_⟩
    have : y = a := by simpa using hy
    subst this z
    exact f2 hx
  · rcases List.mem_append.mp hb with hb | hb
    · exact r.h.rm b hb
    · have : b = a := by simpa using hb
      subst this
      exact f1
  · rcases List.mem_append.mp hb with hb | hb
    · exact n b hb
    · have : b = a := by simpa using hb
      subst this
      exact f3
  · rcases List.mem_append.mp z with z | z
    · exact (r.gd.gp b hb).2 z
    · have : b = a := by simpa using z
      subst this
      exact f5 hb
  · obtain ⟨v, h1, h2⟩ := r.e.val i d h
    exact ⟨v, h1, h2.keep k⟩
  · obtain ⟨b, h1, h2, h3, h4, h5⟩ := r.e.own i sl h o
    refine ⟨b, h1, h2.keep k rfl, h3, fun z => ?_, h5⟩
    rcases List.mem_append.mp z with z | z
    · exact h4 z
    · have : b = a := by simpa using z
      subst this
      exact f4 i sl h o h1
theorem e_shr (h : PE X e (tL c W fl)) : PE X e (tE c W (shr fl)) := pe_imp h fun σ H Q h => by
  obtain ⟨g, M, ρ, s, rel, h⟩ := h
  refine tL.bind (out := fun M ρ H r => OutE c g W M ρ σ H r Q) rel (fun _ _ z => z) (fun z => z) h fun xs s1 M1 ρ1 a vs H1 r1 k1 ha hx hf h1 => ?_
  obtain ⟨r2, k2⟩ := r1.share ha hx hf
  exact h1 M1 (ρ1 ++ [a]) (.ref a) H1 r2 (k1.trans k2) (.ref (by rw [List.getElem?_append_right (by rw [r1.h.hl]; exact Nat.le_refl _), r1.h.hl]; simp))
end

/-! ### parallel stores -/
inductive Pc where
  | v (f : Ex) | l (f : ExL) | x (f : ExX) | y (f : ExX)
def evP : Pc → S → R Slot
  | .v f, s => (f s).map .v
  | .l f, s => (f s).map .ol
  | .x f, s => (f s).map fun kv => .od true kv.1 kv.2
  | .y f, s => (f s).map fun kv => .od false kv.1 kv.2
def SlR (c : Cn) (g : Gr) (M : Am) (ρ : List Addr) (σ : L2.St) (H : Hp) (env : Env) (sl : Slot) (v : V) : Prop := match sl with
  | .v d => RD c M ρ H d v
  | .un => False
  | .ol xs => ∃ a, v = .ref a ∧ OwnOk c M ρ H (.ol xs) a ∧ Free g M ρ env σ a
  | .od k ks vs => ∃ a, v = .ref a ∧ OwnOk c M ρ H (.od k ks vs) a ∧ Free g M ρ env σ a
def OutPc (c : Cn) (g : Gr) (W : WX) (M : Am) (ρ : List Addr) (σ : L2.St) (H : Hp) (r : R Slot) (Q : VK) : Prop := match r with
  | .ok sl s' => ∀ M' ρ' v H', Rel c g M' ρ' s' σ H' → Keep g M ρ H M' ρ' H' → SlR c g M' ρ' σ H' s'.env sl v → Q v H'
  | .exc x s' => ∀ M' ρ' H' cls dd, Rel c g M' ρ' s' σ H' → Keep g M ρ H M' ρ' H' → XR c x cls dd H' → W cls dd σ H'
  | .bad => False
def tPc (c : Cn) (W : WX) (p : Pc) : TE := fun σ H Q => ∃ g M ρ s, Rel c g M ρ s σ H ∧ OutPc c g W M ρ σ H (evP p s) Q
def par2 (i j : Nat) (p q : Pc) : Sm := fun s => (evP p s).bind fun x s1 => (evP q s1).bind fun y s2 => .ok .nx ⟨(s2.env.set i x).set j y, s2.hp⟩
section
variable {X : Cx} {c : Cn} {g : Gr} {W : WX} {M : Am} {ρ : List Addr} {H : Hp} {s : S} {env : Env} {hp : List Ob} {σ : L2.St} {a b e : Expr} {p q : Pc} {Q : VK} {sl : Slot} {v : V} {i j : Nat} {pos : Pos}
theorem pc_v {f : Ex} (h : PE X e (tE c W f)) : PE X e (tPc c W (.v f)) := pe_imp h fun σ H Q h => by
  obtain ⟨g, M, ρ, s, rel, h⟩ := h
  refine ⟨g, M, ρ, s, rel, ?_⟩
  have h : OutPc c g W M ρ σ H ((f s).map .v) Q := h
  cases q : f s with
  | ok d s' => rw [q] at h; exact h
  | exc x s' => rw [q] at h; exact h
  | bad => rw [q] at h; exact h
theorem pc_l {f : ExL} (h : PE X e (tL c W f)) : PE X e (tPc c W (.l f)) := pe_imp h fun σ H Q h => by
  obtain ⟨g, M, ρ, s, rel, h⟩ := h
  refine ⟨g, M, ρ, s, rel, ?_⟩
  have h : OutPc c g W M ρ σ H ((f s).map .ol) Q := h
  cases q : f s with
  | ok d s' => rw [q] at h; exact fun M' ρ' a vs H' r k ha hx hf => h M' ρ' (.ref a) H' r k ⟨a, rfl, ⟨vs, ha, hx⟩, hf⟩
  | exc x s' => rw [q] at h; exact h
  | bad => rw [q] at h; exact h
theorem pc_x {f : ExX} (h : PE X e (tX c W f)) : PE X e (tPc c W (.x f)) := pe_imp h fun σ H Q h => by
  obtain ⟨g, M, ρ, s, rel, h⟩ := h
  refine ⟨g, M, ρ, s, rel, ?_⟩
  have h : OutPc c g W M ρ σ H ((f s).map fun kv => .od true kv.1 kv.2) Q := h
  cases q : f s with
  | ok d s' => rw [q] at h; exact fun M' ρ' a H' r k ha hf => h M' ρ' (.ref a) H' r k ⟨a, rfl, ha, hf⟩
  | exc x s' => rw [q] at h; exact h
  | bad => rw [q] at h; exact h
theorem pc_y {f : ExX} (h : PE X e (tY c W f)) : PE X e (tPc c W (.y f)) := pe_imp h fun σ H Q h => by
  obtain ⟨g, M, ρ, s, rel, h⟩ := h
  refine ⟨g, M, ρ, s, rel, ?_⟩
  have h : OutPc c g W M ρ σ H ((f s).map fun kv => .od false kv.1 kv.2) Q := h
  cases q : f s with
  | ok d s' => rw [q] at h; exact fun M' ρ' a H' r k ha hf => h M' ρ' (.ref a) H' r k ⟨a, rfl, ha, hf⟩
  | exc x s' => rw [q] at h; exact h
  | bad => rw [q] at h; exact h
theorem Rel.setslot (r : Rel c g M ρ ⟨env, hp⟩ σ H) (h : SlR c g M ρ σ H env sl v) (i : Nat) : Rel c g M ρ ⟨env.set i sl, hp⟩ (σ.set i (some v)) H := by
  cases sl with
  | v d => exact r.setv h
  | ol xs =>
    obtain ⟨a, rfl, h1, h3⟩ := h
    exact r.setown h3 rfl h1
  | un => exact h.elim
  | od k ks vs =>
    obtain ⟨a, rfl, h1, h3⟩ := h
    exact r.setown h3 rfl h1
theorem OutPc.keep {M1 : Am} {ρ1 : List Addr} {H1 : Hp} (k : Keep g M ρ H M1 ρ1 H1) {r : R Slot} (h : OutPc c g W M ρ σ H r Q) : OutPc c g W M1 ρ1 σ H1 r Q := by
  cases r with
  | ok d s' => exact fun M' ρ' v H' a b e => h M' ρ' v H' a (k.trans b) e
  | exc x s' => exact fun M' ρ' H' cls dd a b e => h M' ρ' H' cls dd a (k.trans b) e
  | bad => exact h
theorem Free.setv {ad : Addr} {d : D} (f : Free g M ρ env σ ad) : Free g M ρ (env.set i (.v d)) (σ.set i (some v)) ad := ⟨f.1, f.2.1, f.2.2.1, f.2.2.2.1, fun j sl h o z => by
  rcases get_set_some h with ⟨rfl, e, hl⟩ | ⟨ne, h⟩
  · subst e; cases o
  · rw [get_set_ne ne] at z
    exact f.2.2.2.2 j sl h o z⟩
theorem Free.setl {ad bd : Addr} {sl0 : Slot} (hlen : env.length = σ.length) (f : Free g M ρ env σ ad) (ne : bd ≠ ad) : Free g M ρ (env.set i sl0) (σ.set i (some (.ref bd))) ad := ⟨f.1, f.2.1, f.2.2.1, f.2.2.2.1, fun j sl h o z => by
  rcases get_set_some h with ⟨rfl, e, hl⟩ | ⟨ne', h⟩
  · rw [get_set_eq (by rw [← hlen]; exact hl)] at z
    cases z
    exact ne rfl
  · rw [get_set_ne ne'] at z
    exact f.2.2.2.2 j sl h o z⟩
/-- an own piece, held while the other is worked out -/
theorem own_then {sl : Slot} (ho : sl.isOwn = true) {M1 : Am} {ρ1 : List Addr} {H1 : Hp} {s1 : S} {D : Ends} {ad : Addr} (r1 : Rel c g M1 ρ1 s1 σ H1) (g1 : OwnOk c M1 ρ1 H1 sl ad) (g3 : Free g M1 ρ1 s1.env σ ad)
    (h : OutS c g W M1 ρ1 H1 ((evP q s1).bind fun y s2 => .ok .nx ⟨(s2.env.set i sl).set j y, s2.hp⟩) D) : tPc c W q σ H1 fun w H2 => D.nx ((σ.set i (some (.ref ad))).set j (some w)) H2 := by
  refine ⟨g.hold ad, M1, ρ1, s1, r1.hold g3, ?_⟩
  cases e2 : evP q s1 with
  | exc x s2 => rw [e2] at h; exact fun M' ρ' H' cls dd r k x => h M' ρ' σ H' cls dd r.unhold k.unhold x
  | bad => rw [e2] at h; exact h
  | ok y s2 =>
    rw [e2] at h
    intro M2 ρ2 w H2 r2 k2 h2
    have f2 := r2.free g3.2.2.1 g3.2.2.2.1
    have ok2 : OwnOk c M2 ρ2 H2 sl ad := g1.keep k2 (k2.pr ad (.inr rfl))
    have r3 : Rel c g M2 ρ2 ⟨s2.env.set i sl, s2.hp⟩ (σ.set i (some (.ref ad))) H2 := Rel.setown (env := s2.env) (hp := s2.hp) r2.unhold f2 ho ok2
    refine h M2 ρ2 _ H2 (Rel.setslot (sl := y) (v := w) r3 ?_ j) k2.unhold
    cases y with
    | v d' => exact h2
    | ol ys =>
      obtain ⟨bd, rfl, g4, g6⟩ := h2
      have ne : ad ≠ bd := fun z => g6.2.2.2.1 (.inr z.symm)
      have g7 : Free g M2 ρ2 s2.env σ bd := ⟨g6.1, g6.2.1, g6.2.2.1, fun z => g6.2.2.2.1 (.inl z), g6.2.2.2.2⟩
      exact ⟨bd, rfl, g4, g7.setl r2.e.len ne⟩
    | un => exact h2.elim
    | od k ks vs =>
      obtain ⟨bd, rfl, g4, g6⟩ := h2
      have ne : ad ≠ bd := fun z => g6.2.2.2.1 (.inr z.symm)
      have g7 : Free g M2 ρ2 s2.env σ bd := ⟨g6.1, g6.2.1, g6.2.2.1, fun z => g6.2.2.2.1 (.inl z), g6.2.2.2.2⟩
      exact ⟨bd, rfl, g4, g7.setl r2.e.len ne⟩
theorem t_par {D : Ends} (h : tS c W (par2 i j p q) D σ H) : tPar i j (tCons (tPc c W p) (tCons (tPc c W q) tNil)) D σ H := by
  obtain ⟨g, M, ρ, s, rel, h⟩ := h
  refine ⟨g, M, ρ, s, rel, ?_⟩
  unfold par2 at h
  cases e1 : evP p s with
  | exc x s1 => rw [e1] at h; exact fun M' ρ' H' cls dd r k x => h M' ρ' σ H' cls dd r k x
  | bad => rw [e1] at h; exact h
  | ok x s1 =>
    rw [e1] at h
    intro M1 ρ1 v H1 r1 k1 h1
    have h := OutS.keep k1 h
    simp only [R.bind_ok] at h
    cases x with
    | un => exact h1.elim
    | v d =>
      refine ⟨g, M1, ρ1, s1, r1, ?_⟩
      cases e2 : evP q s1 with
      | exc x s2 => rw [e2] at h; exact fun M' ρ' H' cls dd r k x => h M' ρ' σ H' cls dd r k x
      | bad => rw [e2] at h; exact h
      | ok y s2 =>
        rw [e2] at h
        intro M2 ρ2 w H2 r2 k2 h2
        refine ⟨v, w, rfl, ?_⟩
        have hd := RD.keep k2 h1
        have r3 := Rel.setv (i := i) r2 hd
        refine h M2 ρ2 _ H2 (Rel.setslot (sl := y) (v := w) r3 ?_ j) k2
        cases y with
        | v d' => exact h2
        | ol xs =>
          obtain ⟨ad, rfl, g1, g3⟩ := h2
          exact ⟨ad, rfl, g1, g3.setv⟩
        | un => exact h2.elim
        | od k ks vs =>
          obtain ⟨ad, rfl, g1, g3⟩ := h2
          exact ⟨ad, rfl, g1, g3.setv⟩
    | ol xs =>
      obtain ⟨ad, rfl, g1, g3⟩ := h1
      obtain ⟨g', M', ρ', s', r', o'⟩ := own_then (q := q) (sl := .ol xs) rfl r1 g1 g3 h
      refine ⟨g', M', ρ', s', r', ?_⟩
      cases e2 : evP q s' with
      | exc x s2 => rw [e2] at o'; exact o'
      | bad => rw [e2] at o'; exact o'
      | ok y s2 => rw [e2] at o'; exact fun M2 ρ2 w H2 r2 k2 h2 => ⟨.ref ad, w, rfl, o' M2 ρ2 w H2 r2 k2 h2⟩
    | od kk ks vs =>
      obtain ⟨ad, rfl, g1, g3⟩ := h1
      obtain ⟨g', M', ρ', s', r', o'⟩ := own_then (q := q) (sl := .od kk ks vs) rfl r1 g1 g3 h
      refine ⟨g', M', ρ', s', r', ?_⟩
      cases e2 : evP q s' with
      | exc x s2 => rw [e2] at o'; exact o'
      | bad => rw [e2] at o'; exact o'
      | ok y s2 => rw [e2] at o'; exact fun M2 ρ2 w H2 r2 k2 h2 => ⟨.ref ad, w, rfl, o' M2 ρ2 w H2 r2 k2 h2⟩
theorem s_par {k : Nat} {x y : Str} {px py pt : Pos} {kt k2 pt2} (C : Cc X c W k) (i j : Nat) (ha : PE X a (tPc c W p)) (hb : PE X b (tPc c W q)) (hi : X.N[i]? = some x := by rfl) (hj : X.N[j]? = some y := by rfl) (hij : i ≠ j := by decide)
    (hx : X.env.scope.names.lookup x = some .local := by rfl) (hy : X.env.scope.names.lookup y = some .local := by rfl)
    (hw : swappedStores [.Tuple [.Name x px, .Name y py] kt pt] (.Tuple [a, b] k2 pt2) X.env = pure (some [x, y]) := by rfl)
    (hs : swapsWithSole [.Tuple [.Name x px, .Name y py] kt pt] (.Tuple [a, b] k2 pt2) pos.line X.env = pure false := by rfl)
    (h1 : starEach [a, b] X.env = (false, eval a X.env) :: starEach [b] X.env := by rfl) (h2 : starEach [b] X.env = (false, eval b X.env) :: starEach [] X.env := by rfl) :
    PS X (.Assign [.Tuple [.Name x px, .Name y py] kt pt] (.Tuple [a, b] k2 pt2) pos) (tS c W (par2 i j p q)) := ps_imp (ps_par C.hc C.nd hi hj hij hx hy (pa_cons ha (pa_cons hb pa_nil h2) h1) hw hs) fun D σ H h => t_par h
end

/-! ### name = [.. for ..] on one line -/
section
variable {X : Cx} {c : Cn} {g : Gr} {W : WX} {vs : List Nat} {t : Tg} {it : DS.Itr} {tt : S → R Bool} {f : Ex} {e tg iter : Expr}
theorem s_setLc {k : Nat} {scope : Scope} {own : List (Str × Nat)} {ifs : List Expr} {y : Str} {py pos spos : Pos} (C : Cc X c W k) (i : Nat) (hv : own.map (·.2) = vs) (hi : PI X tg iter (tI c W it)) (ok : BlkOk X.N X.env.scope scope own)
    (hg : ∀ (s : Shared) (H : Hp) (A : Addr) (cl : List (Str × Addr)) (fp : List Addr), PG (X.blk s H scope (compEnvC scope cl A X.env) fp) tg (tG c W0 vs t))
    (ht : ∀ (s : Shared) (H : Hp) (A : Addr) (cl : List (Str × Addr)) (fp : List Addr), Cc (X.blk s H scope (compEnvC scope cl A X.env) fp) c W0 k → PTs (X.blk s H scope (compEnvC scope cl A X.env) fp) ifs (tT c W0 tt))
    (he : ∀ (s : Shared) (H : Hp) (A : Addr) (cl : List (Str × Addr)) (fp : List Addr), Cc (X.blk s H scope (compEnvC scope cl A X.env) fp) c W0 k → PE (X.blk s H scope (compEnvC scope cl A X.env) fp) e (tE c W0 f))
    (hy : X.N[i]? = some y := by rfl) (hyl : X.env.scope.names.lookup y = some .local := by rfl) (hsw : swapsWith (.ListComp e [⟨tg, iter, ifs, 0⟩] scope pos) (some (.Name y py)) spos.line X.env = pure true := by rfl) (hs : ∀ x, foldedSetIterable iter X.env x = pure x := by intro _; rfl) :
    PS X (.Assign [.Name y py] (.ListComp e [⟨tg, iter, ifs, 0⟩] scope pos) spos) (tS c W (setL i (lcE it t vs tt f))) := by
  subst hv
  refine ps_imp (ps_setLc C.hc C.nd hy hyl hsw hi ok hg (fun s H A cl fp => ht s H A cl fp C.blk) (fun s H A cl fp => he s H A cl fp C.blk) hs) fun D σ H h => ?_
  exact t_lc (t_setL h)
end
end DS
/-! DS12: what stands in the module; keyword calls in order; a law's end. -/
namespace DS
open PySem PySem.Spec PyProof.Rows L2

section
variable {X : Cx} {c : Cn} {g : Gr} {W : WX} {k k' : Nat} {p pos : Pos} {x n : Str} {d : D} {v : V} {u : Value} {st : Stmt} {ps : List Str} {F : Fn} {e : Expr} {es : List Expr} {fs ks : List Ex} {kws : List Keyword} {kn : List Str}
/-- a name of the module that holds a number, a text .. -/
theorem e_glob (C : Cc X c W k) (hm : c.mg x = some u) (r : RelV v u) (hv : ∀ M ρ H, RD c M ρ H d v) (hg : Gl X x := by rfl) (hd : (x == ("__debug__" : Str)) = false := by decide) : PE X (.Name x p) (tE c W (cst d)) :=
  pe_imp (pe_glob hg (by rw [C.hm]; exact hm) r hd) fun _ _ _ h => tE.cst hv h
theorem e_globI {i : Int} {t : PySem.Tok} (C : Cc X c W k) (hm : c.mg x = some (.int i t)) (hg : Gl X x := by rfl) (hd : (x == ("__debug__" : Str)) = false := by decide) : PE X (.Name x p) (tE c W (cst (.int i))) :=
  e_glob C hm (v := .int i) ⟨t, rfl⟩ (fun _ _ _ => .int i) hg hd
theorem e_globF {f : Addr} (C : Cc X c W k) (hm : c.mg x = some (.ref f)) (hg : Gl X x := by rfl) (hd : (x == ("__debug__" : Str)) = false := by decide) : PE X (.Name x p) (tE c W (cst (.fn x))) :=
  e_glob C hm (v := .ref f) rfl (fun _ _ _ => .fn hm) hg hd
/-- a def that is never run so deep -/
theorem fn_bad {P : Program} {w : World} {K : PySem.W.Frag} {mg : Str → Option Value} {base : Heap} {f : Addr} {fd : FuncData} {CX : CXT} : FnOk P w K mg base CX k f fd ps (spF c ps.length fun _ _ => .bad) :=
  ⟨fun vs H Q E h => h.1, fun A outer s H args us vs Q E _ _ _ _ h => by
    obtain ⟨_, M, ρ, hp, as, _, _, z⟩ := h
    exact z.elim⟩
/-! ### keywords in the parameters' order, behind so many others -/
def gId {α : Type} (i j : Nat) (as bs : List α) : List α := if as.length = i ∧ bs.length = j then as ++ bs else []
theorem vals_len {vs : List V} {us : List Value} (h : Vals vs us) : vs.length = us.length := h.length
theorem ord_id (i j : Nat) : Ord (gId i j) (gId i j) (gId i j) := ⟨fun {c M ρ H as bs us vs} h h' => by
    unfold gId
    rw [h.length, h'.length]
    split
    · exact h.append h'
    · exact .nil, fun {vs us zs ws} h h' => by
    unfold gId
    rw [h.length, h'.length]
    split
    · exact h.append h'
    · exact .nil⟩
theorem e_callI (C : Cc X c W k') (R : FnR c X.prog X.w X.base n st k ps F) (i j : Nat) (ha : PA X (e :: es) (tA c W fs)) (hkw : PK X kws (tA c W ks))
    (hb : ∀ (kV doc pm : Value) (an : Option Addr) (cdv ct : Value) (us ws : List Value), us.length = i → ws.length = j → bindArgs (PySem.W.fnOf n n (defArgs st) (defBody st) (defScope st) .none kV doc pm an cdv ct) ⟨us, kn.zip ws⟩ = pure (ps.zip (us ++ ws)))
    (hk : k ≤ k' := by decide) (hl : i + j = ps.length := by rfl) (h0 : 0 < ps.length := by decide) (hn : fs.length = i := by rfl) (hn2 : ks.length = j := by rfl) (hall : (backToKw pos (keywordEach kws X.env)).all (·.1.isSome) = true := by rfl) (hks : (backToKw pos (keywordEach kws X.env)).filterMap (·.1) = kn := by rfl) (hg : Gl X n := by rfl)
    (hdb : (n == ("__debug__" : Str)) = false := by decide) (he : starEach (e :: es) X.env = (false, eval e X.env) :: starEach es X.env := by rfl)
    (hpl : ((backTo pos (starEach (e :: es) X.env)).any (·.1) || (backToKw pos (keywordEach kws X.env)).any (·.1.isNone)) = false := by rfl) : PE X (.Call (.Name n p) (e :: es) kws pos) (tE c W (callKE F (gId i j) fs ks)) :=
  e_callK C R (ord_id i j) ha hkw (fun kV doc pm an cdv ct us ws h => by
    unfold gId at h ⊢
    by_cases q : us.length = i ∧ ws.length = j
    · rw [if_pos q]
      exact hb kV doc pm an cdv ct us ws q.1 q.2
    · rw [if_neg q] at h
      have : 0 = ps.length := h
      omega) (fun as bs h1 h2 => by
    unfold gId
    rw [if_pos ⟨h1.trans hn, h2.trans hn2⟩, List.length_append]
    omega) hk hall hks hg hdb he hpl
theorem e_callI0 (C : Cc X c W k') (R : FnR c X.prog X.w X.base n st k ps F) (j : Nat) (hkw : PK X kws (tA c W ks))
    (hb : ∀ (kV doc pm : Value) (an : Option Addr) (cdv ct : Value) (ws : List Value), ws.length = j → bindArgs (PySem.W.fnOf n n (defArgs st) (defBody st) (defScope st) .none kV doc pm an cdv ct) ⟨[], kn.zip ws⟩ = pure (ps.zip ws))
    (hk : k ≤ k' := by decide) (hl : j = ps.length := by rfl) (h0 : 0 < ps.length := by decide) (hn2 : ks.length = j := by rfl) (hall : (backToKw pos (keywordEach kws X.env)).all (·.1.isSome) = true := by rfl) (hks : (backToKw pos (keywordEach kws X.env)).filterMap (·.1) = kn := by rfl) (hg : Gl X n := by rfl)
    (hdb : (n == ("__debug__" : Str)) = false := by decide)
    (hpl : ((backTo pos (starEach [] X.env)).any (·.1) || (backToKw pos (keywordEach kws X.env)).any (·.1.isNone)) = false := by rfl) : PE X (.Call (.Name n p) [] kws pos) (tE c W (callKE F (gId 0 j) [] ks)) :=
  e_callK0 C R (ord_id 0 j) hkw (fun kV doc pm an cdv ct us ws h => by
    unfold gId at h ⊢
    by_cases q : us.length = 0 ∧ ws.length = j
    · rw [if_pos q]
      obtain rfl := List.length_eq_zero_iff.mp q.1
      exact hb kV doc pm an cdv ct ws q.2
    · rw [if_neg q] at h
      have : 0 = ps.length := h
      omega) (fun as bs h1 h2 => by
    unfold gId
    rw [if_pos ⟨h1, h2.trans hn2⟩, List.length_append]
    omega) hk hall hks hg hdb hpl
end

/-! ### a def, whole -/
section
variable {P : Program} {w : World} {K : PySem.W.Frag} {mg : Str → Option Value} {base : Heap} {n : Str} {st : Stmt} {f : Addr} {fd : FuncData} {N ps : List Str} {k : Nat} {body : Sm}
theorem fnr (F : L2.Fun K n n st f fd) (hm : mg n = some (.ref f)) (Sc : FnScope N ps (defScope st))
    (hbd : ∀ (kV doc pm : Value) (an : Option Addr) (cdv ct : Value) (us : List Value), us.length = ps.length → bindArgs (PySem.W.fnOf n n (defArgs st) (defBody st) (defScope st) .none kV doc pm an cdv ct) ⟨us, []⟩ = pure (ps.zip us))
    (hb : ∀ (cdv : Value) (A : Around) (outer : List PySem.Env) (s : Shared) (H : Hp) (E : XK), Cc (cxOf (L2.CX P w) P w K mg base N n (defScope st) f cdv A outer s H E) ⟨K, mg, w⟩ (wE E) k →
      PSs (cxOf (L2.CX P w) P w K mg base N n (defScope st) f cdv A outer s H E) (defBody st) (tS ⟨K, mg, w⟩ (wE E) body)) : FnR ⟨K, mg, w⟩ P w base n st (k + 1) ps (fnOf N.length body) :=
  ⟨f, fd, hm, F, fn_ok F Sc fun cdv A outer s H E hr tk => hb cdv A outer s H E ⟨rfl, rfl, tk, hr, rfl, Sc.nd, rfl⟩, F.binds hbd⟩
theorem fnr_bad (F : L2.Fun K n n st f fd) (hm : mg n = some (.ref f)) (hbd : ∀ (kV doc pm : Value) (an : Option Addr) (cdv ct : Value) (us : List Value), us.length = ps.length → bindArgs (PySem.W.fnOf n n (defArgs st) (defBody st) (defScope st) .none kV doc pm an cdv ct) ⟨us, []⟩ = pure (ps.zip us)) :
    FnR ⟨K, mg, w⟩ P w base n st k ps (fun _ _ => .bad) := ⟨f, fd, hm, F, fn_bad, F.binds hbd⟩
/-- a law's promise -/
def spT (K : PySem.W.Frag) : Sp := fun vs H Q _ => ∃ (a : Addr) (ns : List Int), vs = [.ref a] ∧ SqL K H a (ns.map V.int) ∧ ns.length ≤ 63 ∧ Only H ∧ ∀ H', Q (.bl true) H'
theorem law_sp {c : Cn} {F : Fn} (h : ∀ ns : List Int, ns.length ≤ 63 → ∃ hp, F [.scr (ns.map .int)] [] = .ok (.bl true) hp) : ∀ vs H Q E, spT c.K vs H Q E → spF c 1 F vs H Q E := by
  intro vs H Q E ⟨a, ns, e, hs, hl, hO, q⟩
  subst e
  obtain ⟨hp, hF⟩ := h ns hl
  refine ⟨rfl, fun _ => False, [], [], [.scr (ns.map .int)], ⟨rfl, fun j o a h _ => by simp at h, List.nodup_nil, fun a h => by simp at h, fun a h => h.elim⟩, .cons ?_ .nil, ?_⟩
  · rcases hs with (h | ⟨o, h⟩) | h
    · rcases hO a with z | ⟨o, xs, z⟩
      · rw [h] at z; cases z
      · rw [h] at z; cases z
    · exact .scr h (fun z => z) (rds_ints ns)
    · exact .scrK h (rds_ints ns)
  · rw [hF]
    intro M' ρ' v H' _ _ hv
    cases hv
    exact q H'
theorem law_ok {F : Fn} (R : FnOk P w K mg base (L2.CX P w) k f fd ["script"] (spF ⟨K, mg, w⟩ 1 F)) (h : ∀ ns : List Int, ns.length ≤ 63 → ∃ hp, F [.scr (ns.map .int)] [] = .ok (.bl true) hp) :
    FnOk P w K mg base (L2.CX P w) k f fd ["script"] (spT K) := R.imp (law_sp (c := ⟨K, mg, w⟩) h)
theorem fnk (F : L2.Fun K n n st f fd) (Sc : FnScope N ps (defScope st))
    (hb : ∀ (cdv : Value) (A : Around) (outer : List PySem.Env) (s : Shared) (H : Hp) (E : XK), Cc (cxOf (L2.CX P w) P w K mg base N n (defScope st) f cdv A outer s H E) ⟨K, mg, w⟩ (wE E) k →
      PSs (cxOf (L2.CX P w) P w K mg base N n (defScope st) f cdv A outer s H E) (defBody st) (tS ⟨K, mg, w⟩ (wE E) body)) : FnOk P w K mg base (L2.CX P w) (k + 1) f fd ps (spF ⟨K, mg, w⟩ ps.length (fnOf N.length body)) :=
  fn_ok F Sc fun cdv A outer s H E hr tk => hb cdv A outer s H E ⟨rfl, rfl, tk, hr, rfl, Sc.nd, rfl⟩
theorem fnr_of (F : L2.Fun K n n st f fd) (hm : mg n = some (.ref f)) {Fn' : Fn} (O : FnOk P w K mg base (L2.CX P w) k f fd ps (spF ⟨K, mg, w⟩ ps.length Fn'))
    (hbd : ∀ (kV doc pm : Value) (an : Option Addr) (cdv ct : Value) (us : List Value), us.length = ps.length → bindArgs (PySem.W.fnOf n n (defArgs st) (defBody st) (defScope st) .none kV doc pm an cdv ct) ⟨us, []⟩ = pure (ps.zip us)) : FnR ⟨K, mg, w⟩ P w base n st k ps Fn' :=
  ⟨f, fd, hm, F, O, F.binds hbd⟩
end
end DS
namespace DS
open PySem PySem.Spec PyProof.Rows L2
/-! ### a list, a tuple or a text, walked -/
def chrs (z : Str) : List D := z.cps.toList.map fun k => .str ⟨#[k]⟩
def itA (o : Ex) : DS.Itr := fun s => (o s).bind fun d s1 => match d with
  | .lst xs => .ok xs s1
  | .scr xs => .ok xs s1
  | .tup xs => .ok xs s1
  | _ => .bad
def iAny (K : PySem.W.Frag) (tl : TE) : TI := fun σ H R => tl σ H fun x H1 => ∃ a, x = .ref a ∧ ((∃ xs, SqL K H1 a xs ∧ R (Itl K a) H1) ∨ (∃ xs, SqT K H1 a xs ∧ R (Itt K a) H1))
theorem pi_any {X : Cx} {tg l : Expr} {tl : TE} (hl : PE X l tl) : PI X tg l (iAny X.K tl) := ⟨fun pins s σ H R I h => thn (hl.run pins s σ H _ I h) fun v s1 hv => by
  obtain ⟨x, H1, I1, r1, b, rfl, q1⟩ := hv
  cases r1
  have fr : ∀ c, c ∈ [s1.heap.objs.size] → FpOk X pins H1 c := fun c hc => by
    obtain rfl : c = s1.heap.objs.size := by simpa using hc
    exact I1.fpOk (Nat.le_refl _) (I1.hok.fresh (Nat.le_refl _))
  rcases q1 with ⟨xs, hq, q⟩ | ⟨xs, hq, q⟩
  · obtain ⟨its, rv, pl, _⟩ := I1.list hq
    exact wpAny_pyIter_list pl.isList ⟨s1.heap.objs.size, [s1.heap.objs.size], _, _, H1, rfl, I1.kept (t' := s1.toks) (fun c o e => Heap.get?_push_of_some _ e), turn_list b _, ⟨_, Heap.get?_push_size _ rfl, rfl, rfl⟩, fr, q⟩
  · obtain ⟨its, rv, pl, _⟩ := I1.tuple hq
    exact wpAny_pyIter_tuple (show s1.heap.IsTuple b its.toArray from pl) ⟨s1.heap.objs.size, [s1.heap.objs.size], _, _, H1, rfl, I1.kept (t' := s1.toks) (fun c o e => Heap.get?_push_of_some _ e), turn_tuple b _, ⟨_, Heap.get?_push_size _ rfl, rfl, rfl⟩, fr, q⟩⟩
section
variable {X : Cx} {c : Cn} {g : Gr} {W : WX} {k : Nat} {a : Ex} {e tg iter : Expr} {vs : List Nat} {t : Tg} {it : DS.Itr} {tt : S → R Bool} {f : Ex} {pos : Pos}
theorem i_any (C : Cc X c W k) (h : PE X e (tE c W a)) : PI X tg e (tI c W (itA a)) := pi_imp (pi_any h) fun σ H Rk h => by
  obtain ⟨g, M, ρ, s, rel, h⟩ := h
  refine tE.bind (out := fun M ρ H r => OutI c g W M ρ σ H r Rk) rel (fun _ _ z => z) (fun z => z) h fun d s1 M1 ρ1 v H1 r1 k1 hd h1 => ?_
  rw [C.hK]
  cases d <;> first | exact h1.elim | skip
  · obtain ⟨ad, vs, rfl, h2, h3⟩ := hd.sqt
    exact ⟨ad, rfl, .inr ⟨vs, h3 g M1 ρ1 H1 (Keep.refl _ _ _ _), h1 M1 ρ1 _ H1 r1 k1 (walk_t h2 h3)⟩⟩
  · obtain ⟨ad, vs, rfl, h2, h3⟩ := hd.sql (.inl rfl)
    exact ⟨ad, rfl, .inl ⟨vs, h3 g M1 ρ1 H1 (Keep.refl _ _ _ _), h1 M1 ρ1 _ H1 r1 k1 (walk_l h2 h3)⟩⟩
  · obtain ⟨ad, vs, rfl, h2, h3⟩ := hd.sql (.inr rfl)
    exact ⟨ad, rfl, .inl ⟨vs, h3 g M1 ρ1 H1 (Keep.refl _ _ _ _), h1 M1 ρ1 _ H1 r1 k1 (walk_l h2 h3)⟩⟩
/-- a comprehension's block, its names told -/
theorem l_lcN {scope sc : Scope} {N : List Str} {own : List (Str × Nat)} {ifs : List Expr} (C : Cc X c W k) (hv : own.map (·.2) = vs) (hi : PI X tg iter (tI c W it)) (hN : X.N = N) (hsc : X.env.scope = sc) (ok : BlkOk N sc scope own)
    (hg : ∀ (s : Shared) (H : Hp) (A : Addr) (cl : List (Str × Addr)) (fp : List Addr), PG (X.blk s H scope (compEnvC scope cl A X.env) fp) tg (tG c W0 vs t))
    (ht : ∀ (s : Shared) (H : Hp) (A : Addr) (cl : List (Str × Addr)) (fp : List Addr), Cc (X.blk s H scope (compEnvC scope cl A X.env) fp) c W0 k → PTs (X.blk s H scope (compEnvC scope cl A X.env) fp) ifs (tT c W0 tt))
    (he : ∀ (s : Shared) (H : Hp) (A : Addr) (cl : List (Str × Addr)) (fp : List Addr), Cc (X.blk s H scope (compEnvC scope cl A X.env) fp) c W0 k → PE (X.blk s H scope (compEnvC scope cl A X.env) fp) e (tE c W0 f)) (hs : ∀ x, foldedSetIterable iter X.env x = pure x := by intro _; rfl) :
    PE X (.ListComp e [⟨tg, iter, ifs, 0⟩] scope pos) (tL c W (lcE it t vs tt f)) := l_lc C hv hi (by rw [hN, hsc]; exact ok) hg ht he hs
theorem s_setLcN {scope sc : Scope} {N : List Str} {own : List (Str × Nat)} {ifs : List Expr} {y : Str} {py spos : Pos} (C : Cc X c W k) (i : Nat) (hv : own.map (·.2) = vs) (hi : PI X tg iter (tI c W it)) (hN : X.N = N) (hsc : X.env.scope = sc) (ok : BlkOk N sc scope own)
    (hg : ∀ (s : Shared) (H : Hp) (A : Addr) (cl : List (Str × Addr)) (fp : List Addr), PG (X.blk s H scope (compEnvC scope cl A X.env) fp) tg (tG c W0 vs t))
    (ht : ∀ (s : Shared) (H : Hp) (A : Addr) (cl : List (Str × Addr)) (fp : List Addr), Cc (X.blk s H scope (compEnvC scope cl A X.env) fp) c W0 k → PTs (X.blk s H scope (compEnvC scope cl A X.env) fp) ifs (tT c W0 tt))
    (he : ∀ (s : Shared) (H : Hp) (A : Addr) (cl : List (Str × Addr)) (fp : List Addr), Cc (X.blk s H scope (compEnvC scope cl A X.env) fp) c W0 k → PE (X.blk s H scope (compEnvC scope cl A X.env) fp) e (tE c W0 f))
    (hy : X.N[i]? = some y := by rfl) (hyl : X.env.scope.names.lookup y = some .local := by rfl) (hsw : swapsWith (.ListComp e [⟨tg, iter, ifs, 0⟩] scope pos) (some (.Name y py)) spos.line X.env = pure true := by rfl) (hs : ∀ x, foldedSetIterable iter X.env x = pure x := by intro _; rfl) :
    PS X (.Assign [.Name y py] (.ListComp e [⟨tg, iter, ifs, 0⟩] scope pos) spos) (tS c W (setL i (lcE it t vs tt f))) := s_setLc C i hv hi (by rw [hN, hsc]; exact ok) hg ht he hy hyl hsw hs
end
end DS
/-! DS13: working out what defs do. -/
namespace DS
open PySem PySem.Spec PyProof.Rows L2
section
variable {t : S → R Bool} {b : Sm}
theorem whlS_def (s : S) : (∃ n, whlN t b n s ≠ .bad ∧ whlS t b s = whlN t b n s) ∨ ((∀ n, whlN t b n s = .bad) ∧ whlS t b s = .bad) := by
  by_cases h : ∃ n, whlN t b n s ≠ .bad
  · obtain ⟨n, hn⟩ := h
    exact .inl ⟨n, hn, whlS_of rfl hn⟩
  · right
    have h2 : ∀ n, whlN t b n s = .bad := fun n => by
      by_cases q : whlN t b n s = .bad
      · exact q
      · exact absurd ⟨n, q⟩ h
    refine ⟨h2, ?_⟩
    unfold whlS
    rw [dif_neg h]
def turn (t : S → R Bool) (b : Sm) (k : S → R Fl) (s : S) : R Fl := (t s).bind fun c s1 => if c = true then (b s1).bind fun fl s2 => match fl with
      | .nx => k s2
      | .ct => k s2
      | .bk => .ok .nx s2
      | .rt d => .ok (.rt d) s2
    else .ok .nx s1
theorem turn_mono {k k' : S → R Fl} {s : S} (h : ∀ s, k s ≠ .bad → k' s = k s) (hs : turn t b k s ≠ .bad) : turn t b k' s = turn t b k s := by
  unfold turn at hs ⊢
  cases q : t s with
  | bad => rfl
  | exc x s1 => rfl
  | ok c s1 =>
    rw [q] at hs
    simp only [R.bind_ok] at hs ⊢
    cases c with
    | false => rfl
    | true =>
      simp only [if_true] at hs ⊢
      cases q2 : b s1 with
      | bad => rfl
      | exc x s2 => rfl
      | ok fl s2 =>
        rw [q2] at hs
        cases fl with
        | nx => exact h s2 hs
        | ct => exact h s2 hs
        | bk => rfl
        | rt d => rfl
theorem turn_used {k : S → R Fl} {s : S} (hs : turn t b k s ≠ .bad) : (∃ s2, k s2 ≠ .bad ∧ ∀ k', k' s2 = k s2 → turn t b k' s = turn t b k s) ∨ ∀ k', turn t b k' s = turn t b k s := by
  unfold turn at hs ⊢
  cases q : t s with
  | bad => rw [q] at hs; exact absurd rfl hs
  | exc x s1 => exact .inr fun k' => rfl
  | ok c s1 =>
    rw [q] at hs
    simp only [R.bind_ok] at hs ⊢
    cases c with
    | false => exact .inr fun k' => rfl
    | true =>
      simp only [if_true] at hs ⊢
      cases q2 : b s1 with
      | bad => rw [q2] at hs; exact absurd rfl hs
      | exc x s2 => exact .inr fun k' => rfl
      | ok fl s2 =>
        rw [q2] at hs
        cases fl with
        | nx => exact .inl ⟨s2, hs, fun k' h => h⟩
        | ct => exact .inl ⟨s2, hs, fun k' h => h⟩
        | bk => exact .inr fun k' => rfl
        | rt d => exact .inr fun k' => rfl
theorem whlS_eq (s : S) : whlS t b s = turn t b (whlS t b) s := by
  have up : ∀ n, whlN t b (n + 1) s = turn t b (whlN t b n) s := fun n => rfl
  rcases whlS_def (t := t) (b := b) s with ⟨n, hn, e⟩ | ⟨hn, e⟩
  · obtain ⟨m, rfl⟩ : ∃ m, n = m + 1 := ⟨n - 1, by
      cases n with
      | zero => exact absurd rfl hn
      | succ n => rfl⟩
    rw [e, up]
    rw [up] at hn
    exact (turn_mono (fun s hs => whlS_of rfl hs) hn).symm
  · rw [e]
    by_cases q : turn t b (whlS t b) s = .bad
    · exact q.symm
    · exfalso
      rcases turn_used q with ⟨s2, h1, h2⟩ | h
      · rcases whlS_def (t := t) (b := b) s2 with ⟨n, h3, h4⟩ | ⟨h3, h4⟩
        · have := h2 (whlN t b n) h4.symm
          rw [← up, hn (n + 1)] at this
          exact q this.symm
        · exact h1 h4
      · have := h (whlN t b 0)
        rw [← up, hn 1] at this
        exact q this.symm
end
end DS
/-! DS14: == worked out; numbers. -/
namespace DS
open PySem PySem.Spec PyProof.Rows L2
theorem pyEq_of {x y : D} {p q : PyData} (h1 : toPy x = some p) (h2 : toPy y = some q) (s1 : SeqAt.shaped p = true) (s2 : SeqAt.shaped q = true) : pyEq x y = some (PyData.eqv p q) := by
  unfold pyEq
  rw [h1, h2]
  show (if (SeqAt.shaped p && SeqAt.shaped q) = true then _ else _) = _
  rw [s1, s2]
  rfl
theorem toPy_int (i : Int) : toPy (.int i) = some (.int i) := by unfold toPy; rfl
theorem toPy_str (i : Str) : toPy (.str i) = some (.str i) := by unfold toPy; rfl
theorem toPy_bl (i : Bool) : toPy (.bl i) = some (.bool i) := by unfold toPy; rfl
theorem toPy_non : toPy .non = some .none := by unfold toPy; rfl
theorem shaped_int (i : Int) : SeqAt.shaped (.int i) = true := by
  unfold SeqAt.shaped
  simp [PyData.canLay0, PyData.depth]
theorem shaped_bl (i : Bool) : SeqAt.shaped (.bool i) = true := by
  unfold SeqAt.shaped
  simp [PyData.canLay0, PyData.depth]
theorem shaped_non : SeqAt.shaped .none = true := by
  unfold SeqAt.shaped
  simp [PyData.canLay0, PyData.depth]
theorem pyEq_int (i j : Int) : pyEq (.int i) (.int j) = some (decide (i = j)) := by
  rw [pyEq_of (toPy_int i) (toPy_int j) (shaped_int i) (shaped_int j)]
  simp [PyData.eqv]
  rfl
theorem pyEq_bl (i j : Bool) : pyEq (.bl i) (.bl j) = some (decide (i = j)) := by
  rw [pyEq_of (toPy_bl i) (toPy_bl j) (shaped_bl i) (shaped_bl j)]
  simp [PyData.eqv]
  cases i <;> cases j <;> rfl
theorem pyEq_str (x y : Str) (hx : PyData.canLay0 (.str x) = true) (hy : PyData.canLay0 (.str y) = true) : pyEq (.str x) (.str y) = some (x == y) := by
  have sh : ∀ z : Str, PyData.canLay0 (.str z) = true → SeqAt.shaped (.str z) = true := fun z hz => by
    unfold SeqAt.shaped
    rw [hz]
    simp [PyData.depth]
  rw [pyEq_of (toPy_str x) (toPy_str y) (sh x hx) (sh y hy)]
  simp [PyData.eqv]
theorem toPys_ints : ∀ ns : List Int, toPys (ns.map .int) = some (ns.map .int)
  | [] => by unfold toPys; rfl
  | n :: ns => by
    show toPys (.int n :: ns.map .int) = _
    unfold toPys
    rw [toPy_int, toPys_ints ns]
    rfl
theorem eqvAll_ints : ∀ xs ys : List Int, PyData.eqvAll (xs.map .int) (ys.map .int) = decide (xs = ys)
  | [], [] => by simp [PyData.eqvAll]
  | [], _ :: _ => by simp [PyData.eqvAll]
  | _ :: _, [] => by simp [PyData.eqvAll]
  | x :: xs, y :: ys => by
    simp only [List.map_cons, PyData.eqvAll, PyData.eqv]
    rw [eqvAll_ints xs ys]
    by_cases h : x = y <;> by_cases h' : xs = ys <;> simp [h, h']
theorem ints_flat : ∀ ns : List Int, PyData.canLayAll0 (ns.map .int) = true ∧ PyData.depthAll (ns.map .int) = 0
  | [] => by simp [PyData.canLayAll0, PyData.depthAll]
  | n :: ns => by
    obtain ⟨h1, h2⟩ := ints_flat ns
    simp only [List.map_cons, PyData.canLayAll0, PyData.depthAll, PyData.canLay0, PyData.depth, h1, h2]
    exact ⟨rfl, rfl⟩
theorem pyEq_ints (xs ys : List Int) : pyEq (.lst (xs.map .int)) (.lst (ys.map .int)) = some (decide (xs = ys)) := by
  have sh : ∀ ns : List Int, SeqAt.shaped (.list (ns.map .int)) = true := fun ns => by
    unfold SeqAt.shaped
    obtain ⟨h1, h2⟩ := ints_flat ns
    simp [PyData.canLay0, PyData.depth, h1, h2]
  have tp : ∀ ns : List Int, toPy (.lst (ns.map .int)) = some (.list (ns.map .int)) := fun ns => by
    unfold toPy
    rw [toPys_ints]
    rfl
  rw [pyEq_of (tp xs) (tp ys) (sh xs) (sh ys)]
  simp only [PyData.eqv]
  rw [eqvAll_ints]
theorem eqD_int (i j : Int) : eqD (.int i) (.int j) = some (.bl (decide (i = j))) := by unfold eqD; rw [pyEq_int]; rfl
theorem neD_int (i j : Int) : neD (.int i) (.int j) = some (.bl (!decide (i = j))) := by unfold neD; rw [pyEq_int]; rfl
theorem eqD_bl (i j : Bool) : eqD (.bl i) (.bl j) = some (.bl (decide (i = j))) := by unfold eqD; rw [pyEq_bl]; rfl
theorem neD_bl (i j : Bool) : neD (.bl i) (.bl j) = some (.bl (!decide (i = j))) := by unfold neD; rw [pyEq_bl]; rfl
theorem eqD_ints (xs ys : List Int) : eqD (.lst (xs.map .int)) (.lst (ys.map .int)) = some (.bl (decide (xs = ys))) := by unfold eqD; rw [pyEq_ints]; rfl
theorem toInts_map : ∀ ns : List Int, toInts (ns.map .int) = some ns
  | [] => rfl
  | n :: ns => by
    show (toInts (ns.map .int)).map _ = _
    rw [toInts_map ns]
    rfl
end DS
namespace DS
/-! ### step by step -/
section
variable {a b : Sm} {t : S → R Bool} {s s1 s2 : S} {r : R Fl} {f : Ex} {d : D} {n : Nat} {as : List D} {hp hp' : List Ob} {x : Exn}
theorem sq_nx (h : a s = .ok .nx s1) (h2 : b s1 = r) : sqS a b s = r := by unfold sqS; rw [h]; exact h2
theorem sq_rt (h : a s = .ok (.rt d) s1) : sqS a b s = .ok (.rt d) s1 := by unfold sqS; rw [h]; rfl
theorem if_tt (h : t s = .ok true s1) (h2 : a s1 = r) : ifS t a b s = r := by unfold ifS; rw [h]; exact h2
theorem if_ff (h : t s = .ok false s1) (h2 : b s1 = r) : ifS t a b s = r := by unfold ifS; rw [h]; exact h2
theorem if_by {c : Bool} (h : t s = .ok c s1) (h1 : c = true → a s1 = r) (h2 : c = false → b s1 = r) : ifS t a b s = r := by
  cases c with
  | true => exact if_tt h (h1 rfl)
  | false => exact if_ff h (h2 rfl)
theorem fn_rt (h : a ⟨as.map .v ++ List.replicate (n - as.length) .un, hp⟩ = .ok (.rt d) s1) (e : s1.hp = hp' := by rfl) : fnOf n a as hp = .ok d hp' := by unfold fnOf; rw [h]; subst e; rfl
theorem fn_nx (h : a ⟨as.map .v ++ List.replicate (n - as.length) .un, hp⟩ = .ok .nx s1) (e : s1.hp = hp' := by rfl) : fnOf n a as hp = .ok .non hp' := by unfold fnOf; rw [h]; subst e; rfl
theorem rt_of (h : f s = .ok d s1) : retS f s = .ok (.rt d) s1 := by unfold retS; rw [h]; rfl
theorem for_of {it : DS.Itr} {tg : Tg} {ds : List D} (h : it s = .ok ds s1) (h2 : forL tg b ds s1 = r) : forS it tg b s = r := by unfold forS; rw [h]; exact h2
theorem forL_cons {tg : Tg} {ds : List D} (h : tg d s = some s1) (h2 : b s1 = .ok .nx s2) : forL tg b (d :: ds) s = forL tg b ds s2 := by
  rw [forL, h]
  simp only [h2, R.bind_ok]
theorem forL_nil {tg : Tg} : forL tg b [] s = .ok .nx s := rfl
end
end DS
namespace DS
section
variable {t : Tg} {vs : List Nat} {tt : S → R Bool} {f : Ex} {s s1 s2 s3 : S} {d y : D} {ds acc acc' : List D} {it : DS.Itr}
theorem lcL_nil : lcL t vs tt f [] acc s = .ok acc s := rfl
theorem lcL_cons (h1 : t d s = some s1) (h2 : tt s1 = .ok true s2) (h3 : f s2 = .ok y s3) (hl : acc.length < LIM) : lcL t vs tt f (d :: ds) acc s = lcL t vs tt f ds (acc ++ [y]) ⟨wipeE s3.env vs, s3.hp⟩ := by
  rw [lcL]
  simp only [h1, h2, h3, if_pos hl]
theorem lcL_skip (h1 : t d s = some s1) (h2 : tt s1 = .ok false s2) : lcL t vs tt f (d :: ds) acc s = lcL t vs tt f ds acc ⟨wipeE s2.env vs, s2.hp⟩ := by
  rw [lcL]
  simp only [h1, h2]
theorem lcE_of (h : it s = .ok ds s1) (hn : noOwn s1.env vs = true) (hl : lcL t vs tt f ds [] ⟨wipeE s1.env vs, s1.hp⟩ = .ok acc s2) : lcE it t vs tt f s = .ok acc ⟨restE s1.env s2.env vs, s2.hp⟩ := by
  unfold lcE
  rw [h]
  simp only [R.bind_ok, if_pos hn, hl]
end
theorem upTo_len (lo : Int) (n : Nat) : (upTo lo n).length = n := by simp [upTo]
end DS
namespace DS
open L2
theorem cutL_to {α : Type} (xs : List α) (j : Nat) : cutL xs none (some (j : Int)) = xs.take j := by
  unfold cutL
  rw [HT.sIx_none, HT.sIx_nat, List.drop_zero, Nat.sub_zero]
  rw [List.take_eq_take_iff]
  omega
theorem cutL_ft {α : Type} (xs : List α) (i j : Nat) : cutL xs (some (i : Int)) (some (j : Int)) = (xs.drop i).take (j - i) := by
  unfold cutL
  rw [HT.sIx_nat, HT.sIx_nat]
  by_cases h : i ≤ xs.length
  · rw [Nat.min_eq_left h, List.take_eq_take_iff, List.length_drop]
    omega
  · rw [List.drop_eq_nil_of_le (show xs.length ≤ min i xs.length by omega), List.drop_eq_nil_of_le (show xs.length ≤ i by omega)]
    simp
theorem cutL_from {α : Type} (xs : List α) (i : Nat) : cutL xs (some (i : Int)) none = xs.drop i := by
  unfold cutL
  rw [HT.sIx_nat, HT.sIx_none]
  by_cases h : i ≤ xs.length
  · rw [Nat.min_eq_left h, List.take_of_length_le (by rw [List.length_drop]; omega)]
  · rw [List.drop_eq_nil_of_le (show xs.length ≤ min i xs.length by omega), List.drop_eq_nil_of_le (show xs.length ≤ i by omega)]
    simp
end DS
namespace DS
theorem itR1_ok {a : Ex} {s s1 : S} {j : Int} {n : Nat} (h : a s = .ok (.int j) s1) (c1 : -(2 ^ 62) ≤ j) (c2 : j < 2 ^ 62) (hn : j.toNat = n) : itR1 a s = .ok (upTo 0 n) s1 := by
  unfold itR1
  rw [h]
  subst hn
  simp only [R.bind_ok]
  rw [if_pos]
  rw [Bool.and_eq_true, decide_eq_true_eq, decide_eq_true_eq]
  exact ⟨c1, c2⟩
theorem itR2_ok {a b : Ex} {s s1 s2 : S} {i j : Int} {n : Nat} (h : a s = .ok (.int i) s1) (h' : b s1 = .ok (.int j) s2) (c1 : -(2 ^ 62) ≤ i) (c2 : i < 2 ^ 62) (c3 : -(2 ^ 62) ≤ j) (c4 : j < 2 ^ 62) (hn : (j - i).toNat = n) : itR2 a b s = .ok (upTo i n) s2 := by
  unfold itR2
  rw [h]
  simp only [R.bind_ok]
  rw [h']
  subst hn
  simp only [R.bind_ok]
  rw [if_pos]
  simp only [Bool.and_eq_true, decide_eq_true_eq]
  exact ⟨⟨⟨c1, c2⟩, c3⟩, c4⟩
theorem seqIx {r : Int} {n : Nat} (h0 : 0 ≤ r) (h1 : r < n) : PySem.seqIndex? r n = some r.toNat := by
  unfold PySem.seqIndex?
  simp [show ¬ r < 0 by omega, h0, h1]
theorem popAt_ok {xs ys : List D} {r : Int} {d : D} (h0 : 0 ≤ r) (h1 : r < xs.length) (h2 : xs.length < 1000) (hd : xs[r.toNat]? = some d) (he : xs.eraseIdx r.toNat = ys) : DS.popAtF xs [.int r] = some (d, ys) := by
  unfold DS.popAtF
  simp only [seqIx h0 h1, Option.bind_some, hd, Option.map_some, he]
  rw [if_pos]
  simp only [Bool.and_eq_true, decide_eq_true_eq]
  omega
end DS
/-! DS15: count, index of tuples. -/
namespace DS
open PySem PySem.Spec PyProof.Rows L2
section
variable {X : Cx} {pins : List (Addr × Obj)} {σ : L2.St} {H : Hp} {s : Shared}
theorem NoD.at_ {a : Addr} {vs : List V} (I : Inv X pins σ H s) (h : NoD X.K H a vs) : s.TypeIs (.ref a) "tuple" ∧ ∀ b, Value.ref a = .ref b → ∃ ob, s.heap.get? b = some ob ∧ ob.dict = none := by
  rcases h with ⟨o, e, oc, od⟩ | ⟨o, e, oc, od⟩
  · have z := (show ObjOk X.prog X.w H s.heap a (.frz o (.tup vs)) from I.hok a _ e).1
    exact ⟨⟨o, z, oc⟩, fun b q => by cases q; exact ⟨o, z, od⟩⟩
  · have z := I.kIn a o e
    exact ⟨⟨o, z, oc⟩, fun b q => by cases q; exact ⟨o, z, od⟩⟩
def tTM (K : PySem.W.Frag) (r : V → List V → Hp → VK → Prop) (to : TE) (t : TA) : TE := fun σ H Q => to σ H fun x H1 => (∃ a vs, x = .ref a ∧ NoD K H1 a vs) ∧ t σ H1 fun xs H2 => r x xs H2 Q
theorem pe_tm {o e : Expr} {es : List Expr} {to : TE} {t : TA} {name : Str} {apos cpos : Pos} {id : String} {r : V → List V → Hp → VK → Prop} (slot : PySem.Slot "tuple" name id) (hty : typeOf (.builtin id) = pure (.type "method_descriptor")) (hm : MtM X id r) (ho : PE X o to) (ha : PA X (e :: es) t)
    (hbase : attributeBase o name X.env (eval o X.env) = eval o X.env := by rfl)
    (hfew : ((backTo cpos (starEach (e :: es) X.env)).all (fun x => !x.1) && (backToKw cpos (keywordEach [] X.env)).all (fun x => x.1.isSome) && decide ((e :: es).length + ([] : List Keyword).length + (if ([] : List Keyword).isEmpty then 0 else 1) < 30)) = true := by rfl)
    (hline : (apos.endLine == cpos.line) = true := by rfl) (hs : starEach (e :: es) X.env = (false, eval e X.env) :: starEach es X.env := by rfl) (hplain : (backTo cpos (starEach es X.env)).any (·.1) = false := by rfl) :
    PE X (.Call (.Attribute o name apos) (e :: es) [] cpos) (tTM X.K r to t) := ⟨fun pins s σ H Q I h =>
  wpAny_Call_method_late hbase hfew hline rfl (thn (ho.run pins s σ H _ I h) fun v s1 hv => by
    obtain ⟨x, H1, I1, r1, ⟨a, vs, ex, nd⟩, q1⟩ := hv
    subst ex; cases r1
    obtain ⟨t1, t2⟩ := nd.at_ I1
    refine ⟨"tuple", id, PySem.F.plainAttrs_tuple, slot, hty, t1, t2, ?_⟩
    have hz := ha.run cpos pins s1 σ H1 _ I1 q1; rw [hs] at hz ⊢
    exact Calls.callWith_builtin (by show (false || (backTo cpos (starEach es X.env)).any (·.1)) = false; rw [hplain]; rfl) (Calls.evalArgs_plain (thn hz fun us s2 ⟨ws, H2, I2, r2, q2⟩ => hm pins s2 σ H2 (.ref a) ws (.ref a) us Q I2 rfl r2 q2)))⟩
/-- how often, where first -/
def rCntT (K : PySem.W.Frag) : V → List V → Hp → VK → Prop := fun x xs H Q => ∃ (a : Addr) (y : V) (d : PyData) (ds : List PyData), x = V.ref a ∧ xs = [y] ∧ Dp K H (V.ref a) (.tuple ds) ∧ Dp K H y d ∧ SeqAt.shaped (.tuple ds) = true ∧ SeqAt.shaped d = true ∧ Q (.int ((ds.countP fun z => PyData.eqv z d : Nat) : Int)) H
def rIdxT (K : PySem.W.Frag) : V → List V → Hp → VK → Prop := fun x xs H Q => ∃ (a : Addr) (y : V) (d : PyData) (ds : List PyData) (j : Nat), x = V.ref a ∧ xs = [y] ∧ Dp K H (V.ref a) (.tuple ds) ∧ Dp K H y d ∧ SeqAt.shaped (.tuple ds) = true ∧ SeqAt.shaped d = true ∧ SeqAt.dataPlace ds d = some j ∧ Q (.int (j : Nat)) H
theorem room_t {ds : List PyData} {d : PyData} {A : Around} (sl : SeqAt.shaped (.tuple ds) = true) (hu : A.units + 65 < cLine) : A.units + 1 + min (PyData.depthAll ds) d.depth < cLine := by
  have h1 := SeqAt.depth_of_shaped sl
  simp only [PyData.depth] at h1
  omega
theorem mt_cntT (hu : X.A.units + 65 < cLine) : MtM X "tuple.count" (rCntT X.K) := by
  intro pins s σ H x xs v us Q I rx rxs ⟨a, y, d, ds, ex, exs, hl, hy, sl, sd, q⟩
  subst ex exs; cases rx
  obtain ⟨uy, rfl, ry⟩ := rxs.one
  obtain ⟨bs, r1⟩ := Dp.reads I d y uy hy ry
  cases hl with
  | tup hs ha =>
    obtain ⟨its, rv, pl, _⟩ := I.tuple hs
    obtain ⟨as, r2⟩ := Dp.readsAll I ds _ its ha rv
    exact SeqAt.count_tuple_data pl r2 r1 (PyData.plainAll_of_canLay0 _ (by have := SeqAt.canLay_of_shaped sl; simpa [PyData.canLay0] using this)) (PyData.plain_of_canLay0 _ (SeqAt.canLay_of_shaped sd)) (room_t sl hu) ⟨.int _, H, I.tok _, ⟨_, rfl⟩, q⟩
theorem mt_idxT (hu : X.A.units + 65 < cLine) : MtM X "tuple.index" (rIdxT X.K) := by
  intro pins s σ H x xs v us Q I rx rxs ⟨a, y, d, ds, j, ex, exs, hl, hy, sl, sd, hj, q⟩
  subst ex exs; cases rx
  obtain ⟨uy, rfl, ry⟩ := rxs.one
  obtain ⟨bs, r1⟩ := Dp.reads I d y uy hy ry
  cases hl with
  | tup hs ha =>
    obtain ⟨its, rv, pl, _⟩ := I.tuple hs
    obtain ⟨as, r2⟩ := Dp.readsAll I ds _ its ha rv
    have hx : PyData.plainAll ds = true := PyData.plainAll_of_canLay0 _ (by have := SeqAt.canLay_of_shaped sl; simpa [PyData.canLay0] using this)
    obtain ⟨hj2, k1, k2⟩ := SeqAt.hit_at (vs := its.toArray) (by simpa using r2) hx hj
    obtain ⟨⟨cl, dd, da, so⟩, ho, hc, n, hd⟩ := id pl
    simp only at hc hd; subst hc hd
    exact call_meets PySem.F.slot_tuple_index ⟨_, ho, rfl⟩ PySem.F.entry_tuple_index (PySem.F.args_tuple_index_2 _ _) (TI.tuple_indexAt a its.toArray n dd so uy (fun u => PyData.eqv (SeqAt.readOf s.heap u) d) j hj2 k1 k2) ⟨ho, SeqAt.items_plain (vs := its.toArray) (by simpa using r2) r1 hx (PyData.plain_of_canLay0 _ (SeqAt.canLay_of_shaped sd)) (room_t sl hu), ⟨.int (j : Nat), H, I.tok _, ⟨_, rfl⟩, q⟩⟩
end
/-- over data -/
def mthT (F : List D → D → Option D) (o : Op) (f : Ex) : Ex := fun s => (o s).bind fun t s1 => match deref s1 t with
  | some (.tup _) => (f s1).bind fun y s2 => R.of ((deref s2 t).bind fun x => match x with
    | .tup xs => F xs y
    | _ => none) s2
  | _ => .bad
def cntF (xs : List D) (y : D) : Option D := (toPys xs).bind fun ps => (toPy y).bind fun p => if SeqAt.shaped (.tuple ps) && SeqAt.shaped p then some (.int ((ps.countP fun z => PyData.eqv z p : Nat) : Int)) else none
def idxF (xs : List D) (y : D) : Option D := (toPys xs).bind fun ps => (toPy y).bind fun p => if SeqAt.shaped (.tuple ps) && SeqAt.shaped p then (SeqAt.dataPlace ps p).map fun j => .int (j : Nat) else none
section
variable {X : Cx} {c : Cn} {g : Gr} {W : WX} {k : Nat} {a e : Expr} {o : Op} {f : Ex} {apos cpos : Pos} {σ : L2.St} {H : Hp} {Q : VK}
def VT (c : Cn) (r : V → List V → Hp → VK → Prop) (F : List D → D → Option D) : Prop := ∀ (M : Am) (ρ : List Addr) (H : Hp) (xs : List D) (y d : D) (v u : V) (Q : VK), RW c M ρ H (.tup xs) v → RD c M ρ H y u → F xs y = some d → (∀ w, (∀ M ρ H, RD c M ρ H d w) → Q w H) → r v [u] H Q
theorem vt_cnt (hK : X.K = c.K) : VT c (rCntT X.K) cntF := by
  intro M ρ H xs y d v u Q hx hy hF q
  unfold cntF at hF
  obtain ⟨ps, h1, hF⟩ := Option.bind_eq_some_iff.mp hF
  obtain ⟨p, h2, hF⟩ := Option.bind_eq_some_iff.mp hF
  split at hF
  · rename_i hs
    cases hF
    rw [Bool.and_eq_true] at hs
    have ht : toPy (.tup xs) = some (.tuple ps) := by unfold toPy; rw [h1]; rfl
    obtain ⟨ad, vs, rfl, _⟩ := hx.tup
    exact ⟨ad, u, p, ps, rfl, rfl, hK ▸ hx.dp ht, hK ▸ hy.dp h2, hs.1, hs.2, q _ fun _ _ _ => .int _⟩
  · cases hF
theorem vt_idx (hK : X.K = c.K) : VT c (rIdxT X.K) idxF := by
  intro M ρ H xs y d v u Q hx hy hF q
  unfold idxF at hF
  obtain ⟨ps, h1, hF⟩ := Option.bind_eq_some_iff.mp hF
  obtain ⟨p, h2, hF⟩ := Option.bind_eq_some_iff.mp hF
  split at hF
  · rename_i hs
    obtain ⟨j, hj, rfl⟩ := Option.map_eq_some_iff.mp hF
    rw [Bool.and_eq_true] at hs
    have ht : toPy (.tup xs) = some (.tuple ps) := by unfold toPy; rw [h1]; rfl
    obtain ⟨ad, vs, rfl, _⟩ := hx.tup
    exact ⟨ad, u, p, ps, j, rfl, rfl, hK ▸ hx.dp ht, hK ▸ hy.dp h2, hs.1, hs.2, hj, q _ fun _ _ _ => .int _⟩
  · cases hF
theorem t_mthT {r : V → List V → Hp → VK → Prop} {F : List D → D → Option D} (hK : X.K = c.K) (hv : VT c r F) (h : tE c W (mthT F o f) σ H Q) : tTM X.K r (tO c W o) (tA c W [f]) σ H Q := by
  obtain ⟨g, M, ρ, s, rel, h⟩ := h
  refine tO.bind (out := fun M ρ H r => OutE c g W M ρ σ H r Q) rel (fun _ _ z => z) (fun z => z) h fun t s1 M1 ρ1 v H1 r1 k1 t1 h1 => ?_
  have h1 := OutE.keep k1 h1
  cases q : deref s1 t with
  | none => rw [q] at h1; exact h1.elim
  | some x =>
    rw [q] at h1
    cases x <;> first | exact h1.elim | skip
    rename_i xs
    obtain ⟨ad, vs, rfl, _, _, nd⟩ := (RW.of_tok r1 t1 q).tupN
    refine ⟨⟨ad, vs, rfl, hK ▸ nd⟩, g, M1, ρ1, s1, r1, ?_⟩
    show OutA c g W M1 ρ1 σ H1 ((f s1).bind fun d s2 => (R.ok [] s2).bind fun ds s3 => .ok (d :: ds) s3) _
    cases q2 : f s1 with
    | bad => simp only [q2] at h1; exact h1.elim
    | exc x s2 => simp only [q2] at h1; exact h1
    | ok y s2 =>
      simp only [q2, R.bind_ok] at h1
      intro M2 ρ2 ws H2 r2 k2 rd
      cases rd with
      | cons hy hn =>
        cases hn
        have h2 := OutE.keep k2 h1
        cases q3 : (deref s2 t).bind fun x => match x with
            | .tup xs => F xs y
            | _ => none with
        | none => rw [q3] at h2; exact h2.elim
        | some d =>
          rw [q3] at h2
          obtain ⟨x, hx, hF⟩ := Option.bind_eq_some_iff.mp q3
          cases x <;> first | cases hF | skip
          exact hv M2 ρ2 H2 _ y d _ _ Q (RW.of_tok r2 (t1.keep k2) hx) hy hF fun w hw => h2 M2 ρ2 w H2 r2 (Keep.refl _ _ _ _) (hw _ _ _)
theorem e_cntT (C : Cc X c W k) (ho : PE X a (tO c W o)) (hf : PE X e (tE c W f)) (hs : starEach [e] X.env = (false, eval e X.env) :: starEach [] X.env := by rfl) (hbase : attributeBase a "count" X.env (eval a X.env) = eval a X.env := by rfl)
    (hfew : ((backTo cpos (starEach [e] X.env)).all (fun x => !x.1) && (backToKw cpos (keywordEach [] X.env)).all (fun x => x.1.isSome) && decide ([e].length + ([] : List Keyword).length + (if ([] : List Keyword).isEmpty then 0 else 1) < 30)) = true := by rfl)
    (hline : (apos.endLine == cpos.line) = true := by rfl) : PE X (.Call (.Attribute a "count" apos) [e] [] cpos) (tE c W (mthT cntF o f)) :=
  pe_imp (pe_tm PySem.F.slot_tuple_count PySem.F.type_tuple_count (mt_cntT (by have := C.rm.un; omega)) ho (a_cons hf a_nil hs) hbase hfew hline hs) fun σ H Q h => t_mthT C.hK (vt_cnt C.hK) h
theorem e_idxT (C : Cc X c W k) (ho : PE X a (tO c W o)) (hf : PE X e (tE c W f)) (hs : starEach [e] X.env = (false, eval e X.env) :: starEach [] X.env := by rfl) (hbase : attributeBase a "index" X.env (eval a X.env) = eval a X.env := by rfl)
    (hfew : ((backTo cpos (starEach [e] X.env)).all (fun x => !x.1) && (backToKw cpos (keywordEach [] X.env)).all (fun x => x.1.isSome) && decide ([e].length + ([] : List Keyword).length + (if ([] : List Keyword).isEmpty then 0 else 1) < 30)) = true := by rfl)
    (hline : (apos.endLine == cpos.line) = true := by rfl) : PE X (.Call (.Attribute a "index" apos) [e] [] cpos) (tE c W (mthT idxF o f)) :=
  pe_imp (pe_tm PySem.F.slot_tuple_index PySem.F.type_tuple_index (mt_idxT (by have := C.rm.un; omega)) ho (a_cons hf a_nil hs) hbase hfew hline hs) fun σ H Q h => t_mthT C.hK (vt_idx C.hK) h
end
end DS
/-! DS16: max, min of a list, a tuple of ints; blocks within blocks. -/
namespace DS
open PySem PySem.Spec PyProof.Rows L2
def mxI : List Int → Option Int
  | [] => none
  | n :: ns => some (ns.foldl max n)
def mnI : List Int → Option Int
  | [] => none
  | n :: ns => some (ns.foldl min n)
def max1D : D → Option D
  | .tup xs => (toInts xs).bind fun ns => (mxI ns).map .int
  | .lst xs => (toInts xs).bind fun ns => (mxI ns).map .int
  | .scr xs => (toInts xs).bind fun ns => (mxI ns).map .int
  | _ => none
def min1D : D → Option D
  | .tup xs => (toInts xs).bind fun ns => (mnI ns).map .int
  | .lst xs => (toInts xs).bind fun ns => (mnI ns).map .int
  | .scr xs => (toInts xs).bind fun ns => (mnI ns).map .int
  | _ => none
theorem mx_is : ∀ (ns : List Int) (n : Int), ns.foldl max n ∈ n :: ns ∧ ∀ y ∈ n :: ns, y ≤ ns.foldl max n
  | [], n => by simp
  | k :: ns, n => by
    obtain ⟨h1, h2⟩ := mx_is ns (max n k)
    rw [List.foldl_cons]
    refine ⟨?_, fun y hy => ?_⟩
    · rcases List.mem_cons.mp h1 with e | h
      · rw [e]
        rcases Int.le_total n k with q | q
        · rw [Int.max_eq_right q]; simp
        · rw [Int.max_eq_left q]; simp
      · exact List.mem_cons_of_mem _ (List.mem_cons_of_mem _ h)
    · have h3 := h2 (max n k) List.mem_cons_self
      rcases List.mem_cons.mp hy with e | hy
      · rw [e]; omega
      · rcases List.mem_cons.mp hy with e | hy
        · rw [e]; omega
        · exact h2 y (List.mem_cons_of_mem _ hy)
theorem mn_is : ∀ (ns : List Int) (n : Int), ns.foldl min n ∈ n :: ns ∧ ∀ y ∈ n :: ns, ns.foldl min n ≤ y
  | [], n => by simp
  | k :: ns, n => by
    obtain ⟨h1, h2⟩ := mn_is ns (min n k)
    rw [List.foldl_cons]
    refine ⟨?_, fun y hy => ?_⟩
    · rcases List.mem_cons.mp h1 with e | h
      · rw [e]
        rcases Int.le_total n k with q | q
        · rw [Int.min_eq_left q]; simp
        · rw [Int.min_eq_right q]; simp
      · exact List.mem_cons_of_mem _ (List.mem_cons_of_mem _ h)
    · have h3 := h2 (min n k) List.mem_cons_self
      rcases List.mem_cons.mp hy with e | hy
      · rw [e]; omega
      · rcases List.mem_cons.mp hy with e | hy
        · rw [e]; omega
        · exact h2 y (List.mem_cons_of_mem _ hy)
section
variable {X : Cx} {c : Cn} {g : Gr} {W : WX} {k : Nat} {a b : Expr} {o1 o2 : Op} {p pos : Pos}
def rMaxTI (K : PySem.W.Frag) : List V → Hp → VK → Prop := fun vs H Q => ∃ (a : Addr) (n : Int) (ns : List Int), vs = [V.ref a] ∧ SqT K H a ((n :: ns).map V.int) ∧ Q (.int (ns.foldl max n)) H
def rMinTI (K : PySem.W.Frag) : List V → Hp → VK → Prop := fun vs H Q => ∃ (a : Addr) (n : Int) (ns : List Int), vs = [V.ref a] ∧ SqT K H a ((n :: ns).map V.int) ∧ Q (.int (ns.foldl min n)) H
theorem dp_ints {K : PySem.W.Frag} {H : Hp} : ∀ ns : List Int, DpAll K H (ns.map V.int) (ns.map PyData.int)
  | [] => .nil
  | n :: ns => .cons (.int n) (dp_ints ns)
theorem reads_int {h : Heap} {v : Value} {i : Int} {bs : List Addr} (r : Reads h v (.int i) bs) : ∃ t, v = .int i t := by
  cases r
  exact ⟨_, rfl⟩
theorem alike_is (n : Int) (ns : List Int) : PySem.W.AlikeAll (PyData.int n :: ns.map PyData.int) := by
  have e : ∀ x ∈ PyData.int n :: ns.map PyData.int, ∃ i, x = PyData.int i := fun x hx => by
    rcases List.mem_cons.mp hx with e | hx
    · exact ⟨n, e⟩
    · obtain ⟨i, _, e⟩ := List.mem_map.mp hx
      exact ⟨i, e.symm⟩
  refine ⟨fun x hx y hy => ?_, fun x hx z => ?_⟩
  · obtain ⟨i, rfl⟩ := e x hx
    obtain ⟨j, rfl⟩ := e y hy
    simp [PySem.W.alike]
  · obtain ⟨i, rfl⟩ := e x hx
    cases z
theorem cr_maxTI (hc : X.calm = true) (hu : X.A.units + 65 < cLine) : CallR X (.builtin "max") (rMaxTI X.K) := by
  intro pins s σ H vs us Q I r ⟨a, n, ns, e, hs, q⟩
  subst e; rw [Vals.ref1 r]
  obtain ⟨its, rv, pl, _⟩ := I.tuple hs
  obtain ⟨as, hr⟩ := Dp.readsAll I ((n :: ns).map .int) _ its (dp_ints (n :: ns)) rv
  refine PySem.W.max_tuple_data (I.ok.hd hc) pl (x := .int n) (xs := ns.map .int) (as := as) hr ?_ ?_ fun i v h' tk bs _ hv kp => ?_
  · exact alike_is n ns
  · have := PySem.W.depth_ints (n :: ns)
    simp only [List.map_cons] at this
    rw [this]; omega
  · rw [PySem.W.maxD_ints] at hv
    obtain ⟨t, rfl⟩ := reads_int hv
    exact ⟨.int _, H, I.kept kp, ⟨_, rfl⟩, q⟩
theorem cr_minTI (hc : X.calm = true) (hu : X.A.units + 65 < cLine) : CallR X (.builtin "min") (rMinTI X.K) := by
  intro pins s σ H vs us Q I r ⟨a, n, ns, e, hs, q⟩
  subst e; rw [Vals.ref1 r]
  obtain ⟨its, rv, pl, _⟩ := I.tuple hs
  obtain ⟨as, hr⟩ := Dp.readsAll I ((n :: ns).map .int) _ its (dp_ints (n :: ns)) rv
  refine PySem.W.min_tuple_data (I.ok.hd hc) pl (x := .int n) (xs := ns.map .int) (as := as) hr (alike_is n ns) ?_ fun i v h' tk bs _ hv kp => ?_
  · have := PySem.W.depth_ints (n :: ns)
    simp only [List.map_cons] at this
    rw [this]; omega
  · rw [PySem.W.minD_ints] at hv
    obtain ⟨t, rfl⟩ := reads_int hv
    exact ⟨.int _, H, I.kept kp, ⟨_, rfl⟩, q⟩
theorem v_max1 (hK : X.K = c.K) : V1 c (fun v H Q => rMax X.K [v] H Q ∨ rMaxTI X.K [v] H Q) max1D := by
  intro M ρ H x e v Q d hx hF q
  have key : ∀ (xs : List D) (a : Addr) (vs : List V), SqL X.K H a vs → RDs c M ρ H xs vs → ((toInts xs).bind fun ns => (mxI ns).map D.int) = some e → rMax X.K [.ref a] H Q := fun xs a vs h1 h2 hF => by
    obtain ⟨ns, hn, hF⟩ := Option.bind_eq_some_iff.mp hF
    obtain ⟨m, hm, rfl⟩ := Option.map_eq_some_iff.mp hF
    have hv := h2.ints hn
    subst hv
    cases ns with
    | nil => cases hm
    | cons n ns =>
      cases hm
      obtain ⟨g1, g2⟩ := mx_is ns n
      refine ⟨a, n :: ns, rfl, h1, by simp, fun m h3 h4 => ?_⟩
      have : m = ns.foldl max n := Int.le_antisymm (g2 m h3) (h4 _ g1)
      rw [this]
      exact q _ H (Ext.refl H) (.int _)
  unfold max1D at hF
  split at hF
  · obtain ⟨a, vs, rfl, h1, h2⟩ := hx.tup
    obtain ⟨ns, hn, hF⟩ := Option.bind_eq_some_iff.mp hF
    obtain ⟨m, hm, rfl⟩ := Option.map_eq_some_iff.mp hF
    have hv := h2.ints hn
    subst hv
    cases ns with
    | nil => cases hm
    | cons n ns =>
      cases hm
      exact .inr ⟨a, n, ns, rfl, hK ▸ h1, q _ H (Ext.refl H) (.int _)⟩
  · obtain ⟨a, vs, rfl, h1, h2⟩ := hx.lst
    exact .inl (key _ a vs (.inl (.inl h1)) h2 hF)
  · obtain ⟨a, vs, rfl, h1, h2⟩ := hx.scr
    exact .inl (key _ a vs (hK ▸ h1) h2 hF)
  · cases hF
theorem v_min1 (hK : X.K = c.K) : V1 c (fun v H Q => rMin X.K [v] H Q ∨ rMinTI X.K [v] H Q) min1D := by
  intro M ρ H x e v Q d hx hF q
  have key : ∀ (xs : List D) (a : Addr) (vs : List V), SqL X.K H a vs → RDs c M ρ H xs vs → ((toInts xs).bind fun ns => (mnI ns).map D.int) = some e → rMin X.K [.ref a] H Q := fun xs a vs h1 h2 hF => by
    obtain ⟨ns, hn, hF⟩ := Option.bind_eq_some_iff.mp hF
    obtain ⟨m, hm, rfl⟩ := Option.map_eq_some_iff.mp hF
    have hv := h2.ints hn
    subst hv
    cases ns with
    | nil => cases hm
    | cons n ns =>
      cases hm
      obtain ⟨g1, g2⟩ := mn_is ns n
      refine ⟨a, n :: ns, rfl, h1, by simp, fun m h3 h4 => ?_⟩
      have : m = ns.foldl min n := Int.le_antisymm (h4 _ g1) (g2 m h3)
      rw [this]
      exact q _ H (Ext.refl H) (.int _)
  unfold min1D at hF
  split at hF
  · obtain ⟨a, vs, rfl, h1, h2⟩ := hx.tup
    obtain ⟨ns, hn, hF⟩ := Option.bind_eq_some_iff.mp hF
    obtain ⟨m, hm, rfl⟩ := Option.map_eq_some_iff.mp hF
    have hv := h2.ints hn
    subst hv
    cases ns with
    | nil => cases hm
    | cons n ns =>
      cases hm
      exact .inr ⟨a, n, ns, rfl, hK ▸ h1, q _ H (Ext.refl H) (.int _)⟩
  · obtain ⟨a, vs, rfl, h1, h2⟩ := hx.lst
    exact .inl (key _ a vs (.inl (.inl h1)) h2 hF)
  · obtain ⟨a, vs, rfl, h1, h2⟩ := hx.scr
    exact .inl (key _ a vs (hK ▸ h1) h2 hF)
  · cases hF
theorem e_max1 (C : Cc X c W k) (ha : PE X a (tO c W o1)) (hm : c.mg "max" = none) (hg : Gl X "max" := by rfl) (hs : starEach [a] X.env = (false, eval a X.env) :: starEach [] X.env := by rfl) (hpl : (backTo pos (starEach [] X.env)).any (·.1) = false := by rfl) :
    PE X (.Call (.Name "max" p) [a] [] pos) (tE c W (op1 max1D o1)) := e_B1 (CallR.or (cr_max C.hc) (cr_maxTI C.hc (by have := C.rm.un; omega))) (v_max1 C.hK) hg (by rw [C.hm]; exact hm) (by first | rfl | decide +kernel) ha (by decide) (by decide) hs hs hpl
theorem e_min1 (C : Cc X c W k) (ha : PE X a (tO c W o1)) (hm : c.mg "min" = none) (hg : Gl X "min" := by rfl) (hs : starEach [a] X.env = (false, eval a X.env) :: starEach [] X.env := by rfl) (hpl : (backTo pos (starEach [] X.env)).any (·.1) = false := by rfl) :
    PE X (.Call (.Name "min" p) [a] [] pos) (tE c W (op1 min1D o1)) := e_B1 (CallR.or (cr_min C.hc) (cr_minTI C.hc (by have := C.rm.un; omega))) (v_min1 C.hK) hg (by rw [C.hm]; exact hm) (by first | rfl | decide +kernel) ha (by decide) (by decide) hs hs hpl
end
/-! ### a block's names, however deep -/
section
variable {X : Cx} {c : Cn} {g : Gr} {W : WX} {k : Nat} {vs : List Nat} {t : Tg} {it : DS.Itr} {tt : S → R Bool} {f : Ex} {e tg iter : Expr} {pos : Pos}
theorem l_lcM {scope : Scope} {N : List Str} {own : List (Str × Nat)} {ifs : List Expr} (C : Cc X c W k) (hv : own.map (·.2) = vs) (hi : PI X tg iter (tI c W it)) (hN : X.N = N) (hkd : scope.kind = .function) (hu : ∀ y ∈ scope.names, scope.names.lookup y.1 = some y.2) (hx : ∀ p ∈ own, N[p.2]? = some p.1)
    (ho : ∀ y ∈ scope.names, y.2 = .local ∨ y.2 = .cell → y.1 ∈ own.map (·.1) ∨ y.1 ∉ N) (hf : ∀ y ∈ scope.names, y.2 = .free → X.env.scope.names.lookup y.1 = some .cell ∨ X.env.scope.names.lookup y.1 = some .free)
    (hg : ∀ (s : Shared) (H : Hp) (A : Addr) (cl : List (Str × Addr)) (fp : List Addr), PG (X.blk s H scope (compEnvC scope cl A X.env) fp) tg (tG c W0 vs t))
    (ht : ∀ (s : Shared) (H : Hp) (A : Addr) (cl : List (Str × Addr)) (fp : List Addr), Cc (X.blk s H scope (compEnvC scope cl A X.env) fp) c W0 k → PTs (X.blk s H scope (compEnvC scope cl A X.env) fp) ifs (tT c W0 tt))
    (he : ∀ (s : Shared) (H : Hp) (A : Addr) (cl : List (Str × Addr)) (fp : List Addr), Cc (X.blk s H scope (compEnvC scope cl A X.env) fp) c W0 k → PE (X.blk s H scope (compEnvC scope cl A X.env) fp) e (tE c W0 f)) (hs : ∀ x, foldedSetIterable iter X.env x = pure x := by intro _; rfl) :
    PE X (.ListComp e [⟨tg, iter, ifs, 0⟩] scope pos) (tL c W (lcE it t vs tt f)) := l_lc C hv hi ⟨hkd, hu, by rw [hN]; exact hx, hf, by rw [hN]; exact ho⟩ hg ht he hs
end
end DS
/-! DS17: tuple(range(..)), list(range(..)), (x,) * k for any small k, xs[i] += e. -/
namespace DS
open PySem PySem.Spec PyProof.Rows L2

/-! ### numbers in a row, as a tuple or a list -/
def rgOk (a b : Int) : Bool := decide (-(2 ^ 62) ≤ a) && decide (a < 2 ^ 62) && decide (-(2 ^ 62) ≤ b) && decide (b < 2 ^ 62) && decide ((b - a).toNat ≤ 2 ^ 24)
theorem rgOk_is {a b : Int} (h : rgOk a b = true) : L2.RgOk a b := by
  unfold rgOk at h
  simp only [Bool.and_eq_true, decide_eq_true_eq] at h
  exact ⟨h.1.1.1.1, h.1.1.1.2, h.1.1.2, h.1.2, h.2⟩
def tupR1 (a : Ex) : Ex := fun s => (a s).bind fun d s1 => match d with
  | .int j => if rgOk 0 j then .ok (.tup (upTo 0 (j - 0).toNat)) s1 else .bad
  | _ => .bad
def tupR2 (a b : Ex) : Ex := fun s => (a s).bind fun x s1 => (b s1).bind fun y s2 => match x, y with
  | .int i, .int j => if rgOk i j then .ok (.tup (upTo i (j - i).toNat)) s2 else .bad
  | _, _ => .bad
def lstR1 (a : Ex) : ExL := fun s => (a s).bind fun d s1 => match d with
  | .int j => if rgOk 0 j then .ok (upTo 0 (j - 0).toNat) s1 else .bad
  | _ => .bad
def lstR2 (a b : Ex) : ExL := fun s => (a s).bind fun x s1 => (b s1).bind fun y s2 => match x, y with
  | .int i, .int j => if rgOk i j then .ok (upTo i (j - i).toNat) s2 else .bad
  | _, _ => .bad
section
variable {c : Cn} {M : Am} {ρ : List Addr} {H : Hp}
theorem rds_fns {α : Type} (f : α → Int) : ∀ l : List α, RDs c M ρ H (l.map fun i => .int (f i)) (l.map fun i => .int (f i))
  | [] => .nil
  | x :: l => .cons (.int _) (rds_fns f l)
theorem rds_rg (a b : Int) : RDs c M ρ H (upTo a (b - a).toNat) (rgV a b) := rds_fns (fun i : Nat => a + (i : Int)) _
end
section
variable {X : Cx} {c : Cn} {g : Gr} {W : WX} {k : Nat} {a b : Ex} {e e2 : Expr} {p pos : Pos} {σ : L2.St} {H : Hp} {Q : VK}
def tRgN (te : L2.St → Hp → (Int → Int → Hp → Prop) → Prop) : TE := fun σ H Q => te σ H fun a b H1 => L2.RgOk a b ∧ NewT H1 (rgV a b) Q
theorem pe_rgN {te : L2.St → Hp → (Int → Int → Hp → Prop) → Prop} (hcalm : X.calm = true) (hgl : Gl X "tuple") (hmg : X.mg "tuple" = none) (hte : PRg X e te) (hna : starEach [e] X.env = (false, eval e X.env) :: starEach [] X.env) :
    PE X (.Call (.Name "tuple" p) [e] [] pos) (tRgN te) := by
  constructor
  intro pins s σ H Q I h
  refine Call_ ?_
  refine ld_blt I hgl hmg boot_tuple ?_
  refine PyProof.Rows.callWith_type1 ?_ hna
  refine args_cons ?_ hna
  refine thn (hte pins s σ H _ I h) ?_
  intro x s1 z
  obtain ⟨r, lo, hi, sp, u, v, H1, ex, hr, I1, ok, q⟩ := z
  refine args_nil ?_
  cases ex
  have sz : (rgV lo hi).length ≤ sizeLine := by
    rw [rgV_length, sizeLine_eq]
    exact Nat.le_trans ok.2.2.2.2 (by decide)
  refine call_tuple_range (I1.ok.hd hcalm) hr (small_one ok.1 ok.2.1 ok.2.2.1 ok.2.2.2.1) (rangeSize_nat lo hi) ok.2.2.2.2 ?_
  intro h' tk acc hk its
  have fin := layT (s := { s1 with heap := h', toks := tk }) (tk := tk) (I1.kept hk) (vals_rg its) sz q
  rw [Array.toArray_toList] at fin
  exact fin
theorem rg1 (h : tE c W (tupR1 a) σ H Q) : tRgN (tRg1 (tE c W a)) σ H Q := by
  obtain ⟨g, M, ρ, s, rel, h⟩ := h
  refine tE.bind (out := fun M ρ H r => OutE c g W M ρ σ H r Q) rel (fun _ _ z => z) (fun z => z) h fun d s1 M1 ρ1 v H1 r1 k1 hd h1 => ?_
  have he : ∃ i, d = .int i := by
    cases d with
    | int i => exact ⟨i, rfl⟩
    | _ => exact h1.elim
  obtain ⟨j, rfl⟩ := he
  cases hd
  simp only at h1
  split at h1
  · rename_i hb
    refine ⟨j, rfl, rgOk_is hb, fun q o hq hc ho => ?_⟩
    have r2 := r1.ext (Ext.new (o := .frz o (.tup (rgV 0 j))) hq)
    exact h1 M1 ρ1 _ _ r2 (k1.trans (r1.kext (Ext.new hq))) (RD.newT (H' := H1) r1.h.dom hq hc ho (rds_rg 0 j))
  · exact h1.elim
theorem rg2 (h : tE c W (tupR2 a b) σ H Q) : tRgN (tRg2 (tE c W a) (tE c W b)) σ H Q := by
  obtain ⟨g, M, ρ, s, rel, h⟩ := h
  refine tE.bind (out := fun M ρ H r => OutE c g W M ρ σ H r Q) rel (fun _ _ z => z) (fun z => z) h fun d s1 M1 ρ1 v H1 r1 k1 hd h1 => ?_
  refine tE.bind (out := fun M ρ H r => OutE c g W M ρ σ H r Q) r1 (fun _ _ z => z) (fun z => z) (OutE.keep k1 h1) fun d' s2 M2 ρ2 v' H2 r2 k2 hd' h2 => ?_
  have he : ∃ i j, d = .int i ∧ d' = .int j := by
    cases d <;> first | exact h2.elim | skip
    cases d' <;> first | exact h2.elim | skip
    exact ⟨_, _, rfl, rfl⟩
  obtain ⟨i, j, rfl, rfl⟩ := he
  cases hd
  cases hd'
  simp only at h2
  split at h2
  · rename_i hb
    refine ⟨i, j, rfl, rfl, rgOk_is hb, fun q o hq hc ho => ?_⟩
    have r3 := r2.ext (Ext.new (o := .frz o (.tup (rgV i j))) hq)
    exact h2 M2 ρ2 _ _ r3 (k2.trans (r2.kext (Ext.new hq))) (RD.newT (H' := H2) r2.h.dom hq hc ho (rds_rg i j))
  · exact h2.elim
theorem rgl1 (h : tL c W (lstR1 a) σ H Q) : tLstRg (tRg1 (tE c W a)) σ H Q := by
  obtain ⟨g, M, ρ, s, rel, h⟩ := h
  refine tE.bind (out := fun M ρ H r => OutL c g W M ρ σ H r Q) rel (fun _ _ z => z) (fun z => z) h fun d s1 M1 ρ1 v H1 r1 k1 hd h1 => ?_
  have he : ∃ i, d = .int i := by
    cases d with
    | int i => exact ⟨i, rfl⟩
    | _ => exact h1.elim
  obtain ⟨j, rfl⟩ := he
  cases hd
  simp only at h1
  split at h1
  · rename_i hb
    exact ⟨j, rfl, rgOk_is hb, fun q hq => out_new r1 (OutL.keep k1 h1) hq (Ext.new hq) upd_same (rds_rg 0 j)⟩
  · exact h1.elim
theorem rgl2 (h : tL c W (lstR2 a b) σ H Q) : tLstRg (tRg2 (tE c W a) (tE c W b)) σ H Q := by
  obtain ⟨g, M, ρ, s, rel, h⟩ := h
  refine tE.bind (out := fun M ρ H r => OutL c g W M ρ σ H r Q) rel (fun _ _ z => z) (fun z => z) h fun d s1 M1 ρ1 v H1 r1 k1 hd h1 => ?_
  refine tE.bind (out := fun M ρ H r => OutL c g W M ρ σ H r Q) r1 (fun _ _ z => z) (fun z => z) (OutL.keep k1 h1) fun d' s2 M2 ρ2 v' H2 r2 k2 hd' h2 => ?_
  have he : ∃ i j, d = .int i ∧ d' = .int j := by
    cases d <;> first | exact h2.elim | skip
    cases d' <;> first | exact h2.elim | skip
    exact ⟨_, _, rfl, rfl⟩
  obtain ⟨i, j, rfl, rfl⟩ := he
  cases hd
  cases hd'
  simp only at h2
  split at h2
  · rename_i hb
    exact ⟨i, j, rfl, rfl, rgOk_is hb, fun q hq => out_new r2 (OutL.keep k2 h2) hq (Ext.new hq) upd_same (rds_rg i j)⟩
  · exact h2.elim
theorem e_tupR1 (C : Cc X c W k) (hm : c.mg "tuple" = none) (hr : c.mg "range" = none) (h : PE X e (tE c W a)) {p2 pos2 : Pos} (hg : Gl X "tuple" := by rfl) (hg2 : Gl X "range" := by rfl) (hs : starEach [e] X.env = (false, eval e X.env) :: starEach [] X.env := by rfl)
    (hs2 : starEach [Expr.Call (.Name "range" p2) [e] [] pos2] X.env = (false, eval (.Call (.Name "range" p2) [e] [] pos2) X.env) :: starEach [] X.env := by rfl) :
    PE X (.Call (.Name "tuple" p) [.Call (.Name "range" p2) [e] [] pos2] [] pos) (tE c W (tupR1 a)) :=
  pe_imp (pe_rgN C.hc hg (by rw [C.hm]; exact hm) (prg_1 hg2 (by rw [C.hm]; exact hr) h hs) hs2) fun _ _ _ h => rg1 h
theorem e_tupR2 (C : Cc X c W k) (hm : c.mg "tuple" = none) (hr : c.mg "range" = none) (h : PE X e (tE c W a)) (h' : PE X e2 (tE c W b)) {p2 pos2 : Pos} (hg : Gl X "tuple" := by rfl) (hg2 : Gl X "range" := by rfl) (hs : starEach [e, e2] X.env = (false, eval e X.env) :: starEach [e2] X.env := by rfl)
    (hs3 : starEach [e2] X.env = (false, eval e2 X.env) :: starEach [] X.env := by rfl) (hp : (backTo pos2 (starEach [e2] X.env)).any (·.1) = false := by rfl)
    (hs2 : starEach [Expr.Call (.Name "range" p2) [e, e2] [] pos2] X.env = (false, eval (.Call (.Name "range" p2) [e, e2] [] pos2) X.env) :: starEach [] X.env := by rfl) :
    PE X (.Call (.Name "tuple" p) [.Call (.Name "range" p2) [e, e2] [] pos2] [] pos) (tE c W (tupR2 a b)) :=
  pe_imp (pe_rgN C.hc hg (by rw [C.hm]; exact hm) (prg_2 hg2 (by rw [C.hm]; exact hr) h h' hs hs3 hp) hs2) fun _ _ _ h => rg2 h
theorem l_lstR1 (C : Cc X c W k) (hm : c.mg "list" = none) (hr : c.mg "range" = none) (h : PE X e (tE c W a)) {p2 pos2 : Pos} (hg : Gl X "list" := by rfl) (hg2 : Gl X "range" := by rfl) (hs : starEach [e] X.env = (false, eval e X.env) :: starEach [] X.env := by rfl)
    (hs2 : starEach [Expr.Call (.Name "range" p2) [e] [] pos2] X.env = (false, eval (.Call (.Name "range" p2) [e] [] pos2) X.env) :: starEach [] X.env := by rfl) :
    PE X (.Call (.Name "list" p) [.Call (.Name "range" p2) [e] [] pos2] [] pos) (tL c W (lstR1 a)) :=
  pe_imp (pe_listRg C.hc hg (by rw [C.hm]; exact hm) (prg_1 hg2 (by rw [C.hm]; exact hr) h hs) hs2) fun _ _ _ h => rgl1 h
theorem l_lstR2 (C : Cc X c W k) (hm : c.mg "list" = none) (hr : c.mg "range" = none) (h : PE X e (tE c W a)) (h' : PE X e2 (tE c W b)) {p2 pos2 : Pos} (hg : Gl X "list" := by rfl) (hg2 : Gl X "range" := by rfl) (hs : starEach [e, e2] X.env = (false, eval e X.env) :: starEach [e2] X.env := by rfl)
    (hs3 : starEach [e2] X.env = (false, eval e2 X.env) :: starEach [] X.env := by rfl) (hp : (backTo pos2 (starEach [e2] X.env)).any (·.1) = false := by rfl)
    (hs2 : starEach [Expr.Call (.Name "range" p2) [e, e2] [] pos2] X.env = (false, eval (.Call (.Name "range" p2) [e, e2] [] pos2) X.env) :: starEach [] X.env := by rfl) :
    PE X (.Call (.Name "list" p) [.Call (.Name "range" p2) [e, e2] [] pos2] [] pos) (tL c W (lstR2 a b)) :=
  pe_imp (pe_listRg C.hc hg (by rw [C.hm]; exact hm) (prg_2 hg2 (by rw [C.hm]; exact hr) h h' hs hs3 hp) hs2) fun _ _ _ h => rgl2 h
end

/-! ### a tuple so often, also not at all -/
theorem tuple_mulZ (l : Addr) (items : Array Value) (n : Nat) (dd : Option Addr) (sl : Array (Option Value)) (x : Int) (u : PySem.Tok) (b0 : (decide (x < -(2 ^ 63)) || decide (x ≥ 2 ^ 63)) = false) (b1 : (items.isEmpty || x == 1) = false) (b2 : (decide (x ≤ 0) || items.isEmpty) = true) :
    Meets (Builtin.«tuple.__mul__» ⟨[.ref l, .int x u], []⟩) (fun _ R s => s.heap.get? l = some { cls := .type "tuple", dict := dd, data := .seq items n, slots := sl } ∧ R (.ok (.ret (Value.ref s.heap.objs.size))) { s with heap := s.heap.push { cls := Value.type "tuple", data := Data.seq #[] }, toks := s.toks }) :=
  .of_wp fun prog w A R s h => by
    obtain ⟨hp, g, d, tk, os⟩ := s
    obtain ⟨hl, h⟩ := h
    have f1 := AutoSeq1.idx_int
    wp_walk using wpAny_loadPart' hl
    iterate 6 first
      | (refine wpAny_ite_false (decide_eq_false (show ¬ _ = true by rw [b0]; decide)) ?_; wp_walk using wpAny_loadPart' hl)
      | (refine wpAny_ite_false (decide_eq_false (show ¬ _ = true by rw [b1]; decide)) ?_; wp_walk using wpAny_loadPart' hl)
      | (refine wpAny_ite_true (decide_eq_true (show _ = true from b2)) ?_; wp_walk using wpAny_loadPart' hl)
      | skip
    exact ⟨_, rfl, h⟩
def rRepZ (K : PySem.W.Frag) : R2 := fun x y H Q => ∃ l k xs, x = .ref l ∧ y = .int k ∧ SqT K H l xs ∧ xs ≠ [] ∧ -1000 ≤ k ∧ k ≤ 0 ∧ NewT H [] Q
theorem op_repZ {X : Cx} : OpR X (binaryOp .Mult) (rRepZ X.K) := by
  intro pins s σ H x y v u Q I rx ry z
  obtain ⟨l, k, xs, rfl, rfl, hT, hne, h1, h2, q⟩ := z
  cases rx
  obtain ⟨tk, rfl⟩ := ry
  obtain ⟨us, r, ⟨⟨cl, dd, da, sl⟩, ho, hc, n, hd⟩, hs⟩ := I.tuple hT
  dsimp only at hc hd
  cases hc
  cases hd
  have el : us.length = xs.length := r.length.symm
  have ei : us.toArray.isEmpty = false := by
    cases us with
    | nil => exact absurd (List.eq_nil_of_length_eq_zero el.symm) hne
    | cons a b => rfl
  have d0 : (decide (k < -(2 ^ 63)) || decide (k ≥ 2 ^ 63)) = false := by
    simp only [Bool.or_eq_false_iff, decide_eq_false_iff_not]
    omega
  have d1 : (us.toArray.isEmpty || k == 1) = false := by
    rw [ei]
    exact beq_eq_false_iff_ne.mpr (by omega)
  have d2 : (decide (k ≤ 0) || us.toArray.isEmpty) = true := by
    rw [decide_eq_true h2]
    rfl
  have fin := layT (tk := s.toks) I (us := []) .nil (Nat.zero_le _) q
  refine wpAny_binaryOp_repeat_ref (T := "tuple") (U := "int") (by decide) ⟨_, ho, rfl⟩ (fun s' => typeIs_int s' k tk) noFill_tuple_mul F.fills_int_mul F.slot_int_rmul repeat_tuple F.slot_int_index.lookup ?_
  refine call_meets F.slot_int_rmul (typeIs_int s k tk) F.entry_int_rmul (F.args_int_rmul_2 _ _) (int_rmul_tuple k tk l us.toArray n dd sl) ⟨ho, rfl, ⟨_, ho, rfl⟩, ?_⟩
  exact call_meets F.slot_tuple_mul ⟨_, ho, rfl⟩ F.entry_tuple_mul (F.args_tuple_mul_2 _ _) (tuple_mulZ l us.toArray n dd sl k tk d0 d1 d2) ⟨ho, fin⟩
def mulT : D → D → Option D
  | .tup xs, .int k => if decide (xs ≠ []) && decide (2 ≤ k) && decide (k ≤ 1000) && decide (xs.length ≤ 1000) then some (.tup (repD k xs)) else if decide (xs ≠ []) && decide (-1000 ≤ k) && decide (k ≤ 0) then some (.tup []) else none
  | _, _ => none
theorem v_mulT {X : Cx} {c : Cn} (hK : X.K = c.K) : V2 c (fun x y H Q => rRepN X.K x y H Q ∨ rRepZ X.K x y H Q) mulT := by
  intro M ρ H x y e v u Q d hx hy hF q
  unfold mulT at hF
  split at hF
  · rename_i xs k
    obtain ⟨a, vs, e1, h1, h2⟩ := hx.tup
    split at hF
    · cases hF
      rename_i hl
      simp only [Bool.and_eq_true, decide_eq_true_eq] at hl
      exact .inl ⟨a, k, vs, e1, hy.int, hK ▸ h1, fun z => hl.1.1.1 (h2.nil_iff.mp z), hl.1.1.2, hl.1.2, by rw [← h2.length]; exact hl.2, fun p o hp hc ho => q _ _ (Ext.new hp) (RD.newT (H' := H) d hp hc ho (h2.rep _))⟩
    · split at hF
      · cases hF
        rename_i hl
        simp only [Bool.and_eq_true, decide_eq_true_eq] at hl
        exact .inr ⟨a, k, vs, e1, hy.int, hK ▸ h1, fun z => hl.1.1 (h2.nil_iff.mp z), hl.1.2, hl.2, fun p o hp hc ho => q _ _ (Ext.new hp) (RD.newT (H' := H) d hp hc ho .nil)⟩
      · cases hF
  · cases hF
theorem e_mulT {X : Cx} {c : Cn} {W : WX} {a b : Expr} {o1 o2 : Op} {pos : Pos} (hK : X.K = c.K) (ha : PE X a (tO c W o1)) (hb : PE X b (tO c W o2)) : PE X (.BinOp a .Mult b pos) (tE c W (op2 mulT o1 o2)) := pe_imp (pe_op (OpR.or op_repN op_repZ) ha hb) fun _ _ _ h => t_op2 (v_mulT hK) h

/-! ### xs[i] += e, of whole numbers, from the front -/
def rIxF (K : PySem.W.Frag) : R2 := fun x y H Q => ∃ p xs i v, x = .ref p ∧ y = .int i ∧ 0 ≤ i ∧ SqL K H p xs ∧ atI xs i = some v ∧ Q v H
theorem get_lst {X : Cx} : PGet X (rIxF X.K) := by
  intro pins s σ H o i ov iv Q I ro ri z
  obtain ⟨p, xs, k, w, rfl, rfl, h0, hq, he, q⟩ := z
  cases ro
  obtain ⟨t, rfl⟩ := ri
  obtain ⟨its, r, pl, hz⟩ := I.list hq
  obtain ⟨j, h1, h2, h3, h4, h5⟩ := atI_get he
  obtain ⟨u, eu, ru⟩ := r.get h2
  rw [seqIndex_of h0 h5] at h1
  have hn := line63
  refine wpAny_getItem_list pl.isList h0 (by omega) (x := u) ?_ ⟨w, H, I, ru, q⟩
  rw [Option.some.inj h1]
  simpa using eu
def augIx (o : Op) (i f : Ex) : Sm := fun s => (o s).bind fun t s1 => (i s1).bind fun k s2 => match k with
  | .int k => match lstTok s2 t with
    | some xs => if 0 ≤ k then match atI xs k with
      | some (.int x) => (f s2).bind fun y s3 => match y with
        | .int y => match lstTok s3 t with
          | some ys => match ixN ys.length k with
            | some j => .ok .nx (updTok s3 (ys.set j (.int (x + y))) t)
            | none => .bad
          | none => .bad
        | _ => .bad
      | _ => .bad
      else .bad
    | none => .bad
  | _ => .bad
section
variable {X : Cx} {c : Cn} {g : Gr} {W : WX} {f fi : Ex} {o : Op} {e a i : Expr} {pos p2 : Pos}
theorem s_augIx (hK : X.K = c.K) (he : PE X e (tE c W f)) (ho : PE X a (tO c W o)) (hi : PE X i (tE c W fi)) (ha : ∀ ov iv new, augStore i ov iv new = (do holding [new, ov, iv] (setItem ov iv new); release [new, ov, iv] []; pure .next) := by intros; rfl) :
    PS X (.AugAssign (.Subscript a i p2) .Add e pos) (tS c W (augIx o fi f)) := ps_imp (ps_augS ho hi get_lst he ip_add set_list ha) fun D σ H h => by
  obtain ⟨g, M, ρ, s, rel, h⟩ := h
  refine tO.bind (out := fun M ρ H r => OutS c g W M ρ H r D) rel (fun _ _ z M' ρ' H' cls dd r k x => z M' ρ' σ H' cls dd r k x) (fun z => z) h fun t s1 M1 ρ1 u H1 r1 k1 t1 h1 => ?_
  refine tE.bind (out := fun M ρ H r => OutS c g W M ρ H r D) r1 (fun _ _ z M' ρ' H' cls dd r k x => z M' ρ' σ H' cls dd r k x) (fun z => z) (OutS.keep k1 h1) fun kd s2 M2 ρ2 w H2 r2 k2 hk h2' => ?_
  have h2 := OutS.keep k2 h2'
  clear h2'
  have hkd : ∃ k, kd = .int k := by
    cases kd with
    | int k => exact ⟨k, rfl⟩
    | _ => exact h2.elim
  obtain ⟨k, rfl⟩ := hkd
  cases hk
  cases q : lstTok s2 t with
  | none => simp only [q] at h2; exact h2.elim
  | some xs =>
    simp only [q] at h2
    obtain ⟨l, vs, rfl, h4, h5, h6⟩ := put_tok r2 (t1.keep k2) q
    split at h2
    · rename_i k0
      cases q3 : atI xs k with
      | none => simp only [q3] at h2; exact h2.elim
      | some x =>
        have hx : ∃ i, x = .int i := by
          cases x with
          | int i => exact ⟨i, rfl⟩
          | _ => simp only [q3] at h2; exact h2.elim
        obtain ⟨x, rfl⟩ := hx
        simp only [q3] at h2
        obtain ⟨v, h7, h8⟩ := h5.at q3
        cases h8
        refine ⟨l, vs, k, _, rfl, rfl, k0, .inl (.inl h4), h7, ?_⟩
        refine tE.bind (out := fun M ρ H r => OutS c g W M ρ H r D) r2 (fun _ _ z M' ρ' H' cls dd r k x => z M' ρ' σ H' cls dd r k x) (fun z => z) h2 fun y s3 M3 ρ3 v3 H3 r3 k3 hy h3' => ?_
        have h3 := OutS.keep k3 h3'
        clear h3'
        have hy' : ∃ j, y = .int j := by
          cases y with
          | int j => exact ⟨j, rfl⟩
          | _ => exact h3.elim
        obtain ⟨y, rfl⟩ := hy'
        cases hy
        cases q5 : lstTok s3 t with
        | none => simp only [q5] at h3; exact h3.elim
        | some ys =>
          simp only [q5] at h3
          obtain ⟨l2, vs2, e2, h9, h10, h11⟩ := put_tok r3 ((t1.keep k2).keep k3) q5
          cases e2
          cases q6 : ixN ys.length k with
          | none => simp only [q6] at h3; exact h3.elim
          | some j =>
            simp only [q6] at h3
            refine ⟨x, y, rfl, rfl, l, vs2, k, j, rfl, rfl, h9, by rw [← h10.length]; exact q6, ?_⟩
            obtain ⟨r4, k4⟩ := h11 (ys.set j (.int (x + y))) (vs2.set j (.int (x + y))) (RDs.set (.int _) j h10)
            exact h3 M3 ρ3 σ _ r4 k4
    · exact h2.elim
end
end DS
/-! DS18: t[lo:hi:st] of a tuple, st not 0 or 1. -/
namespace DS
open PySem PySem.Spec PyProof.Rows L2
/-- which of so many a slice takes -/
def stepW (n : Nat) (lo hi : Option Int) (st : Int) : List Nat := (List.range (Builtin.Slice.slicePlaces (Builtin.Slice.sliceAdjust lo hi st (n : Int)).1 (Builtin.Slice.sliceAdjust lo hi st (n : Int)).2 st)).map fun (m : Nat) => ((Builtin.Slice.sliceAdjust lo hi st (n : Int)).1 + (m : Int) * st).toNat
def stepL {α : Type} (xs : List α) (lo hi : Option Int) (st : Int) : List α := (stepW xs.length lo hi st).filterMap fun j => xs[j]?
section
variable {prog : Program} {w : World} {A : Around} {E : Value → Shared → Prop} {s : Shared}
theorem applied_st {sl : Addr} {vl vu vs : Value} {lo hi : Option Int} {st : Int} {n : Nat} {Q : Int × Int × Nat → Shared → Prop} (hs : s.heap.IsSliceOf sl vl vu vs) (pl : IsPart vl lo) (pu : IsPart vu hi) (ps : IsPart vs (some st)) (h0 : st ≠ 0)
    (h : Q ((Builtin.Slice.sliceAdjust lo hi st (n : Int)).1, st, Builtin.Slice.slicePlaces (Builtin.Slice.sliceAdjust lo hi st (n : Int)).1 (Builtin.Slice.sliceAdjust lo hi st (n : Int)).2 st) s) : wpAny (model prog w) A (Builtin.Slice.sliceApplied (.ref sl) (pure (n : Int))) Q E s := by
  obtain ⟨os, hos, hcs, hds⟩ := id hs
  unfold Builtin.Slice.sliceApplied Builtin.Slice.sliceFields
  refine wpAny_bind (wpAny_bind (wpAny_field hos hds (x := vl) rfl ?_))
  refine wpAny_bind (wpAny_field hos hds (x := vu) rfl ?_)
  refine wpAny_bind (wpAny_field hos hds (x := vs) rfl (wpAny_pure ?_))
  refine wpAny_bind (HT.slicePart_ ps ?_)
  show wpAny _ _ (if (st == (0 : Int)) = true then _ else _) _ _ s
  rw [if_neg (fun z => h0 (eq_of_beq z))]
  exact wpAny_bind (HT.slicePart_ pl (wpAny_bind (HT.slicePart_ pu (wpAny_bind (wpAny_pure (wpAny_pure h))))))
theorem getItem_st {t sl : Addr} {items : Array Value} {vl vu vs : Value} {lo hi : Option Int} {st : Int} {Q : Value → Shared → Prop} (ht : IsTup s.heap t items) (hs : s.heap.IsSliceOf sl vl vu vs) (pl : IsPart vl lo) (pu : IsPart vu hi) (ps : IsPart vs (some st)) (h0 : st ≠ 0) (h1 : st ≠ 1)
    (hsz : (stepL items.toList lo hi st).length ≤ sizeLine)
    (h : Q (.ref s.heap.objs.size) { s with heap := s.heap.push { cls := .type "tuple", data := .seq (stepL items.toList lo hi st).toArray } }) : wpAny (model prog w) A (getItem (.ref t) (.ref sl)) Q E s := by
  obtain ⟨os, hos, hcs, hds⟩ := id hs
  have hTs : s.TypeIs (.ref sl) "slice" := ⟨os, hos, hcs⟩
  have hset : sizeOk (.seq (stepL items.toList lo hi st).toArray) := by
    show (stepL items.toList lo hi st).toArray.size ≤ sizeLine
    rw [List.size_toArray]
    exact hsz
  unfold getItem
  try with_reducible refine wpAny_holding ?_
  first | refine wpAny_bind (wpAny_pure ?_) | skip
  refine wpAny_bind (wpAny_sequenceKey ht.typeIs (by decide) ?_)
  refine wpAny_bind (wpAny_callSpecial?_slot (name := Str.ofString "__getitem__") ht.typeIs PyProof.Rows.slot_tuple_getitem ?_)
  refine wpAny_call_entry PyProof.Rows.slot_tuple_getitem ht.typeIs PyProof.Rows.entry_tuple_getitem ?_ (PyProof.Rows.args_tuple_getitem _ _)
  show wpAny _ _ (Builtin.Tuple.tupleItemsOf (.ref t) >>= _) _ _ s
  refine wpAny_bind (PyProof.Rows.tupleItemsOf_ ht ?_)
  refine wpAny_bind (wpAny_typeOf hTs ?_)
  rw [if_pos (by decide)]
  refine wpAny_bind (applied_st hs pl pu ps h0 ?_)
  show wpAny _ _ (if ((Builtin.Slice.sliceAdjust lo hi st (items.size : Int)).1 == 0 && st == 1 && _) = true then _ else _) _ _ s
  have e1 : (st == 1) = false := beq_eq_false_iff_ne.mpr h1
  rw [e1, Bool.and_false, Bool.false_and, if_neg Bool.false_ne_true]
  have e2 : ((List.range (Builtin.Slice.slicePlaces (Builtin.Slice.sliceAdjust lo hi st (items.size : Int)).1 (Builtin.Slice.sliceAdjust lo hi st (items.size : Int)).2 st)).filterMap fun (m : Nat) => items[((Builtin.Slice.sliceAdjust lo hi st (items.size : Int)).1 + (m : Int) * st).toNat]?) = stepL items.toList lo hi st := by
    unfold stepL stepW
    rw [List.filterMap_map, Array.length_toList]
    refine congrArg (fun f => List.filterMap f _) ?_
    funext m
    simp
  rw [e2]
  first
    | exact wpAny_bind (m := Builtin.Tuple.tupleExact _) (wpAny_newObj_type (wpAny_pure ⟨_, rfl, wpAny_pure h⟩) hset)
    | exact wpAny_bind (m := Builtin.Tuple.tupleExact _) (wpAny_newObj_type (wpAny_bind (wpAny_pure (wpAny_pure ⟨_, rfl, wpAny_pure h⟩))) hset)
    | exact wpAny_bind (wpAny_bind (m := Builtin.Tuple.tupleExact _) (wpAny_newObj_type (wpAny_pure (wpAny_pure ⟨_, rfl, wpAny_pure h⟩)) hset))
    | exact wpAny_bind (wpAny_bind (m := Builtin.Tuple.tupleExact _) (wpAny_newObj_type (wpAny_pure ⟨_, rfl, wpAny_pure h⟩) hset))
end
def slS (o : Op) (lo hi st : Option Ex) : Ex := fun s => (o s).bind fun t s1 => (part lo s1).bind fun l s2 => (part hi s2).bind fun u s3 => (part st s3).bind fun m s4 => match deref s4 t, m with
  | some (.tup xs), some m => if decide (m ≠ 0) && decide (m ≠ 1) && decide ((stepL xs l u m).length ≤ LIM) then .ok (.tup (stepL xs l u m)) s4 else .bad
  | _, _ => .bad
section
variable {X : Cx} {c : Cn} {g : Gr} {W : WX} {a : Expr} {o1 : Op} {pos : Pos}
theorem vals_step {xs : List V} {us : List Value} (r : Vals xs us) : ∀ js : List Nat, Vals (js.filterMap fun j => xs[j]?) (js.filterMap fun j => us[j]?)
  | [] => .nil
  | j :: js => by
    rw [List.filterMap_cons, List.filterMap_cons]
    cases q : xs[j]? with
    | none =>
      have : us[j]? = none := by
        rw [List.getElem?_eq_none_iff] at q ⊢
        rw [← r.length]
        exact q
      rw [this]
      exact vals_step r js
    | some x =>
      obtain ⟨u, e, ru⟩ := r.get q
      rw [e]
      exact .cons ru (vals_step r js)
theorem rds_step {M : Am} {ρ : List Addr} {H : Hp} {xs : List D} {us : List V} (r : RDs c M ρ H xs us) : ∀ js : List Nat, RDs c M ρ H (js.filterMap fun j => xs[j]?) (js.filterMap fun j => us[j]?)
  | [] => .nil
  | j :: js => by
    rw [List.filterMap_cons, List.filterMap_cons]
    cases q : xs[j]? with
    | none =>
      have : us[j]? = none := by
        rw [List.getElem?_eq_none_iff] at q ⊢
        rw [← r.length]
        exact q
      rw [this]
      exact rds_step r js
    | some x =>
      obtain ⟨u, e, ru⟩ := r.get q
      rw [e]
      exact .cons ru (rds_step r js)
theorem e_slS (hK : X.K = c.K) {lo hi : Option Expr} {st : Expr} {fl fh fs : Option Ex} {p2 : Pos} (ha : PE X a (tO c W o1)) (hl : PO X lo (tP c W fl)) (hh : PO X hi (tP c W fh)) (hs : PO X (some st) (tP c W fs)) : PE X (.Subscript a (.Slice lo hi (some st) p2) pos) (tE c W (slS o1 fl fh fs)) := by
  refine ⟨fun pins s0 σ H Q I h => ?_⟩
  obtain ⟨g, M, ρ, s, rel, h⟩ := h
  refine Subscript_ ?_
  refine thn (ha.run pins s0 σ H (fun x H1 => ∃ M1 ρ1 s1 t, Rel c g M1 ρ1 s1 σ H1 ∧ TokR c M1 ρ1 σ H1 t x ∧ OutE c g W M1 ρ1 σ H1 ((part fl s1).bind fun l s2 => (part fh s2).bind fun u s3 => (part fs s3).bind fun m s4 => match deref s4 t, m with
    | some (.tup xs), some m => if decide (m ≠ 0) && decide (m ≠ 1) && decide ((stepL xs l u m).length ≤ LIM) then .ok (.tup (stepL xs l u m)) s4 else .bad
    | _, _ => .bad) Q) I (tO.bind (out := fun M ρ H r => OutE c g W M ρ σ H r Q) rel (fun _ _ z => z) (fun z => z) h fun t s1 M1 ρ1 v H1 r1 k1 t1 h1 => ⟨M1, ρ1, s1, t, r1, t1, OutE.keep k1 h1⟩)) ?_
  rintro v s1' ⟨x, H1, I1, rx, M1, ρ1, s1, t, r1, t1, h1⟩
  refine wpAny_Slice (thn (hl.run pins s1' σ H1 (fun l H2 => ∃ M2 ρ2 s2, Rel c g M2 ρ2 s2 σ H2 ∧ TokR c M2 ρ2 σ H2 t x ∧ OutE c g W M2 ρ2 σ H2 ((part fh s2).bind fun u s3 => (part fs s3).bind fun m s4 => match deref s4 t, m with
    | some (.tup xs), some m => if decide (m ≠ 0) && decide (m ≠ 1) && decide ((stepL xs l u m).length ≤ LIM) then .ok (.tup (stepL xs l u m)) s4 else .bad
    | _, _ => .bad) Q) I1 (tP.bind (out := fun M ρ H r => OutE c g W M ρ σ H r Q) r1 (fun _ _ z => z) (fun z => z) h1 fun l s2 M2 ρ2 H2 r2 k2 h2 => ⟨M2, ρ2, s2, r2, t1.keep k2, OutE.keep k2 h2⟩)) ?_)
  rintro vl s2' ⟨l, H2, I2, pl, M2, ρ2, s2, r2, t2, h2⟩
  refine thn (hh.run pins s2' σ H2 (fun u H3 => ∃ M3 ρ3 s3, Rel c g M3 ρ3 s3 σ H3 ∧ TokR c M3 ρ3 σ H3 t x ∧ OutE c g W M3 ρ3 σ H3 ((part fs s3).bind fun m s4 => match deref s4 t, m with
    | some (.tup xs), some m => if decide (m ≠ 0) && decide (m ≠ 1) && decide ((stepL xs l u m).length ≤ LIM) then .ok (.tup (stepL xs l u m)) s4 else .bad
    | _, _ => .bad) Q) I2 (tP.bind (out := fun M ρ H r => OutE c g W M ρ σ H r Q) r2 (fun _ _ z => z) (fun z => z) h2 fun u s3 M3 ρ3 H3 r3 k3 h3 => ⟨M3, ρ3, s3, r3, t2.keep k3, OutE.keep k3 h3⟩)) ?_
  rintro vu s3' ⟨u, H3, I3, pu, M3, ρ3, s3, r3, t3, h3⟩
  refine thn (hs.run pins s3' σ H3 (fun m H4 => ∃ M4 ρ4 s4, Rel c g M4 ρ4 s4 σ H4 ∧ TokR c M4 ρ4 σ H4 t x ∧ OutE c g W M4 ρ4 σ H4 (match deref s4 t, m with
    | some (.tup xs), some m => if decide (m ≠ 0) && decide (m ≠ 1) && decide ((stepL xs l u m).length ≤ LIM) then .ok (.tup (stepL xs l u m)) s4 else .bad
    | _, _ => .bad) Q) I3 (tP.bind (out := fun M ρ H r => OutE c g W M ρ σ H r Q) r3 (fun _ _ z => z) (fun z => z) h3 fun m s4 M4 ρ4 H4 r4 k4 h4 => ⟨M4, ρ4, s4, r4, t3.keep k4, OutE.keep k4 h4⟩)) ?_
  rintro vs s4' ⟨m, H4, I4, ps, M4, ρ4, s4, r4, t4, h4⟩
  cases q : deref s4 t with
  | none => simp only [q] at h4; exact h4.elim
  | some d =>
    have hd : ∃ xs, d = .tup xs := by
      cases d with
      | tup xs => exact ⟨xs, rfl⟩
      | _ => simp only [q] at h4; exact h4.elim
    obtain ⟨xs, rfl⟩ := hd
    cases m with
    | none => simp only [q] at h4; exact h4.elim
    | some m =>
      simp only [q] at h4
      split at h4
      · rename_i hb
        simp only [Bool.and_eq_true, decide_eq_true_eq] at hb
        obtain ⟨b, ws, e1, h5, h6⟩ := (RW.of_tok r4 t4 q).tup
        subst e1
        cases rx
        have I5 : Inv X pins σ H4 { s4' with heap := s4'.heap.push { cls := .type "slice", data := .fields #[vl, vu, vs] } } := I4.kept (t' := s4'.toks) fun b ob q => Heap.get?_push_of_some _ q
        obtain ⟨its, r, ht, hz⟩ := I5.tuple (hK ▸ h5)
        have hlen : xs.length = its.length := h6.length.trans r.length
        have hv : Vals (stepL ws l u m) (stepL its l u m) := by
          unfold stepL
          rw [r.length]
          exact vals_step r _
        have hw : RDs c M4 ρ4 H4 (stepL xs l u m) (stepL ws l u m) := by
          unfold stepL
          rw [h6.length]
          exact rds_step h6 _
        have hz2 : (stepL its.toArray.toList l u m).length ≤ sizeLine := by
          rw [← hv.length, ← hw.length]
          exact Nat.le_trans hb.2 (by rw [sizeLine_eq]; decide)
        show wpAny (model X.prog X.w) X.A (subscriptTail a (.Slice lo hi (some st) p2) (.ref b) (.ref s4'.heap.objs.size)) (EP X pins σ Q) X.xe { s4' with heap := s4'.heap.push { cls := .type "slice", data := .fields #[vl, vu, vs] } }
        refine tail_any (ops := [.ref b, .ref s4'.heap.objs.size]) ht.typeIs PyProof.Rows.slot_tuple_getitem.lookup ?_ (by with_unfolding_all rfl)
        refine getItem_st ht (Heap.IsSliceOf.new _ vl vu vs) pl pu ps hb.1.1 hb.1.2 hz2 ?_
        exact layT (tk := s4'.toks) I5 hv (by rw [hv.length]; exact hz2) fun p o hp hc ho => h4 M4 ρ4 _ _ (r4.ext (Ext.new hp)) (r4.kext (Ext.new hp)) (RD.newT (H' := H4) r4.h.dom hp hc ho hw)
      · exact h4.elim
end
end DS
/-! DS19: zip of a list and a tuple. -/
namespace DS
open PySem PySem.Spec PyProof.Rows L2
/-- a list and a tuple, side by side -/
def Itm (K : PySem.W.Frag) (a b : Addr) : It where
  go i H := ∃ (xs ys : List V) (x y : V), SqL K H a xs ∧ SqT K H b ys ∧ xs[i]? = some x ∧ ys[i]? = some y
  yld i H v H' := ∃ T x y, v = .ref T ∧ H T = none ∧ H' = upd H T (.tup [x, y]) ∧ (∀ xs, SqL K H a xs → xs[i]? = some x) ∧ ∀ ys, SqT K H b ys → ys[i]? = some y
  stop i H := ∃ xs ys : List V, SqL K H a xs ∧ SqT K H b ys ∧ i ≤ xs.length ∧ i ≤ ys.length ∧ (i = xs.length ∨ i = ys.length)
abbrev MixAt (z TI TO i1 i2 a b : Addr) (i : Nat) (h : Heap) : Prop := IsZip h z TI TO .none ∧ IsTupOf2 h TI (.ref i1) (.ref i2) ∧ (∃ x y, IsTupOf2 h TO x y) ∧ h.IsListIter i1 a i ∧ h.IsTupleIter i2 b i
theorem mem5 {c z TI TO i1 i2 : Addr} (h : c ∈ [z, TI, TO, i1, i2]) : c = z ∨ c = TI ∨ c = TO ∨ c = i1 ∨ c = i2 := by simpa using h
theorem turn_mix {P : Program} {w : World} {K : PySem.W.Frag} {elts : List Expr} {kk : Nat} {tpos : Pos} {a b z TI TO i1 i2 : Addr} (S : ZipSep2 z TI TO i1 i2 [i1, a] [i2, b]) (na : a ≠ i1) (nb : b ≠ i2) : Turn P w K (.Tuple elts kk tpos) (Itm K a b) [z, TI, TO, i1, i2] z (MixAt z TI TO i1 i2 a b) := by
  have zi1 := S.zi1
  have zi2 := S.zi2
  refine ⟨by simp, ?_, ?_, ?_, ?_, fun A i s Q E st h => wpAny_pyIter_zip st.1 h⟩
  · intro i h st c hc
    obtain ⟨hz, hTI, ⟨x, y, hTO⟩, ⟨o1, e1, _, d1⟩, ⟨o2, e2, _, d2⟩⟩ := st
    rcases mem5 hc with rfl | rfl | rfl | rfl | rfl
    · exact ⟨_, hz, fun v q => nomatch q⟩
    · exact ⟨_, hTI, fun v q => nomatch q⟩
    · exact ⟨_, hTO, fun v q => nomatch q⟩
    · exact ⟨o1, e1, fun v q => by rw [d1] at q; cases q⟩
    · exact ⟨o2, e2, fun v q => by rw [d2] at q; cases q⟩
  · intro i h h' st k
    obtain ⟨hz, hTI, ⟨x, y, hTO⟩, h1, h2⟩ := st
    exact ⟨k z (by simp) _ hz, k TI (by simp) _ hTI, ⟨x, y, k TO (by simp) _ hTO⟩, h1.at fun o q => k i1 (by simp) o q, h2.at fun o q => k i2 (by simp) o q⟩
  · intro X hP hw hK hc i pins s σ H E I hf st hg
    cases hP
    cases hw
    cases hK
    obtain ⟨hz, hTI, ⟨x0, y0, hTO⟩, h1, h2⟩ := st
    obtain ⟨xs, ys, x, y, hqx, hqy, hx, hy⟩ := hg
    obtain ⟨its, rv, p, _⟩ := I.list hqx
    obtain ⟨its2, rv2, p2, _⟩ := I.tuple hqy
    obtain ⟨u, hu, ru⟩ := rv.get hx
    obtain ⟨u2, hu2, ru2⟩ := rv2.get hy
    have lt1 : i < its.toArray.size := by
      have := (List.getElem?_eq_some_iff.mp hu).1
      simpa using this
    have lt2 : i < its2.toArray.size := by
      have := (List.getElem?_eq_some_iff.mp hu2).1
      simpa using this
    have hd : X.A.in1.handled = none := I.ok.hd hc
    have hlz : z < s.heap.objs.size := Heap.lt_size hz
    refine wpAny_pyNext_zipD2_item S (Draws.list hd i1 a na its.toArray) (Draws.tuple hd i2 b nb its2.toArray) hz hTI hTO ⟨h1, p.isList⟩ ⟨h2, show s.heap.IsTuple b its2.toArray from p2⟩ lt1 lt2 ?_
    intro w1 w2 h' tk g1 g2 z' TO' st1 st2 hT hsz hk
    have e1 : w1 = u := by
      have g1 : its.toArray[i]? = some w1 := g1
      have hu' : its.toArray[i]? = some u := by simpa using hu
      exact Option.some.inj (g1.symm.trans hu')
    have e2 : w2 = u2 := by
      have g2 : its2.toArray[i]? = some w2 := g2
      have hu' : its2.toArray[i]? = some u2 := by simpa using hu2
      exact Option.some.inj (g2.symm.trans hu')
    cases e1
    cases e2
    refine ⟨_, rfl, wpAny_letOwnedTupleGo_zip (s := { s with heap := h', toks := tk }) z' ?_⟩
    intro h2' z2' sb
    have far : s.heap.objs.size ≠ z := Nat.ne_of_gt hlz
    have lay : h2'.get? s.heap.objs.size = some { cls := .type "tuple", data := .seq #[u, u2] } := (sb.2 _ far).trans hT
    have okN : ObjOk X.prog X.w (upd H s.heap.objs.size (.tup [x, y])) h2' s.heap.objs.size (.tup [x, y]) := ⟨by show 2 ≤ sizeLine; decide, [u, u2], .cons ru (.cons ru2 .nil), ⟨_, lay, rfl, _, rfl⟩⟩
    have I2 : Inv X pins σ (upd H s.heap.objs.size (.tup [x, y])) { s with heap := h2', toks := tk } := by
      refine I.turnedNew (t' := tk) (ch := [z, TI, TO, i1, i2]) ?_ hf (Nat.le_refl _) okN
      intro c o hb q
      have n1 : c ≠ z := fun e => hb (by rw [e]; simp)
      have n2 : c ≠ TO := fun e => hb (by rw [e]; simp)
      have n3 : c ≠ i1 := fun e => hb (by rw [e]; simp)
      have n4 : c ≠ i2 := fun e => hb (by rw [e]; simp)
      exact (sb.2 c n1).trans (hk c o n1 n2 n3 n4 q)
    have wx : ∀ l, SqL X.K H a l → l[i]? = some x := fun l hl => by
      rw [I.list_inj hl hqx]
      exact hx
    have wy : ∀ l, SqT X.K H b l → l[i]? = some y := fun l hl => by
      rw [I.tuple_inj hl hqy]
      exact hy
    refine ⟨.ref s.heap.objs.size, _, I2, rfl, ⟨_, x, y, rfl, I.hok.fresh (Nat.le_refl _), rfl, wx, wy⟩, ⟨z2', ?_, ⟨u, u2, ?_⟩, ?_, ?_⟩, ?_⟩
    · exact (sb.2 _ S.TIz).trans (hk _ _ S.TIz S.TITO S.TIi1 S.TIi2 hTI)
    · exact (sb.2 _ S.TOz).trans TO'
    · exact st1.1.at fun o q => (sb.2 _ zi1.symm).trans q
    · exact st2.1.at fun o q => (sb.2 _ zi2.symm).trans q
    · intro c hcm
      have hlt : c < s.heap.objs.size := by
        rcases mem5 hcm with rfl | rfl | rfl | rfl | rfl
        · exact hlz
        · exact Heap.lt_size hTI
        · exact Heap.lt_size hTO
        · obtain ⟨_, e1, _⟩ := h1
          exact Heap.lt_size e1
        · obtain ⟨_, e2, _⟩ := h2
          exact Heap.lt_size e2
      rw [upd_ne (Nat.ne_of_lt hlt)]
      exact (hf c hcm).1
  · intro X hP hw hK hc i pins s σ H E I hf st hg
    cases hP
    cases hw
    cases hK
    obtain ⟨hz, hTI, ⟨x0, y0, hTO⟩, h1, h2⟩ := st
    obtain ⟨xs, ys, hqx, hqy, le1, le2, hend⟩ := hg
    obtain ⟨its, rv, p, _⟩ := I.list hqx
    obtain ⟨its2, rv2, p2, _⟩ := I.tuple hqy
    have hd : X.A.in1.handled = none := I.ok.hd hc
    have l1 : its.toArray.size = xs.length := by
      rw [List.size_toArray]
      exact rv.length.symm
    have l2 : its2.toArray.size = ys.length := by
      rw [List.size_toArray]
      exact rv2.length.symm
    refine wpAny_pyNext_zipD2_end S (Draws.list hd i1 a na its.toArray) (Draws.tuple hd i2 b nb its2.toArray) hz hTI hTO ⟨h1, p.isList⟩ ⟨h2, show s.heap.IsTuple b its2.toArray from p2⟩ (by omega) (by omega) (by omega) ?_
    intro h' tk hk
    refine ⟨rfl, I.turnedL (t' := tk) (ch := [z, TI, TO, i1, i2]) ?_ hf⟩
    intro c o hb q
    exact hk c o (fun e => hb (by rw [e]; simp)) (fun e => hb (by rw [e]; simp)) (fun e => hb (by rw [e]; simp)) (fun e => hb (by rw [e]; simp)) q
/-- the walk over both -/
def iMix (K : PySem.W.Frag) (ta : TA) : TI := fun σ H R => ta σ H fun vs H1 => ∃ a b xs ys, vs = [.ref a, .ref b] ∧ SqL K H1 a xs ∧ SqT K H1 b ys ∧ R (Itm K a b) H1
theorem new5 {N : Nat} {pins : List (Addr × Obj)} {X : Cx} {σ : L2.St} {H : Hp} {s : Shared} (I : Inv X pins σ H s) (hN : s.heap.objs.size = N) : ∀ c, c ∈ [N + 4, N + 2, N + 3, N, N + 1] → FpOk X pins H c := fun c hc => by
  have hle : s.heap.objs.size ≤ c := by
    rw [hN]
    rcases mem5 hc with rfl | rfl | rfl | rfl | rfl
    · exact Nat.le_add_right _ _
    · exact Nat.le_add_right _ _
    · exact Nat.le_add_right _ _
    · exact Nat.le_refl _
    · exact Nat.le_add_right _ _
  exact I.fpOk hle (I.hok.fresh hle)
theorem pi_mix {X : Cx} {e e2 : Expr} {ta : TA} {p pos tpos : Pos} {elts : List Expr} {kk : Nat} (hg : Gl X "zip") (hm : X.mg "zip" = none) (ha : PA X [e, e2] ta) (hs : starEach [e, e2] X.env = (false, eval e X.env) :: starEach [e2] X.env) (hpl : (backTo pos (starEach [e2] X.env)).any (·.1) = false) :
    PI X (.Tuple elts kk tpos) (.Call (.Name "zip" p) [e, e2] [] pos) (iMix X.K ta) := by
  constructor
  intro pins s σ H R I h
  refine Call_ (ld_blt I hg hm PyProof.Rows.boot_zip (PyProof.Rows.callWith_type1 (thn (ha.run pos pins s σ H _ I h) ?_) hs hpl))
  intro us s1 z
  obtain ⟨vs, H1, I1, r1, a, b, xs, ys, rfl, hqx, hqy, q⟩ := z
  cases r1 with
  | cons r rr =>
    cases rr with
    | cons r' rr =>
      cases rr
      cases r
      cases r'
      obtain ⟨its, rv, p1, _⟩ := I1.list hqx
      obtain ⟨its2, rv2, p2, _⟩ := I1.tuple hqy
      have la : a < s1.heap.objs.size := p1.lt
      have lb : b < s1.heap.objs.size := by
        obtain ⟨o2, ho2, _⟩ := id p2
        exact Heap.lt_size ho2
      refine zip_begins2 (begins_list a its.toArray) (begins_tuple b its2.toArray) p1.isList (show s1.heap.IsTuple b its2.toArray from p2) ?_
      intro h' hz hTI hTO g1 g2 hsz hk
      have I2 : Inv X pins σ H1 { s1 with heap := h' } := I1.kept (t' := s1.toks) hk
      have S : ZipSep2 (s1.heap.objs.size + 4) (s1.heap.objs.size + 2) (s1.heap.objs.size + 3) s1.heap.objs.size (s1.heap.objs.size + 1) [s1.heap.objs.size, a] [s1.heap.objs.size + 1, b] :=
        zip_sep2 (fp1 := [a]) (fp2 := [b]) (fun c hc => by rw [List.mem_singleton.mp hc]; exact la) (fun c hc => by rw [List.mem_singleton.mp hc]; exact lb)
      have na : a ≠ s1.heap.objs.size := Nat.ne_of_lt la
      have nb : b ≠ s1.heap.objs.size + 1 := Nat.ne_of_lt (Nat.lt_succ_of_lt lb)
      exact wpAny_pyIter_zip hz ⟨s1.heap.objs.size + 4, [s1.heap.objs.size + 4, s1.heap.objs.size + 2, s1.heap.objs.size + 3, s1.heap.objs.size, s1.heap.objs.size + 1], _, _, H1, rfl, I2, turn_mix S na nb, ⟨hz, hTI, ⟨_, _, hTO⟩, ⟨_, g1, rfl, rfl⟩, ⟨_, g2, rfl, rfl⟩⟩, new5 I1 rfl, q⟩
def itM (a b : Ex) : DS.Itr := fun s => (a s).bind fun x s1 => (b s1).bind fun y s2 => match x, y with
  | .lst xs, .tup ys => .ok (zipL xs ys) s2
  | .scr xs, .tup ys => .ok (zipL xs ys) s2
  | _, _ => .bad
section
variable {c : Cn} {M : Am} {ρ : List Addr} {H : Hp} {K : PySem.W.Frag}
theorem walk_m {a b : Addr} {xs ys : List D} {vs us : List V} (r : RDs c M ρ H xs vs) (r' : RDs c M ρ H ys us) (h : ∀ (g : Gr) (M1 : Am) (ρ1 : List Addr) (H1 : Hp), Keep g M ρ H M1 ρ1 H1 → SqL K H1 a vs)
    (h' : ∀ (g : Gr) (M1 : Am) (ρ1 : List Addr) (H1 : Hp), Keep g M ρ H M1 ρ1 H1 → SqT K H1 b us) : Walk c M ρ H (Itm K a b) (zipL xs ys) := by
  intro g M1 ρ1 H1 k dm
  have h1 := h g M1 ρ1 H1 k
  have h2 := h' g M1 ρ1 H1 k
  have ll := r.length
  have ll' := r'.length
  have lz := zipL_len xs ys
  refine ⟨⟨vs, us, h1, h2, by omega, by omega, by omega⟩, fun i d e => ?_⟩
  obtain ⟨x0, y0, e0, e1, rfl⟩ := zipL_get e
  obtain ⟨v, hv, hd⟩ := (r.keep k).get e0
  obtain ⟨u, hu, hd'⟩ := (r'.keep k).get e1
  refine ⟨⟨vs, us, v, u, h1, h2, hv, hu⟩, fun x H2 z => ?_⟩
  obtain ⟨T, x1, y1, ex, hT, e2, p, q⟩ := z
  cases ex
  cases e2
  have p := p vs h1
  have q := q us h2
  rw [hv] at p
  rw [hu] at q
  cases p
  cases q
  exact ⟨Ext.new hT, RD.newP (H' := H1) dm hT (.cons hd (.cons hd' .nil))⟩
end
section
variable {X : Cx} {c : Cn} {g : Gr} {W : WX} {k : Nat} {a b : Ex} {e e2 tg : Expr} {p pos tpos : Pos} {elts : List Expr} {kk : Nat}
theorem i_mix (C : Cc X c W k) (hm : c.mg "zip" = none) (h : PE X e (tE c W a)) (h' : PE X e2 (tE c W b)) (hg : Gl X "zip" := by rfl) (hs : starEach [e, e2] X.env = (false, eval e X.env) :: starEach [e2] X.env := by rfl)
    (hs2 : starEach [e2] X.env = (false, eval e2 X.env) :: starEach [] X.env := by rfl) (hpl : (backTo pos (starEach [e2] X.env)).any (·.1) = false := by rfl) : PI X (.Tuple elts kk tpos) (.Call (.Name "zip" p) [e, e2] [] pos) (tI c W (itM a b)) :=
  pi_imp (pi_mix hg (by rw [C.hm]; exact hm) (pa_cons h (pa_cons h' pa_nil hs2) hs) hs hpl) fun σ H Rk h => by
  obtain ⟨g, M, ρ, s, rel, h⟩ := h
  refine tE.bind (out := fun M ρ H r => OutI c g W M ρ σ H r Rk) rel (fun _ _ z => z) (fun z => z) h fun d s1 M1 ρ1 v H1 r1 k1 hd h1 => ?_
  refine tE.bind (out := fun M ρ H r => OutI c g W M ρ σ H r Rk) r1 (fun _ _ z => z) (fun z => z) (OutI.keep k1 h1) fun d' s2 M2 ρ2 v' H2 r2 k2 hd' h2 => ?_
  have h2 := OutI.keep k2 h2
  have hd := hd.keep k2
  rw [C.hK]
  have he : ∃ xs ys, (d = .lst xs ∨ d = .scr xs) ∧ d' = .tup ys ∧ OutI c g W M2 ρ2 σ H2 (.ok (zipL xs ys) s2) Rk := by
    cases d <;> cases d' <;> first | exact h2.elim | skip
    · exact ⟨_, _, .inl rfl, rfl, h2⟩
    · exact ⟨_, _, .inr rfl, rfl, h2⟩
  obtain ⟨xs, ys, e1, rfl, h3⟩ := he
  obtain ⟨ad, vs, rfl, h4, h5⟩ := hd.sql e1
  obtain ⟨ad', us, rfl, h6, h7⟩ := hd'.sqt
  exact ⟨ad, ad', vs, us, rfl, h5 g M2 ρ2 H2 (Keep.refl _ _ _ _), h7 g M2 ρ2 H2 (Keep.refl _ _ _ _), h3 M2 ρ2 _ H2 r2 (Keep.refl _ _ _ _) (walk_m h4 h6 h5 h7)⟩
end
end DS
/-! DS20: enumerate of a tuple. -/
namespace DS
open PySem PySem.Spec PyProof.Rows L2
theorem new_enum1 {v : Value} {o : Obj} {H : Heap → Prop} (B : Begins v o H) :
    Meets (Builtin.«enumerate.__new__» ⟨[.type "enumerate", v], []⟩) (fun _ R s => H s.heap ∧ R (.ok (.ret (.ref (s.heap.push o).objs.size))) { s with heap := (s.heap.push o).push { cls := .type "enumerate", data := .fields #[.none, .bool false, .ref s.heap.objs.size, rawInt 0, .none, .none] } }) :=
  .of_wp fun prog w A R s h => by
    obtain ⟨hp, g, d, tk, os⟩ := s
    obtain ⟨h1, h⟩ := h
    have hsub := sub_enumerate
    have q1 : ∀ {A' : Around} {E : Value → Shared → Prop} {Q : Value → Shared → Prop}, Q (.ref hp.objs.size) ⟨hp.push o, g, d, tk, os⟩ → wpAny (model prog w) A' (pyIter v) Q E ⟨hp, g, d, tk, os⟩ := fun q => B.iter prog w _ _ ⟨hp, g, d, tk, os⟩ _ h1 q
    wp_walk using q1
    refine wpAny_stack_any fun st => wpAny_pure ?_
    split
    · rename_i c _ _ _ _ _
      cases (c == Value.type "enumerate") <;> (wp_walk using q1; exact ⟨_, rfl, h⟩)
    · wp_walk using q1
      exact ⟨_, rfl, h⟩
section
variable {prog : Program} {w : World} {A : Around} {E : Value → Shared → Prop} {s : Shared}
theorem call_enum1 {v : Value} {o : Obj} {H : Heap → Prop} {Q : Value → Shared → Prop} (B : Begins v o H) (h1 : H s.heap)
    (h : ∀ h', IsEnum h' (s.heap.objs.size + 1) s.heap.objs.size 0 .none → h'.get? s.heap.objs.size = some o → h'.objs.size = s.heap.objs.size + 2 → (∀ b o, s.heap.get? b = some o → h'.get? b = some o) → Q (.ref (s.heap.objs.size + 1)) { s with heap := h' }) :
    wpAny (model prog w) A (call (.type "enumerate") [v]) Q E s := by
  refine callType_new F.called_enumerate (by decide) (F.typeCall_enumerate_1 _) (F.newCall_enumerate_1 _) (fun obj => F.args_object_init_2 obj _) F.entry_enumerate_new (new_enum1 B) ⟨h1, ?_⟩
  have hz : (s.heap.push o).objs.size = s.heap.objs.size + 1 := Heap.size_push ..
  show _ ∧ _
  rw [hz]
  have he : IsEnum ((s.heap.push o).push { cls := .type "enumerate", data := .fields #[.none, .bool false, .ref s.heap.objs.size, rawInt 0, .none, .none] }) (s.heap.objs.size + 1) s.heap.objs.size 0 .none := by
    have q := Heap.get?_push_size (s.heap.push o) (o := { cls := .type "enumerate", data := .fields #[.none, .bool false, .ref s.heap.objs.size, rawInt 0, .none, .none] }) rfl
    rw [hz] at q
    exact q
  exact ⟨⟨_, he, rfl⟩, h _ he (Heap.get?_push_of_some _ (Heap.get?_push_size _ B.free)) (by rw [Heap.size_push, hz]) fun b o x => Heap.get?_push_of_some _ (Heap.get?_push_of_some _ x)⟩
end
/-- a tuple with its places -/
def ItE (K : PySem.W.Frag) (a : Addr) : It where
  go i H := ∃ (xs : List V) (x : V), SqT K H a xs ∧ xs[i]? = some x
  yld i H v H' := ∃ T x, v = .ref T ∧ H T = none ∧ H' = upd H T (.tup [.int (i : Nat), x]) ∧ ∀ xs, SqT K H a xs → xs[i]? = some x
  stop i H := ∃ xs : List V, SqT K H a xs ∧ xs.length = i
abbrev EnAt (a e it : Addr) (i : Nat) (h : Heap) : Prop := (∃ old, IsEnum h e it ((i : Nat) : Int) old) ∧ h.IsTupleIter it a i
theorem mem2 {c e it : Addr} (h : c ∈ [e, it]) : c = e ∨ c = it := by simpa using h
theorem turn_en {P : Program} {w : World} {K : PySem.W.Frag} {elts : List Expr} {kk : Nat} {tpos : Pos} {a e it : Addr} (ne : e ≠ it) (na : a ≠ it) (nf : e ∉ [it, a]) : Turn P w K (.Tuple elts kk tpos) (ItE K a) [e, it] e (EnAt a e it) := by
  refine ⟨by simp, ?_, ?_, ?_, ?_, fun A i s Q E st h => ?_⟩
  · intro i h st c hc
    obtain ⟨⟨old, he⟩, ⟨o, ho, _, hd⟩⟩ := st
    rcases mem2 hc with rfl | rfl
    · exact ⟨_, he, fun v q => nomatch q⟩
    · exact ⟨o, ho, fun v q => by rw [hd] at q; cases q⟩
  · intro i h h' st k
    obtain ⟨⟨old, he⟩, hi⟩ := st
    exact ⟨⟨old, k e (by simp) _ he⟩, hi.at fun o q => k it (by simp) o q⟩
  · intro X hP hw hK hc i pins s σ H E I hf st hg
    cases hP
    cases hw
    cases hK
    obtain ⟨⟨old, he⟩, hit⟩ := st
    obtain ⟨xs, x, hq, hx⟩ := hg
    obtain ⟨its, rv, p, _⟩ := I.tuple hq
    obtain ⟨u, hu, ru⟩ := rv.get hx
    have lt1 : i < its.toArray.size := by
      have := (List.getElem?_eq_some_iff.mp hu).1
      simpa using this
    have hd : X.A.in1.handled = none := I.ok.hd hc
    have hel : e < s.heap.objs.size := Heap.lt_size he
    have hil : it < s.heap.objs.size := by
      obtain ⟨_, q, _⟩ := hit
      exact Heap.lt_size q
    refine wpAny_pyNext_enum_itemC (c := ((i : Nat) : Int)) (Draws.tuple hd it a na its.toArray) he ⟨hit, show s.heap.IsTuple a its.toArray from p⟩ lt1 ne nf ?_
    intro w1 h' tk g1 ho st1 hT hsz hk
    have e1 : w1 = u := by
      have g1 : its.toArray[i]? = some w1 := g1
      have hu' : its.toArray[i]? = some u := by simpa using hu
      exact Option.some.inj (g1.symm.trans hu')
    cases e1
    refine ⟨_, rfl, wpAny_letOwnedTupleGo_enum (s := { s with heap := h', toks := tk + 1 }) ho ?_⟩
    intro h2 he2 sb
    have lay : h2.get? s.heap.objs.size = some { cls := .type "tuple", data := .seq #[.int i tk, u] } := (sb.2 _ (Nat.ne_of_gt hel)).trans hT
    have okN : ObjOk X.prog X.w (upd H s.heap.objs.size (.tup [.int (i : Nat), x])) h2 s.heap.objs.size (.tup [.int (i : Nat), x]) := ⟨by show 2 ≤ sizeLine; decide, [.int i tk, u], .cons ⟨_, rfl⟩ (.cons ru .nil), ⟨_, lay, rfl, _, rfl⟩⟩
    have I2 : Inv X pins σ (upd H s.heap.objs.size (.tup [.int (i : Nat), x])) { s with heap := h2, toks := tk + 1 } := by
      refine I.turnedNew (t' := tk + 1) (ch := [e, it]) ?_ hf (Nat.le_refl _) okN
      intro c o hb q
      have n1 : c ≠ e := fun z => hb (by rw [z]; simp)
      have n2 : c ≠ it := fun z => hb (by rw [z]; simp)
      exact (sb.2 c n1).trans (hk c o n1 n2 q)
    have wx : ∀ l, SqT X.K H a l → l[i]? = some x := fun l hl => by
      rw [I.tuple_inj hl hq]
      exact hx
    refine ⟨.ref s.heap.objs.size, _, I2, rfl, ⟨_, x, rfl, I.hok.fresh (Nat.le_refl _), rfl, wx⟩, ⟨⟨u, ?_⟩, ?_⟩, ?_⟩
    · have e1 : ((i + 1 : Nat) : Int) = (i : Int) + 1 := by omega
      rw [e1]
      exact he2
    · exact st1.1.at fun o q => (sb.2 it (Ne.symm ne)).trans q
    · intro c hcm
      have hlt : c < s.heap.objs.size := by
        rcases mem2 hcm with rfl | rfl
        · exact hel
        · exact hil
      rw [upd_ne (Nat.ne_of_lt hlt)]
      exact (hf c hcm).1
  · intro X hP hw hK hc i pins s σ H E I hf st hg
    cases hP
    cases hw
    cases hK
    obtain ⟨⟨old, he⟩, hit⟩ := st
    obtain ⟨xs, hq, hend⟩ := hg
    obtain ⟨its, rv, p, _⟩ := I.tuple hq
    have hd : X.A.in1.handled = none := I.ok.hd hc
    have l1 : its.toArray.size = i := by
      rw [List.size_toArray, ← hend]
      exact rv.length.symm
    have st2 : s.heap.IsTupleIter it a its.toArray.size ∧ s.heap.IsTuple a its.toArray := by
      rw [l1]
      exact ⟨hit, p⟩
    refine wpAny_pyNext_enum_endD (Draws.tuple hd it a na its.toArray) he st2 ?_
    intro h' eb
    refine ⟨rfl, I.turnedL (t' := s.toks) (ch := [e, it]) ?_ hf⟩
    intro c o hb q
    exact eb c o (fun z => hb (by rw [z]; simp)) q
  · obtain ⟨⟨_, he⟩, _⟩ := st
    exact wpAny_pyIter_enum he h
def iEn (K : PySem.W.Frag) (ta : TA) : TI := fun σ H R => ta σ H fun vs H1 => ∃ a xs, vs = [.ref a] ∧ SqT K H1 a xs ∧ R (ItE K a) H1
theorem pi_en {X : Cx} {e : Expr} {ta : TA} {p pos tpos : Pos} {elts : List Expr} {kk : Nat} (hg : Gl X "enumerate") (hm : X.mg "enumerate" = none) (ha : PA X [e] ta) (hs : starEach [e] X.env = [(false, eval e X.env)]) :
    PI X (.Tuple elts kk tpos) (.Call (.Name "enumerate" p) [e] [] pos) (iEn X.K ta) := by
  constructor
  intro pins s σ H R I h
  refine Call_ (ld_blt I hg hm boot_enumerate (PyProof.Rows.callWith_type1 (thn (ha.run pos pins s σ H _ I h) ?_) hs rfl))
  intro us s1 z
  obtain ⟨vs, H1, I1, r1, a, xs, rfl, hq, q⟩ := z
  cases r1 with
  | cons r rr =>
    cases rr
    cases r
    obtain ⟨its, rv, p2, _⟩ := I1.tuple hq
    have la : a < s1.heap.objs.size := by
      obtain ⟨o2, ho2, _⟩ := id p2
      exact Heap.lt_size ho2
    refine call_enum1 (begins_tuple a its.toArray) (show s1.heap.IsTuple a its.toArray from p2) ?_
    intro h' he g1 hsz hk
    have I2 : Inv X pins σ H1 { s1 with heap := h' } := I1.kept (t' := s1.toks) hk
    have na : a ≠ s1.heap.objs.size := Nat.ne_of_lt la
    have nf : s1.heap.objs.size + 1 ∉ [s1.heap.objs.size, a] := fun m => by
      rcases mem2 m with z | z
      · exact Nat.succ_ne_self _ z
      · exact Nat.ne_of_gt (Nat.lt_succ_of_lt la) z
    refine wpAny_pyIter_enum he ⟨s1.heap.objs.size + 1, [s1.heap.objs.size + 1, s1.heap.objs.size], _, _, H1, rfl, I2, turn_en (Nat.succ_ne_self _) na nf, ⟨⟨.none, he⟩, ⟨_, g1, rfl, rfl⟩⟩, ?_, q⟩
    intro c hc
    have hle : s1.heap.objs.size ≤ c := by
      rcases mem2 hc with rfl | rfl
      · exact Nat.le_succ _
      · exact Nat.le_refl _
    exact I1.fpOk hle (I1.hok.fresh hle)
def itET (o : Ex) : DS.Itr := fun s => (o s).bind fun d s1 => match d with
  | .tup xs => .ok (enumL 0 xs) s1
  | _ => .bad
section
variable {c : Cn} {M : Am} {ρ : List Addr} {H : Hp} {K : PySem.W.Frag}
theorem walk_en {a : Addr} {xs : List D} {vs : List V} (r : RDs c M ρ H xs vs) (h : ∀ (g : Gr) (M1 : Am) (ρ1 : List Addr) (H1 : Hp), Keep g M ρ H M1 ρ1 H1 → SqT K H1 a vs) : Walk c M ρ H (ItE K a) (enumL 0 xs) := by
  intro g M1 ρ1 H1 k dm
  have h1 := h g M1 ρ1 H1 k
  refine ⟨⟨vs, h1, by rw [enumL_len, r.length]⟩, fun i d e => ?_⟩
  obtain ⟨x0, e0, rfl⟩ := enumL_get e
  obtain ⟨v, hv, hd⟩ := (r.keep k).get e0
  refine ⟨⟨vs, v, h1, hv⟩, fun x H2 z => ?_⟩
  obtain ⟨T, x1, ex, hT, e2, y⟩ := z
  cases ex
  cases e2
  have := y vs h1
  rw [hv] at this
  cases this
  refine ⟨Ext.new hT, ?_⟩
  rw [Nat.zero_add]
  exact RD.newP (H' := H1) dm hT (.cons (.int _) (.cons hd .nil))
end
section
variable {X : Cx} {c : Cn} {g : Gr} {W : WX} {k : Nat} {a : Ex} {e tg : Expr} {p pos tpos : Pos} {elts : List Expr} {kk : Nat}
theorem i_en (C : Cc X c W k) (hm : c.mg "enumerate" = none) (h : PE X e (tE c W a)) (hg : Gl X "enumerate" := by rfl) (hs : starEach [e] X.env = [(false, eval e X.env)] := by rfl) : PI X (.Tuple elts kk tpos) (.Call (.Name "enumerate" p) [e] [] pos) (tI c W (itET a)) :=
  pi_imp (pi_en hg (by rw [C.hm]; exact hm) (pa_cons h pa_nil hs) hs) fun σ H Rk h => by
  obtain ⟨g, M, ρ, s, rel, h⟩ := h
  refine tE.bind (out := fun M ρ H r => OutI c g W M ρ σ H r Rk) rel (fun _ _ z => z) (fun z => z) h fun d s1 M1 ρ1 v H1 r1 k1 hd h1 => ?_
  have he : ∃ xs, d = .tup xs := by
    cases d with
    | tup xs => exact ⟨xs, rfl⟩
    | _ => exact h1.elim
  obtain ⟨xs, rfl⟩ := he
  obtain ⟨ad, vs, rfl, h2, h3⟩ := hd.sqt
  rw [C.hK]
  exact ⟨ad, vs, rfl, h3 g M1 ρ1 H1 (Keep.refl _ _ _ _), h1 M1 ρ1 _ H1 r1 k1 (walk_en h2 h3)⟩
end
end DS
/-! DS21: dicts by tuples: what is there, item, store. -/
namespace DS
open PySem PySem.Spec PyProof.Rows L2

/-! ### keys -/
section
variable {X : Cx} {pins : List (Addr × Obj)} {σ : L2.St} {H : Hp} {s : Shared} {c : Cn} {M : Am} {ρ : List Addr}
mutual
theorem nk_is (I : Inv X pins σ H s) (hK : X.K = c.K) : ∀ (d : D) (v : V) (u : Value) (k : NestedKey), RD c M ρ H d v → RelV v u → nk d = some k → NestedIs s.heap k u
  | .int i, v, u, k, r, rv, e => by
    unfold nk at e
    cases e
    cases r
    obtain ⟨t, rfl⟩ := rv
    exact .int _ _
  | .str x, v, u, k, r, rv, e => by
    unfold nk at e
    cases e
    cases r
    obtain ⟨t, rfl⟩ := rv
    exact .text _ _
  | .tup xs, v, u, k, r, rv, e => by
    unfold nk at e
    obtain ⟨ks, e1, rfl⟩ := Option.map_eq_some_iff.mp e
    obtain ⟨a, vs, rfl, h1, h2⟩ := r.tup
    cases rv
    obtain ⟨its, ri, ⟨o, ho, hc, n, hd⟩, _⟩ := I.tuple (hK ▸ h1)
    exact .tup ho hc hd (by
      have := nks_is I hK xs vs its ks h2 ri e1
      simpa using this)
  | .non, _, _, _, _, _, e => by unfold nk at e; cases e
  | .bl _, _, _, _, _, _, e => by unfold nk at e; cases e
  | .fn _, _, _, _, _, _, e => by unfold nk at e; cases e
  | .ref _, _, _, _, _, _, e => by unfold nk at e; cases e
  | .pr _, _, _, _, _, _, e => by unfold nk at e; cases e
  | .lst _, _, _, _, _, _, e => by unfold nk at e; cases e
  | .scr _, _, _, _, _, _, e => by unfold nk at e; cases e
  | .dct _ _ _, _, _, _, _, _, e => by unfold nk at e; cases e
theorem nks_is (I : Inv X pins σ H s) (hK : X.K = c.K) : ∀ (ds : List D) (vs : List V) (us : List Value) (ks : List NestedKey), RDs c M ρ H ds vs → Vals vs us → nks ds = some ks → NestedAll s.heap ks us
  | [], vs, us, ks, r, rv, e => by
    unfold nks at e
    cases e
    cases r
    cases rv
    exact .nil
  | d :: ds, vs, us, ks, r, rv, e => by
    unfold nks at e
    obtain ⟨k, e1, e2⟩ := Option.bind_eq_some_iff.mp e
    obtain ⟨ks', e3, rfl⟩ := Option.map_eq_some_iff.mp e2
    cases r with
    | cons h t =>
      cases rv with
      | cons h' t' => exact .cons (nk_is I hK d _ _ _ h h' e1) (nks_is I hK ds _ _ _ t t' e3)
end
theorem vals_refs : ∀ xs : List Ent, Vals (xs.map fun x => V.ref x.2.1) (xs.map fun x => Value.ref x.2.1)
  | [] => .nil
  | x :: xs => .cons rfl (vals_refs xs)
theorem all_mem {h : Heap} : ∀ {xs : List Ent}, NestedAll h (xs.map (·.1)) (xs.map fun x => Value.ref x.2.1) → ∀ x ∈ xs, NestedIs h x.1 (.ref x.2.1)
  | [], _, x, hx => nomatch hx
  | y :: ys, h, x, hx => by
    rw [List.map_cons, List.map_cons] at h
    cases h with
    | cons h1 h2 =>
      rcases List.mem_cons.mp hx with rfl | hx
      · exact h1
      · exact all_mem h2 x hx
abbrev ND (X : Cx) : HeapKind X.prog X.w NestedKey := nestedKind X.prog X.w
/-- what a dict by tuples is in the heap -/
theorem dict_heap (I : Inv X pins σ H s) (hK : X.K = c.K) (hw : X.w = c.w) {a : Addr} {ks : List D} {o : Obj} {xs : List Ent} (h1 : H a = some (RawO a o)) (g : DRaw c.w a o xs) (e : nks ks = some (xs.map (·.1))) (kr : RDs c M ρ H ks (xs.map fun x => V.ref x.2.1)) : s.heap.DictOfH (ND X) a xs := by
  obtain ⟨_, g2, ⟨es, ep, g3, g4⟩, g5, g6⟩ := g
  have ho : s.heap.get? a = some o := (I.hok a _ h1).1
  refine ⟨o, es, ep, ho, g2, g3, ?_, fun x hx => ⟨?_, g6 x hx⟩, g5⟩
  · rw [g4, ← hw]
    rfl
  · exact all_mem (nks_is I hK ks _ _ _ kr (vals_refs xs) e) x hx
end

/-! ### look-ups, by data -/
def getN : List D → List D → NestedKey → Option D
  | kd :: ks, v :: vs, k => if nk kd = some k then some v else getN ks vs k
  | _, _, _ => none
def putN : List D → List D → NestedKey → D → D → List D × List D
  | kd :: ks, v :: vs, k, kn, x => if nk kd = some k then (kd :: ks, x :: vs) else let r := putN ks vs k kn x; (kd :: r.1, v :: r.2)
  | _, _, _, kn, x => ([kn], [x])
section
variable {c : Cn} {M : Am} {ρ : List Addr} {H : Hp}
theorem nks_cons {d : D} {ds : List D} {k : NestedKey} {l : List NestedKey} (e : nks (d :: ds) = some (k :: l)) : nk d = some k ∧ nks ds = some l := by
  unfold nks at e
  obtain ⟨k', e1, e2⟩ := Option.bind_eq_some_iff.mp e
  obtain ⟨l', e3, e4⟩ := Option.map_eq_some_iff.mp e2
  cases e4
  exact ⟨e1, e3⟩
theorem nks_len : ∀ {ds : List D} {l : List NestedKey}, nks ds = some l → ds.length = l.length
  | [], l, e => by unfold nks at e; cases e; rfl
  | d :: ds, l, e => by
    unfold nks at e
    obtain ⟨k', e1, e2⟩ := Option.bind_eq_some_iff.mp e
    obtain ⟨l', e3, rfl⟩ := Option.map_eq_some_iff.mp e2
    rw [List.length_cons, List.length_cons, nks_len e3]
theorem atKey_cons (x : Ent) (xs : List Ent) (k : NestedKey) : atKey (x :: xs) k = if x.1 = k then some x.2 else atKey xs k := by
  unfold atKey
  rw [List.find?_cons]
  by_cases h : x.1 = k
  · simp [h]
  · simp [h]
theorem get_at (k : NestedKey) : ∀ {xs : List Ent} {ks vs : List D} {us : List V}, nks ks = some (xs.map (·.1)) → RDs c M ρ H vs us → Vals us (xs.map (·.2.2)) →
    (∃ p d w, atKey xs k = some p ∧ getN ks vs k = some d ∧ RD c M ρ H d w ∧ RelV w p.2) ∨ (atKey xs k = none ∧ getN ks vs k = none)
  | [], ks, vs, us, e, r, rv => by
    have : ks = [] := List.length_eq_zero_iff.mp (nks_len e)
    subst this
    exact .inr ⟨rfl, rfl⟩
  | x :: xs, [], vs, us, e, r, rv => by have := nks_len e; simp at this
  | x :: xs, kd :: ks, vs, us, e, r, rv => by
    rw [List.map_cons] at e rv
    obtain ⟨e1, e2⟩ := nks_cons e
    cases rv with
    | cons h' t' =>
      cases r with
      | cons h t =>
        rw [atKey_cons]
        unfold getN
        by_cases q : x.1 = k
        · have q' : nk kd = some k := by rw [e1, q]
          rw [if_pos q, if_pos q']
          exact .inl ⟨_, _, _, rfl, rfl, h, h'⟩
        · have q' : ¬ nk kd = some k := by
            rw [e1]
            exact fun z => q (Option.some.inj z)
          rw [if_neg q, if_neg q']
          exact get_at k e2 t t'
theorem getN_some {k : NestedKey} {xs : List Ent} {ks vs : List D} {us : List V} {d : D} (e : nks ks = some (xs.map (·.1))) (r : RDs c M ρ H vs us) (rv : Vals us (xs.map (·.2.2))) (g : getN ks vs k = some d) : ∃ p w, atKey xs k = some p ∧ RD c M ρ H d w ∧ RelV w p.2 := by
  rcases get_at k e r rv with ⟨p, d', w, h1, h2, h3, h4⟩ | ⟨_, h2⟩
  · rw [g] at h2
    cases h2
    exact ⟨p, w, h1, h3, h4⟩
  · rw [g] at h2
    cases h2
theorem getN_none {k : NestedKey} {xs : List Ent} {ks vs : List D} {us : List V} (e : nks ks = some (xs.map (·.1))) (r : RDs c M ρ H vs us) (rv : Vals us (xs.map (·.2.2))) (g : getN ks vs k = none) : atKey xs k = none := by
  rcases get_at k e r rv with ⟨p, d', w, h1, h2, h3, h4⟩ | ⟨h1, _⟩
  · rw [g] at h2
    cases h2
  · exact h1
theorem stored_cons (x : Ent) (xs : List Ent) (k : NestedKey) (b : Addr) (v : Value) (hn : ((x :: xs).map (·.1)).Nodup) : storedH (x :: xs) k b v = if x.1 = k then (x.1, x.2.1, v) :: xs else x :: storedH xs k b v := by
  unfold storedH
  rw [atKey_cons]
  by_cases h : x.1 = k
  · rw [if_pos h, if_pos h]
    rw [show (some x.2).isSome = true from rfl, if_pos rfl, List.map_cons]
    have h1 : putAt k v x = (x.1, x.2.1, v) := by
      unfold putAt
      rw [if_pos h]
    have h2 : xs.map (putAt k v) = xs := by
      rw [List.map_cons, List.nodup_cons] at hn
      refine Eq.trans (List.map_congr_left (g := id) fun y hy => ?_) (List.map_id xs)
      unfold putAt
      rw [if_neg]
      · rfl
      · intro z
        exact hn.1 (List.mem_map.mpr ⟨y, hy, z.trans h.symm⟩)
    rw [h1, h2]
  · rw [if_neg h, if_neg h]
    by_cases q : (atKey xs k).isSome = true
    · rw [if_pos q, if_pos q, List.map_cons]
      have h1 : putAt k v x = x := by
        unfold putAt
        rw [if_neg h]
      rw [h1]
    · rw [if_neg q, if_neg q]
      rfl
theorem put_at (k : NestedKey) (b : Addr) (kn x : D) (w : V) (u : Value) (hk : nk kn = some k) (hkr : RD c M ρ H kn (.ref b)) (hx : RD c M ρ H x w) (hu : RelV w u) : ∀ {xs : List Ent} {ks vs : List D} {us : List V}, (xs.map (·.1)).Nodup → nks ks = some (xs.map (·.1)) → RDs c M ρ H ks (xs.map fun x => V.ref x.2.1) → RDs c M ρ H vs us → Vals us (xs.map (·.2.2)) →
    nks (putN ks vs k kn x).1 = some ((storedH xs k b u).map (·.1)) ∧ RDs c M ρ H (putN ks vs k kn x).1 ((storedH xs k b u).map fun x => V.ref x.2.1) ∧ ∃ us', RDs c M ρ H (putN ks vs k kn x).2 us' ∧ Vals us' ((storedH xs k b u).map (·.2.2))
  | [], ks, vs, us, _, e, kr, r, rv => by
    have : ks = [] := List.length_eq_zero_iff.mp (nks_len e)
    subst this
    have e2 : storedH ([] : List Ent) k b u = [(k, b, u)] := rfl
    rw [e2]
    unfold putN
    refine ⟨?_, .cons hkr .nil, [w], .cons hx .nil, .cons hu .nil⟩
    unfold nks
    rw [hk]
    unfold nks
    rfl
  | y :: ys, [], vs, us, _, e, kr, r, rv => by have := nks_len e; simp at this
  | y :: ys, kd :: ks, vs, us, hn, e, kr, r, rv => by
    rw [stored_cons y ys k b u hn]
    rw [List.map_cons] at e rv kr hn
    obtain ⟨e1, e2⟩ := nks_cons e
    cases rv with
    | cons h' t' =>
      cases r with
      | cons h t =>
        cases kr with
        | cons hkd tk =>
          unfold putN
          by_cases q : y.1 = k
          · have q' : nk kd = some k := by rw [e1, q]
            rw [if_pos q, if_pos q']
            exact ⟨e, .cons hkd tk, _, .cons hx t, .cons hu t'⟩
          · have q' : ¬ nk kd = some k := by
              rw [e1]
              exact fun z => q (Option.some.inj z)
            rw [if_neg q, if_neg q']
            obtain ⟨p1, p2, us', p3, p4⟩ := put_at k b kn x w u hk hkr hx hu (List.nodup_cons.mp hn).2 e2 tk t t'
            refine ⟨?_, .cons hkd p2, _, .cons h p3, .cons h' p4⟩
            show nks (kd :: (putN ks _ k kn x).1) = _
            unfold nks
            rw [e1, p1]
            rfl
end
end DS
/-! DS22: dicts by tuples: k in d, d[k], d[k] = v, {}, {k: v}. -/
namespace DS
open PySem PySem.Spec PyProof.Rows L2
section
variable {X : Cx} {c : Cn}
/-- a key at hand and a dict by tuples -/
structure KD (c : Cn) (M : Am) (ρ : List Addr) (H : Hp) (b a : Addr) (ts : List D) (l : List NestedKey) (ks vs : List D) (o : Obj) (xs : List Ent) (us : List V) : Prop where
  key : RD c M ρ H (.tup ts) (.ref b)
  nk : nks ts = some l
  dp : (NestedKey.tup l).depth ≤ 8
  ho : H a = some (RawO a o)
  g : DRaw c.w a o xs
  e : nks ks = some (xs.map (·.1))
  kr : RDs c M ρ H ks (xs.map fun x => V.ref x.2.1)
  r : RDs c M ρ H vs us
  rv : Vals us (xs.map (·.2.2))
section
variable {pins : List (Addr × Obj)} {σ : L2.St} {H : Hp} {s : Shared} {M : Am} {ρ : List Addr} {b a : Addr} {ts : List D} {l : List NestedKey} {ks vs : List D} {o : Obj} {xs : List Ent} {us : List V}
theorem KD.is (z : KD c M ρ H b a ts l ks vs o xs us) (I : Inv X pins σ H s) (hK : X.K = c.K) : (ND X).is s.heap (.tup l) b := ⟨nk_is I hK (.tup ts) _ _ _ z.key rfl (by unfold DS.nk; rw [z.nk]; rfl), z.dp⟩
theorem KD.heap (z : KD c M ρ H b a ts l ks vs o xs us) (I : Inv X pins σ H s) (hK : X.K = c.K) (hw : X.w = c.w) : s.heap.DictOfH (ND X) a xs := dict_heap I hK hw z.ho z.g z.e z.kr
theorem KD.some (z : KD c M ρ H b a ts l ks vs o xs us) : (atKey xs (.tup l)).isSome = (getN ks vs (.tup l)).isSome := by
  rcases get_at (.tup l) z.e z.r z.rv with ⟨p, d, w, h1, h2, _, _⟩ | ⟨h1, h2⟩
  · rw [h1, h2]
    rfl
  · rw [h1, h2]
    rfl
theorem room_nd {A : Around} (hu : A.units + 9 < cLine) : (ND X).room A.in1 := by
  show A.units + 1 + 8 < cLine
  omega
end
def rHasN (c : Cn) (f : Bool → Bool) : R2 := fun x y H Q => ∃ M ρ b a ts l ks vs o xs us, x = .ref b ∧ y = .ref a ∧ KD c M ρ H b a ts l ks vs o xs us ∧ Q (.bl (f (getN ks vs (.tup l)).isSome)) H
theorem op_inN (hu : X.A.units + 9 < cLine) (hK : X.K = c.K) (hw : X.w = c.w) : OpR X (compareOp .In) (rHasN c id) := by
  intro pins s σ H x y v u Q I rx ry z
  obtain ⟨M, ρ, b, a, ts, l, ks, vs, o, xs, us, rfl, rfl, kd, q⟩ := z
  cases rx
  cases ry
  refine wpAny_in_heap (knd := ND X) (room_nd hu) (kd.is I hK) kd.g.1 (kd.heap I hK hw) ⟨.bl _, H, I.tok _, rfl, ?_⟩
  rw [kd.some]
  exact q
theorem op_ninN (hu : X.A.units + 9 < cLine) (hK : X.K = c.K) (hw : X.w = c.w) : OpR X (compareOp .NotIn) (rHasN c not) := by
  intro pins s σ H x y v u Q I rx ry z
  obtain ⟨M, ρ, b, a, ts, l, ks, vs, o, xs, us, rfl, rfl, kd, q⟩ := z
  cases rx
  cases ry
  refine notIn_keyed (knd := ND X) (room_nd hu) (kd.is I hK) kd.g.1 ⟨xs, kd.heap I hK hw, rfl⟩ ⟨.bl _, H, I.tok _, rfl, ?_⟩
  rw [valueAt_pairsH, Option.isSome_map, kd.some]
  exact q
def keyN (x : D) : Option (List NestedKey) := match x with
  | .tup ts => (nks ts).bind fun l => if (NestedKey.tup l).depth ≤ 8 then some l else none
  | _ => none
def hasN (f : Bool → Bool) (x y : D) : Option D := (keyN x).bind fun l => match y with
  | .dct true ks vs => some (.bl (f (getN ks vs (.tup l)).isSome))
  | _ => none
theorem keyN_is {x : D} {l : List NestedKey} (h : keyN x = some l) : ∃ ts, x = .tup ts ∧ nks ts = some l ∧ (NestedKey.tup l).depth ≤ 8 := by
  unfold keyN at h
  split at h
  · rename_i ts
    obtain ⟨l', h1, h2⟩ := Option.bind_eq_some_iff.mp h
    split at h2
    · cases h2
      exact ⟨ts, rfl, h1, by assumption⟩
    · cases h2
  · cases h
theorem dictN_is {M : Am} {ρ : List Addr} {H : Hp} {x : D} {v u : V} {l : List NestedKey} {ks vs : List D} (hx : RW c M ρ H x v) (hk : keyN x = some l) (hy : RW c M ρ H (.dct true ks vs) u) : ∃ b a ts o xs us, v = .ref b ∧ u = .ref a ∧ KD c M ρ H b a ts l ks vs o xs us := by
  obtain ⟨ts, rfl, h1, h2⟩ := keyN_is hk
  have hr := hx.rdt
  obtain ⟨b, ws, rfl, _, _⟩ := hr.tup
  obtain ⟨a, rfl, o, xs, us, h3, h4, h5, h6, h7, h8⟩ := hy.dct
  exact ⟨b, a, ts, o, xs, us, rfl, rfl, ⟨hr, h1, h2, h3, h4, h5, h6, h7, h8⟩⟩
theorem v_hasN (f : Bool → Bool) : V2 c (rHasN c f) (hasN f) := by
  intro M ρ H x y e v u Q d hx hy hF q
  unfold hasN at hF
  obtain ⟨l, h1, h2⟩ := Option.bind_eq_some_iff.mp hF
  split at h2
  · rename_i ks vs
    cases h2
    obtain ⟨b, a, ts, o, xs, us, rfl, rfl, kd⟩ := dictN_is hx h1 hy
    exact ⟨M, ρ, b, a, ts, l, ks, vs, o, xs, us, rfl, rfl, kd, q _ H (Ext.refl H) (.bl _)⟩
  · cases h2
/-! ### d[k] -/
def rGetN (c : Cn) : R2 := fun x y H Q => ∃ M ρ b a ts l ks vs o xs us d, x = .ref a ∧ y = .ref b ∧ KD c M ρ H b a ts l ks vs o xs us ∧ getN ks vs (.tup l) = some d ∧ ∀ w, RD c M ρ H d w → Q w H
theorem ix_dN (hu : X.A.units + 9 < cLine) (hK : X.K = c.K) (hw : X.w = c.w) : IxR X (rGetN c) := by
  intro value slice pins s σ H x y v u Q I rx ry z hs
  obtain ⟨M, ρ, b, a, ts, l, ks, vs, o, xs, us, d, rfl, rfl, kd, hg, q⟩ := z
  cases rx
  cases ry
  have hm := kd.heap I hK hw
  obtain ⟨p, w, h1, h2, h3⟩ := getN_some kd.e kd.r kd.rv hg
  refine tail_any (ops := [.ref a, .ref b]) hm.typeIs PySem.F.slot_dict_getitem.lookup ?_ hs
  exact wpAny_getItem_heap (knd := ND X) (room_nd hu) (kd.is I hK) hm h1 ⟨w, H, I.tok _, h3, q w h2⟩
def ixN' (x y : D) : Option D := (keyN y).bind fun l => match x with
  | .dct true ks vs => getN ks vs (.tup l)
  | _ => none
theorem v_ixN : V2 c (rGetN c) ixN' := by
  intro M ρ H x y e v u Q d hx hy hF q
  unfold ixN' at hF
  obtain ⟨l, h1, h2⟩ := Option.bind_eq_some_iff.mp hF
  split at h2
  · rename_i ks vs
    obtain ⟨b, a, ts, o, xs, us, rfl, rfl, kd⟩ := dictN_is hy h1 hx
    exact ⟨M, ρ, b, a, ts, l, ks, vs, o, xs, us, e, rfl, rfl, kd, h2, fun w hw => q w H (Ext.refl H) hw⟩
  · cases h2
/-! ### d[k] = v -/
def rSetN (c : Cn) : V → V → V → Hp → (Hp → Prop) → Prop := fun o i v H Q => ∃ M ρ b a ts l ks vs ob xs us d, o = .ref a ∧ i = .ref b ∧ KD c M ρ H b a ts l ks vs ob xs us ∧ RD c M ρ H d v ∧ vs.length < LIM ∧
  ∀ o' u, RelV v u → DRaw c.w a o' (storedH xs (.tup l) b u) → Q (upd H a (RawO a o'))
theorem raw_ok {P : Program} {w : World} {H : Hp} {h : Heap} {a : Addr} {o : Obj} (e : h.get? a = some o) : ObjOk P w H h a (RawO a o) := ⟨e, ⟨o, e⟩, fun h1 h2 e1 k => k o e1⟩
theorem dep_stored {xs : List Ent} {k : NestedKey} {b : Addr} {u : Value} (h : ∀ x ∈ xs, x.1.depth ≤ 8) (hk : k.depth ≤ 8) : ∀ x ∈ storedH xs k b u, x.1.depth ≤ 8 := by
  intro x hx
  unfold storedH at hx
  split at hx
  · obtain ⟨y, hy, rfl⟩ := List.mem_map.mp hx
    unfold putAt
    split
    · exact h y hy
    · exact h y hy
  · rcases List.mem_append.mp hx with hx | hx
    · exact h x hx
    · rw [List.mem_singleton.mp hx]
      exact hk
theorem set_dN (hu : X.A.units + 9 < cLine) (hK : X.K = c.K) (hw : X.w = c.w) : PSet X (rSetN c) := by
  intro pins s σ H o i v ov iv u Q I ro ri rv z
  obtain ⟨M, ρ, b, a, ts, l, ks, vs, ob, xs, us, d, rfl, rfl, kd, hd, hz, q⟩ := z
  cases ro
  cases ri
  have hm := kd.heap I hK hw
  have hlen : xs.length ≤ sizeLine := by
    have h1 := kd.rv.length
    have h2 := kd.r.length
    rw [List.length_map] at h1
    rw [sizeLine_eq]
    unfold LIM at hz
    omega
  refine wpAny_setItem_heap (knd := ND X) (room_nd hu) (kd.is I hK) hm (fun h' hm' hs => ?_) hlen
  obtain ⟨o', es, ep, h1, h2, h3, h4, h5, h6⟩ := hm'
  have g' : DRaw c.w a o' (storedH xs (.tup l) b u) := ⟨kd.g.1, h2, ⟨es, ep, h3, by rw [h4, ← hw]; rfl⟩, h6, dep_stored kd.g.2.2.2.2 kd.dp⟩
  refine ⟨upd H a (RawO a o'), ?_, q o' u rv g'⟩
  exact I.write (x := a) (e := a) (by rw [kd.ho]; trivial) (.inl rfl) (fun c' u' hb hq => (hs.2 c' hb).trans hq) ⟨o', h1⟩ (raw_ok h1)
end
def dctTok (s : S) : DS.Tok → Option (List D × List D)
  | .s i => match s.env[i]? with
    | some (.od true ks vs) => some (ks, vs)
    | _ => none
  | .d _ => none
def setTok (s : S) (ks vs : List D) : DS.Tok → S
  | .s i => ⟨s.env.set i (.od true ks vs), s.hp⟩
  | .d _ => s
def setN (f : Ex) (o : Op) (i : Ex) : Sm := fun s => (f s).bind fun d s1 => (o s1).bind fun t s2 => (i s2).bind fun k s3 => match keyN k, dctTok s3 t with
  | some l, some (ks, vs) => if vs.length < LIM then .ok .nx (setTok s3 (putN ks vs (.tup l) k d).1 (putN ks vs (.tup l) k d).2 t) else .bad
  | _, _ => .bad
section
variable {X : Cx} {c : Cn} {g : Gr} {W : WX} {k : Nat} {f fi : Ex} {o : Op} {e a i : Expr} {pos p2 : Pos}
theorem s_setN (C : Cc X c W k) (he : PE X e (tE c W f)) (ho : PE X a (tO c W o)) (hi : PE X i (tE c W fi)) (hs : swapsWithSole [.Subscript a i p2] e pos.line X.env = pure false := by rfl) (hw : swappedStores [.Subscript a i p2] e X.env = pure none := by rfl)
    (h1 : (assignEach [.Subscript a i p2] X.env).map (·.2) = [assign (.Subscript a i p2) X.env] := by rfl)
    (ha : ∀ v, assign (.Subscript a i p2) X.env v = (do
      let ov ← holding [v] (eval a X.env)
      let iv ← holding [v, ov] (eval i X.env)
      standAt p2
      holding [v, ov, iv] (setItem ov iv v)
      release [v, ov, iv] []) := by intro _; rfl) (hu : X.A.units + 9 < cLine) : PS X (.Assign [.Subscript a i p2] e pos) (tS c W (setN f o fi)) := ps_imp (ps_asg he (pg_sub ho hi (set_dN hu C.hK C.hw) ha) hs hw h1) fun D σ H h => by
  obtain ⟨g, M, ρ, s, rel, h⟩ := h
  refine tE.bind (out := fun M ρ H r => OutS c g W M ρ H r D) rel (fun _ _ z M' ρ' H' cls dd r k x => z M' ρ' σ H' cls dd r k x) (fun z => z) h fun d s1 M1 ρ1 v H1 r1 k1 hd h1 => ?_
  refine tO.bind (out := fun M ρ H r => OutS c g W M ρ H r D) r1 (fun _ _ z M' ρ' H' cls dd r k x => z M' ρ' σ H' cls dd r k x) (fun z => z) (OutS.keep k1 h1) fun t s2 M2 ρ2 u H2 r2 k2 t2 h2 => ?_
  refine tE.bind (out := fun M ρ H r => OutS c g W M ρ H r D) r2 (fun _ _ z M' ρ' H' cls dd r k x => z M' ρ' σ H' cls dd r k x) (fun z => z) (OutS.keep k2 h2) fun kd s3 M3 ρ3 w H3 r3 k3 hk h3' => ?_
  have h3 := OutS.keep k3 h3'
  clear h3'
  cases q : keyN kd with
  | none => simp only [q] at h3; exact h3.elim
  | some l =>
    cases q2 : dctTok s3 t with
    | none => simp only [q, q2] at h3; exact h3.elim
    | some kv =>
      obtain ⟨ks, vs⟩ := kv
      simp only [q, q2] at h3
      split at h3
      · rename_i hz
        cases t with
        | d x => cases q2
        | s j =>
          unfold dctTok at q2
          have t3 : σ[j]? = some (some u) := t2.keep k3
          cases q3 : s3.env[j]? with
          | none => simp only [q3] at q2; cases q2
          | some sl =>
            have hsl : sl = .od true ks vs := by
              simp only [q3] at q2
              cases sl with
              | od b ks' vs' =>
                cases b with
                | true => cases q2; rfl
                | false => cases q2
              | _ => cases q2
            subst hsl
            obtain ⟨ad, e1, e2, e3, e4, e5⟩ := r3.e.own j _ q3 rfl
            rw [t3] at e1
            cases e1
            obtain ⟨ts, rfl, n1, n2⟩ := keyN_is q
            obtain ⟨ob, xs, us, d1, d2, d3, d4, d5, d6⟩ := e2
            obtain ⟨b, ws, rfl, _, _⟩ := hk.tup
            have kdd : KD c M3 ρ3 H3 b ad ts l ks vs ob xs us := ⟨hk, n1, n2, d1, d2, d3, d4, d5, d6⟩
            have hd3 := (hd.keep k2).keep k3
            refine ⟨M3, ρ3, b, ad, ts, l, ks, vs, ob, xs, us, d, rfl, rfl, kdd, hd3, hz, fun o' uu ruu g' => ?_⟩
            have kk : Keep g M3 ρ3 H3 M3 ρ3 (upd H3 ad (RawO ad o')) := keep_mut e3 (r3.e.pro j _ ad q3 rfl t3)
            obtain ⟨p1, p2, us', p3, p4⟩ := put_at (.tup l) b (.tup ts) d _ uu (by unfold nk; rw [n1]; rfl) hk hd3 ruu d2.2.2.2.1 d3 d4 d5 d6
            exact h3 M3 ρ3 σ _ (r3.mutown q3 rfl t3 (sl' := .od true _ _) rfl rfl ⟨o', _, us', upd_same, g', p1, p2.keep kk, p3.keep kk, p4⟩) kk
      · exact h3.elim
end
end DS
/-! DS23: {}, {k: v}. -/
namespace DS
open PySem PySem.Spec PyProof.Rows L2
def newX : ExX := fun s => .ok ([], []) s
def oneX (fk fv : Ex) : ExX := fun s => (fk s).bind fun k s1 => (fv s1).bind fun v s2 => match keyN k with
  | some _ => .ok ([k], [v]) s2
  | none => .bad
def emptyO : Obj := { cls := .type "dict", data := .dict #[] }
section
variable {X : Cx} {c : Cn} {g : Gr} {W : WX} {pins : List (Addr × Obj)} {σ : L2.St} {H : Hp} {s : Shared}
theorem raw_empty (w : World) {a : Addr} (h : sysModules < a) : DRaw w a emptyO [] := ⟨beq_eq_false_iff_ne.mpr (Ne.symm (Nat.ne_of_lt h)), ⟨rfl, rfl, rfl⟩, ⟨#[], 0, rfl, rfl⟩, List.nodup_nil, fun x h => nomatch h⟩
theorem dct_empty {M : Am} {ρ : List Addr} {a : Addr} (ha : H a = some (RawO a emptyO)) (h : sysModules < a) : DctOk c M ρ H true [] [] a := ⟨emptyO, [], [], ha, raw_empty c.w h, by unfold nks; rfl, .nil, .nil, .nil⟩
theorem lay_empty (I : Inv X pins σ H s) : Inv X pins σ (upd H s.heap.objs.size (RawO s.heap.objs.size emptyO)) { s with heap := s.heap.push emptyO } :=
  I.laid (t' := s.toks) (fun _ _ q => Heap.get?_push_of_some _ q) (Nat.le_refl _) (raw_ok (Heap.get?_push_size _ rfl))
theorem x_new {pos : Pos} : PE X (.Dict [] [] pos) (tX c W newX) := by
  constructor
  intro pins s σ H Q I h
  obtain ⟨g, M, ρ, s0, rel, h⟩ := h
  have hn := I.hok.fresh (Nat.le_refl s.heap.objs.size)
  obtain ⟨r1, f1⟩ := rel.newM (Ext.new (o := RawO s.heap.objs.size emptyO) hn) hn upd_same rfl
  refine wpAny_Dict_empty ⟨.ref s.heap.objs.size, _, lay_empty I, rfl, ?_⟩
  exact h _ _ s.heap.objs.size _ r1 (keep_more (Ext.new hn) hn rel.pd) (dct_empty upd_same I.big) f1
theorem room_nd' {A : Around} (hu : A.units + 9 < cLine) : (ND X).room A := by
  show A.units + 8 < cLine
  omega
theorem x_one (C : Cc X c W k) {ek ev : Expr} {fk fv : Ex} {pos : Pos} (hk : PE X ek (tE c W fk)) (hv : PE X ev (tE c W fv)) (hu : X.A.units + 9 < cLine)
    (hshape : (evalEachOpt [some ek] X.env).zip ((evalEach [ev] X.env).map fun v => do let x ← v; standAt pos; pure x) = [(some (eval ek X.env), (do let x ← eval ev X.env; standAt pos; pure x))] := by rfl) : PE X (.Dict [some ek] [ev] pos) (tX c W (oneX fk fv)) := by
  constructor
  intro pins s σ H Q I h
  obtain ⟨g, M, ρ, s0, rel, h⟩ := h
  have hn := I.hok.fresh (Nat.le_refl s.heap.objs.size)
  have big := I.big
  obtain ⟨a, ea⟩ : ∃ a, s.heap.objs.size = a := ⟨_, rfl⟩
  have I1 := lay_empty I
  rw [ea] at hn big I1
  obtain ⟨r1, f1⟩ := rel.newM (Ext.new (o := RawO a emptyO) hn) hn upd_same rfl
  have k1 : Keep g M ρ H (more M a) ρ (upd H a (RawO a emptyO)) := keep_more (Ext.new hn) hn rel.pd
  have r1h := r1.hold f1
  have hs' : (evalEachOpt [some ek] X.env).zip ((evalEach [ev] X.env).map fun v => do let x ← v; standAt pos; pure x) = ([(eval ek X.env, (do let x ← eval ev X.env; standAt pos; pure x))] : List (Sem Value × Sem Value)).map fun p => (some p.1, p.2) := hshape
  let Qp : List (V × V) → Hp → Prop := fun ps H3 => ∃ v w M3 ρ3 kd d l s2, ps = [(v, w)] ∧ Rel c (g.hold a) M3 ρ3 s2 σ H3 ∧ Keep (g.hold a) (more M a) ρ (upd H a (RawO a emptyO)) M3 ρ3 H3 ∧ RD c M3 ρ3 H3 kd v ∧ RD c M3 ρ3 H3 d w ∧ keyN kd = some l ∧ OutX c g W M ρ σ H (.ok ([kd], [d]) s2) Q
  have reading : tPairs [(tE c W fk, tE c W fv)] σ (upd H a (RawO a emptyO)) Qp := by
    unfold oneX at h
    refine ⟨g.hold a, more M a, ρ, s0, r1h, ?_⟩
    cases e1 : fk s0 with
    | exc x s1 => rw [e1] at h; exact fun M' ρ' H' cls dd r k x => h M' ρ' H' cls dd r.unhold (k1.trans k.unhold) x
    | bad => rw [e1] at h; exact h.elim
    | ok kd s1 =>
      rw [e1] at h
      intro M2 ρ2 v H2 r2 k2 hkd
      refine ⟨g.hold a, M2, ρ2, s1, r2, ?_⟩
      simp only [R.bind_ok] at h
      cases e2 : fv s1 with
      | exc x s1 => rw [e2] at h; exact fun M' ρ' H' cls dd r k x => h M' ρ' H' cls dd r.unhold (k1.trans (k2.unhold.trans k.unhold)) x
      | bad => rw [e2] at h; exact h.elim
      | ok d s2 =>
        rw [e2] at h
        simp only [R.bind_ok] at h
        intro M3 ρ3 w H3 r3 k3 hd
        cases q : keyN kd with
        | none => simp only [q] at h; exact h.elim
        | some l =>
          simp only [q] at h
          exact ⟨v, w, M3, ρ3, kd, d, l, s2, rfl, r3, k2.trans k3, hkd.keep k3, hd, q, h⟩
  have pps : PPs X pos [some ek] [ev] [(tE c W fk, tE c W fv)] := pps_cons hk hv pps_nil
  have run := pps.run pins { s with heap := s.heap.push emptyO } σ _ Qp I1 reading
  rw [arm_eval_Dict, hs', dictDisplay_pairs _ (by simp) (by simp)]
  refine wpAny_bind (wpAny_standAt (wpAny_bind (wpAny_subDictH (knd := ND X) (Q := fun d s' => wpAny (model X.prog X.w) X.A (pure (Value.ref d)) (EP X pins σ Q) X.xe s') (room_nd' hu) (by simp) (thn run ?_))))
  intro vs s2 z
  obtain ⟨ps, H3, I3, rel3, v, w, M3, ρ3, kd, d, l, s3, rfl, r3, k3, hkd, hd, hl, out⟩ := z
  cases rel3 with
  | cons hp hn2 =>
    cases hn2
    rename_i pq
    obtain ⟨u1, u2⟩ := pq
    obtain ⟨hp1, hp2⟩ := hp
    obtain ⟨ts, rfl, n1, n2⟩ := keyN_is hl
    obtain ⟨b, ws, rfl, _, _⟩ := hkd.tup
    cases hp1
    have hH3 : H3 a = some (RawO a emptyO) := (k3.pr a (.inr rfl)).trans upd_same
    have is : (ND X).is s2.heap (.tup l) b := ⟨nk_is I3 C.hK (.tup ts) _ _ _ hkd rfl (by unfold nk; rw [n1]; rfl), n2⟩
    have dm : s2.heap.DictOfH (ND X) a [] := dict_heap I3 C.hK C.hw hH3 (raw_empty c.w big) (ks := []) (M := M3) (ρ := ρ3) (by unfold nks; rfl) .nil
    rw [ea]
    refine ⟨[(.tup l, b, u2)], ⟨rfl, rfl, is, trivial⟩, dm, fun h' tk hm' sb => ?_⟩
    obtain ⟨o', es, ep, g1, g2, g3, g4, g5, g6⟩ := hm'
    have g' : DRaw c.w a o' [(.tup l, b, u2)] := ⟨(raw_empty c.w big).1, g2, ⟨es, ep, g3, by rw [g4, ← C.hw]; rfl⟩, by simp, fun x hx => by rw [List.mem_singleton.mp hx]; exact n2⟩
    obtain ⟨r4, k4⟩ := r3.put (o := RawO a o') rfl f1.2.2.1 f1.2.2.2.1
    refine wpAny_pure ⟨.ref a, upd H3 a (RawO a o'), ?_, rfl, ?_⟩
    · exact I3.write (x := a) (e := a) (t' := tk) (by rw [hH3]; trivial) (.inl rfl) (fun c' u' hb hq => (sb.2 c' hb).trans hq) ⟨o', g1⟩ (raw_ok g1)
    · refine out M3 ρ3 a _ r4.unhold (k1.trans (k3.unhold.trans k4)) ⟨o', [(.tup l, b, u2)], [w], upd_same, g', ?_, .cons (hkd.keep k4) .nil, .cons (hd.keep k4) .nil, .cons hp2 .nil⟩ (r4.free f1.2.2.1 f1.2.2.2.1)
      show nks [.tup ts] = some [.tup l]
      unfold nks nk
      rw [n1]
      unfold nks
      rfl
end
end DS
/-! DS24: d.get(k, x), d.items(), walks over dicts by tuples. -/
namespace DS
open PySem PySem.Spec PyProof.Rows L2
section
variable {X : Cx} {c : Cn} {g : Gr} {W : WX} {σ : L2.St} {H : Hp} {Q : VK}
/-! ### a dict's methods -/
theorem RawO_at {pins : List (Addr × Obj)} {s : Shared} {a : Addr} {o : Obj} (I : Inv X pins σ H s) (h : H a = some (RawO a o)) (he : o.ExactDict) : s.TypeIs (.ref a) "dict" ∧ ∀ b, Value.ref a = .ref b → ∃ ob, s.heap.get? b = some ob ∧ ob.dict = none := by
  have z : s.heap.get? a = some o := (I.hok a _ h).1
  exact ⟨⟨o, z, he.1⟩, fun b q => by cases q; exact ⟨o, z, he.2.1⟩⟩
def tDM (r : V → List V → Hp → VK → Prop) (to : TE) (t : TA) : TE := fun σ H Q => to σ H fun x H1 => (∃ a o, x = .ref a ∧ H1 a = some (RawO a o) ∧ o.ExactDict) ∧ t σ H1 fun xs H2 => r x xs H2 Q
theorem pe_dm {o e : Expr} {es : List Expr} {to : TE} {t : TA} {name : Str} {apos cpos : Pos} {id : String} {r : V → List V → Hp → VK → Prop} (slot : PySem.Slot "dict" name id) (hty : typeOf (.builtin id) = pure (.type "method_descriptor")) (hm : MtM X id r) (ho : PE X o to) (ha : PA X (e :: es) t)
    (hbase : attributeBase o name X.env (eval o X.env) = eval o X.env := by rfl)
    (hfew : ((backTo cpos (starEach (e :: es) X.env)).all (fun x => !x.1) && (backToKw cpos (keywordEach [] X.env)).all (fun x => x.1.isSome) && decide ((e :: es).length + ([] : List Keyword).length + (if ([] : List Keyword).isEmpty then 0 else 1) < 30)) = true := by rfl)
    (hline : (apos.endLine == cpos.line) = true := by rfl) (hs : starEach (e :: es) X.env = (false, eval e X.env) :: starEach es X.env := by rfl) (hplain : (backTo cpos (starEach es X.env)).any (·.1) = false := by rfl) :
    PE X (.Call (.Attribute o name apos) (e :: es) [] cpos) (tDM r to t) := ⟨fun pins s σ H Q I h =>
  wpAny_Call_method_late hbase hfew hline rfl (thn (ho.run pins s σ H _ I h) fun v s1 hv => by
    obtain ⟨x, H1, I1, r1, ⟨a, ob, ex, hr, he⟩, q1⟩ := hv
    subst ex; cases r1
    obtain ⟨t1, t2⟩ := RawO_at I1 hr he
    refine ⟨"dict", id, PySem.F.plainAttrs_dict, slot, hty, t1, t2, ?_⟩
    have hz := ha.run cpos pins s1 σ H1 _ I1 q1; rw [hs] at hz ⊢
    exact Calls.callWith_builtin (by show (false || (backTo cpos (starEach es X.env)).any (·.1)) = false; rw [hplain]; rfl) (Calls.evalArgs_plain (thn hz fun us s2 ⟨ws, H2, I2, r2, q2⟩ => hm pins s2 σ H2 (.ref a) ws (.ref a) us Q I2 rfl r2 q2)))⟩
def rGetOr (c : Cn) : V → List V → Hp → VK → Prop := fun x ys H Q => ∃ M ρ b a ts l ks vs o xs us y, x = .ref a ∧ ys = [.ref b, y] ∧ KD c M ρ H b a ts l ks vs o xs us ∧ (∀ d w, getN ks vs (.tup l) = some d → RD c M ρ H d w → Q w H) ∧ (getN ks vs (.tup l) = none → Q y H)
theorem mt_getOr (hu : X.A.units + 9 < cLine) (hK : X.K = c.K) (hw : X.w = c.w) : MtM X "dict.get" (rGetOr c) := by
  intro pins s σ H x ys v us' Q I rx rys ⟨M, ρ, b, a, ts, l, ks, vs, o, xs, us, y, ex, eys, kd, h1, h2⟩
  subst ex eys
  cases rx
  obtain ⟨ub, uy, rfl, rb, ry⟩ := rys.two
  cases rb
  refine getOr_keyed (knd := ND X) (room_nd hu) (kd.is I hK) kd.g.1 ⟨xs, kd.heap I hK hw, rfl⟩ ?_
  rw [valueAt_pairsH]
  rcases get_at (.tup l) kd.e kd.r kd.rv with ⟨p, d, w, e1, e2, e3, e4⟩ | ⟨e1, e2⟩
  · rw [e1]
    exact ⟨w, H, I.tok _, e4, h1 d w e2 e3⟩
  · rw [e1]
    exact ⟨y, H, I.tok _, ry, h2 e2⟩
def getF (x : Option D) (as : List D) : Option D := match as with
  | [k, y] => (keyN k).bind fun l => match x with
    | some (.dct true ks vs) => some ((getN ks vs (.tup l)).getD y)
    | _ => none
  | _ => none
def getE (o : Op) (fk fx : Ex) : Ex := fun s => (o s).bind fun t s1 => match deref s1 t with
  | some (.dct true _ _) => (evA [fk, fx] s1).bind fun as s3 => R.of (getF (deref s3 t) as) s3
  | _ => .bad
theorem getF_is {x : Option D} {as : List D} {d : D} (h : getF x as = some d) : ∃ k y l ks vs, as = [k, y] ∧ keyN k = some l ∧ x = some (.dct true ks vs) ∧ d = (getN ks vs (.tup l)).getD y := by
  unfold getF at h
  split at h
  · rename_i k y
    obtain ⟨l, h1, h2⟩ := Option.bind_eq_some_iff.mp h
    split at h2
    · rename_i ks vs
      exact ⟨k, y, l, ks, vs, rfl, h1, rfl, (Option.some.inj h2).symm⟩
    · cases h2
  · cases h
theorem RW.raw {M : Am} {ρ : List Addr} {ks vs : List D} {v : V} (h : RW c M ρ H (.dct true ks vs) v) : ∃ a o, v = .ref a ∧ H a = some (RawO a o) ∧ o.ExactDict := by
  obtain ⟨a, rfl, o, xs, us, h1, h2, _⟩ := h.dct
  exact ⟨a, o, rfl, h1, h2.2.1⟩
theorem t_get {o : Op} {fk fx : Ex} (h : tE c W (getE o fk fx) σ H Q) : tDM (rGetOr c) (tO c W o) (tA c W [fk, fx]) σ H Q := by
  obtain ⟨g, M, ρ, s, rel, h⟩ := h
  refine tO.bind (out := fun M ρ H r => OutE c g W M ρ σ H r Q) rel (fun _ _ z => z) (fun z => z) h fun t s1 M1 ρ1 v H1 r1 k1 t1 h1 => ?_
  have h1 := OutE.keep k1 h1
  cases q : deref s1 t with
  | none => rw [q] at h1; exact h1.elim
  | some x =>
    rw [q] at h1
    cases x <;> first | exact h1.elim | skip
    rename_i bb ks0 vs0
    cases bb with
    | false => exact h1.elim
    | true =>
      simp only at h1
      refine ⟨(RW.of_tok r1 t1 q).raw, ?_⟩
      refine tA.bind (out := fun M ρ H r => OutE c g W M ρ σ H r Q) r1 (fun _ _ z => z) (fun z => z) h1 fun as s2 M2 ρ2 us H2 r2 k2 rd h2 => ?_
      have h2 := OutE.keep k2 h2
      cases q1 : getF (deref s2 t) as with
      | none => rw [q1] at h2; exact h2.elim
      | some d =>
        rw [q1] at h2
        obtain ⟨kd, xd, l, ks, vs, rfl, e1, e2, rfl⟩ := getF_is q1
        cases rd with
        | cons hk rd =>
          cases rd with
          | cons hx rd =>
            cases rd
            rename_i kv xv
            obtain ⟨b, a, ts, o, xs, us, e3, e4, kdd⟩ := dictN_is (RW.v hk (by rintro j rfl; cases e1)) e1 (RW.of_tok r2 (t1.keep k2) e2)
            subst e3 e4
            refine ⟨M2, ρ2, b, a, ts, l, ks, vs, o, xs, us, xv, rfl, rfl, kdd, fun d w e3 e4 => ?_, fun e3 => ?_⟩
            · rw [e3] at h2
              exact h2 M2 ρ2 w H2 r2 (Keep.refl _ _ _ _) e4
            · rw [e3] at h2
              exact h2 M2 ρ2 xv H2 r2 (Keep.refl _ _ _ _) hx
end
section
variable {X : Cx} {c : Cn} {g : Gr} {W : WX} {k : Nat} {a e1 e2 : Expr} {o : Op} {fk fx : Ex} {apos cpos : Pos}
theorem e_get (C : Cc X c W k) (ho : PE X a (tO c W o)) (hk : PE X e1 (tE c W fk)) (hx : PE X e2 (tE c W fx)) (hs : starEach [e1, e2] X.env = (false, eval e1 X.env) :: starEach [e2] X.env := by rfl) (hs2 : starEach [e2] X.env = (false, eval e2 X.env) :: starEach [] X.env := by rfl) (hbase : attributeBase a "get" X.env (eval a X.env) = eval a X.env := by rfl)
    (hfew : ((backTo cpos (starEach [e1, e2] X.env)).all (fun x => !x.1) && (backToKw cpos (keywordEach [] X.env)).all (fun x => x.1.isSome) && decide ([e1, e2].length + ([] : List Keyword).length + (if ([] : List Keyword).isEmpty then 0 else 1) < 30)) = true := by rfl)
    (hline : (apos.endLine == cpos.line) = true := by rfl) (hplain : (backTo cpos (starEach [e2] X.env)).any (·.1) = false := by rfl) : PE X (.Call (.Attribute a "get" apos) [e1, e2] [] cpos) (tE c W (getE o fk fx)) :=
  pe_imp (pe_dm PySem.F.slot_dict_get PySem.F.type_dict_get (mt_getOr (by have := C.rm.un; omega) C.hK C.hw) ho (a_cons hk (a_cons hx a_nil hs2) hs) hbase hfew hline hs hplain) fun σ H Q h => t_get h
end
/-! ### d.items(), for k in d -/
/-- the pairs of the dict at d -/
def Itx (d : Addr) (o : Obj) (ps : List (V × V)) : It where
  go i H := H d = some (RawO d o) ∧ i < ps.length
  yld i H v H' := ∃ T k x, ps[i]? = some (k, x) ∧ v = .ref T ∧ H T = none ∧ H' = upd H T (.tup [k, x])
  stop i H := H d = some (RawO d o) ∧ ps.length ≤ i
/-- its keys -/
def Itkx (d : Addr) (o : Obj) (ps : List (V × V)) : It where
  go i H := H d = some (RawO d o) ∧ i < ps.length
  yld i H v H' := H' = H ∧ ∃ x, ps[i]? = some (v, x)
  stop i H := H d = some (RawO d o) ∧ ps.length ≤ i
/-- the entries are the pairs -/
def EntP (es : Array DictEntry) (ps : List (V × V)) : Prop := es.size = ps.length ∧ ∀ i (hi : i < es.size), ∃ k x, ps[i]? = some (k, x) ∧ RelV k es[i].key ∧ RelV x es[i].val
section
variable {P : Program} {w : World} {K : PySem.W.Frag} {tg : Expr} {d : Addr} {o : Obj} {es : Array DictEntry} {ep : Nat} {ps : List (V × V)}
theorem turn_itx {elts : List Expr} {kk : Nat} {tpos : Pos} (it : Addr) (hx : o.ExactDict) (hod : o.data = .dict es ep) (hp : EntP es ps) :
    Turn P w K (.Tuple elts kk tpos) (Itx d o ps) [it] it (fun i h => ∃ ok ov, IsItemIter h it d i es.size ep ok ov) where
  mem := by simp
  obj := fun i h st b hb => by
    have e : b = it := by simpa using hb
    subst e
    obtain ⟨ok, ov, e⟩ := st
    exact ⟨_, e, fun v z => nomatch z⟩
  keep := fun i h h' st k => let ⟨ok, ov, e⟩ := st; ⟨ok, ov, k it (by simp) _ e⟩
  item := by
    intro X hP hw hK hc i pins s σ H E I hf st hg
    subst hP hw hK
    obtain ⟨hd, hi⟩ := hg
    have ho : s.heap.get? d = some o := (I.hok d _ hd).1
    have hi' : i < es.size := by rw [hp.1]; exact hi
    obtain ⟨k, x, e1, e2, e3⟩ := hp.2 i hi'
    obtain ⟨ok, ov, he⟩ := st
    have hlt : it < s.heap.objs.size := Heap.lt_size he
    refine wpAny_pyNext_items_item_raw he ⟨o, ho, hx, hod⟩ hi' fun h' hout hT hz hk => ?_
    refine ⟨_, rfl, wpAny_letOwnedTupleGo_items (s := { s with heap := h' }) hout fun h'' he' sb => ?_⟩
    have hT2 : h''.get? s.heap.objs.size = some { cls := .type "tuple", data := .seq #[es[i].key, es[i].val] } := (sb.2 _ (Nat.ne_of_gt hlt)).trans hT
    have new : ObjOk X.prog X.w (upd H s.heap.objs.size (.tup [k, x])) h'' s.heap.objs.size (.tup [k, x]) :=
      ⟨by show 2 ≤ sizeLine; decide, [es[i].key, es[i].val], .cons e2 (.cons e3 .nil), ⟨_, hT2, rfl, _, rfl⟩⟩
    have I1 : Inv X pins σ (upd H s.heap.objs.size (.tup [k, x])) { s with heap := h'' } :=
      I.turnedNew (t' := s.toks) (ch := [it]) (fun b ob hb e => (sb.2 b (by simpa using hb)).trans (hk b ob (by simpa using hb) e)) hf (Nat.le_refl _) new
    refine ⟨.ref s.heap.objs.size, _, I1, rfl, ⟨_, k, x, e1, rfl, I.hok.fresh (Nat.le_refl _), rfl⟩, ⟨_, _, he'⟩, fun b hb => ?_⟩
    have e : b = it := by simpa using hb
    rw [e, upd_ne (Nat.ne_of_lt hlt)]
    exact (hf it (by simp)).1
  done := by
    intro X hP hw hK hc i pins s σ H E I hf st hg
    subst hP hw hK
    obtain ⟨hd, hi⟩ := hg
    have ho : s.heap.get? d = some o := (I.hok d _ hd).1
    obtain ⟨f0, f1, f2, f3, f4, f5⟩ := hf it (by simp)
    obtain ⟨ok, ov, he⟩ := st
    exact wpAny_pyNext_items_end_raw (I.ok.hd hc) he ⟨o, ho, hx, hod⟩ (by rw [hp.1]; exact hi) fun h' eb => ⟨rfl, I.turned (t' := s.toks) (fun b ob hb e => eb b ob hb e) f0 f1 f3 f4 f5⟩
  self := fun A i s Q E st h => let ⟨_, _, e⟩ := st; wpAny_pyIter_itemiter e h
theorem turn_itkx (it : Addr) (hx : o.ExactDict) (hod : o.data = .dict es ep) (hp : EntP es ps) : Turn P w K tg (Itkx d o ps) [it] it (fun i h => h.IsKeyIter it d i es.size ep) where
  mem := by simp
  obj := fun i h st b hb => by
    have e : b = it := by simpa using hb
    subst e
    obtain ⟨oi, e, c, dd⟩ := st
    exact ⟨oi, e, fun v z => by rw [dd] at z; cases z⟩
  keep := fun i h h' st k => st.at fun oi e => k it (by simp) oi e
  item := by
    intro X hP hw hK hc i pins s σ H E I hf st hg
    subst hP hw hK
    obtain ⟨hd, hi⟩ := hg
    have ho : s.heap.get? d = some o := (I.hok d _ hd).1
    have hi' : i < es.size := by rw [hp.1]; exact hi
    obtain ⟨k, x, e1, e2, e3⟩ := hp.2 i hi'
    obtain ⟨f0, f1, f2, f3, f4, f5⟩ := hf it (by simp)
    refine wpAny_pyNext_keys_item_raw st ⟨o, ho, hx, hod⟩ hi' fun h' st' sb => ?_
    have I1 : Inv X pins σ H { s with heap := h' } := I.turned (t' := s.toks) (fun b ob hb e => (sb.2 b hb).trans e) f0 f1 f3 f4 f5
    obtain ⟨oi, e, c, dd⟩ := id st'
    exact ⟨_, rfl, go_of (s := { s with heap := h' }) e c dd (by decide) ⟨k, H, I1, e2, ⟨rfl, x, e1⟩, st', fun b hb => (hf b hb).1⟩⟩
  done := by
    intro X hP hw hK hc i pins s σ H E I hf st hg
    subst hP hw hK
    obtain ⟨hd, hi⟩ := hg
    have ho : s.heap.get? d = some o := (I.hok d _ hd).1
    obtain ⟨f0, f1, f2, f3, f4, f5⟩ := hf it (by simp)
    exact wpAny_pyNext_keys_end_raw (I.ok.hd hc) st ⟨o, ho, hx, hod⟩ (by rw [hp.1]; exact hi) fun h' eb => ⟨rfl, I.turned (t' := s.toks) (fun b ob hb e => eb b ob hb e) f0 f1 f3 f4 f5⟩
  self := fun A i s Q E st h => wpAny_pyIter_keyiter st h
end
/-- a dict by tuples at d, its entries the pairs -/
def DP (w : World) (H : Hp) (d : Addr) (o : Obj) (ps : List (V × V)) : Prop := H d = some (RawO d o) ∧ (d == sysModules) = false ∧ o.ExactDict ∧ ∃ es ep, o.data = .dict es ep ∧ EntP es ps
def iItx (w : World) (td : TE) : TI := fun σ H R => td σ H fun x H1 => ∃ d o ps, x = .ref d ∧ DP w H1 d o ps ∧ R (Itx d o ps) H1
def iKx (w : World) (td : TE) : TI := fun σ H R => td σ H fun x H1 => ∃ d o ps, x = .ref d ∧ DP w H1 d o ps ∧ R (Itkx d o ps) H1
section
variable {X : Cx} {tg e : Expr} {td : TE} {apos cpos : Pos} {w : World}
theorem pi_itx {elts : List Expr} {kk : Nat} {tpos : Pos} (he : PE X e td) (hbase : attributeBase e "items" X.env (eval e X.env) = eval e X.env := by rfl) (hline : (apos.endLine == cpos.line) = true := by rfl) :
    PI X (.Tuple elts kk tpos) (.Call (.Attribute e "items" apos) [] [] cpos) (iItx w td) := by
  refine ⟨fun pins s σ H R I h => ?_⟩
  refine wpAny_Call_method (T := "dict") (id := "dict.items") hbase rfl hline F.plainAttrs_dict F.slot_dict_items F.type_dict_items (thn (he.run pins s σ H _ I h) fun u s1 ⟨x, H1, I1, rx, d, o, ps, ex, ⟨h1, h2, h3, es, ep, h4, h5⟩, q⟩ => ?_)
  subst ex
  obtain rfl : u = Value.ref d := rx
  have ho : s1.heap.get? d = some o := (I1.hok d _ h1).1
  obtain ⟨t1, t2⟩ := RawO_at I1 h1 h3
  have raw : s1.heap.DictRaw d es ep := ⟨o, ho, h3, h4⟩
  refine ⟨t1, fun b q => t2 b q, ?_⟩
  have I2 : Inv X pins σ H1 { s1 with heap := s1.heap.push { cls := .type "dict_items", data := .fields #[.ref d] } } := I1.kept (t' := s1.toks) fun b ob q => Heap.get?_push_of_some _ q
  have fin : wpAny (model X.prog X.w) X.A (pyIter (.ref s1.heap.objs.size)) (PIE X pins σ (.Tuple elts kk tpos) R) X.xe { s1 with heap := s1.heap.push { cls := .type "dict_items", data := .fields #[.ref d] } } := by
    refine wpAny_pyIter_items_raw (d := d) ⟨_, Heap.get?_push_size _ rfl, rfl, rfl⟩ (raw.at fun o e => Heap.get?_push_of_some _ e) (pi_one (tk := s1.toks) I2 _ (turn_itx _ h3 h4 h5) ⟨.none, .none, ?_⟩ q)
    exact Heap.get?_push_size _ rfl
  show wpAny _ _ (callWith cpos (.builtin "dict.items") [.ref d] [] []) _ X.xe s1
  exact method_meetsIn F.slot_dict_items F.entry_dict_items rfl (PySem.evalArgs_none ⟨rfl, t1, F.args_dict_items_1 _, _, meets_dict_items_raw d h2, ⟨es, ep, raw⟩, fin⟩)
theorem pi_kx (he : PE X e td) : PI X tg e (iKx w td) := by
  refine ⟨fun pins s σ H R I h => ?_⟩
  refine thn (he.run pins s σ H _ I h) fun u s1 ⟨x, H1, I1, rx, d, o, ps, ex, ⟨h1, h2, h3, es, ep, h4, h5⟩, q⟩ => ?_
  subst ex
  obtain rfl : u = Value.ref d := rx
  have ho : s1.heap.get? d = some o := (I1.hok d _ h1).1
  refine wpAny_pyIter_dict_raw h2 ⟨o, ho, h3, h4⟩ (pi_one (tk := s1.toks) I1 _ (turn_itkx _ h3 h4 h5) ⟨_, Heap.get?_push_size _ rfl, rfl, rfl⟩ q)
end
/-! ### over data -/
section
variable {c : Cn} {M : Am} {ρ : List Addr} {H : Hp}
theorem vals_get {us : List V} {ws : List Value} (r : Vals us ws) : ∀ {i : Nat} {w : Value}, ws[i]? = some w → ∃ u, us[i]? = some u ∧ RelV u w := by
  induction r with
  | nil => intro i w h; simp at h
  | cons h t ih =>
    intro i w e
    cases i with
    | zero => simp at e; subst e; exact ⟨_, rfl, h⟩
    | succ i => exact ih (by simpa using e)
/-- a frozen dict as pairs -/
theorem RD.dp_ {ks vs : List D} {v : V} (h : RD c M ρ H (.dct true ks vs) v) : ∃ a o ps, v = .ref a ∧ ¬ M a ∧ DP c.w H a o ps ∧ RDs c M ρ H ks (ps.map (·.1)) ∧ RDs c M ρ H vs (ps.map (·.2)) := by
  cases h with
  | dctT h m g e kr r rv =>
    rename_i a o xs us
    obtain ⟨g1, g2, ⟨es, ep, g3, g4⟩, g5, g6⟩ := g
    have hlu : us.length = xs.length := by have := rv.length; simpa using this
    have hes : es.size = xs.length := by rw [← Array.length_toList, g4, List.length_map]
    refine ⟨a, o, (xs.map fun x => V.ref x.2.1).zip us, rfl, m, ⟨h, g1, g2, es, ep, g3, ?_, fun i hi => ?_⟩, ?_, ?_⟩
    · rw [List.length_zip, List.length_map, hlu, hes, Nat.min_self]
    · have hx : i < xs.length := by rw [← hes]; exact hi
      have hu : i < us.length := by rw [hlu]; exact hx
      have e1 : es[i] = ⟨NestedKey.hash c.w xs[i].1, .ref xs[i].2.1, xs[i].2.2⟩ := by
        have e2 : es.toList[i]? = some es[i] := by simp [hi]
        rw [g4, List.getElem?_map, List.getElem?_eq_getElem hx] at e2
        exact (Option.some.inj e2).symm
      obtain ⟨u, hu1, hu2⟩ := vals_get rv (i := i) (w := xs[i].2.2) (by rw [List.getElem?_map, List.getElem?_eq_getElem hx]; rfl)
      refine ⟨.ref xs[i].2.1, u, ?_, ?_, ?_⟩
      · rw [List.getElem?_zip_eq_some]
        exact ⟨by rw [List.getElem?_map, List.getElem?_eq_getElem hx]; rfl, hu1⟩
      · rw [e1]; rfl
      · rw [e1]; exact hu2
    · rw [List.map_fst_zip (by rw [List.length_map, hlu]; exact Nat.le_refl _)]
      exact kr
    · rw [List.map_snd_zip (by rw [List.length_map, hlu]; exact Nat.le_refl _)]
      exact r
theorem walk_itx {a : Addr} {o : Obj} {ps : List (V × V)} {ks vs : List D} (hd : H a = some (RawO a o)) (m : ¬ M a) (r : RDs c M ρ H ks (ps.map (·.1))) (r' : RDs c M ρ H vs (ps.map (·.2))) : Walk c M ρ H (Itx a o ps) (zipL ks vs) := by
  intro g M1 ρ1 H1 k dm
  have h1 := (k.st a _ hd m).1
  have ll := r.length
  have ll' := r'.length
  have lz := zipL_len ks vs
  rw [List.length_map] at ll ll'
  refine ⟨⟨h1, by omega⟩, fun i d e => ?_⟩
  obtain ⟨x0, y0, e0, e1, rfl⟩ := zipL_get e
  obtain ⟨v, hv, hd1⟩ := (r.keep k).get e0
  obtain ⟨u, hu, hd2⟩ := (r'.keep k).get e1
  have hi : i < ks.length := (List.getElem?_eq_some_iff.mp e0).1
  refine ⟨⟨h1, by omega⟩, fun x H2 z => ?_⟩
  obtain ⟨T, k0, x1, e2, rfl, hT, rfl⟩ := z
  rw [List.getElem?_map, e2] at hv hu
  cases hv
  cases hu
  exact ⟨Ext.new hT, RD.newP (H' := H1) dm hT (.cons hd1 (.cons hd2 .nil))⟩
theorem walk_itkx {a : Addr} {o : Obj} {ps : List (V × V)} {ks : List D} (hd : H a = some (RawO a o)) (m : ¬ M a) (r : RDs c M ρ H ks (ps.map (·.1))) : Walk c M ρ H (Itkx a o ps) ks := by
  intro g M1 ρ1 H1 k dm
  have h1 := (k.st a _ hd m).1
  have ll := r.length
  rw [List.length_map] at ll
  refine ⟨⟨h1, by omega⟩, fun i d e => ?_⟩
  obtain ⟨v, hv, hd1⟩ := (r.keep k).get e
  have hi : i < ks.length := (List.getElem?_eq_some_iff.mp e).1
  refine ⟨⟨h1, by omega⟩, fun x H2 z => ?_⟩
  obtain ⟨rfl, x1, e2⟩ := z
  rw [List.getElem?_map, e2] at hv
  cases hv
  exact ⟨Ext.refl _, hd1⟩
end
def itX (f : Ex) : DS.Itr := fun s => (f s).bind fun d s1 => match d with
  | .dct true ks vs => .ok (zipL ks vs) s1
  | _ => .bad
def itK (f : Ex) : DS.Itr := fun s => (f s).bind fun d s1 => match d with
  | .dct true ks _ => .ok ks s1
  | _ => .bad
section
variable {X : Cx} {c : Cn} {g : Gr} {W : WX} {k : Nat} {a : Ex} {e tg : Expr} {apos cpos tpos : Pos} {elts : List Expr} {kk : Nat}
theorem i_items (C : Cc X c W k) (h : PE X e (tE c W a)) (hbase : attributeBase e "items" X.env (eval e X.env) = eval e X.env := by rfl) (hline : (apos.endLine == cpos.line) = true := by rfl) :
    PI X (.Tuple elts kk tpos) (.Call (.Attribute e "items" apos) [] [] cpos) (tI c W (itX a)) := pi_imp (pi_itx (w := c.w) h hbase hline) fun σ H Rk h => by
  obtain ⟨g, M, ρ, s, rel, h⟩ := h
  refine tE.bind (out := fun M ρ H r => OutI c g W M ρ σ H r Rk) rel (fun _ _ z => z) (fun z => z) h fun d s1 M1 ρ1 v H1 r1 k1 hd h1 => ?_
  have h1 := OutI.keep k1 h1
  cases d with
  | dct bb ks vs =>
   cases bb with
   | false => exact h1.elim
   | true =>
    obtain ⟨ad, o, ps, rfl, m, dp, rk, rv⟩ := hd.dp_
    exact ⟨ad, o, ps, rfl, dp, h1 M1 ρ1 _ H1 r1 (Keep.refl _ _ _ _) (walk_itx dp.1 m rk rv)⟩
  | _ => exact h1.elim
theorem i_keys (C : Cc X c W k) (h : PE X e (tE c W a)) : PI X tg e (tI c W (itK a)) := pi_imp (pi_kx (w := c.w) h) fun σ H Rk h => by
  obtain ⟨g, M, ρ, s, rel, h⟩ := h
  refine tE.bind (out := fun M ρ H r => OutI c g W M ρ σ H r Rk) rel (fun _ _ z => z) (fun z => z) h fun d s1 M1 ρ1 v H1 r1 k1 hd h1 => ?_
  have h1 := OutI.keep k1 h1
  cases d with
  | dct bb ks vs =>
   cases bb with
   | false => exact h1.elim
   | true =>
    obtain ⟨ad, o, ps, rfl, m, dp, rk, rv⟩ := hd.dp_
    exact ⟨ad, o, ps, rfl, dp, h1 M1 ρ1 _ H1 r1 (Keep.refl _ _ _ _) (walk_itkx dp.1 m rk)⟩
  | _ => exact h1.elim
end
end DS
/-! DS25: sorted of what is alike: lists, dicts by tuples. -/
namespace DS
open PySem PySem.Spec PyProof.Rows L2
def pyD (d : D) : PyData := (toPy d).getD .none
def srtOk (ds : List D) : Bool := match toPys ds with
  | some ps => ps.all (fun p => ps.all fun q => PySem.W.alike p q) && (ps.all (fun p => match p with | .tuple (_ :: _) => true | _ => false) || ps.all fun p => match p with | .none => false | .tuple _ => false | _ => true) && ps.all (fun p => decide (p.depth ≤ 8))
  | none => false
def insP {α : Type} (le : α → α → Bool) (a : α) : List α → List α
  | [] => [a]
  | b :: l => if le a b = true then a :: b :: l else b :: insP le a l
def sortP {α : Type} (le : α → α → Bool) : List α → List α
  | [] => []
  | a :: l => insP le a (sortP le l)
section
open PySem.W
variable {α : Type} {le : α → α → Bool}
theorem insP_mem (a x : α) : ∀ l : List α, x ∈ insP le a l → x = a ∨ x ∈ l
  | [], h => by unfold insP at h; simpa using h
  | b :: l, h => by
    unfold insP at h
    split at h
    · simpa using h
    · rcases List.mem_cons.mp h with rfl | h
      · exact .inr List.mem_cons_self
      · rcases insP_mem a x l h with h | h
        · exact .inl h
        · exact .inr (List.mem_cons_of_mem _ h)
theorem insP_up (t : TotalLe le) (a : α) : ∀ {l : List α}, l.Pairwise (fun a b => le a b = true) → (insP le a l).Pairwise (fun a b => le a b = true)
  | [], _ => List.pairwise_singleton _ _
  | b :: l, h => by
    obtain ⟨h1, h2⟩ := List.pairwise_cons.mp h
    unfold insP
    by_cases q : le a b = true
    · rw [if_pos q]
      refine List.pairwise_cons.mpr ⟨fun x hx => ?_, h⟩
      rcases List.mem_cons.mp hx with rfl | hx
      · exact q
      · exact t.trans _ _ _ q (h1 x hx)
    · rw [if_neg q]
      refine List.pairwise_cons.mpr ⟨fun x hx => ?_, insP_up t a h2⟩
      rcases insP_mem a x l hx with rfl | hx
      · exact (t.total b x).resolve_right q
      · exact h1 x hx
theorem insP_same (t : TotalLe le) (c a : α) : ∀ l : List α, (insP le a l).filter (sameRank le c) = (a :: l).filter (sameRank le c)
  | [] => rfl
  | b :: l => by
    unfold insP
    by_cases q : le a b = true
    · rw [if_pos q]
    · rw [if_neg q]
      have e1 : (b :: insP le a l).filter (sameRank le c) = if sameRank le c b = true then b :: (insP le a l).filter (sameRank le c) else (insP le a l).filter (sameRank le c) := List.filter_cons
      have e2 : (a :: b :: l).filter (sameRank le c) = if sameRank le c a = true then a :: (b :: l).filter (sameRank le c) else (b :: l).filter (sameRank le c) := List.filter_cons
      have e3 : (b :: l).filter (sameRank le c) = if sameRank le c b = true then b :: l.filter (sameRank le c) else l.filter (sameRank le c) := List.filter_cons
      have e4 : (a :: l).filter (sameRank le c) = if sameRank le c a = true then a :: l.filter (sameRank le c) else l.filter (sameRank le c) := List.filter_cons
      rw [e1, e2, e3, insP_same t c a l, e4]
      by_cases h1 : sameRank le c a = true
      · have h2 : ¬ sameRank le c b = true := fun h2 => by
          unfold sameRank at h1 h2
          rw [Bool.and_eq_true] at h1 h2
          exact q (t.trans _ _ _ h1.2 h2.1)
        rw [if_neg h2, if_pos h1, if_neg h2, if_pos h1]
      · rw [if_neg h1, if_neg h1]
theorem sortP_up (t : TotalLe le) : ∀ l : List α, (sortP le l).Pairwise (fun a b => le a b = true)
  | [] => .nil
  | a :: l => insP_up t a (sortP_up t l)
theorem sortP_same (t : TotalLe le) (c : α) : ∀ l : List α, (sortP le l).filter (sameRank le c) = l.filter (sameRank le c)
  | [] => rfl
  | a :: l => by
    show (insP le a (sortP le l)).filter _ = _
    rw [insP_same t, List.filter_cons, List.filter_cons, sortP_same t c l]
theorem sortP_eq (t : TotalLe le) (l : List α) : sortP le l = l.mergeSort le := sort_unique t (sortP_up t l) fun c => sortP_same t c l
end
def srtP (ds : List D) : List D := sortP (PySem.W.dataLe false pyD) ds
theorem srtP_eq (ds : List D) : srtP ds = ds.mergeSort (PySem.W.dataLe false pyD) := sortP_eq (PySem.W.sortLe_total _ _ _) ds
theorem toPys_map : ∀ {ds : List D} {ps : List PyData}, toPys ds = some ps → ps = ds.map pyD ∧ ∀ d ∈ ds, toPy d = some (pyD d)
  | [], ps, e => by unfold toPys at e; cases e; exact ⟨rfl, fun d h => nomatch h⟩
  | d :: ds, ps, e => by
    unfold toPys at e
    obtain ⟨p, e1, e⟩ := Option.bind_eq_some_iff.mp e
    obtain ⟨ps', e2, rfl⟩ := Option.map_eq_some_iff.mp e
    obtain ⟨h1, h2⟩ := toPys_map e2
    have h3 : pyD d = p := by unfold pyD; rw [e1]; rfl
    refine ⟨by rw [List.map_cons, h3, h1], fun x hx => ?_⟩
    rcases List.mem_cons.mp hx with rfl | hx
    · rw [h3]; exact e1
    · exact h2 x hx
structure SrtOk (ds : List D) : Prop where
  py : ∀ d ∈ ds, toPy d = some (pyD d)
  al : PySem.W.AllAlike (ds.map pyD)
  so : PySem.W.Sortable (ds.map pyD)
  dp : ∀ d ∈ ds, (pyD d).depth ≤ 8
theorem srtOk_is {ds : List D} (h : srtOk ds = true) : SrtOk ds := by
  unfold srtOk at h
  cases q : toPys ds with
  | none => rw [q] at h; cases h
  | some ps =>
    rw [q] at h
    obtain ⟨e1, e2⟩ := toPys_map q
    simp only [Bool.and_eq_true, Bool.or_eq_true, List.all_eq_true] at h
    obtain ⟨⟨h1, h2⟩, h3⟩ := h
    rw [e1] at h1 h2 h3
    refine ⟨e2, fun d hd d' hd' => h1 d hd d' hd', ?_, fun d hd => by simpa using h3 _ (List.mem_map_of_mem hd)⟩
    rcases h2 with h2 | h2
    · refine .inl fun d hd => ?_
      have := h2 d hd
      split at this
      · exact ⟨_, _, rfl⟩
      · cases this
    · refine .inr fun d hd => ?_
      have := h2 d hd
      cases d <;> first | (constructor <;> simp; done) | (exfalso; revert this; simp)
section
variable {X : Cx} {c : Cn} {pins : List (Addr × Obj)} {σ : L2.St} {H : Hp} {s : Shared} {M : Am} {ρ : List Addr}
def Rr (c : Cn) (M : Am) (ρ : List Addr) (H : Hp) (v : Value) (d : D) : Prop := ∃ x, RelV x v ∧ RD c M ρ H d x
theorem each_of {ds : List D} {xs : List V} {us : List Value} (r : RDs c M ρ H ds xs) (rv : Vals xs us) : PySem.W.EachIs (Rr c M ρ H) us ds := by
  induction rv generalizing ds with
  | nil => cases r; exact .nil
  | cons h t ih =>
    cases r with
    | cons h' t' => exact .cons ⟨_, h, h'⟩ (ih t')
theorem each_back : ∀ {us : List Value} {ds : List D}, PySem.W.EachIs (Rr c M ρ H) us ds → ∃ xs, RDs c M ρ H ds xs ∧ Vals xs us
  | _, _, .nil => ⟨[], .nil, .nil⟩
  | _, _, .cons ⟨x, h1, h2⟩ t => by
    obtain ⟨xs, h3, h4⟩ := each_back t
    exact ⟨x :: xs, .cons h2 h3, .cons h1 h4⟩
theorem each_reads (I : Inv X pins σ H s) (hK : X.K = c.K) {ds : List D} {us : List Value} (e : PySem.W.EachIs (Rr c M ρ H) us ds) (py : ∀ d ∈ ds, toPy d = some (pyD d)) : PySem.W.EachIs (fun v d => ∃ as, Reads s.heap v (pyD d) as) us ds := by
  induction e with
  | nil => exact .nil
  | cons h t ih =>
    refine .cons ?_ (ih fun d hd => py d (List.mem_cons_of_mem _ hd))
    obtain ⟨x, h1, h2⟩ := h
    exact Dp.reads I _ x _ (hK ▸ h2.dp (py _ List.mem_cons_self)) h1
/-- sorted(xs), xs a list -/
def rSrtL (c : Cn) : List V → Hp → VK → Prop := fun vs H Q => ∃ M ρ a ds xs, vs = [V.ref a] ∧ SqL c.K H a xs ∧ RDs c M ρ H ds xs ∧ SrtOk ds ∧ ∀ (us : List V) (p : Addr), RDs c M ρ H (srtP ds) us → H p = none → Q (.ref p) (upd H p (.lst us))
theorem cr_srtL (hK : X.K = c.K) (hu : X.A.units + 65 < cLine) : CallR X (.builtin "sorted") (rSrtL c) := by
  intro pins s σ H vs us Q I r h
  obtain ⟨M, ρ, a, ds, xs, rfl, hs, rd, ok, q⟩ := h
  rw [Vals.ref1 r]
  obtain ⟨its, rv, hl, hz⟩ := I.list (hK ▸ hs)
  have e := each_of rd rv
  have er := each_reads I hK e ok.py
  have hlen : its.length ≤ sizeLine := by rw [← rv.length]; exact hz
  refine PySem.W.sorted_data hl.isList e er ok.al ok.so (by rw [← e.length]; exact hlen) (fun b hb => by have := ok.dp b hb; omega) fun out ho eo => ?_
  obtain ⟨zs, h1, h2⟩ := each_back eo
  obtain ⟨ep, he'⟩ := PyProof.Rows.sortedAll_at s.heap its out.toArray
  have hlo : zs.length ≤ sizeLine := by
    rw [h2.length, ho, ← e.length]
    exact hlen
  exact ⟨.ref _, upd H (s.heap.objs.size + 1) (.lst zs), I.laid (t' := s.toks) (fun _ _ => PyProof.Rows.sortedAll_old) (Nat.le_succ _) ⟨hlo, out, ep, h2, he'⟩, rfl, q _ _ (by rw [srtP_eq]; exact h1) (I.hok.fresh (Nat.le_succ _))⟩
theorem src_raw {prog : Program} {w : World} {d : Addr} {es : Array DictEntry} {ep : Nat} (lo : (d == sysModules) = false) : PySem.W.KdlSrc prog w "dict" d d es.size (fun i v => ∃ hi : i < es.size, v = es[i].key) (fun h => h.DictRaw d es ep) where
  type := fun _ hm => hm.typeIs
  there := fun _ hm => let ⟨_, ho, _⟩ := hm; ⟨Heap.lt_size ho, Heap.lt_size ho⟩
  keep := fun _ _ hm hk => hm.at fun o e => hk d (.inl rfl) o e
  notList := by decide
  notTuple := by decide
  hint := fun _ _ _ _ hm hq => PySem.W.kdl_hint_dict hm.typeIs hq
  iter := fun _ _ hh hm => ⟨_, _, (fun _ _ hq => wpAny_pyIter_dict_raw lo hm hq), Walks.rawKeys (prog := prog) (w := w) hh _ d (by obtain ⟨o, ho, _⟩ := hm; exact Nat.ne_of_lt (Heap.lt_size ho)) es ep, ⟨⟨_, Heap.get?_push_size _ rfl, rfl, rfl⟩, hm.at fun o e => Heap.get?_push_of_some _ e⟩⟩
theorem each_items {es : Array DictEntry} {ps : List (V × V)} (hp : EntP es ps) {acc : Array Value} (ha : ItemsOf (fun i v => ∃ hi : i < es.size, v = es[i].key) acc es.size) : Vals (ps.map (·.1)) acc.toList := by
  obtain ⟨h1, h2⟩ := ha
  have hl : acc.toList.length = (ps.map (·.1)).length := by rw [Array.length_toList, h1, List.length_map, hp.1]
  have key : ∀ (l1 : List V) (l2 : List Value), l2.length = l1.length → (∀ (i : Nat) (x : V) (y : Value), l1[i]? = some x → l2[i]? = some y → RelV x y) → Vals l1 l2 := by
    intro l1
    induction l1 with
    | nil => intro l2 h _; have : l2 = [] := List.length_eq_zero_iff.mp h; subst this; exact .nil
    | cons x l1 ih =>
      intro l2 h hr
      cases l2 with
      | nil => simp at h
      | cons y l2 => exact .cons (hr 0 x y rfl rfl) (ih l2 (by simpa using h) fun i a b ha hb => hr (i + 1) a b (by simpa using ha) (by simpa using hb))
  refine key _ _ hl fun i x y hx hy => ?_
  rw [Array.getElem?_toList] at hy
  obtain ⟨hi, e⟩ := h2 i y hy
  obtain ⟨k, z, e1, e2, e3⟩ := hp.2 i hi
  rw [List.getElem?_map, e1] at hx
  cases hx
  rw [e]
  exact e2
/-- sorted(d), d a dict by tuples -/
def rSrtX (c : Cn) : List V → Hp → VK → Prop := fun vs H Q => ∃ M ρ a o ps ds, vs = [V.ref a] ∧ DP c.w H a o ps ∧ ps.length ≤ sizeLine ∧ RDs c M ρ H ds (ps.map (·.1)) ∧ SrtOk ds ∧ ∀ (us : List V) (p : Addr), RDs c M ρ H (srtP ds) us → H p = none → Q (.ref p) (upd H p (.lst us))
theorem cr_srtX (hK : X.K = c.K) (hc : X.calm = true) (hu : X.A.units + 65 < cLine) : CallR X (.builtin "sorted") (rSrtX c) := by
  intro pins s σ H vs us Q I r h
  obtain ⟨M, ρ, a, o, ps, ds, rfl, ⟨d1, d2, d3, es, ep, d4, d5⟩, hz, rd, ok, q⟩ := h
  rw [Vals.ref1 r]
  have ho : s.heap.get? a = some o := (I.hok a _ d1).1
  have raw : s.heap.DictRaw a es ep := ⟨o, ho, d3, d4⟩
  have hes : es.size ≤ sizeLine := by rw [d5.1]; exact hz
  refine Calls.call_function_entry kind_sorted plain_sorted entry_sorted (args_sorted1 _) ?_
  unfold Builtin.«sorted»
  refine wpAny_bind (m := checkCount "sorted" 1 1 _) (wpAny_pure ?_)
  have hd1 : X.A.in1.handled = none := I.ok.hd hc
  refine wpAny_bind (PySem.W.kdu_collect (A := X.A.in1) (src_raw d2) hd1 raw hes fun h' tk acc hk hacc => ?_)
  have rv := each_items d5 hacc
  have hl : acc.toList.length = ds.length := by rw [← rv.length, rd.length]
  have hla : acc.toList.length ≤ sizeLine := by rw [Array.length_toList, hacc.1]; exact hes
  refine wpAny_bind (wpAny_newList ?_ hla)
  have I1 : Inv X pins σ H { s with heap := h', toks := tk } := I.kept (t' := tk) fun b ob e => hk b ob e
  have e := each_of rd rv
  have er := each_reads I1 hK e ok.py
  let h2 : Heap := h'.push (seqObj "list" acc.toList.toArray 0)
  have hat : h2.get? h'.objs.size = some (seqObj "list" acc.toList.toArray 0) := Heap.get?_push_size _ rfl
  have er2 : PySem.W.EachIs (fun v d => ∃ as, Reads (PySem.W.sortingHeap h2 h'.objs.size acc.toList) v (pyD d) as) acc.toList ds := er.mono fun _ _ ⟨as, r⟩ => ⟨as, PyProof.Rows.Reads.keeps (fun b ob e => PySem.W.sortingHeap_old (Nat.ne_of_lt (Heap.lt_size e)) (Heap.get?_push_of_some _ e)) r⟩
  refine wpAny_bind (wpAny_holding (wpAny_call_entry slot_list_sort ⟨_, hat, rfl⟩ entry_list_sort (PySem.W.list_sort_vals (s := { s with heap := h2, toks := tk }) hat (PySem.W.SortsAt.data (s := { s with heap := PySem.W.sortingHeap h2 h'.objs.size acc.toList, toks := tk }) (PySem.W.each_map (R := fun v d => ∃ as, Reads (PySem.W.sortingHeap h2 h'.objs.size acc.toList) v d as) pyD er2) ok.al ok.so (PySem.W.bound_map fun b hb => by have := ok.dp b hb; show X.A.units + 2 + _ < _; omega)) hla ⟨_, rfl, wpAny_pure ⟨_, rfl, ?_⟩⟩) (args_list_sort _)))
  have eo := PySem.W.sortVals_data false e er2 ok.al
  obtain ⟨zs, z1, z2⟩ := each_back eo
  obtain ⟨ep2, he'⟩ := sortedHeap_at (out := (PySem.W.sortVals (PySem.W.dataKind (PySem.W.sortingHeap h2 h'.objs.size acc.toList) (ds.map pyD)) false acc.toList acc.toList).toArray) hat
  have hlo : zs.length ≤ sizeLine := by
    rw [z2.length, PySem.W.sortVals_length false rfl]
    exact hla
  refine ⟨.ref h'.objs.size, upd H h'.objs.size (.lst zs), I1.laid (t' := tk) (fun b ob e => ?_) (Nat.le_refl _) ⟨hlo, _, ep2, z2, he'⟩, rfl, q _ _ (by rw [srtP_eq]; exact z1) (I1.hok.fresh (Nat.le_refl _))⟩
  have e1 : h'.get? b = some ob := e
  have e2 := Heap.lt_size e1
  have e3 : h2.get? b = some ob := Heap.get?_push_of_some _ e1
  exact (sortedHeap_old (Nat.ne_of_lt e2) (Heap.lt_size e3)).trans e3
end
end DS
/-! DS26: sorted, len of dicts by tuples; dict of a list of pairs. -/
namespace DS
open PySem PySem.Spec PyProof.Rows L2
def srtA : D → Option (List D)
  | .lst xs => if srtOk xs then some (srtP xs) else none
  | .scr xs => if srtOk xs then some (srtP xs) else none
  | .dct true ks vs => if srtOk ks && decide (vs.length < LIM) then some (srtP ks) else none
  | _ => none
def lenX : D → Option D
  | .dct true ks vs => if vs.length < LIM then some (.int (vs.length : Nat)) else none
  | _ => none
theorem lim_size {n : Nat} (h : n < LIM) : n ≤ sizeLine := by
  rw [sizeLine_eq]
  unfold LIM at h
  omega
section
variable {c : Cn} {M : Am} {ρ : List Addr} {H : Hp}
theorem RW.dp_ {ks vs : List D} {v : V} (h : RW c M ρ H (.dct true ks vs) v) : ∃ a o ps, v = .ref a ∧ DP c.w H a o ps ∧ RDs c M ρ H ks (ps.map (·.1)) ∧ RDs c M ρ H vs (ps.map (·.2)) := by
  obtain ⟨a, rfl, o, xs, us, h1, g, e, kr, r, rv⟩ := h.dct
  have h2 : RD c (fun _ => False) ρ H (.dct true ks vs) (.ref a) := .dctT h1 (fun z => z) g e (kr.less fun _ z => z.elim) (r.less fun _ z => z.elim) rv
  obtain ⟨g1, g2, ⟨es, ep, g3, g4⟩, g5, g6⟩ := g
  have hlu : us.length = xs.length := by have := rv.length; simpa using this
  have hes : es.size = xs.length := by rw [← Array.length_toList, g4, List.length_map]
  refine ⟨a, o, (xs.map fun x => V.ref x.2.1).zip us, rfl, ⟨h1, g1, g2, es, ep, g3, ?_, fun i hi => ?_⟩, ?_, ?_⟩
  · rw [List.length_zip, List.length_map, hlu, hes, Nat.min_self]
  · have hx : i < xs.length := by rw [← hes]; exact hi
    have hu : i < us.length := by rw [hlu]; exact hx
    have e1 : es[i] = ⟨NestedKey.hash c.w xs[i].1, .ref xs[i].2.1, xs[i].2.2⟩ := by
      have e2 : es.toList[i]? = some es[i] := by simp [hi]
      rw [g4, List.getElem?_map, List.getElem?_eq_getElem hx] at e2
      exact (Option.some.inj e2).symm
    obtain ⟨u, hu1, hu2⟩ := vals_get rv (i := i) (w := xs[i].2.2) (by rw [List.getElem?_map, List.getElem?_eq_getElem hx]; rfl)
    refine ⟨.ref xs[i].2.1, u, ?_, ?_, ?_⟩
    · rw [List.getElem?_zip_eq_some]
      exact ⟨by rw [List.getElem?_map, List.getElem?_eq_getElem hx]; rfl, hu1⟩
    · rw [e1]; rfl
    · rw [e1]; exact hu2
  · rw [List.map_fst_zip (by rw [List.length_map, hlu]; exact Nat.le_refl _)]
    exact kr
  · rw [List.map_snd_zip (by rw [List.length_map, hlu]; exact Nat.le_refl _)]
    exact r
theorem v_srtA : V1L c (fun v H Q => rSrtL c [v] H Q ∨ rSrtX c [v] H Q) srtA := by
  intro M ρ H x v xs Q d hx hF q
  unfold srtA at hF
  split at hF
  · split at hF
    · cases hF
      obtain ⟨a, vs, rfl, h1, h2⟩ := hx.lst
      exact .inl ⟨M, ρ, a, _, vs, rfl, .inl (.inl h1), h2, srtOk_is (by assumption), fun us p h3 hp => q p us _ hp (Ext.new hp) upd_same h3⟩
    · cases hF
  · split at hF
    · cases hF
      obtain ⟨a, vs, rfl, h1, h2⟩ := hx.scr
      exact .inl ⟨M, ρ, a, _, vs, rfl, h1, h2, srtOk_is (by assumption), fun us p h3 hp => q p us _ hp (Ext.new hp) upd_same h3⟩
    · cases hF
  · split at hF
    · rename_i hs
      rw [Bool.and_eq_true, decide_eq_true_iff] at hs
      cases hF
      obtain ⟨a, o, ps, rfl, dp, rk, rv⟩ := hx.dp_
      refine .inr ⟨M, ρ, a, o, ps, _, rfl, dp, ?_, rk, srtOk_is hs.1, fun us p h3 hp => q p us _ hp (Ext.new hp) upd_same h3⟩
      have := rv.length
      rw [List.length_map] at this
      rw [← this]
      exact lim_size hs.2
    · cases hF
  · cases hF
def rLenX (c : Cn) : List V → Hp → VK → Prop := fun vs H Q => ∃ (a : Addr) (o : Obj) (ps : List (V × V)) (M : Am) (ρ : List Addr) (ks ws : List D), vs = [.ref a] ∧ RW c M ρ H (.dct true ks ws) (.ref a) ∧ ws.length < LIM ∧ Q (.int (ws.length : Nat)) H
theorem cr_lenX {X : Cx} (hK : X.K = c.K) (hw : X.w = c.w) : CallR X (.builtin "len") (rLenX c) := by
  intro pins s σ H vs us Q I r h
  obtain ⟨a, o, ps, M, ρ, ks, ws, rfl, hx, hl, q⟩ := h
  rw [Vals.ref1 r]
  obtain ⟨a', e, o', xs, us', h1, g, e', kr, r', rv⟩ := hx.dct
  cases e
  have hm := dict_heap I hK hw h1 g e' kr
  have hlen : ws.length = xs.length := by
    have h1 := rv.length
    have h2 := r'.length
    rw [List.length_map] at h1
    omega
  refine PySem.call_len_dictH g.1 hm (by rw [← hlen]; unfold LIM at hl; omega) ?_
  rw [← hlen]
  exact ⟨.int (ws.length : Nat), H, I.tok _, ⟨_, rfl⟩, q⟩
theorem v_lenX : V1 c (fun v H Q => rLenX c [v] H Q) lenX := by
  intro M ρ H x e v Q d hx hF q
  unfold lenX at hF
  split at hF
  · split at hF
    · cases hF
      obtain ⟨a, rfl, _⟩ := hx.dct
      exact ⟨a, emptyO, [], M, ρ, _, _, rfl, hx, by assumption, q _ H (Ext.refl H) (.int _)⟩
    · cases hF
  · cases hF
end
/-! ### dict of pairs -/
def putAll : List D → List D × List D → Option (List D × List D)
  | [], acc => some acc
  | .tup [k, v] :: ps, acc => (keyN k).bind fun l => putAll ps (putN acc.1 acc.2 (.tup l) k v)
  | _ :: _, _ => none
structure AccOk (c : Cn) (M : Am) (ρ : List Addr) (H : Hp) (acc : List D × List D) (xs : List Ent) : Prop where
  nd : (xs.map (·.1)).Nodup
  e : nks acc.1 = some (xs.map (·.1))
  kr : RDs c M ρ H acc.1 (xs.map fun x => V.ref x.2.1)
  r : ∃ us, RDs c M ρ H acc.2 us ∧ Vals us (xs.map (·.2.2))
  dp : ∀ x ∈ xs, x.1.depth ≤ 8
theorem nodup_stored {xs : List Ent} {k : NestedKey} {b : Addr} {u : Value} (h : (xs.map (·.1)).Nodup) : ((storedH xs k b u).map (·.1)).Nodup := by
  unfold storedH
  split
  · rw [List.map_map]
    have : ((fun x : Ent => x.1) ∘ putAt k u) = fun x : Ent => x.1 := by
      funext x
      show (putAt k u x).1 = x.1
      unfold putAt
      split <;> rfl
    rw [this]
    exact h
  · rename_i hn
    rw [List.map_append, List.nodup_append]
    refine ⟨h, by simp, fun a ha b hb => ?_⟩
    obtain ⟨x, hx, rfl⟩ := List.mem_map.mp ha
    have : b = k := by simpa using hb
    subst this
    intro e
    refine hn ?_
    unfold atKey
    rw [Option.isSome_map, List.find?_isSome]
    exact ⟨x, hx, by simpa using e⟩
section
variable {X : Cx} {c : Cn} {pins : List (Addr × Obj)} {σ : L2.St} {H : Hp} {s : Shared} {M : Am} {ρ : List Addr}
theorem AccOk.put {acc : List D × List D} {xs : List Ent} (z : AccOk c M ρ H acc xs) {k v : D} {l : List NestedKey} {b : Addr} {w : V} {u : Value} (hk : keyN k = some l) (hkr : RD c M ρ H k (.ref b)) (hv : RD c M ρ H v w) (hu : RelV w u) :
    AccOk c M ρ H (putN acc.1 acc.2 (.tup l) k v) (storedH xs (.tup l) b u) := by
  obtain ⟨ts, rfl, h1, h2⟩ := keyN_is hk
  obtain ⟨us, r1, r2⟩ := z.r
  obtain ⟨p1, p2, us', p3, p4⟩ := put_at (.tup l) b (.tup ts) v w u (by unfold nk; rw [h1]; rfl) hkr hv hu z.nd z.e z.kr r1 r2
  exact ⟨nodup_stored z.nd, p1, p2, ⟨us', p3, p4⟩, dep_stored z.dp h2⟩
theorem put_all (I : Inv X pins σ H s) (hK : X.K = c.K) : ∀ {ps : List D} {ws : List V} {us : List Value} {acc r : List D × List D}, RDs c M ρ H ps ws → Vals ws us → putAll ps acc = some r →
    ∃ (ents : List Ent) (Ts : List Addr), ents.length = ps.length ∧ Ts.length = ps.length ∧ us = Ts.map Value.ref ∧ (∀ (i : Nat) (x : Ent), ents[i]? = some x → ∃ T, Ts[i]? = some T ∧ s.heap.IsTuple T #[.ref x.2.1, x.2.2]) ∧ (∀ x ∈ ents, (ND X).is s.heap x.1 x.2.1) ∧
      ∀ xs, AccOk c M ρ H acc xs → AccOk c M ρ H r (storedAllH xs ents)
  | [], ws, us, acc, r, rd, rv, e => by
    unfold putAll at e
    cases e
    cases rd
    cases rv
    exact ⟨[], [], rfl, rfl, rfl, fun i x h => by simp at h, fun x h => absurd h List.not_mem_nil, fun xs z => z⟩
  | p :: ps, ws, us, acc, r, rd, rv, e => by
    cases rd with
    | cons hp rd =>
      cases rv with
      | cons hv rv =>
        unfold putAll at e
        split at e
        · rename_i heq
          cases heq
        · rename_i k v ps' acc' heq
          cases heq
          obtain ⟨l, hk, e⟩ := Option.bind_eq_some_iff.mp e
          obtain ⟨ents, Ts, q1, q2, q3, q4, q5, q6⟩ := put_all I hK rd rv e
          obtain ⟨T, vs, rfl, t1, t2⟩ := hp.tup
          cases hv
          obtain ⟨its, ri, pl, _⟩ := I.tuple (hK ▸ t1)
          cases t2 with
          | cons hkr t2 =>
            cases t2 with
            | cons hvr t2 =>
              cases t2
              cases ri with
              | cons rk ri =>
                cases ri with
                | cons rv' ri =>
                  cases ri
                  rename_i kv vv ku vu
                  obtain ⟨ts, rfl, n1, n2⟩ := keyN_is hk
                  obtain ⟨b, bs, rfl, _, _⟩ := hkr.tup
                  cases rk
                  refine ⟨(.tup l, b, vu) :: ents, T :: Ts, by simp [q1], by simp [q2], by rw [q3]; rfl, fun i x h => ?_, fun x h => ?_, fun xs z => ?_⟩
                  · cases i with
                    | zero => simp at h; subst h; exact ⟨T, rfl, pl⟩
                    | succ i => exact q4 i x (by simpa using h)
                  · rcases List.mem_cons.mp h with rfl | h
                    · exact ⟨nk_is I hK (.tup ts) _ _ _ hkr rfl (by unfold nk; rw [n1]; rfl), n2⟩
                    · exact q5 x h
                  · exact q6 _ (z.put hk hkr hvr rv')
        · cases e
def rDict (c : Cn) : List V → Hp → VK → Prop := fun vs H Q => ∃ (M : Am) (ρ : List Addr) (a : Addr) (ws : List V) (ps : List D) (r : List D × List D), vs = [.ref a] ∧ H a = some (.lst ws) ∧ RDs c M ρ H ps ws ∧ Dm M H ∧ ps.length < LIM ∧ putAll ps ([], []) = some r ∧
  ∀ d o, H d = none → (∀ M', (∀ b, M b → M' b) → (∀ b, M' b → M b ∨ b = d) → DctOk c M' ρ (upd H d (RawO d o)) true r.1 r.2 d) → Q (.ref d) (upd H d (RawO d o))
theorem stored_all_acc {d : Addr} {r : List D × List D} {xs : List Ent} {o : Obj} (z : AccOk c M ρ H r xs) (hn : H d = none) (g : DRaw c.w d o xs) (dm : Dm M H) {M' : Am} (h1 : ∀ b, M b → M' b) (h2 : ∀ b, M' b → M b ∨ b = d) : DctOk c M' ρ (upd H d (RawO d o)) true r.1 r.2 d := by
  obtain ⟨us, r1, r2⟩ := z.r
  have k : Keep (⟨M, [], H, fun _ => False⟩ : Gr) M ρ H M' ρ (upd H d (RawO d o)) := ⟨fun a o' h m => ⟨Ext.new hn a o' h, fun zz => (h2 a zz).elim m fun e => by rw [e, hn] at h; cases h⟩, ⟨[], (List.append_nil _).symm⟩, fun _ zz => zz.elim⟩
  exact ⟨o, xs, us, upd_same, g, z.e, z.kr.keep k, r1.keep k, r2⟩
theorem cr_dict (hK : X.K = c.K) (hw : X.w = c.w) (hc : X.calm = true) (hu : X.A.units + 65 < cLine) : CallR X (.type "dict") (rDict c) := by
  intro pins s σ H vs us Q I r h
  obtain ⟨M, ρ, a, ws, ps, res, rfl, ha, rd, dm, hl, hp, q⟩ := h
  rw [Vals.ref1 r]
  obtain ⟨its, rv, pl, hz⟩ := I.list (.inl (.inl ha))
  obtain ⟨ents, Ts, q1, q2, q3, q4, q5, q6⟩ := put_all I hK rd rv hp
  let pr : List (Value × Value) := ents.map fun x => (.ref x.2.1, x.2.2)
  have hpr : pr.length = ps.length := by rw [List.length_map, q1]
  have fin := q6 [] ⟨List.nodup_nil, by unfold nks; rfl, .nil, ⟨[], .nil, .nil⟩, fun x h => nomatch h⟩
  have items : PairItems s.heap its.toArray (fun j => Ts.getD j 0) pr := by
    refine ⟨by rw [List.size_toArray, q3, List.length_map, q2, hpr], fun j k v hj => ?_⟩
    rw [List.getElem?_map] at hj
    obtain ⟨x, hx, e⟩ := Option.map_eq_some_iff.mp hj
    cases e
    obtain ⟨T, hT, tu⟩ := q4 j x hx
    have e2 : Ts.getD j 0 = T := by rw [List.getD_eq_getElem?_getD, hT]; rfl
    refine ⟨?_, .inl ?_⟩
    · show its.toArray[j]? = some (.ref (Ts.getD j 0))
      rw [q3, e2]
      simp [hT]
    · show s.heap.IsTuple (Ts.getD j 0) _
      rw [e2]
      exact tu
  have pls : PlainSeq "list" s.heap a its.toArray := by
    obtain ⟨o, n, e, c', hd, hdat⟩ := pl
    exact ⟨o, _, e, c', hd, hdat⟩
  have hn := I.hok.fresh (Nat.le_refl s.heap.objs.size)
  have big := I.big
  refine call_dict_pairsH (knd := ND X) (ps := ents) (PairArg.list a its.toArray (fun j => Ts.getD j 0) pr) (I.ok.hd hc) (by show X.A.units + 1 + 1 + 8 < cLine; omega) ⟨pls, items⟩ ⟨by rw [hpr, q1], fun i key v hr => ?_⟩ (fun h' hk x hx => nestedKind_stays.all _ (fun b o _ e => hk b o (Nat.ne_of_lt (Heap.lt_size e)) (by simp) e) _ _ (q5 x hx)) (by rw [hpr]; exact lim_size hl) fun h' tk hd' hk => ?_
  · have hr : pr[i]? = some (key, v) := hr
    rw [List.getElem?_map] at hr
    obtain ⟨x, hx, e⟩ := Option.map_eq_some_iff.mp hr
    cases e
    exact ⟨x.1, x.2.1, hx, rfl⟩
  · obtain ⟨o, es, ep, h1, h2, h3, h4, h5, h6⟩ := hd'
    have g : DRaw c.w s.heap.objs.size o (storedAllH [] ents) := ⟨beq_eq_false_iff_ne.mpr (Ne.symm (Nat.ne_of_lt big)), h2, ⟨es, ep, h3, by rw [h4, ← hw]; rfl⟩, h6, fin.dp⟩
    refine ⟨.ref s.heap.objs.size, upd H s.heap.objs.size (RawO s.heap.objs.size o), I.laid (t' := tk) (fun b ob e => hk b ob (by simp) e) (Nat.le_refl _) (raw_ok h1), rfl, ?_⟩
    exact q _ o hn fun M' m1 m2 => stored_all_acc fin hn g dm m1 m2
end
def dictX (o : Op) : ExX := fun s => (o s).bind fun t s1 => R.of (match deref s1 t with
  | some (.lst ps) => if ps.length < LIM then putAll ps ([], []) else none
  | _ => none) s1
section
variable {X : Cx} {c : Cn} {g : Gr} {W : WX} {k : Nat} {a : Expr} {o : Op} {p pos : Pos} {σ : L2.St} {H : Hp} {Q : VK}
theorem t_dictX (h : tX c W (dictX o) σ H Q) : tUn (fun v H Q => rDict c [v] H Q) (tO c W o) σ H Q := by
  obtain ⟨g, M, ρ, s, rel, h⟩ := h
  refine tO.bind (out := fun M ρ H r => OutX c g W M ρ σ H r Q) rel (fun _ _ z => z) (fun z => z) h fun t s1 M1 ρ1 v H1 r1 k1 t1 h1 => ?_
  cases q : (match deref s1 t with
    | some (.lst ps) => if ps.length < LIM then putAll ps ([], []) else none
    | _ => none) with
  | none => rw [q] at h1; exact h1.elim
  | some r =>
    rw [q] at h1
    split at q
    · rename_i ps hd
      split at q
      · rename_i hl
        obtain ⟨a, vs, rfl, h2, h3⟩ := (RW.of_tok r1 t1 hd).lst
        refine ⟨M1, ρ1, a, vs, ps, r, rfl, h2, h3, r1.h.dom, hl, q, fun d o hn hok => ?_⟩
        obtain ⟨r2, f2⟩ := r1.newM (Ext.new (o := RawO d o) hn) hn upd_same rfl
        exact h1 (more M1 d) ρ1 d _ r2 (k1.trans (keep_more (Ext.new hn) hn r1.pd)) (hok _ (fun b h => .inl h) fun b h => h) f2
      · cases q
    · cases q
theorem x_dict (C : Cc X c W k) (ha : PE X a (tO c W o)) (hm : c.mg "dict" = none) (hg : Gl X "dict" := by rfl) (hs : starEach [a] X.env = (false, eval a X.env) :: starEach [] X.env := by rfl) (hpl : (backTo pos (starEach [] X.env)).any (·.1) = false := by rfl) :
    PE X (.Call (.Name "dict" p) [a] [] pos) (tX c W (dictX o)) := pe_imp (pe_callTy (cr_dict C.hK C.hw C.hc (by have := C.rm.un; omega)) hg (by rw [C.hm]; exact hm) (by first | rfl | decide +kernel) (pa_cons ha pa_nil hs) (by decide) (by decide) hs hpl) fun _ _ _ h => t_dictX h
theorem l_srt (C : Cc X c W k) (ha : PE X a (tO c W o)) (hm : c.mg "sorted" = none) (hg : Gl X "sorted" := by rfl) (hs : starEach [a] X.env = (false, eval a X.env) :: starEach [] X.env := by rfl) (hpl : (backTo pos (starEach [] X.env)).any (·.1) = false := by rfl) :
    PE X (.Call (.Name "sorted" p) [a] [] pos) (tL c W (op1L srtA o)) := l_B1 (CallR.or (cr_srtL C.hK (by have := C.rm.un; omega)) (cr_srtX C.hK C.hc (by have := C.rm.un; omega))) v_srtA hg (by rw [C.hm]; exact hm) (by first | rfl | decide +kernel) ha (by decide) (by decide) hs hs hpl
theorem e_lenX (C : Cc X c W k) (ha : PE X a (tO c W o)) (hm : c.mg "len" = none) (hg : Gl X "len" := by rfl) (hs : starEach [a] X.env = (false, eval a X.env) :: starEach [] X.env := by rfl) (hpl : (backTo pos (starEach [] X.env)).any (·.1) = false := by rfl) :
    PE X (.Call (.Name "len" p) [a] [] pos) (tE c W (op1 lenX o)) := e_B1 (cr_lenX C.hK C.hw) v_lenX hg (by rw [C.hm]; exact hm) (by first | rfl | decide +kernel) ha (by decide) (by decide) hs hs hpl
end
end DS
/-! DS27: d[k]. -/
namespace DS
open PySem PySem.Spec PyProof.Rows L2
section
variable {X : Cx} {c : Cn} {W : WX} {k : Nat} {a b : Expr} {o1 o2 : Op} {pos : Pos}
theorem e_ixN (C : Cc X c W k) (ha : PE X a (tO c W o1)) (hb : PE X b (tO c W o2)) (hs : PlainIx b := by intro _ _; rfl) : PE X (.Subscript a b pos) (tE c W (op2 ixN' o1 o2)) := pe_imp (pe_ix (ix_dN (by have := C.rm.un; omega) C.hK C.hw) ha hb hs) fun _ _ _ h => t_op2 v_ixN h
end
end DS
/-! DS28: zip of two tuples. -/
namespace DS
open PySem PySem.Spec PyProof.Rows L2
/-- a list and a tuple, side by side -/
def Ity (K : PySem.W.Frag) (a b : Addr) : It where
  go i H := ∃ (xs ys : List V) (x y : V), SqT K H a xs ∧ SqT K H b ys ∧ xs[i]? = some x ∧ ys[i]? = some y
  yld i H v H' := ∃ T x y, v = .ref T ∧ H T = none ∧ H' = upd H T (.tup [x, y]) ∧ (∀ xs, SqT K H a xs → xs[i]? = some x) ∧ ∀ ys, SqT K H b ys → ys[i]? = some y
  stop i H := ∃ xs ys : List V, SqT K H a xs ∧ SqT K H b ys ∧ i ≤ xs.length ∧ i ≤ ys.length ∧ (i = xs.length ∨ i = ys.length)
abbrev TwoAt (z TI TO i1 i2 a b : Addr) (i : Nat) (h : Heap) : Prop := IsZip h z TI TO .none ∧ IsTupOf2 h TI (.ref i1) (.ref i2) ∧ (∃ x y, IsTupOf2 h TO x y) ∧ h.IsTupleIter i1 a i ∧ h.IsTupleIter i2 b i
theorem mem5y {c z TI TO i1 i2 : Addr} (h : c ∈ [z, TI, TO, i1, i2]) : c = z ∨ c = TI ∨ c = TO ∨ c = i1 ∨ c = i2 := by simpa using h
theorem turn_two {P : Program} {w : World} {K : PySem.W.Frag} {elts : List Expr} {kk : Nat} {tpos : Pos} {a b z TI TO i1 i2 : Addr} (S : ZipSep2 z TI TO i1 i2 [i1, a] [i2, b]) (na : a ≠ i1) (nb : b ≠ i2) : Turn P w K (.Tuple elts kk tpos) (Ity K a b) [z, TI, TO, i1, i2] z (TwoAt z TI TO i1 i2 a b) := by
  have zi1 := S.zi1
  have zi2 := S.zi2
  refine ⟨by simp, ?_, ?_, ?_, ?_, fun A i s Q E st h => wpAny_pyIter_zip st.1 h⟩
  · intro i h st c hc
    obtain ⟨hz, hTI, ⟨x, y, hTO⟩, ⟨o1, e1, _, d1⟩, ⟨o2, e2, _, d2⟩⟩ := st
    rcases mem5y hc with rfl | rfl | rfl | rfl | rfl
    · exact ⟨_, hz, fun v q => nomatch q⟩
    · exact ⟨_, hTI, fun v q => nomatch q⟩
    · exact ⟨_, hTO, fun v q => nomatch q⟩
    · exact ⟨o1, e1, fun v q => by rw [d1] at q; cases q⟩
    · exact ⟨o2, e2, fun v q => by rw [d2] at q; cases q⟩
  · intro i h h' st k
    obtain ⟨hz, hTI, ⟨x, y, hTO⟩, h1, h2⟩ := st
    exact ⟨k z (by simp) _ hz, k TI (by simp) _ hTI, ⟨x, y, k TO (by simp) _ hTO⟩, h1.at fun o q => k i1 (by simp) o q, h2.at fun o q => k i2 (by simp) o q⟩
  · intro X hP hw hK hc i pins s σ H E I hf st hg
    cases hP
    cases hw
    cases hK
    obtain ⟨hz, hTI, ⟨x0, y0, hTO⟩, h1, h2⟩ := st
    obtain ⟨xs, ys, x, y, hqx, hqy, hx, hy⟩ := hg
    obtain ⟨its, rv, p, _⟩ := I.tuple hqx
    obtain ⟨its2, rv2, p2, _⟩ := I.tuple hqy
    obtain ⟨u, hu, ru⟩ := rv.get hx
    obtain ⟨u2, hu2, ru2⟩ := rv2.get hy
    have lt1 : i < its.toArray.size := by
      have := (List.getElem?_eq_some_iff.mp hu).1
      simpa using this
    have lt2 : i < its2.toArray.size := by
      have := (List.getElem?_eq_some_iff.mp hu2).1
      simpa using this
    have hd : X.A.in1.handled = none := I.ok.hd hc
    have hlz : z < s.heap.objs.size := Heap.lt_size hz
    refine wpAny_pyNext_zipD2_item S (Draws.tuple hd i1 a na its.toArray) (Draws.tuple hd i2 b nb its2.toArray) hz hTI hTO ⟨h1, show s.heap.IsTuple a its.toArray from p⟩ ⟨h2, show s.heap.IsTuple b its2.toArray from p2⟩ lt1 lt2 ?_
    intro w1 w2 h' tk g1 g2 z' TO' st1 st2 hT hsz hk
    have e1 : w1 = u := by
      have g1 : its.toArray[i]? = some w1 := g1
      have hu' : its.toArray[i]? = some u := by simpa using hu
      exact Option.some.inj (g1.symm.trans hu')
    have e2 : w2 = u2 := by
      have g2 : its2.toArray[i]? = some w2 := g2
      have hu' : its2.toArray[i]? = some u2 := by simpa using hu2
      exact Option.some.inj (g2.symm.trans hu')
    cases e1
    cases e2
    refine ⟨_, rfl, wpAny_letOwnedTupleGo_zip (s := { s with heap := h', toks := tk }) z' ?_⟩
    intro h2' z2' sb
    have far : s.heap.objs.size ≠ z := Nat.ne_of_gt hlz
    have lay : h2'.get? s.heap.objs.size = some { cls := .type "tuple", data := .seq #[u, u2] } := (sb.2 _ far).trans hT
    have okN : ObjOk X.prog X.w (upd H s.heap.objs.size (.tup [x, y])) h2' s.heap.objs.size (.tup [x, y]) := ⟨by show 2 ≤ sizeLine; decide, [u, u2], .cons ru (.cons ru2 .nil), ⟨_, lay, rfl, _, rfl⟩⟩
    have I2 : Inv X pins σ (upd H s.heap.objs.size (.tup [x, y])) { s with heap := h2', toks := tk } := by
      refine I.turnedNew (t' := tk) (ch := [z, TI, TO, i1, i2]) ?_ hf (Nat.le_refl _) okN
      intro c o hb q
      have n1 : c ≠ z := fun e => hb (by rw [e]; simp)
      have n2 : c ≠ TO := fun e => hb (by rw [e]; simp)
      have n3 : c ≠ i1 := fun e => hb (by rw [e]; simp)
      have n4 : c ≠ i2 := fun e => hb (by rw [e]; simp)
      exact (sb.2 c n1).trans (hk c o n1 n2 n3 n4 q)
    have wx : ∀ l, SqT X.K H a l → l[i]? = some x := fun l hl => by
      rw [I.tuple_inj hl hqx]
      exact hx
    have wy : ∀ l, SqT X.K H b l → l[i]? = some y := fun l hl => by
      rw [I.tuple_inj hl hqy]
      exact hy
    refine ⟨.ref s.heap.objs.size, _, I2, rfl, ⟨_, x, y, rfl, I.hok.fresh (Nat.le_refl _), rfl, wx, wy⟩, ⟨z2', ?_, ⟨u, u2, ?_⟩, ?_, ?_⟩, ?_⟩
    · exact (sb.2 _ S.TIz).trans (hk _ _ S.TIz S.TITO S.TIi1 S.TIi2 hTI)
    · exact (sb.2 _ S.TOz).trans TO'
    · exact st1.1.at fun o q => (sb.2 _ zi1.symm).trans q
    · exact st2.1.at fun o q => (sb.2 _ zi2.symm).trans q
    · intro c hcm
      have hlt : c < s.heap.objs.size := by
        rcases mem5y hcm with rfl | rfl | rfl | rfl | rfl
        · exact hlz
        · exact Heap.lt_size hTI
        · exact Heap.lt_size hTO
        · obtain ⟨_, e1, _⟩ := h1
          exact Heap.lt_size e1
        · obtain ⟨_, e2, _⟩ := h2
          exact Heap.lt_size e2
      rw [upd_ne (Nat.ne_of_lt hlt)]
      exact (hf c hcm).1
  · intro X hP hw hK hc i pins s σ H E I hf st hg
    cases hP
    cases hw
    cases hK
    obtain ⟨hz, hTI, ⟨x0, y0, hTO⟩, h1, h2⟩ := st
    obtain ⟨xs, ys, hqx, hqy, le1, le2, hend⟩ := hg
    obtain ⟨its, rv, p, _⟩ := I.tuple hqx
    obtain ⟨its2, rv2, p2, _⟩ := I.tuple hqy
    have hd : X.A.in1.handled = none := I.ok.hd hc
    have l1 : its.toArray.size = xs.length := by
      rw [List.size_toArray]
      exact rv.length.symm
    have l2 : its2.toArray.size = ys.length := by
      rw [List.size_toArray]
      exact rv2.length.symm
    refine wpAny_pyNext_zipD2_end S (Draws.tuple hd i1 a na its.toArray) (Draws.tuple hd i2 b nb its2.toArray) hz hTI hTO ⟨h1, show s.heap.IsTuple a its.toArray from p⟩ ⟨h2, show s.heap.IsTuple b its2.toArray from p2⟩ (by omega) (by omega) (by omega) ?_
    intro h' tk hk
    refine ⟨rfl, I.turnedL (t' := tk) (ch := [z, TI, TO, i1, i2]) ?_ hf⟩
    intro c o hb q
    exact hk c o (fun e => hb (by rw [e]; simp)) (fun e => hb (by rw [e]; simp)) (fun e => hb (by rw [e]; simp)) (fun e => hb (by rw [e]; simp)) q
/-- the walk over both -/
def iTwo (K : PySem.W.Frag) (ta : TA) : TI := fun σ H R => ta σ H fun vs H1 => ∃ a b xs ys, vs = [.ref a, .ref b] ∧ SqT K H1 a xs ∧ SqT K H1 b ys ∧ R (Ity K a b) H1
theorem new5y {N : Nat} {pins : List (Addr × Obj)} {X : Cx} {σ : L2.St} {H : Hp} {s : Shared} (I : Inv X pins σ H s) (hN : s.heap.objs.size = N) : ∀ c, c ∈ [N + 4, N + 2, N + 3, N, N + 1] → FpOk X pins H c := fun c hc => by
  have hle : s.heap.objs.size ≤ c := by
    rw [hN]
    rcases mem5y hc with rfl | rfl | rfl | rfl | rfl
    · exact Nat.le_add_right _ _
    · exact Nat.le_add_right _ _
    · exact Nat.le_add_right _ _
    · exact Nat.le_refl _
    · exact Nat.le_add_right _ _
  exact I.fpOk hle (I.hok.fresh hle)
theorem pi_two {X : Cx} {e e2 : Expr} {ta : TA} {p pos tpos : Pos} {elts : List Expr} {kk : Nat} (hg : Gl X "zip") (hm : X.mg "zip" = none) (ha : PA X [e, e2] ta) (hs : starEach [e, e2] X.env = (false, eval e X.env) :: starEach [e2] X.env) (hpl : (backTo pos (starEach [e2] X.env)).any (·.1) = false) :
    PI X (.Tuple elts kk tpos) (.Call (.Name "zip" p) [e, e2] [] pos) (iTwo X.K ta) := by
  constructor
  intro pins s σ H R I h
  refine Call_ (ld_blt I hg hm PyProof.Rows.boot_zip (PyProof.Rows.callWith_type1 (thn (ha.run pos pins s σ H _ I h) ?_) hs hpl))
  intro us s1 z
  obtain ⟨vs, H1, I1, r1, a, b, xs, ys, rfl, hqx, hqy, q⟩ := z
  cases r1 with
  | cons r rr =>
    cases rr with
    | cons r' rr =>
      cases rr
      cases r
      cases r'
      obtain ⟨its, rv, p1, _⟩ := I1.tuple hqx
      obtain ⟨its2, rv2, p2, _⟩ := I1.tuple hqy
      have la : a < s1.heap.objs.size := by
        obtain ⟨o2, ho2, _⟩ := id p1
        exact Heap.lt_size ho2
      have lb : b < s1.heap.objs.size := by
        obtain ⟨o2, ho2, _⟩ := id p2
        exact Heap.lt_size ho2
      refine zip_begins2 (begins_tuple a its.toArray) (begins_tuple b its2.toArray) (show s1.heap.IsTuple a its.toArray from p1) (show s1.heap.IsTuple b its2.toArray from p2) ?_
      intro h' hz hTI hTO g1 g2 hsz hk
      have I2 : Inv X pins σ H1 { s1 with heap := h' } := I1.kept (t' := s1.toks) hk
      have S : ZipSep2 (s1.heap.objs.size + 4) (s1.heap.objs.size + 2) (s1.heap.objs.size + 3) s1.heap.objs.size (s1.heap.objs.size + 1) [s1.heap.objs.size, a] [s1.heap.objs.size + 1, b] :=
        zip_sep2 (fp1 := [a]) (fp2 := [b]) (fun c hc => by rw [List.mem_singleton.mp hc]; exact la) (fun c hc => by rw [List.mem_singleton.mp hc]; exact lb)
      have na : a ≠ s1.heap.objs.size := Nat.ne_of_lt la
      have nb : b ≠ s1.heap.objs.size + 1 := Nat.ne_of_lt (Nat.lt_succ_of_lt lb)
      exact wpAny_pyIter_zip hz ⟨s1.heap.objs.size + 4, [s1.heap.objs.size + 4, s1.heap.objs.size + 2, s1.heap.objs.size + 3, s1.heap.objs.size, s1.heap.objs.size + 1], _, _, H1, rfl, I2, turn_two S na nb, ⟨hz, hTI, ⟨_, _, hTO⟩, ⟨_, g1, rfl, rfl⟩, ⟨_, g2, rfl, rfl⟩⟩, new5y I1 rfl, q⟩
def itY (a b : Ex) : DS.Itr := fun s => (a s).bind fun x s1 => (b s1).bind fun y s2 => match x, y with
  | .tup xs, .tup ys => .ok (zipL xs ys) s2
  | _, _ => .bad
section
variable {c : Cn} {M : Am} {ρ : List Addr} {H : Hp} {K : PySem.W.Frag}
theorem walk_y {a b : Addr} {xs ys : List D} {vs us : List V} (r : RDs c M ρ H xs vs) (r' : RDs c M ρ H ys us) (h : ∀ (g : Gr) (M1 : Am) (ρ1 : List Addr) (H1 : Hp), Keep g M ρ H M1 ρ1 H1 → SqT K H1 a vs)
    (h' : ∀ (g : Gr) (M1 : Am) (ρ1 : List Addr) (H1 : Hp), Keep g M ρ H M1 ρ1 H1 → SqT K H1 b us) : Walk c M ρ H (Ity K a b) (zipL xs ys) := by
  intro g M1 ρ1 H1 k dm
  have h1 := h g M1 ρ1 H1 k
  have h2 := h' g M1 ρ1 H1 k
  have ll := r.length
  have ll' := r'.length
  have lz := zipL_len xs ys
  refine ⟨⟨vs, us, h1, h2, by omega, by omega, by omega⟩, fun i d e => ?_⟩
  obtain ⟨x0, y0, e0, e1, rfl⟩ := zipL_get e
  obtain ⟨v, hv, hd⟩ := (r.keep k).get e0
  obtain ⟨u, hu, hd'⟩ := (r'.keep k).get e1
  refine ⟨⟨vs, us, v, u, h1, h2, hv, hu⟩, fun x H2 z => ?_⟩
  obtain ⟨T, x1, y1, ex, hT, e2, p, q⟩ := z
  cases ex
  cases e2
  have p := p vs h1
  have q := q us h2
  rw [hv] at p
  rw [hu] at q
  cases p
  cases q
  exact ⟨Ext.new hT, RD.newP (H' := H1) dm hT (.cons hd (.cons hd' .nil))⟩
end
section
variable {X : Cx} {c : Cn} {g : Gr} {W : WX} {k : Nat} {a b : Ex} {e e2 tg : Expr} {p pos tpos : Pos} {elts : List Expr} {kk : Nat}
theorem i_two (C : Cc X c W k) (hm : c.mg "zip" = none) (h : PE X e (tE c W a)) (h' : PE X e2 (tE c W b)) (hg : Gl X "zip" := by rfl) (hs : starEach [e, e2] X.env = (false, eval e X.env) :: starEach [e2] X.env := by rfl)
    (hs2 : starEach [e2] X.env = (false, eval e2 X.env) :: starEach [] X.env := by rfl) (hpl : (backTo pos (starEach [e2] X.env)).any (·.1) = false := by rfl) : PI X (.Tuple elts kk tpos) (.Call (.Name "zip" p) [e, e2] [] pos) (tI c W (itY a b)) :=
  pi_imp (pi_two hg (by rw [C.hm]; exact hm) (pa_cons h (pa_cons h' pa_nil hs2) hs) hs hpl) fun σ H Rk h => by
  obtain ⟨g, M, ρ, s, rel, h⟩ := h
  refine tE.bind (out := fun M ρ H r => OutI c g W M ρ σ H r Rk) rel (fun _ _ z => z) (fun z => z) h fun d s1 M1 ρ1 v H1 r1 k1 hd h1 => ?_
  refine tE.bind (out := fun M ρ H r => OutI c g W M ρ σ H r Rk) r1 (fun _ _ z => z) (fun z => z) (OutI.keep k1 h1) fun d' s2 M2 ρ2 v' H2 r2 k2 hd' h2 => ?_
  have h2 := OutI.keep k2 h2
  have hd := hd.keep k2
  rw [C.hK]
  have he : ∃ xs ys, d = .tup xs ∧ d' = .tup ys ∧ OutI c g W M2 ρ2 σ H2 (.ok (zipL xs ys) s2) Rk := by
    cases d <;> cases d' <;> first | exact h2.elim | skip
    exact ⟨_, _, rfl, rfl, h2⟩
  obtain ⟨xs, ys, rfl, rfl, h3⟩ := he
  obtain ⟨ad, vs, rfl, h4, h5⟩ := hd.sqt
  obtain ⟨ad', us, rfl, h6, h7⟩ := hd'.sqt
  exact ⟨ad, ad', vs, us, rfl, h5 g M2 ρ2 H2 (Keep.refl _ _ _ _), h7 g M2 ρ2 H2 (Keep.refl _ _ _ _), h3 M2 ρ2 _ H2 r2 (Keep.refl _ _ _ _) (walk_y h4 h6 h5 h7)⟩
end
end DS
/-! DS29: for i, x in enumerate(xs): y = e, xs a name's own list. -/
namespace DS
open PySem PySem.Spec PyProof.Rows L2
def forO (i : Nat) (t : Tg) (k : Nat) (f : Ex) : Sm := fun s => match s.env[i]? with
  | some (.ol xs) => match forL t (setS k f) (enumL 0 xs) ⟨s.env.set i .un, s.hp⟩ with
    | .ok .nx s2 => match s2.env[i]? with
      | some .un => .ok .nx ⟨s2.env.set i (.ol xs), s2.hp⟩
      | _ => .bad
    | .exc x s2 => .exc x s2
    | _ => .bad
  | _ => .bad
section
variable {X : Cx} {c : Cn} {g : Gr} {W : WX} {σ : L2.St} {H : Hp} {D : Ends} {i k : Nat} {t : Tg} {f : Ex} {vs : List Nat} {K : PySem.W.Frag}
theorem t_forO (hi : i ∉ vs) (hk : k ≠ i) (h : tS c W (forO i t k f) D σ H) : ∃ v, σ[i]? = some (some v) ∧ ∃ a xs, [v] = [V.ref a] ∧ SqL K H a xs ∧ ∃ W' : Nat → Nat → L2.St → Hp → Prop, (∃ m, W' 0 m σ H) ∧ ∀ j m σ H, W' j m σ H →
    ((Ite K a).stop j H ∧ D.nx σ H) ∨ ((Ite K a).go j H ∧ ∃ N : L2.St → Hp → Prop, (∀ σ' H', N σ' H' → ∃ m', m' < m ∧ W' (j + 1) m' σ' H') ∧ ∀ x H', (Ite K a).yld j H x H' → tG c W vs t x σ H' fun σ2 H2 => tE c W f σ2 H2 fun v H3 => N (σ2.set k (some v)) H3) := by
  obtain ⟨g, M, ρ, ⟨env, hp⟩, rel, h⟩ := h
  unfold forO at h
  cases q : env[i]? with
  | none => simp only [q] at h; exact h.elim
  | some sl =>
    cases sl <;> first | (simp only [q] at h; exact h.elim) | skip
    rename_i xs
    simp only [q] at h
    obtain ⟨a, h1, ⟨ws, h2, h3⟩, h4, h5, h6⟩ := rel.e.own i _ q rfl
    have hP := rel.e.pro i _ a q rfl h1
    have r0 := rel.unslot i
    have fr := Free.of_own rel q rfl h1
    have r1 : Rel c (g.hold a) M ρ ⟨env.set i .un, hp⟩ σ H := r0.hold fr
    refine ⟨.ref a, h1, a, ws, rfl, .inl (.inl h2), ?_⟩
    have hl : (enumL 0 xs).length = ws.length := by
      rw [← h3.length]
      exact enumL_len 0 xs
    refine ⟨fun j m σ' H' => m = ws.length - j ∧ j ≤ ws.length ∧ σ'[i]? = some (some (.ref a)) ∧ ∃ M' ρ' s', Rel c (g.hold a) M' ρ' s' σ' H' ∧ Keep (g.hold a) M ρ H M' ρ' H' ∧ OutS c g W M' ρ' H' (match forL t (setS k f) ((enumL 0 xs).drop j) s' with
        | .ok .nx s2 => match s2.env[i]? with
          | some .un => .ok .nx ⟨s2.env.set i (.ol xs), s2.hp⟩
          | _ => .bad
        | .exc x s2 => .exc x s2
        | _ => .bad) D, ⟨ws.length, by simp, Nat.zero_le _, h1, M, ρ, _, r1, Keep.refl _ _ _ _, h⟩, ?_⟩
    rintro j m σ' H' ⟨rfl, hj, hs, M', ρ', s', r, kk, h⟩
    have hH : H' a = some (.lst ws) := (kk.pr a (.inr rfl)).trans h2
    have hxs : RDs c M' ρ' H' xs ws := h3.keep kk
    by_cases hlt : j < ws.length
    · have hlt' : j < (enumL 0 xs).length := by rw [hl]; exact hlt
      rw [List.drop_eq_getElem_cons hlt'] at h
      have hxl : j < xs.length := by rw [h3.length]; exact hlt
      have he : (enumL 0 xs)[j] = .pr [.int (j : Nat), xs[j]] := by
        obtain ⟨x0, e0, e1⟩ := enumL_get (n := 0) (List.getElem?_eq_getElem hlt')
        rw [List.getElem?_eq_getElem hxl] at e0
        cases e0
        rw [e1, Nat.zero_add]
      obtain ⟨w, hw, hd⟩ := hxs.get (List.getElem?_eq_getElem hxl)
      refine .inr ⟨⟨ws, w, .inl (.inl hH), hw⟩, fun σ2 H2 => σ2[i]? = some (some (.ref a)) ∧ ∃ M' ρ' s', Rel c (g.hold a) M' ρ' s' σ2 H2 ∧ Keep (g.hold a) M ρ H M' ρ' H2 ∧ OutS c g W M' ρ' H2 (match forL t (setS k f) ((enumL 0 xs).drop (j + 1)) s' with
        | .ok .nx s2 => match s2.env[i]? with
          | some .un => .ok .nx ⟨s2.env.set i (.ol xs), s2.hp⟩
          | _ => .bad
        | .exc x s2 => .exc x s2
        | _ => .bad) D, fun σ2 H2 hN => ⟨_, by omega, rfl, hlt, hN⟩, fun x H2 y => ?_⟩
      obtain ⟨T, x1, rfl, hT, rfl, hx⟩ := y
      have hx1 := hx ws (.inl (.inl hH))
      rw [hw] at hx1
      cases hx1
      have e2 : Ext H' (upd H' T (.tup [.int (j : Nat), w])) := Ext.new hT
      have r2 := r.ext e2
      have k2 : Keep (g.hold a) M' ρ' H' M' ρ' (upd H' T (.tup [.int (j : Nat), w])) := r.kext e2
      have k2' : Keep g M' ρ' H' M' ρ' (upd H' T (.tup [.int (j : Nat), w])) := k2.unhold
      have h := OutS.keep k2' h
      rw [he] at h
      unfold forL at h
      cases q1 : t (.pr [.int (j : Nat), xs[j]]) s' with
      | none => simp only [q1] at h; exact h.elim
      | some s3 =>
        simp only [q1] at h
        refine ⟨g.hold a, M', ρ', s', _, s3, r2, RD.newP (H' := H') r.h.dom hT (.cons (.int _) (.cons hd .nil)), q1, fun M3 ρ3 σ3 H3 r3 k3 hwp => ?_⟩
        have hs3 : σ3[i]? = some (some (.ref a)) := (by rw [← wipe_out (σ := σ3) hi, hwp, wipe_out hi]; exact hs)
        have h := OutS.keep k3.unhold h
        refine ⟨g.hold a, M3, ρ3, s3, r3, ?_⟩
        unfold setS at h
        cases q2 : f s3 with
        | bad => simp only [q2] at h; exact h.elim
        | exc x s4 =>
          simp only [q2] at h
          exact fun M4 ρ4 H4 cls dd r4 k4 x4 => h M4 ρ4 σ3 H4 cls dd r4.unhold k4.unhold x4
        | ok d s4 =>
          simp only [q2, R.bind_ok] at h
          intro M4 ρ4 v H4 r4 k4 hv
          have r5 := r4.setv (i := k) hv
          refine ⟨by rw [List.getElem?_set_ne hk]; exact hs3, M4, ρ4, _, r5, ((kk.trans k2).trans k3).trans k4, OutS.keep k4.unhold h⟩
    · have e : j = ws.length := by omega
      subst e
      rw [← hl, List.drop_length] at h
      refine .inl ⟨⟨ws, .inl (.inl hH), Nat.le_refl _⟩, ?_⟩
      unfold forL at h
      simp only at h
      cases q1 : s'.env[i]? with
      | none => rw [q1] at h; exact h.elim
      | some sl =>
        rw [q1] at h
        cases sl <;> first | exact h.elim | skip
        have f2 := r.free h6 hP
        have r2 := r.unhold
        have r3 := r2.setown (i := i) f2 (sl := .ol xs) rfl ⟨ws, hH, hxs⟩
        rw [set_self hs] at r3
        exact h M' ρ' σ' H' r3 (Keep.refl _ _ _ _)
end
section
variable {X : Cx} {c : Cn} {g : Gr} {W : WX} {kk : Nat} {i k : Nat} {t : Tg} {f : Ex} {vs : List Nat} {e : Expr} {x y : Str} {elts : List Expr} {ke : Nat} {p pn pos tpos pos2 pos3 posy : Pos}
theorem s_forO (C : Cc X c W kk) (hp : PassesOwn (model X.prog X.w) X.A X.env X.xe) (hm : c.mg "enumerate" = none) (i k : Nat) (hgt : PG X (.Tuple elts ke tpos) (tG c W vs t)) (he : PE X e (tE c W f)) (hiv : i ∉ vs := by decide) (hki : k ≠ i := by decide)
    (hN : X.N[i]? = some x := by rfl) (hv : Vis X.env.scope x := by first | exact Or.inl rfl | exact Or.inr (Or.inl rfl) | exact Or.inr (Or.inr rfl)) (hd : (x == ("__debug__" : Str)) = false := by decide) (hcd : (x == ("__classdict__" : Str)) = false := by decide)
    (hNk : X.N[k]? = some y := by rfl) (hx : Loc X.env.scope y := by first | exact Or.inl rfl | exact Or.inr rfl) (hs : swapsWith e (some (.Name y posy)) pos2.line X.env = pure false := by rfl)
    (hf : X.fn y = true ∨ X.env.scope.names.lookup y = some .local := by first | exact .inl rfl | exact .inr rfl) (hg : Gl X "enumerate" := by rfl) (hst : starEach [.Name x pn] X.env = [(false, eval (.Name x pn) X.env)] := by rfl) (hfo : ∀ z, foldedSetIterable (.Call (.Name "enumerate" p) [.Name x pn] [] pos) X.env z = pure z := by intro _; rfl) :
    PS X (.For (.Tuple elts ke tpos) (.Call (.Name "enumerate" p) [.Name x pn] [] pos) [.Assign [.Name y posy] e pos2] [] pos3) (tS c W (forO i t k f)) :=
  ps_imp (ps_for hp C.hc (pi_enum hg (by rw [C.hm]; exact hm) (pa_cons (pe_var hN hv hd hcd) pa_nil hst) hst) hgt (pss_one (ps_set C.nd hNk hx he hs hf)) hfo) fun D σ H h => t_forO hiv hki h
end
end DS
/-! DS30: raise X(), try: .. except X as e: y = isinstance(e, T). -/
namespace DS
open PySem PySem.Spec PyProof.Rows L2
/-- a class of the text over ValueError, without an __init__ -/
structure ExK (K : PySem.W.Frag) (mg : Str → Option Value) (n : Str) (C : Addr) : Prop where
  g : mg n = some (.ref C)
  x : PySem.W.excIn K C [.type "ValueError", .type "Exception", .type "BaseException", .type "object"] "ValueError.__new__" = true
  k : PySem.W.keepIn K (.ref C) = true
  b : PySem.W.subIn K (.ref C) (.type "BaseException") = some true
  t : PySem.W.typeIn K (.ref C) = some (.type "type")
  s : PySem.W.subIn K (.ref C) (.ref C) = some true
  e : ExcC K C
section
variable {X : Cx} {c : Cn} {g : Gr} {W : WX} {k : Nat} {n : Str} {C0 : Addr} {p pos pos2 : Pos}
/-- X() -/
theorem pmk_own0 {C : Addr} {bmB : List Value} {B newId initId : String} {x : Str} (F : ExcBaseFacts B newId initId bmB) (q : PySem.W.excIn X.K C bmB newId = true) (gC : X.mg x = some (.ref C)) (kC : PySem.W.keepIn X.K (.ref C) = true) (r : Raises X (.ref C)) (hg : Gl X x)
    (hdb : (x == ("__debug__" : Str)) = false := by decide) : PMk X (.Call (.Name x p) [] [] pos) (fun _ H Q => Q (.ref C) none H) := by
  intro pins s σ H Q I h
  refine wpAny_Call_Name_kw (ld_glob I hg gC ?_ hdb)
  refine PySem.W.callWith_K0 I.kIn kC ?_
  obtain ⟨bm, N, nm, qn, bs, hdct, sn, sub, ab, col, dd, k0, k1, k2, k3, k5, mN, hC, hN, hni, T⟩ := exc_obj I.kIn q
  refine wpAny_call_exc_subT F T hC hN hni (fun h' e hm => ?_) (by show 0 ≤ sizeLine; exact Nat.zero_le _)
  exact mk_of I hm r h (I.hok.gone hm.new)
def raiS (n : Str) : Sm := fun s => .exc ⟨n, none⟩ s
theorem s_rai (C : Cc X c W k) (E : ExK c.K c.mg n C0) (hg : Gl X n := by rfl) (hdb : (n == ("__debug__" : Str)) = false := by decide) : PS X (.Raise (some (.Call (.Name n p) [] [] pos)) none pos2) (tS c W (raiS n)) := by
  have hx : PySem.W.excIn X.K C0 [.type "ValueError", .type "Exception", .type "BaseException", .type "object"] "ValueError.__new__" = true := by rw [C.hK]; exact E.x
  refine ps_imp (ps_raise C.hc C.tk (pmk_own0 PySem.F.excBase_ValueError hx (by rw [C.hm]; exact E.g) (by rw [C.hK]; exact E.k) (raises_own (by rw [C.hK]; exact E.b) (by rw [C.hK]; exact E.t)) hg hdb)) fun D σ H h => ?_
  obtain ⟨g, M, ρ, s, rel, h⟩ := h
  exact h M ρ σ H (.ref C0) none rel (Keep.refl _ _ _ _) ⟨rfl, rfl, C0, rfl, E.g⟩
end
/-! ### what an except suite asks of its exception -/
/-- the expression is that truth, where slot i holds the exception -/
def HB (X : Cx) (i : Nat) (a : Addr) (he : Expr) (b : Bool) : Prop := ∃ te, PE X he te ∧ ∀ σ H Q, σ[i]? = some (some (.ref a)) → Q (.bl b) H → te σ H Q
/-- facts of the class, for the suite -/
def KitB (K : PySem.W.Frag) (mg : Str → Option Value) (D : Addr) (t : Str) (b : Bool) : Prop := ∃ (v : V) (cv : Value), (∀ u, RelV v u → u = cv) ∧ RelV v cv ∧ PySem.W.kitOne K (.ref D) cv = some b ∧ (mg t = some cv ∨ (mg t = none ∧ bootBuiltins t = some cv ∧ t ≠ "__name__"))
section
variable {X : Cx} {i : Nat} {a D : Addr} {oe : Obj} {pn : List (Addr × Obj)} {n t : Str} {p p1 p2 pos : Pos} {b b' : Bool}
theorem kit_bt {K : PySem.W.Frag} {mg : Str → Option Value} {D : Addr} {t : Str} {T : String} (hm : mg t = none) (hb : bootBuiltins t = some (.type T)) (hk : PySem.W.kitOne K (.ref D) (.type T) = some b) (hn : t ≠ "__name__" := by decide) : KitB K mg D t b :=
  ⟨.ty T, .type T, fun u r => r, rfl, hk, .inr ⟨hm, hb, hn⟩⟩
theorem kit_cl {K : PySem.W.Frag} {mg : Str → Option Value} {D C : Addr} {t : Str} (hm : mg t = some (.ref C)) (hk : PySem.W.kitOne K (.ref D) (.ref C) = some b) : KitB K mg D t b :=
  ⟨.ref C, .ref C, fun u r => r, rfl, hk, .inl hm⟩
theorem hb_isi (C : ExcC X.K D) (hz : Zc (.ref D) none oe) (hf : ∃ vs, oe.data = .fields vs) (kb : KitB X.K X.mg D t b) (hmi : X.mg "isinstance" = none) (hN : X.N[i]? = some n := by rfl) (hv : Vis X.env.scope n := by first | exact Or.inl rfl | exact Or.inr (Or.inl rfl) | exact Or.inr (Or.inr rfl))
    (hd : (n == ("__debug__" : Str)) = false := by decide) (hcd : (n == ("__classdict__" : Str)) = false := by decide) (hg : Gl X "isinstance" := by rfl) (hgt : Gl X t := by rfl) (hdt : (t == ("__debug__" : Str)) = false := by decide)
    (hs : starEach [.Name n p1, .Name t p2] X.env = (false, eval (.Name n p1) X.env) :: starEach [.Name t p2] X.env := by rfl) (hs2 : starEach [.Name t p2] X.env = (false, eval (.Name t p2) X.env) :: starEach [] X.env := by rfl) (hpl : (backTo pos (starEach [.Name t p2] X.env)).any (·.1) = false := by rfl) :
    HB (X.suite a ((a, oe) :: pn)) i a (.Call (.Name "isinstance" p) [.Name n p1, .Name t p2] [] pos) b := by
  obtain ⟨v, cv, h1, h2, h3, h4⟩ := kb
  have pt : PE (X.suite a ((a, oe) :: pn)) (.Name t p2) (tC v) := by
    rcases h4 with h4 | ⟨h4, h5, h6⟩
    · exact pe_glob hgt h4 h2 hdt
    · exact pe_bltn hgt h4 h5 h2 h6 hdt
  refine ⟨_, pe_callB (X := X.suite a ((a, oe) :: pn)) (call_isE C hz hf) hg hmi (by first | rfl | decide +kernel) (pa_cons (pe_var (i := i) hN hv hd hcd) (pa_cons pt pa_nil hs2) hs) (by decide) (by decide) hs hpl, fun σ H Q hσ hq => ?_⟩
  exact ⟨.ref a, hσ, v, cv, b, rfl, h1, h3, hq⟩
theorem hb_not {e : Expr} (h : HB X i a e b) : HB X i a (.UnaryOp .Not e pos) (!b) := by
  obtain ⟨te, h1, h2⟩ := h
  exact ⟨_, pe_not h1, fun σ H Q hσ hq => h2 σ H _ hσ ⟨b, rfl, hq⟩⟩
theorem hb_one {e : Expr} (h : HB X i a e b) : HB X i a (.BoolOp .And [e] pos) b := by
  obtain ⟨te, h1, h2⟩ := h
  exact ⟨te, pe_one h1, h2⟩
theorem hb_and {e f : Expr} {r : List Expr} (h : HB X i a e true) (h' : HB X i a (.BoolOp .And (f :: r) pos) b) : HB X i a (.BoolOp .And (e :: f :: r) pos) b := by
  obtain ⟨te, h1, h2⟩ := h
  obtain ⟨tf, h3, h4⟩ := h'
  exact ⟨_, pe_and h1 h3, fun σ H Q hσ hq => h2 σ H _ hσ ⟨true, rfl, h4 σ H _ hσ hq⟩⟩
theorem hb_cst {j} : HB X i a (.Constant (.bool b) j pos) b := ⟨_, pe_bl, fun σ H Q _ hq => hq⟩
end
/-! ### try -/
theorem Rel.free_at {c : Cn} {g : Gr} {M : Am} {ρ : List Addr} {env : Env} {hp : List Ob} {σ : L2.St} {H : Hp} {i : Nat} {x : Option V} (r : Rel c g M ρ ⟨env.set i .un, hp⟩ σ H) : Rel c g M ρ ⟨env.set i .un, hp⟩ (σ.set i x) H := by
  have no : ∀ {j : Nat} {sl : Slot}, (env.set i .un)[j]? = some sl → sl ≠ .un → j ≠ i := fun {j sl} h n e => by
    subst e
    rcases get_set_some h with ⟨_, e2, _⟩ | ⟨ne, _⟩
    · exact n e2
    · exact ne rfl
  have ow : ∀ {sl : Slot}, sl.isOwn = true → sl ≠ .un := fun {sl} h e => by subst e; cases h
  refine ⟨r.h, r.gd, ⟨by rw [r.e.len, List.length_set], fun j d h => ?_, fun j sl h o => ?_, fun j sl b h o e => ?_, fun j k sl sl' b h o h' o' e e' => ?_⟩⟩
  · obtain ⟨v, h1, h2⟩ := r.e.val j d h
    exact ⟨v, by rw [get_set_ne (no h (by simp))]; exact h1, h2⟩
  · obtain ⟨a, h1, h2⟩ := r.e.own j sl h o
    exact ⟨a, by rw [get_set_ne (no h (ow o))]; exact h1, h2⟩
  · rw [get_set_ne (no h (ow o))] at e
    exact r.e.pro j sl b h o e
  · rw [get_set_ne (no h (ow o))] at e
    rw [get_set_ne (no h' (ow o'))] at e'
    exact r.e.sep j k sl sl' b h o h' o' e e'
def tryA (n : Str) (i k : Nat) (b : Bool) (body : Sm) : Sm := fun s => match body s with
  | .exc x s1 => if x.cls = n then (match s1.env[i]? with
    | some _ => .ok .nx ⟨(s1.env.set i .un).set k (.v (.bl b)), s1.hp⟩
    | none => .bad) else .bad
  | r => r
/-- xs.append(..), xs a name's own list -/
def tryP (n : Str) (i k : Nat) (b : Bool) (body : Sm) : Sm := fun s => match body s with
  | .exc x s1 => if x.cls = n then (match s1.env[i]?, s1.env[k]? with
    | some _, some (.ol xs) => if xs.length < LIM then .ok .nx ⟨(s1.env.set i .un).set k (.ol (xs ++ [.bl b])), s1.hp⟩ else .bad
    | _, _ => .bad) else .bad
  | r => r
theorem Cc.tr {X : Cx} {c : Cn} {W W' : WX} {k : Nat} {pn : List (Addr × Obj)} {xe : Value → Shared → Prop} (C : Cc X c W k) (tk : Takes (X.tr pn xe) W') : Cc (X.tr pn xe) c W' k := ⟨C.hK, C.hm, tk, C.rm, C.hc, C.nd, C.hw⟩
section
variable {X : Cx} {c : Cn} {g : Gr} {W : WX} {k0 i k : Nat} {n en y : Str} {C0 : Addr} {body : List Stmt} {f : Sm} {b : Bool} {he : Expr} {np posy pos1 pos2 pos3 apos cpos : Pos}
theorem s_tryA (C : Cc X c W k0) (E : ExK c.K c.mg n C0) (i k : Nat) (hs : X.stack = X.env :: X.outer := by rfl) (hf : X.env.frame = some X.env.locals := by rfl) (hi : X.N[i]? = some en := by rfl) (hln : X.env.kindOf en = some .local := by rfl)
    (hb : ∀ (W' : WX) (pn : List (Addr × Obj)) (xe : Value → Shared → Prop), Cc (X.tr pn xe) c W' k0 → PassesOwn (model X.prog X.w) X.A X.env xe → PSs (X.tr pn xe) body (tS c W' f))
    (hh : ∀ (a : Addr) (oe : Obj) (pn : List (Addr × Obj)), Zc (.ref C0) none oe → (∃ vs, oe.data = .fields vs) → HB (X.suite a ((a, oe) :: pn)) i a he b)
    (hg : Gl X n := by rfl) (hdb : (n == ("__debug__" : Str)) = false := by decide)
    (hk : X.N[k]? = some y := by rfl) (hx : Loc X.env.scope y := by first | exact Or.inl rfl | exact Or.inr rfl) (hsw : swapsWith he (some (.Name y posy)) pos1.line X.env = pure false := by rfl)
    (hfn : X.fn y = true ∨ X.env.scope.names.lookup y = some .local := by first | exact .inl rfl | exact .inr rfl) (hik : k ≠ i := by decide) :
    PS X (.Try body [.ExceptHandler (some (.Name n np)) (some en) [.Assign [.Name y posy] he pos1] pos2] [] [] pos3) (tS c W (tryA n i k b f)) := by
  let ts : Addr → Value → Option Addr → TS := fun a cls d D σ H => cls = .ref C0 ∧ d = none ∧ σ[i]? = some (some (.ref a)) ∧ D.nx (σ.set k (some (.bl b))) H
  refine ps_imp (ps_try_as (ts := ts) (c := .ref C0) (i := i) hs hf C.nd hi hln ⟨hg, hdb, .inl (by rw [C.hm]; exact E.g)⟩ C.tk (fun W' pn xe tk pass => hb W' pn xe (C.tr tk) pass) (fun a oe cls d pn hz hfl => ?_)) fun D σ H h => ?_
  · refine ⟨fun pins s σ H D I h => ?_⟩
    obtain ⟨rfl, rfl, h1, h2⟩ := h
    obtain ⟨te, p1, p2⟩ := hh a oe pn hz hfl
    have ps := pss_one (ps_set (X := X.suite a ((a, oe) :: pn)) (pos := pos1) C.nd hk hx p1 hsw hfn)
    exact ps.run pins s σ H D I (p2 σ H _ h1 h2)
  · obtain ⟨g, M, ρ, s, rel, h⟩ := h
    refine ⟨g, M, ρ, s, rel, ?_⟩
    unfold tryA at h
    cases q : f s with
    | bad => rw [q] at h; exact h.elim
    | ok fl s1 =>
      rw [q] at h
      cases fl <;> exact h
    | exc x s1 =>
      rw [q] at h
      simp only at h
      split at h
      · rename_i hxn
        cases q2 : s1.env[i]? with
        | none => rw [q2] at h; exact h.elim
        | some sl0 =>
          rw [q2] at h
          simp only at h
          intro M' ρ' σ' H' cls dd r k' hx'
          obtain ⟨x1, x2, C1, x3, x4⟩ := hx'
          rw [hxn, E.g] at x4
          cases x4
          subst x2 x3
          have em : PySem.W.exmOne X.K (.ref C0) (.ref C0) = some true := by rw [C.hK]; exact PySem.W.exm_ref E.b E.e.hd E.t E.s
          have hl : i < σ'.length := by
            rw [← r.e.len]
            exact (List.getElem?_eq_some_iff.mp q2).1
          refine ⟨true, em, fun _ a na => ⟨rfl, rfl, List.getElem?_set_self hl, ?_⟩, fun z => absurd z (by decide)⟩
          have r1 := (r.unslot i).free_at (x := some (.ref a))
          have r2 := r1.setv (i := k) (RD.bl b)
          rw [List.set_comm Slot.un (Slot.v (.bl b)) (Ne.symm hik)] at r2
          have r3 := r2.free_at (x := none)
          rw [List.set_comm (Slot.v (.bl b)) Slot.un hik] at r3
          exact h M' ρ' _ H' r3 k'
      · exact h.elim
/-- ys.append(isinstance(..)) behind except X as e -/
theorem s_tryP (C : Cc X c W k0) (E : ExK c.K c.mg n C0) (i k : Nat) (hs : X.stack = X.env :: X.outer := by rfl) (hf : X.env.frame = some X.env.locals := by rfl) (hi : X.N[i]? = some en := by rfl) (hln : X.env.kindOf en = some .local := by rfl)
    (hb : ∀ (W' : WX) (pn : List (Addr × Obj)) (xe : Value → Shared → Prop), Cc (X.tr pn xe) c W' k0 → PassesOwn (model X.prog X.w) X.A X.env xe → PSs (X.tr pn xe) body (tS c W' f))
    (hh : ∀ (a : Addr) (oe : Obj) (pn : List (Addr × Obj)), Zc (.ref C0) none oe → (∃ vs, oe.data = .fields vs) → HB (X.suite a ((a, oe) :: pn)) i a he b)
    (hg : Gl X n := by rfl) (hdb : (n == ("__debug__" : Str)) = false := by decide)
    (hk : X.N[k]? = some y := by rfl) (hv : Vis X.env.scope y := by first | exact Or.inl rfl | exact Or.inr (Or.inl rfl) | exact Or.inr (Or.inr rfl)) (hd : (y == ("__debug__" : Str)) = false := by decide) (hcd : (y == ("__classdict__" : Str)) = false := by decide)
    (hbase : attributeBase (.Name y posy) "append" X.env (eval (.Name y posy) X.env) = eval (.Name y posy) X.env := by rfl)
    (hline : (apos.endLine == cpos.line) = true := by rfl) (hst : starEach [he] X.env = (false, eval he X.env) :: starEach [] X.env := by rfl)
    (hfew : ((backTo cpos (starEach [he] X.env)).all (fun x => !x.1) && (backToKw cpos (keywordEach [] X.env)).all (fun x => x.1.isSome)
      && decide ([he].length + ([] : List Keyword).length + (if ([] : List Keyword).isEmpty then 0 else 1) < 30)) = true := by rfl)
    (hsw : swapsWith (.Call (.Attribute (.Name y posy) "append" apos) [he] [] cpos) none pos1.line X.env = pure false := by rfl) (hik : k ≠ i := by decide) :
    PS X (.Try body [.ExceptHandler (some (.Name n np)) (some en) [.Expr (.Call (.Attribute (.Name y posy) "append" apos) [he] [] cpos) pos1] pos2] [] [] pos3) (tS c W (tryP n i k b f)) := by
  let ts : Addr → Value → Option Addr → TS := fun a cls d D σ H => cls = .ref C0 ∧ d = none ∧ σ[i]? = some (some (.ref a)) ∧ ∃ l vs, σ[k]? = some (some (.ref l)) ∧ H l = some (.lst vs) ∧ vs.length < LIM ∧ D.nx σ (upd H l (.lst (vs ++ [.bl b])))
  refine ps_imp (ps_try_as (ts := ts) (c := .ref C0) (i := i) hs hf C.nd hi hln ⟨hg, hdb, .inl (by rw [C.hm]; exact E.g)⟩ C.tk (fun W' pn xe tk pass => hb W' pn xe (C.tr tk) pass) (fun a oe cls d pn hz hfl => ?_)) fun D σ H h => ?_
  · refine ⟨fun pins s σ H D I h => ?_⟩
    obtain ⟨rfl, rfl, h1, l, vs, h2, h3, h4, h5⟩ := h
    obtain ⟨te, p1, p2⟩ := hh a oe pn hz hfl
    have pv := pe_var (pos := posy) (X := X.suite a ((a, oe) :: pn)) (i := k) hk hv hd hcd
    have pb := pe_bm (X := X.suite a ((a, oe) :: pn)) (cpos := cpos) (apos := apos) PySem.F.plainAttrs_list PySem.F.slot_list_append PySem.F.type_list_append mt_append pv (pa_cons p1 pa_nil hst) hbase hfew hline hst
    have ps := pss_one (ps_expr (X := X.suite a ((a, oe) :: pn)) (pos := pos1) pb hsw)
    refine ps.run pins s σ H D I ⟨.ref l, h2, ?_⟩
    exact ⟨.inl ⟨rfl, vs, .inl (.inl h3)⟩, p2 σ H _ h1 ⟨l, vs, .bl b, rfl, rfl, h3, h4, h5⟩⟩
  · obtain ⟨g, M, ρ, s, rel, h⟩ := h
    refine ⟨g, M, ρ, s, rel, ?_⟩
    unfold tryP at h
    cases q : f s with
    | bad => rw [q] at h; exact h.elim
    | ok fl s1 =>
      rw [q] at h
      cases fl <;> exact h
    | exc x s1 =>
      rw [q] at h
      simp only at h
      split at h
      · rename_i hxn
        cases q2 : s1.env[i]? with
        | none => simp only [q2] at h; exact h.elim
        | some sl0 =>
          cases q3 : s1.env[k]? with
          | none => simp only [q2, q3] at h; exact h.elim
          | some sl1 =>
            cases sl1 with
            | un => simp only [q2, q3] at h; exact h.elim
            | v d => simp only [q2, q3] at h; exact h.elim
            | od a1 a2 a3 => simp only [q2, q3] at h; exact h.elim
            | ol xs =>
              simp only [q2, q3] at h
              split at h
              · rename_i hlim
                intro M' ρ' σ' H' cls dd r k' hx'
                obtain ⟨x1, x2, C1, x3, x4⟩ := hx'
                rw [hxn, E.g] at x4
                cases x4
                subst x2 x3
                have em : PySem.W.exmOne X.K (.ref C0) (.ref C0) = some true := by rw [C.hK]; exact PySem.W.exm_ref E.b E.e.hd E.t E.s
                have hl : i < σ'.length := by
                  rw [← r.e.len]
                  exact (List.getElem?_eq_some_iff.mp q2).1
                have r1 := (r.unslot i).free_at (x := none)
                have e1 : (s1.env.set i Slot.un)[k]? = some (.ol xs) := by rw [get_set_ne hik]; exact q3
                refine ⟨true, em, fun _ a na => ?_, fun z => absurd z (by decide)⟩
                have r1 := (r.unslot i).free_at (x := some (.ref a))
                obtain ⟨l, g1, ⟨vs, g2, g3⟩, g4, g5, g6⟩ := r1.e.own k _ e1 rfl
                refine ⟨rfl, rfl, List.getElem?_set_self hl, l, vs, g1, g2, by rw [← g3.length]; exact hlim, ?_⟩
                have kk : Keep g M' ρ' H' M' ρ' (upd H' l (.lst (vs ++ [.bl b]))) := keep_mut g4 (r1.e.pro k _ l e1 rfl g1)
                have r2 := r1.mutown e1 rfl g1 (sl' := .ol (xs ++ [.bl b])) (o := .lst (vs ++ [.bl b])) rfl rfl ⟨_, upd_same, (g3.append (.cons (.bl b) .nil)).keep kk⟩
                rw [List.set_comm Slot.un (Slot.ol (xs ++ [DS.D.bl b])) (Ne.symm hik)] at r2
                have r3 := r2.free_at (x := none)
                rw [List.set_comm (Slot.ol (xs ++ [DS.D.bl b])) Slot.un hik] at r3
                exact h M' ρ' _ _ r3 (k'.trans kk)
              · exact h.elim
      · exact h.elim
end
end DS
/-! DS31: dicts by ints and texts: k in d, d[k], d[k] = v, displays, len. -/
namespace DS
open PySem PySem.Spec PyProof.Rows L2
def keyK : D → Option Key
  | .int i => some (.inl i)
  | .str x => some (.inr x)
  | _ => none
def eqK : D → Key → Bool
  | .int i, .inl j => decide (i = j)
  | .str x, .inr y => decide (x = y)
  | _, _ => false
def getK : List D → List D → Key → Option D
  | k :: ks, v :: vs, x => if eqK k x = true then some v else getK ks vs x
  | _, _, _ => none
def repK : List D → List D → Key → D → List D
  | k :: ks, v :: vs, x, d => (if eqK k x = true then d else v) :: repK ks vs x d
  | _, _, _, _ => []
def putKD (ks vs : List D) (x : Key) (d : D) : List D × List D := if ks.any (fun k => eqK k x) = true then (ks, repK ks vs x d) else (ks ++ [keyD x], vs ++ [d])
theorem eqK_key (k x : Key) : eqK (keyD k) x = decide (k = x) := by
  cases k <;> cases x <;> simp [keyD, eqK]
section
variable {c : Cn} {M : Am} {ρ : List Addr} {H : Hp}
theorem RW.key {d : D} {v : V} {k : Key} (h : RW c M ρ H d v) (e : keyK d = some k) : v = kV k := by
  cases h with
  | v h n =>
    cases h <;> first | (cases e; rfl) | cases e
  | l h r => cases e
  | d h => cases e
theorem RD.key {d : D} {v : V} {k : Key} (h : RD c M ρ H d v) (e : keyK d = some k) : v = kV k ∧ d = keyD k := by
  cases h <;> first | (cases e; exact ⟨rfl, rfl⟩) | cases e
theorem getK_val (x : Key) : ∀ {kvs : List (Key × V)} {vs : List D}, RDs c M ρ H vs (kvs.map (·.2)) → (∃ v d, valV kvs x = some v ∧ getK (kvs.map fun p => keyD p.1) vs x = some d ∧ RD c M ρ H d v) ∨ (valV kvs x = none ∧ getK (kvs.map fun p => keyD p.1) vs x = none)
  | [], vs, r => .inr ⟨rfl, rfl⟩
  | p :: kvs, vs, r => by
    rw [List.map_cons] at r
    cases r with
    | cons h t =>
      rw [List.map_cons]
      unfold getK
      rw [eqK_key]
      by_cases q : p.1 = x
      · rw [valV_pos q, if_pos (decide_eq_true q)]
        exact .inl ⟨_, _, rfl, rfl, h⟩
      · rw [valV_neg q, if_neg (by rw [decide_eq_false q]; decide)]
        exact getK_val x t
theorem repK_val (x : Key) {d : D} {w : V} (hd : RD c M ρ H d w) : ∀ {kvs : List (Key × V)} {vs : List D}, RDs c M ρ H vs (kvs.map (·.2)) → RDs c M ρ H (repK (kvs.map fun p => keyD p.1) vs x d) ((kvs.map fun kv => if kv.1 = x then (kv.1, w) else kv).map (·.2))
  | [], vs, r => by
    cases r
    exact .nil
  | p :: kvs, vs, r => by
    rw [List.map_cons] at r
    cases r with
    | cons h t =>
      rw [List.map_cons, List.map_cons, List.map_cons]
      unfold repK
      rw [eqK_key]
      refine .cons ?_ (repK_val x hd t)
      by_cases q : p.1 = x
      · rw [if_pos (decide_eq_true q), if_pos q]
        exact hd
      · rw [if_neg (by rw [decide_eq_false q]; decide), if_neg q]
        exact h
theorem rds_append : ∀ {as : List D} {xs : List V} {bs : List D} {ys : List V}, RDs c M ρ H as xs → RDs c M ρ H bs ys → RDs c M ρ H (as ++ bs) (xs ++ ys)
  | _, _, _, _, .nil, r => r
  | _, _, _, _, .cons h t, r => .cons h (rds_append t r)
theorem any_key (x : Key) : ∀ (kvs : List (Key × V)), ((kvs.map fun p => keyD p.1).any fun k => eqK k x) = kvs.any fun kv => decide (kv.1 = x)
  | [] => rfl
  | p :: kvs => by rw [List.map_cons, List.any_cons, List.any_cons, any_key x kvs, eqK_key]
theorem map_rep_fst (x : Key) (w : V) : ∀ (kvs : List (Key × V)), (kvs.map fun kv => if kv.1 = x then (kv.1, w) else kv).map (fun p => keyD p.1) = kvs.map fun p => keyD p.1
  | [] => rfl
  | p :: kvs => by
    rw [List.map_cons, List.map_cons, List.map_cons, map_rep_fst x w kvs]
    by_cases q : p.1 = x
    · rw [if_pos q]
    · rw [if_neg q]
theorem putK_val (x : Key) {d : D} {w : V} (hd : RD c M ρ H d w) {kvs : List (Key × V)} {vs : List D} (r : RDs c M ρ H vs (kvs.map (·.2))) :
    (putKD (kvs.map fun p => keyD p.1) vs x d).1 = (putK kvs x w).map (fun p => keyD p.1) ∧ RDs c M ρ H (putKD (kvs.map fun p => keyD p.1) vs x d).2 ((putK kvs x w).map (·.2)) := by
  unfold putKD putK
  rw [any_key]
  by_cases q : (kvs.any fun kv => decide (kv.1 = x)) = true
  · rw [if_pos q, if_pos q]
    exact ⟨(map_rep_fst x w kvs).symm, repK_val x hd r⟩
  · rw [if_neg q, if_neg q, List.map_append, List.map_append]
    exact ⟨rfl, rds_append r (.cons hd .nil)⟩
end
section
variable {X : Cx} {c : Cn}
def rHasK (f : Bool → Bool) : R2 := fun x y H Q => ∃ a kvs k, y = .ref a ∧ H a = some (.dK kvs) ∧ x = kV k ∧ Q (.bl (f (valV kvs k).isSome)) H
theorem op_inK (hu : X.A.units + 9 < cLine) : OpR X (compareOp .In) (rHasK id) := by
  intro pins s σ H x y v u Q I rx ry ⟨a, kvs, k, e1, h, e2, q⟩
  subst e1 e2
  cases ry
  exact d_in (by omega) I (DGet.k h) rx fun s' I' => ⟨.bl _, H, I', rfl, q⟩
theorem op_ninK (hu : X.A.units + 9 < cLine) : OpR X (compareOp .NotIn) (rHasK not) := by
  intro pins s σ H x y v u Q I rx ry ⟨a, kvs, k, e1, h, e2, q⟩
  subst e1 e2
  cases ry
  exact d_notIn (by omega) I (DGet.k h) rx fun s' I' => ⟨.bl _, H, I', rfl, q⟩
def hasK (f : Bool → Bool) (x y : D) : Option D := (keyK x).bind fun k => match y with
  | .dct false ks vs => some (.bl (f (getK ks vs k).isSome))
  | _ => none
theorem v_hasK (f : Bool → Bool) : V2 c (rHasK f) (hasK f) := by
  intro M ρ H x y e v u Q d hx hy hF q
  unfold hasK at hF
  obtain ⟨k, h1, h2⟩ := Option.bind_eq_some_iff.mp hF
  split at h2
  · rename_i ks vs
    cases h2
    obtain ⟨a, rfl, kvs, h3, rfl, h5⟩ := hy.dct
    refine ⟨a, kvs, k, rfl, h3, hx.key h1, ?_⟩
    have e : (valV kvs k).isSome = (getK (kvs.map fun p => keyD p.1) vs k).isSome := by
      rcases getK_val k h5 with ⟨v, d, e1, e2, _⟩ | ⟨e1, e2⟩
      · rw [e1, e2]; rfl
      · rw [e1, e2]; rfl
    rw [e]
    exact q _ H (Ext.refl H) (.bl _)
  · cases h2
/-! ### d[k] -/
def rGetK : R2 := fun x y H Q => ∃ a kvs k v, x = .ref a ∧ y = kV k ∧ H a = some (.dK kvs) ∧ valV kvs k = some v ∧ Q v H
theorem ix_dK (hu : X.A.units + 9 < cLine) : IxR X rGetK := by
  intro value slice pins s σ H x y v u Q I rx ry ⟨a, kvs, k, w, e1, e2, h, hv, q⟩ hs
  subst e1 e2
  cases rx
  refine tail_any (ops := [.ref a, u]) (dict_typeIs I (DGet.k (k := k) h)) PySem.F.slot_dict_getitem.lookup ?_ hs
  have g : DGet H a (kV k) (some w) := hv ▸ DGet.k h
  exact d_getItem (by omega) I g ry fun w' s' I' rw' => ⟨w, H, I', rw', q⟩
def ixK (x y : D) : Option D := (keyK y).bind fun k => match x with
  | .dct false ks vs => getK ks vs k
  | _ => none
theorem v_ixK : V2 c rGetK ixK := by
  intro M ρ H x y e v u Q d hx hy hF q
  unfold ixK at hF
  obtain ⟨k, h1, h2⟩ := Option.bind_eq_some_iff.mp hF
  split at h2
  · rename_i ks vs
    obtain ⟨a, rfl, kvs, h3, rfl, h5⟩ := hx.dct
    rcases getK_val k h5 with ⟨v, d, e1, e2, h6⟩ | ⟨e1, e2⟩
    · rw [h2] at e2
      cases e2
      exact ⟨a, kvs, k, v, rfl, hy.key h1, h3, e1, q v H (Ext.refl H) h6⟩
    · rw [h2] at e2
      cases e2
  · cases h2
/-! ### d[k] = v -/
def rSetK : V → V → V → Hp → (Hp → Prop) → Prop := fun o i v H Q => ∃ a kvs k, o = .ref a ∧ i = kV k ∧ H a = some (.dK kvs) ∧ kvs.length < sizeLine ∧ Q (upd H a (.dK (putK kvs k v)))
theorem set_dK (hu : X.A.units + 9 < cLine) : PSet X rSetK := by
  intro pins s σ H o i v ov iv u Q I ro ri rv ⟨a, kvs, k, e1, e2, h, hl, q⟩
  subst e1 e2
  cases ro
  exact d_setItem (by omega) I (DPut.k h hl) ri rv fun s' I' => ⟨_, I', q⟩
def dcyTok (s : S) : DS.Tok → Option (List D × List D)
  | .s i => match s.env[i]? with
    | some (.od false ks vs) => some (ks, vs)
    | _ => none
  | .d _ => none
def seyTok (s : S) (ks vs : List D) : DS.Tok → S
  | .s i => ⟨s.env.set i (.od false ks vs), s.hp⟩
  | .d _ => s
def setK (f : Ex) (o : Op) (i : Ex) : Sm := fun s => (f s).bind fun d s1 => (o s1).bind fun t s2 => (i s2).bind fun k s3 => match keyK k, dcyTok s3 t with
  | some l, some (ks, vs) => if vs.length < LIM then .ok .nx (seyTok s3 (putKD ks vs l d).1 (putKD ks vs l d).2 t) else .bad
  | _, _ => .bad
end
section
variable {X : Cx} {c : Cn} {g : Gr} {W : WX} {k : Nat} {f fi : Ex} {o : Op} {e a i : Expr} {p pos p2 : Pos}
theorem s_setK (C : Cc X c W k) (he : PE X e (tE c W f)) (ho : PE X a (tO c W o)) (hi : PE X i (tE c W fi)) (hs : swapsWithSole [.Subscript a i p2] e pos.line X.env = pure false := by rfl) (hw : swappedStores [.Subscript a i p2] e X.env = pure none := by rfl)
    (h1 : (assignEach [.Subscript a i p2] X.env).map (·.2) = [assign (.Subscript a i p2) X.env] := by rfl)
    (ha : ∀ v, assign (.Subscript a i p2) X.env v = (do
      let ov ← holding [v] (eval a X.env)
      let iv ← holding [v, ov] (eval i X.env)
      standAt p2
      holding [v, ov, iv] (setItem ov iv v)
      release [v, ov, iv] []) := by intro _; rfl) (hu : X.A.units + 9 < cLine) : PS X (.Assign [.Subscript a i p2] e pos) (tS c W (setK f o fi)) := ps_imp (ps_asg he (pg_sub ho hi (set_dK hu) ha) hs hw h1) fun D σ H h => by
  obtain ⟨g, M, ρ, s, rel, h⟩ := h
  refine tE.bind (out := fun M ρ H r => OutS c g W M ρ H r D) rel (fun _ _ z M' ρ' H' cls dd r k x => z M' ρ' σ H' cls dd r k x) (fun z => z) h fun d s1 M1 ρ1 v H1 r1 k1 hd h1 => ?_
  refine tO.bind (out := fun M ρ H r => OutS c g W M ρ H r D) r1 (fun _ _ z M' ρ' H' cls dd r k x => z M' ρ' σ H' cls dd r k x) (fun z => z) (OutS.keep k1 h1) fun t s2 M2 ρ2 u H2 r2 k2 t2 h2 => ?_
  refine tE.bind (out := fun M ρ H r => OutS c g W M ρ H r D) r2 (fun _ _ z M' ρ' H' cls dd r k x => z M' ρ' σ H' cls dd r k x) (fun z => z) (OutS.keep k2 h2) fun kd s3 M3 ρ3 w H3 r3 k3 hk h3' => ?_
  have h3 := OutS.keep k3 h3'
  clear h3'
  cases q : keyK kd with
  | none => simp only [q] at h3; exact h3.elim
  | some l =>
    cases q2 : dcyTok s3 t with
    | none => simp only [q, q2] at h3; exact h3.elim
    | some kv =>
      obtain ⟨ks, vs⟩ := kv
      simp only [q, q2] at h3
      split at h3
      · rename_i hz
        cases t with
        | d x => cases q2
        | s j =>
          unfold dcyTok at q2
          have t3 : σ[j]? = some (some u) := t2.keep k3
          cases q3 : s3.env[j]? with
          | none => simp only [q3] at q2; cases q2
          | some sl =>
            have hsl : sl = .od false ks vs := by
              simp only [q3] at q2
              cases sl with
              | od b ks' vs' =>
                cases b with
                | false => cases q2; rfl
                | true => cases q2
              | _ => cases q2
            subst hsl
            obtain ⟨ad, e1, e2, e3, e4, e5⟩ := r3.e.own j _ q3 rfl
            rw [t3] at e1
            cases e1
            obtain ⟨kvs, d1, d2, d3⟩ := e2
            subst d2
            have hd3 := (hd.keep k2).keep k3
            have hlen : kvs.length < sizeLine := by
              have := d3.length
              rw [List.length_map] at this
              rw [sizeLine_eq]
              unfold LIM at hz
              omega
            refine ⟨ad, kvs, l, rfl, (hk.key q).1, d1, hlen, ?_⟩
            have kk : Keep g M3 ρ3 H3 M3 ρ3 (upd H3 ad (.dK (putK kvs l v))) := keep_mut e3 (r3.e.pro j _ ad q3 rfl t3)
            obtain ⟨p1, p2⟩ := putK_val l hd3 d3
            exact h3 M3 ρ3 σ _ (r3.mutown q3 rfl t3 (sl' := .od false _ _) rfl rfl ⟨putK kvs l v, upd_same, p1, p2.keep kk⟩) kk
      · exact h3.elim
/-- d[k] -/
theorem e_ixK {o1 o2 : Op} {b : Expr} (C : Cc X c W k) (ha : PE X a (tO c W o1)) (hb : PE X b (tO c W o2)) (hs : PlainIx b := by intro _ _; rfl) : PE X (.Subscript a b pos) (tE c W (op2 ixK o1 o2)) := pe_imp (pe_ix (ix_dK (by have := C.rm.un; omega)) ha hb hs) fun _ _ _ h => t_op2 v_ixK h
/-! ### {}, {k: v, ..} -/
theorem dcy_empty {M : Am} {ρ : List Addr} {H : Hp} {ad : Addr} (ha : H ad = some (.dK [])) : DctOk c M ρ H false [] [] ad := ⟨[], ha, rfl, .nil⟩
theorem y_new : PE X (.Dict [] [] pos) (tY c W newX) := pe_imp pe_dnewK fun σ H Q h => by
  obtain ⟨g, M, ρ, s0, rel, h⟩ := h
  intro p hn
  obtain ⟨r1, f1⟩ := rel.newM (Ext.new (o := .dK []) hn) hn upd_same rfl
  exact h _ _ p _ r1 (keep_more (Ext.new hn) hn rel.pd) (dcy_empty upd_same) f1
/-- the pairs, from the left -/
def evD : List (Ex × Ex) → S → R (List (D × D))
  | [], s => .ok [] s
  | (fk, fv) :: r, s => (fk s).bind fun k s1 => (fv s1).bind fun v s2 => (evD r s2).bind fun l s3 => .ok ((k, v) :: l) s3
def keysK : List (D × D) → Option (List (Key × D))
  | [] => some []
  | (k, v) :: r => (keyK k).bind fun x => (keysK r).map fun l => (x, v) :: l
def mergeD (acc : List D × List D) (l : List (Key × D)) : List D × List D := l.foldl (fun acc kv => putKD acc.1 acc.2 kv.1 kv.2) acc
def dspY (ps : List (Ex × Ex)) : ExX := fun s => (evD ps s).bind fun l s1 => match keysK l with
  | some kl => if kl.length ≤ 15 then .ok (mergeD ([], []) kl) s1 else .bad
  | none => .bad
def OutD (c : Cn) (g : Gr) (W : WX) (M : Am) (ρ : List Addr) (σ : L2.St) (H : Hp) (r : R (List (D × D))) (Q : List (V × V) → Hp → Prop) : Prop := match r with
  | .ok l s' => ∀ M' ρ' ps H', Rel c g M' ρ' s' σ H' → Keep g M ρ H M' ρ' H' → RDs c M' ρ' H' (l.map (·.1)) (ps.map (·.1)) → RDs c M' ρ' H' (l.map (·.2)) (ps.map (·.2)) → Q ps H'
  | .exc x s' => ∀ M' ρ' H' cls dd, Rel c g M' ρ' s' σ H' → Keep g M ρ H M' ρ' H' → XR c x cls dd H' → W cls dd σ H'
  | .bad => False
theorem OutD.keep {M M1 : Am} {ρ ρ1 : List Addr} {H H1 : Hp} {σ : L2.St} {Q : List (V × V) → Hp → Prop} (k : Keep g M ρ H M1 ρ1 H1) {r : R (List (D × D))} (h : OutD c g W M ρ σ H r Q) : OutD c g W M1 ρ1 σ H1 r Q := by
  cases r with
  | ok d s' => exact fun M' ρ' v H' a b e => h M' ρ' v H' a (k.trans b) e
  | exc x s' => exact fun M' ρ' H' cls dd a b e => h M' ρ' H' cls dd a (k.trans b) e
  | bad => exact h
theorem t_pairs {σ : L2.St} : ∀ {ps : List (Ex × Ex)} {M : Am} {ρ : List Addr} {H : Hp} {s : S} {Q : List (V × V) → Hp → Prop}, Rel c g M ρ s σ H → OutD c g W M ρ σ H (evD ps s) Q → tPairs (ps.map fun p => (tE c W p.1, tE c W p.2)) σ H Q
  | [], M, ρ, H, s, Q, rel, h => h M ρ [] H rel (Keep.refl _ _ _ _) .nil .nil
  | (fk, fv) :: r, M, ρ, H, s, Q, rel, h => by
    unfold evD at h
    refine tE.bind (out := fun M ρ H r => OutD c g W M ρ σ H r Q) rel (fun _ _ z => z) (fun z => z) h fun kd s1 M1 ρ1 v H1 r1 k1 hk h1 => ?_
    refine tE.bind (out := fun M ρ H r => OutD c g W M ρ σ H r Q) r1 (fun _ _ z => z) (fun z => z) (OutD.keep k1 h1) fun d s2 M2 ρ2 w H2 r2 k2 hd h2 => ?_
    have h2 := OutD.keep k2 h2
    refine t_pairs r2 ?_
    cases q : evD r s2 with
    | bad => rw [q] at h2; exact h2
    | exc x s3 => rw [q] at h2; exact h2
    | ok l s3 =>
      rw [q] at h2
      exact fun M3 ρ3 ps H3 r3 k3 p1 p2 => h2 M3 ρ3 ((v, w) :: ps) H3 r3 k3 (.cons ((hk.keep k2).keep k3) p1) (.cons (hd.keep k3) p2)
theorem keysK_is {M : Am} {ρ : List Addr} {H : Hp} : ∀ {l : List (D × D)} {kl : List (Key × D)} {ps : List (V × V)}, keysK l = some kl → RDs c M ρ H (l.map (·.1)) (ps.map (·.1)) → RDs c M ρ H (l.map (·.2)) (ps.map (·.2)) → ∃ kvs : List (Key × V), ps = kvs.map (fun kv => (kV kv.1, kv.2)) ∧ kvs.map (·.1) = kl.map (·.1) ∧ RDs c M ρ H (kl.map (·.2)) (kvs.map (·.2))
  | [], kl, [], e, p1, p2 => by
    cases e
    exact ⟨[], rfl, rfl, .nil⟩
  | [], kl, _ :: _, e, p1, p2 => by cases p1
  | _ :: _, kl, [], e, p1, p2 => by cases p1
  | (k, v) :: l, kl, (x, y) :: ps, e, p1, p2 => by
    unfold keysK at e
    obtain ⟨key, e1, e2⟩ := Option.bind_eq_some_iff.mp e
    obtain ⟨kl', e3, rfl⟩ := Option.map_eq_some_iff.mp e2
    cases p1 with
    | cons h1 t1 =>
      cases p2 with
      | cons h2 t2 =>
        obtain ⟨kvs, q1, q2, q3⟩ := keysK_is e3 t1 t2
        refine ⟨(key, y) :: kvs, ?_, ?_, .cons h2 q3⟩
        · rw [List.map_cons, ← q1, ← (h1.key e1).1]
        · rw [List.map_cons, List.map_cons, q2]
theorem mergeD_is {M : Am} {ρ : List Addr} {H : Hp} : ∀ {kl : List (Key × D)} {kvs : List (Key × V)} {acc : List (Key × V)} {vs : List D}, kvs.map (·.1) = kl.map (·.1) → RDs c M ρ H (kl.map (·.2)) (kvs.map (·.2)) → RDs c M ρ H vs (acc.map (·.2)) →
    (mergeD (acc.map fun p => keyD p.1, vs) kl).1 = (mergeK acc kvs).map (fun p => keyD p.1) ∧ RDs c M ρ H (mergeD (acc.map fun p => keyD p.1, vs) kl).2 ((mergeK acc kvs).map (·.2))
  | [], [], acc, vs, e, r, ra => ⟨rfl, ra⟩
  | [], _ :: _, acc, vs, e, r, ra => by cases e
  | _ :: _, [], acc, vs, e, r, ra => by cases e
  | (k, d) :: kl, (k', v) :: kvs, acc, vs, e, r, ra => by
    rw [List.map_cons, List.map_cons] at e
    obtain ⟨e1, e2⟩ := List.cons.inj e
    have e1 : k' = k := e1
    subst e1
    cases r with
    | cons h t =>
      obtain ⟨p1, p2⟩ := putK_val k' h ra
      have e3 : mergeD (acc.map fun p => keyD p.1, vs) ((k', d) :: kl) = mergeD ((putK acc k' v).map fun p => keyD p.1, (putKD (acc.map fun p => keyD p.1) vs k' d).2) kl := by
        show mergeD (putKD (acc.map fun p => keyD p.1) vs k' d) kl = _
        rw [← p1]
      rw [e3]
      exact mergeD_is e2 t p2
theorem y_disp (C : Cc X c W k) {keys : List (Option Expr)} {values : List Expr} {ps : List (Ex × Ex)} (h : PPs X pos keys values (ps.map fun p => (tE c W p.1, tE c W p.2))) (hall : keys.all (·.isSome) = true := by rfl) (hl : keys.length = values.length := by rfl) (h0 : keys ≠ [] := by simp)
    (h15 : keys.length ≤ 15 := by decide) : PE X (.Dict keys values pos) (tY c W (dspY ps)) := pe_imp (pe_disp h hall hl h0 h15) fun σ H Q h => by
  obtain ⟨g, M, ρ, s0, rel, h⟩ := h
  intro p hn
  obtain ⟨r1, f1⟩ := rel.newM (Ext.new (o := .dK []) hn) hn upd_same rfl
  have k1 : Keep g M ρ H (more M p) ρ (upd H p (.dK [])) := keep_more (Ext.new hn) hn rel.pd
  refine t_pairs (r1.hold f1) ?_
  unfold dspY at h
  cases q : evD ps s0 with
  | bad => rw [q] at h; exact h.elim
  | exc x s1 => rw [q] at h; exact fun M' ρ' H' cls dd r k x => h M' ρ' H' cls dd r.unhold (k1.trans k.unhold) x
  | ok l s1 =>
    rw [q] at h
    simp only [R.bind_ok] at h
    cases q2 : keysK l with
    | none => simp only [q2] at h; exact h.elim
    | some kl =>
      simp only [q2] at h
      split at h
      · rename_i h15'
        intro M3 ρ3 pv H3 r3 k3 p1 p2
        have hH3 : H3 p = some (.dK []) := (k3.pr p (.inr rfl)).trans upd_same
        obtain ⟨kvs, e1, e2, e3⟩ := keysK_is q2 p1 p2
        have hlen : kvs.length ≤ 15 := by
          have : (kvs.map (·.1)).length = (kl.map (·.1)).length := by rw [e2]
          rw [List.length_map, List.length_map] at this
          omega
        refine ⟨hH3, kvs, e1, hlen, ?_⟩
        obtain ⟨r4, k4⟩ := r3.put (o := .dK (mergeK [] kvs)) rfl f1.2.2.1 f1.2.2.2.1
        obtain ⟨m1, m2⟩ := mergeD_is (acc := []) (vs := []) e2 e3 .nil
        exact h M3 ρ3 p _ r4.unhold (k1.trans (k3.unhold.trans k4)) ⟨mergeK [] kvs, upd_same, m1, m2.keep k4⟩ (r4.free f1.2.2.1 f1.2.2.2.1)
      · exact h.elim
/-! ### len -/
def lenY : D → Option D
  | .dct false ks vs => some (.int (vs.length : Nat))
  | _ => none
def rLenY : List V → Hp → VK → Prop := fun xs H Q => ∃ a kvs, xs = [V.ref a] ∧ H a = some (.dK kvs) ∧ Q (.int kvs.length) H
theorem v_lenY : V1 c (fun v H Q => rLenY [v] H Q) lenY := by
  intro M ρ H x e v Q d hx hF q
  unfold lenY at hF
  split at hF
  · cases hF
    obtain ⟨a, rfl, kvs, h3, rfl, h5⟩ := hx.dct
    refine ⟨a, kvs, rfl, h3, ?_⟩
    have := h5.length
    rw [List.length_map] at this
    rw [← this]
    exact q _ H (Ext.refl H) (.int _)
  · cases hF
theorem e_lenY (C : Cc X c W k) (ha : PE X a (tO c W o)) (hm : c.mg "len" = none) (hg : Gl X "len" := by rfl) (hs : starEach [a] X.env = (false, eval a X.env) :: starEach [] X.env := by rfl) (hpl : (backTo pos (starEach [] X.env)).any (·.1) = false := by rfl) :
    PE X (.Call (.Name "len" p) [a] [] pos) (tE c W (op1 lenY o)) := e_B1 call_lenD v_lenY hg (by rw [C.hm]; exact hm) (by first | rfl | decide +kernel) ha (by decide) (by decide) hs hs hpl
end
end DS
/-! DS32: a call of a name that holds a def. -/
namespace DS
open PySem PySem.Spec PyProof.Rows L2
structure Door where
  n : Str
  ar : Nat
  F : Fn
/-- such a def is known -/
def Dr (c : Cn) (P : Program) (w : World) (base : Heap) (k : Nat) (d : Door) : Prop := ∃ st k' ps, k' ≤ k ∧ ps.length = d.ar ∧ FnR c P w base d.n st k' ps d.F
theorem dr {c : Cn} {P : Program} {w : World} {base : Heap} {k k' : Nat} {n : Str} {st : Stmt} {ps : List Str} {F : Fn} (R : FnR c P w base n st k' ps F) {ar : Nat} (hk : k' ≤ k := by decide) (hl : ps.length = ar := by rfl) : Dr c P w base k ⟨n, ar, F⟩ := ⟨st, k', ps, hk, hl, R⟩
def seek (x : Str) : List Door → Option Door
  | [] => none
  | d :: T => if x = d.n then some d else seek x T
theorem seek_is {x : Str} : ∀ {T : List Door} {d : Door}, seek x T = some d → d ∈ T ∧ d.n = x
  | [], d, h => by cases h
  | e :: T, d, h => by
    unfold seek at h
    split at h
    · cases h
      exact ⟨List.mem_cons_self, by symm; assumption⟩
    · obtain ⟨h1, h2⟩ := seek_is h
      exact ⟨List.mem_cons_of_mem _ h1, h2⟩
def doorE (T : List Door) (i : Nat) (fs : List Ex) : Ex := fun s => match s.env[i]? with
  | some (.v (.fn n)) => match seek n T with
    | some d => if d.ar = fs.length then callE d.F fs s else .bad
    | none => .bad
  | _ => .bad
section
variable {X : Cx} {c : Cn} {g : Gr} {W : WX} {k : Nat} {T : List Door} {fs : List Ex} {e : Expr} {es : List Expr} {p pos : Pos} {x : Str}
theorem e_door (C : Cc X c W k) (hT : ∀ d ∈ T, Dr c X.prog X.w X.base k d) (i : Nat) (ha : PA X (e :: es) (tA c W fs)) (hN : X.N[i]? = some x := by rfl) (hv : Vis X.env.scope x := by first | exact Or.inl rfl | exact Or.inr (Or.inl rfl) | exact Or.inr (Or.inr rfl))
    (hdb : (x == ("__debug__" : Str)) = false := by decide) (hcd : (x == ("__classdict__" : Str)) = false := by decide)
    (he : starEach (e :: es) X.env = (false, eval e X.env) :: starEach es X.env := by rfl) (hpl : (backTo pos (starEach es X.env)).any (·.1) = false := by rfl) : PE X (.Call (.Name x p) (e :: es) [] pos) (tE c W (doorE T i fs)) := by
  refine ⟨fun pins s σ H Q I h => ?_⟩
  obtain ⟨g, M, ρ, s0, rel, h⟩ := h
  unfold doorE at h
  cases q : s0.env[i]? with
  | none => simp only [q] at h; exact h.elim
  | some sl =>
    simp only [q] at h
    cases sl with
    | v d =>
      cases d with
      | fn n =>
        simp only at h
        cases q2 : seek n T with
        | none => simp only [q2] at h; exact h.elim
        | some dd =>
          simp only [q2] at h
          split at h
          · rename_i hl
            obtain ⟨m1, m2⟩ := seek_is q2
            obtain ⟨st, k', ps, hk, hps, R⟩ := hT dd m1
            obtain ⟨f, fd, h1, h2, h3, h4⟩ := R.ex
            obtain ⟨v, e1, e2⟩ := rel.e.val i _ q
            cases e2 with
            | fn e2 =>
              rename_i f'
              rw [m2] at h1
              rw [h1] at e2
              cases e2
              have hK := C.hK
              have hm := C.hm
              refine wpAny_Call_Name_kw (thn ((pe_var (pos := p) hN hv hdb hcd).run pins s σ H (fun v H1 => v = .ref f ∧ H1 = H) I ⟨.ref f, e1, rfl, rfl⟩) fun u s1 ⟨v, H1, I1, r1, q1⟩ => ?_)
              obtain ⟨rfl, rfl⟩ := q1
              cases r1
              have t := t_call (fs := fs) (F := dd.F) (N := ps.length) (c := c) (W := W) (σ := σ) (H := H1) (Q := Q) (by rw [hps, hl]) ⟨g, M, ρ, s0, rel, h⟩
              refine PySem.W.callWith_K (h₀ := X.base) I.ok.mod.kin (by rw [hK]; exact h2.kp) (thn (ha.run pos pins s1 σ _ _ I1 t) fun us s2 ⟨vs, H2, I2, r, q⟩ => ⟨I2.kIn, ?_⟩) he hpl
              exact run_fnS (E := WE W) (hK ▸ hm ▸ h3) (C.rm.mono hk) (hK ▸ h4) (passAt C.tk σ) I2 r q
          · exact h.elim
      | _ => exact h.elim
    | un => exact h.elim
    | ol _ => exact h.elim
    | od _ _ _ => exact h.elim
end
end DS
/-! DS33: sorted(set(..)), len(set(..)) of ints. -/
namespace DS
open PySem PySem.Spec PyProof.Rows L2
def insS (a : Int) : List Int → List Int
  | [] => [a]
  | b :: l => if a < b then a :: b :: l else if a = b then b :: l else b :: insS a l
def setI : List Int → List Int
  | [] => []
  | a :: l => insS a (setI l)
theorem insS_mem (a x : Int) : ∀ l : List Int, x ∈ insS a l ↔ x = a ∨ x ∈ l
  | [] => by unfold insS; simp
  | b :: l => by
    unfold insS
    by_cases h : a < b
    · rw [if_pos h]; simp
    · rw [if_neg h]
      by_cases e : a = b
      · rw [if_pos e]; subst e; simp
      · rw [if_neg e, List.mem_cons, insS_mem a x l, List.mem_cons]
        constructor
        · rintro (h | h | h) <;> simp [h]
        · rintro (h | h | h) <;> simp [h]
theorem insS_asc (a : Int) : ∀ {l : List Int}, l.Pairwise (· < ·) → (insS a l).Pairwise (· < ·)
  | [], _ => List.pairwise_singleton _ _
  | b :: l, h => by
    obtain ⟨h1, h2⟩ := List.pairwise_cons.mp h
    unfold insS
    by_cases q : a < b
    · rw [if_pos q]
      refine List.pairwise_cons.mpr ⟨fun x hx => ?_, h⟩
      rcases List.mem_cons.mp hx with rfl | hx
      · exact q
      · exact Int.lt_trans q (h1 x hx)
    · rw [if_neg q]
      by_cases e : a = b
      · rw [if_pos e]; exact h
      · rw [if_neg e]
        refine List.pairwise_cons.mpr ⟨fun x hx => ?_, insS_asc a h2⟩
        rcases (insS_mem a x l).mp hx with rfl | hx
        · omega
        · exact h1 x hx
theorem setI_mem (x : Int) : ∀ l : List Int, x ∈ setI l ↔ x ∈ l
  | [] => by unfold setI; simp
  | a :: l => by unfold setI; rw [insS_mem, setI_mem x l, List.mem_cons]
theorem setI_asc : ∀ l : List Int, (setI l).Pairwise (· < ·)
  | [] => .nil
  | a :: l => insS_asc a (setI_asc l)
theorem asc_nodup {l : List Int} (h : l.Pairwise (· < ·)) : l.Nodup := h.imp fun h => Int.ne_of_lt h
theorem setI_of {ns ms : List Int} (h : ns.Pairwise (· < ·)) (m : ∀ k, k ∈ ns ↔ k ∈ ms) : ns = setI ms := by
  have p : ns.Perm (setI ms) := (List.perm_ext_iff_of_nodup (asc_nodup h) (asc_nodup (setI_asc ms))).mpr fun k => by rw [m, setI_mem]
  exact List.Perm.eq_of_pairwise (le := fun a b => a < b) (fun a b _ _ h h' => absurd h (by omega)) h (setI_asc ms) p
theorem setI_len {ns ms : List Int} (h : ns.Nodup) (m : ∀ k, k ∈ ns ↔ k ∈ ms) : ns.length = (setI ms).length :=
  ((List.perm_ext_iff_of_nodup h (asc_nodup (setI_asc ms))).mpr fun k => by rw [m, setI_mem]).length_eq
abbrev noS (w : World) : Obj := { cls := .type "set", dict := none, data := .set #[] 0 (.fresh 0 0 (!w.params.followText "set-order")) }
section
variable {P : Program} {w : World} {A : Around} {E : Value → Shared → Prop} {s : Shared}
set_option maxHeartbeats 3200000 in
/-- set(xs), xs a list of ints (as the kit has it of a tuple) -/
theorem call_set_lstI {l : Addr} {xs : Array Value} (ns : List Int) {Q : Value → Shared → Prop} (hh : A.handled = none) (hl : s.heap.IsList l xs) (hi : IntsAre xs.toList ns) (hb : ns.length + 1 < scanBound)
    (h : ∀ (h' : Heap) (tk c : Nat), SetR w h' s.heap.objs.size (fun j => decide (j ∈ ns)) c → c ≤ ns.length → (∀ b o, s.heap.get? b = some o → h'.get? b = some o) → Q (.ref s.heap.objs.size) ⟨h', s.gens, s.drawn, tk, s.os⟩) : wpAny (model P w) A (call (.type "set") [.ref l]) Q E s := by
  have hz : xs.size = ns.length := (Array.length_toList).symm.trans (IntsAre.length hi)
  obtain ⟨c, tl, m1⟩ := F.called_set.mro; have m2 := F.called_set.made; have m3 := F.called_set.sub
  refine wpAny_call (codeAny_of_tree ?_); show wpAny _ _ (callAny (.type "set") _) _ _ _
  refine wpAny_pure ⟨Code.quiet_builtin _ (by decide +kernel), codeAny_builtin F.entry_type_call ?_⟩; rw [Around.under_plain (weight_type_call_type "set" [.ref l] []) rfl]
  have m4 := F.called_set.notType; have m5 := F.called_set.canCreate; have m6 := F.typeCall_set_1 (.ref l); repeat (any_goals (first | assumption | wp_step))
  refine codeAny_mono (code_set_led1 (.ref l) (E := E) (Q₁ := fun obj t => obj = .ref s.heap.objs.size ∧ t = { s with heap := s.heap.push (noS w) }) ⟨rfl, rfl⟩) fun r t hr => ?_
  cases r with
  | error e => exact hr
  | ok fl => cases fl with
    | ret obj =>
      obtain ⟨rfl, rfl⟩ := hr
      have hS : (s.heap.push (noS w)).get? s.heap.objs.size = some (noS w) := Heap.get?_push_size _ rfl
      have hT : Shared.TypeIs { s with heap := s.heap.push (noS w) } (.ref s.heap.objs.size) "set" := ⟨_, hS, rfl⟩
      have m7 := F.called_set.init.lookup; have m8 := F.called_set.init.bind (.ref s.heap.objs.size); repeat (any_goals (first | assumption | wp_step))
      refine codeAny_mono (codeAny_call_builtin (R := wants (fun r t => r = .none ∧ ∃ h' tk c, t = ⟨h', s.gens, s.drawn, tk, s.os⟩ ∧ SetR w h' s.heap.objs.size (fun j => decide (j ∈ ns)) c ∧ c ≤ ns.length ∧ (∀ b o, s.heap.get? b = some o → h'.get? b = some o)) E) F.called_set.init.plain F.entry_set_init (check_set_init_1 hT ?_)) fun r t hr => ?_
      · obtain ⟨⟨oc, od, odt, osl⟩, hol, hcl, nl, hdl⟩ := hl
        simp only at hcl hdl; subst hcl hdl
        have hol' : (s.heap.push (noS w)).get? l = some ⟨.type "list", od, .seq xs nl, osl⟩ := Heap.get?_push_of_some _ hol
        have m9 := F.sub_list_set; have m10 := F.sub_list_frozenset; have m11 : (Value.type "list" == Value.type "dict") = false := by decide
        have hl1 : (s.heap.push (noS w)).IsList l xs := ⟨_, hol', rfl, nl, rfl⟩
        unfold Builtin.«set.__init__» noKeywords Builtin.Frozenset.updateFrom; generalize hPI : pyIter = PI; wp_walk; subst hPI
        refine wpAny_pyIter_list hl1 ?_; refine wpAny_bind (wpAny_runValue ?_)
        have l1 : l < s.heap.objs.size := Heap.lt_size hol; have l2 : (s.heap.push (noS w)).objs.size = s.heap.objs.size + 1 := Heap.size_push ..; have l3 : A.in1.in1.in1.handled = none := by simp [hh]
        have l4 : l ≠ (s.heap.push (noS w)).objs.size := by rw [l2]; exact Nat.ne_of_lt (Nat.lt_succ_of_lt l1)
        have l5 : s.heap.objs.size ∉ [(s.heap.push (noS w)).objs.size, l] := by rw [l2]; simp only [List.mem_cons, List.mem_singleton, List.not_mem_nil, or_false, not_or]; exact ⟨Nat.ne_of_lt (Nat.lt_succ_self _), Nat.ne_of_gt l1⟩
        have hval : ∀ (i : Nat) (v : Value), xs[i]? = some v → ∃ k t, ns[i]? = some k ∧ v = .int k t := fun i v hv => by
          have li : i < ns.length := by rw [← hz]; exact (Array.getElem?_eq_some_iff.mp hv).1
          obtain ⟨t, e⟩ := PyProof.Rows.IntsAre.int_at hi i v (by rw [Array.getElem?_toList]; exact hv)
          exact ⟨ns[i], t, List.getElem?_eq_getElem li, by rw [e, List.getD_eq_getElem?_getD, List.getElem?_eq_getElem li] <;> rfl⟩
        refine set_update_ints ((Walks.list l3 _ l l4 xs).toS) s.heap.objs.size l5 ns hz hb hval (xs.size - 0) 0 _ (by omega) (Nat.zero_le _) ⟨⟨_, Heap.get?_push_size _ rfl, rfl, rfl⟩, (hl1.push _)⟩ ⟨0, Nat.le_refl 0, setR_new_at (Heap.get?_push_of_some _ hS)⟩ fun s' c' hm hc' hS' => ?_
        obtain ⟨h', g2, d', tk', os'⟩ := s'
        obtain rfl : g2 = s.gens := hm.gens
        obtain rfl : d' = s.drawn := hm.drawn
        obtain rfl : os' = s.os := hm.os
        show wpAny _ _ _ _ _ _; refine wpAny_pure ?_; show wpAny _ _ (ret Value.none) _ _ _; rw [hz] at hc'
        refine wpAny_pure ⟨rfl, h', tk', c', rfl, hS', hc', fun b o e => ?_⟩
        have l6 : b < s.heap.objs.size := Heap.lt_size e
        have l7 : b ≠ (s.heap.push (noS w)).objs.size := by rw [l2]; exact Nat.ne_of_lt (Nat.lt_succ_of_lt l6)
        exact hm.heap b o (by simp only [List.mem_cons, List.mem_singleton, List.not_mem_nil, or_false, not_or]; exact ⟨Nat.ne_of_lt l6, l7⟩) (Heap.get?_push_of_some _ (Heap.get?_push_of_some _ e))
      · cases r with
        | error e => exact hr
        | ok fl => cases fl with
          | ret r =>
            obtain ⟨rfl, h', tk, c', rfl, g1, g2, g3⟩ := hr
            repeat (any_goals (first | assumption | wp_step))
            exact h _ _ _ g1 g2 g3
          | _ => exact hr.elim
    | _ => exact hr.elim
end
end DS
/-! DS34: sorted(set(..)), len(set(..)) by data. -/
namespace DS
open PySem PySem.Spec PyProof.Rows L2
section
variable {X : Cx}
/-- set(xs) of ints -/
def rSetI (K : PySem.W.Frag) (w : World) : List V → Hp → VK → Prop := fun xs H Q => ∃ (l : Addr) (ns : List Int), xs = [V.ref l] ∧ (SqL K H l (ns.map V.int) ∨ SqT K H l (ns.map V.int)) ∧ ns.length < 64 ∧ ∀ p c, H p = none → c < 64 → Q (.ref p) (upd H p (SetO w p (fun j => decide (j ∈ ns)) c))
theorem cr_setI (hc : X.calm = true) : CallR X (.type "set") (rSetI X.K X.w) := by
  intro pins s σ H xs us Q I r h
  obtain ⟨l, ns, rfl, hs, hl, q⟩ := h
  rw [Vals.ref1 r]
  have fin : ∀ (h' : Heap) (tk c : Nat), SetR X.w h' s.heap.objs.size (fun j => decide (j ∈ ns)) c → c ≤ ns.length → (∀ b o, s.heap.get? b = some o → h'.get? b = some o) → EP X pins σ Q (.ref s.heap.objs.size) ⟨h', s.gens, s.drawn, tk, s.os⟩ := fun h' tk c g1 g2 g3 => by
    have := q s.heap.objs.size c (I.hok.fresh (Nat.le_refl _)) (by omega)
    exact ⟨.ref s.heap.objs.size, upd H s.heap.objs.size (SetO X.w s.heap.objs.size (fun j => decide (j ∈ ns)) c), I.laid (t' := tk) g3 (Nat.le_refl _) (setO_new g1), rfl, this⟩
  rcases hs with hs | hs
  · obtain ⟨its, rv, pl, hz⟩ := I.list hs
    exact call_set_lstI ns (I.ok.hd hc) pl.isList (ints_of_vals rv) (by unfold scanBound; omega) fin
  · obtain ⟨its, rv, pl, hz⟩ := I.tuple hs
    exact call_set_tupI ns (I.ok.hd hc) pl (ints_of_vals rv) (by unfold scanBound; omega) fin
theorem setR_len {w : World} {h : Heap} {a : Addr} {ns : List Int} {n : Nat} (R : SetR w h a (fun j => decide (j ∈ ns)) n) : n = (setI ns).length := by
  obtain ⟨o, es, ep, t, ho, hex, hd, g, nd, hm, hb, hf, hn, hr, hl⟩ := R
  rw [← setI_len nd fun k => by rw [← hm k, decide_eq_true_eq], List.length_map, Array.length_toList, hn]
/-- len of it -/
def rLenSI (w : World) : List V → Hp → VK → Prop := fun xs H Q => ∃ a ns n, xs = [V.ref a] ∧ H a = some (SetO w a (fun j => decide (j ∈ ns)) n) ∧ Q (.int ((setI ns).length : Nat)) H
theorem cr_lenSI : CallR X (.builtin "len") (rLenSI X.w) := by
  intro pins s σ H xs us Q I r h
  obtain ⟨a, ns, n, rfl, ha, q⟩ := h
  rw [Vals.ref1 r]
  have R := setO_get I ha
  have hl := setR_len R
  obtain ⟨o, es, ep, t, ho, hex, hd, g, nd, hm, hb, hf, hn, hr, hl2⟩ := R
  refine call_len_set ho hex hd hf (by unfold scanBound at hb; omega) ⟨.int ((setI ns).length : Nat), H, I.tok _, ⟨_, by rw [← hl, ← hn]⟩, q⟩
end
def setIn {α : Type} (x : D) (F : List Int → α) : Option α := match x with
  | .lst xs => (toInts xs).bind fun ns => if ns.length < 64 then some (F ns) else none
  | .scr xs => (toInts xs).bind fun ns => if ns.length < 64 then some (F ns) else none
  | .tup xs => (toInts xs).bind fun ns => if ns.length < 64 then some (F ns) else none
  | _ => none
def setSL (x : D) : Option (List D) := setIn x fun ns => (setI ns).map .int
def lenSN (x : D) : Option D := setIn x fun ns => .int ((setI ns).length : Nat)
section
variable {X : Cx} {c : Cn} {g : Gr} {W : WX} {k : Nat} {o : Op} {a : Expr} {p p2 q pos : Pos} {M : Am} {ρ : List Addr} {H : Hp}
theorem setIn_is {α : Type} {x : D} {v : V} {F : List Int → α} {y : α} (h : RW c M ρ H x v) (e : setIn x F = some y) : ∃ l ns, v = .ref l ∧ (SqL c.K H l (ns.map V.int) ∨ SqT c.K H l (ns.map V.int)) ∧ ns.length < 64 ∧ y = F ns := by
  unfold setIn at e
  split at e
  · obtain ⟨ns, e1, e2⟩ := Option.bind_eq_some_iff.mp e
    split at e2
    · cases e2
      obtain ⟨l, vs, rfl, h1, h2⟩ := h.lst
      exact ⟨l, ns, rfl, .inl (h2.ints e1 ▸ .inl (.inl h1)), by assumption, rfl⟩
    · cases e2
  · obtain ⟨ns, e1, e2⟩ := Option.bind_eq_some_iff.mp e
    split at e2
    · cases e2
      obtain ⟨l, vs, rfl, h1, h2⟩ := h.scr
      exact ⟨l, ns, rfl, .inl (h2.ints e1 ▸ h1), by assumption, rfl⟩
    · cases e2
  · obtain ⟨ns, e1, e2⟩ := Option.bind_eq_some_iff.mp e
    split at e2
    · cases e2
      obtain ⟨l, vs, rfl, h1, h2⟩ := h.rdt.tup
      exact ⟨l, ns, rfl, .inr (h2.ints e1 ▸ h1), by assumption, rfl⟩
    · cases e2
  · cases e
abbrev rSS (K : PySem.W.Frag) (w : World) : V → Hp → VK → Prop := fun v H Q => rSetI K w [v] H fun u H2 => rSortedSet w [u] H2 Q
abbrev rSN (K : PySem.W.Frag) (w : World) : V → Hp → VK → Prop := fun v H Q => rSetI K w [v] H fun u H2 => rLenSI w [u] H2 Q
theorem v_setSL : V1L c (rSS c.K c.w) setSL := by
  intro M ρ H x v xs Q d hx hF q
  obtain ⟨l, ns, rfl, h1, h2, rfl⟩ := setIn_is hx hF
  refine ⟨l, ns, rfl, h1, h2, fun p n hp hn => ⟨p, _, n, rfl, upd_same, hn, fun ms p' m1 m2 m3 hp' => ?_⟩⟩
  have e : ms = setI ns := setI_of m1 fun k => by rw [m2, decide_eq_true_eq]
  subst e
  have ne : p' ≠ p := fun z => by subst z; rw [upd_same] at hp'; cases hp'
  have hn' : H p' = none := by rw [upd_ne ne] at hp'; exact hp'
  exact q p' _ _ hn' (Ext.trans (Ext.new hp) (Ext.new hp')) upd_same (rds_ints (setI ns))
theorem v_setN : V1 c (rSN c.K c.w) lenSN := by
  intro M ρ H x e v Q d hx hF q
  obtain ⟨l, ns, rfl, h1, h2, rfl⟩ := setIn_is hx hF
  exact ⟨l, ns, rfl, h1, h2, fun p n hp hn => ⟨p, ns, n, rfl, upd_same, q _ _ (Ext.new hp) (.int _)⟩⟩
/-- sorted(set(e)) -/
theorem l_sset (C : Cc X c W k) (ha : PE X a (tO c W o)) (hm : c.mg "sorted" = none) (hm2 : c.mg "set" = none) (hg : Gl X "sorted" := by rfl) (hg2 : Gl X "set" := by rfl) (hs : starEach [a] X.env = (false, eval a X.env) :: starEach [] X.env := by rfl)
    (hs2 : starEach [.Call (.Name "set" p2) [a] [] q] X.env = (false, eval (.Call (.Name "set" p2) [a] [] q) X.env) :: starEach [] X.env := by rfl) (hpl : (backTo q (starEach [] X.env)).any (·.1) = false := by rfl) (hpl2 : (backTo pos (starEach [] X.env)).any (·.1) = false := by rfl) :
    PE X (.Call (.Name "sorted" p) [.Call (.Name "set" p2) [a] [] q] [] pos) (tL c W (op1L setSL o)) :=
  pe_imp (pe_callB (cr_sortedSet C.hc) hg (by rw [C.hm]; exact hm) (by first | rfl | decide +kernel) (pa_cons (pe_callTy (cr_setI C.hc) hg2 (by rw [C.hm]; exact hm2) PyProof.Rows.boot_set (pa_cons ha pa_nil hs) (by decide) (by decide) hs hpl) pa_nil hs2) (by decide) (by decide) hs2 hpl2) fun _ _ _ h => by
    have := t_op1L (c := c) (W := W) v_setSL h
    rw [← C.hK, ← C.hw] at this
    exact this
theorem e_nset (C : Cc X c W k) (ha : PE X a (tO c W o)) (hm : c.mg "len" = none) (hm2 : c.mg "set" = none) (hg : Gl X "len" := by rfl) (hg2 : Gl X "set" := by rfl) (hs : starEach [a] X.env = (false, eval a X.env) :: starEach [] X.env := by rfl)
    (hs2 : starEach [.Call (.Name "set" p2) [a] [] q] X.env = (false, eval (.Call (.Name "set" p2) [a] [] q) X.env) :: starEach [] X.env := by rfl) (hpl : (backTo q (starEach [] X.env)).any (·.1) = false := by rfl) (hpl2 : (backTo pos (starEach [] X.env)).any (·.1) = false := by rfl) :
    PE X (.Call (.Name "len" p) [.Call (.Name "set" p2) [a] [] q] [] pos) (tE c W (op1 lenSN o)) :=
  pe_imp (pe_callB cr_lenSI hg (by rw [C.hm]; exact hm) (by first | rfl | decide +kernel) (pa_cons (pe_callTy (cr_setI C.hc) hg2 (by rw [C.hm]; exact hm2) PyProof.Rows.boot_set (pa_cons ha pa_nil hs) (by decide) (by decide) hs hpl) pa_nil hs2) (by decide) (by decide) hs2 hpl2) fun _ _ _ h => by
    have := t_op1 (c := c) (W := W) v_setN h
    rw [← C.hK, ← C.hw] at this
    exact this
end
end DS
/-! DS35: range downwards, own lists by a condition, three stores in parallel, min of data. -/
namespace DS
open PySem PySem.Spec PyProof.Rows L2
/-! ### range(i, j, -1) -/
def downTo (hi : Int) (n : Nat) : List D := (List.range n).map fun i => .int (hi + (i : Nat) * (-1))
def itR3 (a b e : Ex) : DS.Itr := fun s => (a s).bind fun x s1 => (b s1).bind fun y s2 => (e s2).bind fun z s3 => match x, y, z with
  | .int i, .int j, .int k => if decide (-(2 ^ 62) ≤ i) && decide (i < 2 ^ 62) && decide (-(2 ^ 62) ≤ j) && decide (j < 2 ^ 62) && decide (k = -1) then .ok (downTo i (i - j).toNat) s3 else .bad
  | _, _, _ => .bad
section
variable {X : Cx} {c : Cn} {g : Gr} {W : WX} {M : Am} {ρ : List Addr} {H : Hp} {k : Nat} {a b e : Ex} {e1 e2 e3 tg : Expr} {p pos : Pos}
theorem walk_d {hi : Int} {n : Nat} : Walk c M ρ H (L2.Itc hi (-1) n) (downTo hi n) := by
  intro g M1 ρ1 H1 k dm
  refine ⟨by show n ≤ (downTo hi n).length; simp [downTo], fun i d e => ?_⟩
  unfold downTo at e
  rw [List.getElem?_map] at e
  obtain ⟨j, hj, rfl⟩ := Option.map_eq_some_iff.mp e
  have hi : i < n := by
    have := (List.getElem?_eq_some_iff.mp hj).1
    simpa using this
  rw [List.getElem?_range hi] at hj
  cases hj
  exact ⟨hi, fun x H2 ⟨e2, ex⟩ => by
    subst e2 ex
    exact ⟨Ext.refl _, .int _⟩⟩
theorem i_r3 (C : Cc X c W k) (hm : c.mg "range" = none) (h : PE X e1 (tE c W a)) (h' : PE X e2 (tE c W b)) (h'' : PE X e3 (tE c W e)) (hg : Gl X "range" := by rfl)
    (hs : starEach [e1, e2, e3] X.env = (false, eval e1 X.env) :: starEach [e2, e3] X.env := by rfl) (hs2 : starEach [e2, e3] X.env = (false, eval e2 X.env) :: starEach [e3] X.env := by rfl) (hs3 : starEach [e3] X.env = (false, eval e3 X.env) :: starEach [] X.env := by rfl)
    (hpl : (backTo pos (starEach [e2, e3] X.env)).any (·.1) = false := by rfl) : PI X tg (.Call (.Name "range" p) [e1, e2, e3] [] pos) (tI c W (itR3 a b e)) :=
  pi_imp (pi_range3 hg (by rw [C.hm]; exact hm) (pa_cons h (pa_cons h' (pa_cons h'' pa_nil hs3) hs2) hs) hs hpl) fun σ H Rk h => by
  obtain ⟨g, M, ρ, s, rel, h⟩ := h
  refine tE.bind (out := fun M ρ H r => OutI c g W M ρ σ H r Rk) rel (fun _ _ z => z) (fun z => z) h fun d s1 M1 ρ1 v H1 r1 k1 hd h1 => ?_
  refine tE.bind (out := fun M ρ H r => OutI c g W M ρ σ H r Rk) r1 (fun _ _ z => z) (fun z => z) (OutI.keep k1 h1) fun d' s2 M2 ρ2 v' H2 r2 k2 hd' h2 => ?_
  refine tE.bind (out := fun M ρ H r => OutI c g W M ρ σ H r Rk) r2 (fun _ _ z => z) (fun z => z) (OutI.keep k2 h2) fun d'' s3 M3 ρ3 v'' H3 r3 k3 hd'' h3' => ?_
  have h3 := OutI.keep k3 h3'
  clear h3'
  have he : ∃ i j l, d = .int i ∧ d' = .int j ∧ d'' = .int l := by
    cases d <;> first | exact h3.elim | skip
    cases d' <;> first | exact h3.elim | skip
    cases d'' <;> first | exact h3.elim | skip
    exact ⟨_, _, _, rfl, rfl, rfl⟩
  obtain ⟨i, j, l, rfl, rfl, rfl⟩ := he
  cases hd
  cases hd'
  cases hd''
  simp only at h3
  split at h3
  · rename_i hb
    simp only [Bool.and_eq_true, decide_eq_true_eq] at hb
    obtain ⟨⟨⟨⟨c1, c2⟩, c3⟩, c4⟩, rfl⟩ := hb
    exact ⟨i, j, -1, _, rfl, RgC.neg c1 c2 c3 c4, h3 M3 ρ3 _ H3 r3 (Keep.refl _ _ _ _) walk_d⟩
  · exact h3.elim
end
/-! ### x = L if t else x, x a name's own list -/
def keepS (i : Nat) : Sm := fun s => match s.env[i]? with
  | some (.ol _) => .ok .nx s
  | _ => .bad
section
variable {X : Cx} {c : Cn} {g : Gr} {W : WX} {k : Nat} {f : ExL} {t : S → R Bool} {te e : Expr} {p pos pos' pos2 : Pos}
theorem s_setIf (C : Cc X c W k) (i : Nat) {x : Str} (ht : PT X te (tT c W t)) (he : PE X e (tL c W f)) (hi : X.N[i]? = some x := by rfl) (hx : Loc X.env.scope x := by first | exact Or.inl rfl | exact Or.inr rfl) (hs : swapsWith (.IfExp te e (.Name x p) pos2) (some (.Name x pos')) pos.line X.env = pure false := by rfl)
    (hf : X.fn x = true ∨ X.env.scope.names.lookup x = some .local := by first | exact .inl rfl | exact .inr rfl) (hv : Vis X.env.scope x := by first | exact Or.inl rfl | exact Or.inr (Or.inl rfl) | exact Or.inr (Or.inr rfl)) (hd : (x == ("__debug__" : Str)) = false := by decide) (hcd : (x == ("__classdict__" : Str)) = false := by decide) :
    PS X (.Assign [.Name x pos'] (.IfExp te e (.Name x p) pos2) pos) (tS c W (ifS t (setL i f) (keepS i))) := ps_imp (ps_set C.nd hi hx (pe_ifExp ht he (pe_var (pos := p) hi hv hd hcd)) hs hf) fun D σ H h => by
  obtain ⟨g, M, ρ, s, rel, h⟩ := h
  refine tT.bind (out := fun M ρ H r => OutS c g W M ρ H r D) rel (fun _ _ z M' ρ' H' cls dd r k x => z M' ρ' σ H' cls dd r k x) (fun z => z) h fun b s1 M1 ρ1 H1 r1 k1 h1 => ?_
  have h1 := OutS.keep k1 h1
  cases b with
  | true => exact t_setL (i := i) ⟨g, M1, ρ1, s1, r1, h1⟩
  | false =>
    simp only [Bool.false_eq_true, if_false] at h1
    unfold keepS at h1
    cases q : s1.env[i]? with
    | none => simp only [q] at h1; exact h1.elim
    | some sl =>
      cases sl with
      | ol xs =>
        simp only [q] at h1
        obtain ⟨a, g1, _⟩ := r1.e.own i _ q rfl
        refine ⟨.ref a, g1, ?_⟩
        show D.nx (σ.set i (some (.ref a))) H1
        rw [set_self g1]
        exact h1 M1 ρ1 σ H1 r1 (Keep.refl _ _ _ _)
      | un => simp only [q] at h1; exact h1.elim
      | v d => simp only [q] at h1; exact h1.elim
      | od a1 a2 a3 => simp only [q] at h1; exact h1.elim
end
/-! ### a, b, n = .., .., 0 -/
def par3 (i j l : Nat) (p q : Pc) (n : Int) : Sm := fun s => (par2 i j p q s).bind fun fl s1 => match fl with
  | .nx => .ok .nx ⟨s1.env.set l (.v (.int n)), s1.hp⟩
  | _ => .bad
section
variable {X : Cx} {c : Cn} {g : Gr} {W : WX} {σ : L2.St} {H : Hp} {p q : Pc} {a b : Expr} {i j l : Nat} {pos cp : Pos}
theorem tPc.mono {Q Q' : VK} (m : ∀ v H, Q v H → Q' v H) (h : tPc c W p σ H Q) : tPc c W p σ H Q' := by
  obtain ⟨g, M, ρ, s, rel, h⟩ := h
  refine ⟨g, M, ρ, s, rel, ?_⟩
  cases e : evP p s with
  | ok sl s' => rw [e] at h; exact fun M' ρ' v H' r k z => m _ _ (h M' ρ' v H' r k z)
  | exc x s' => rw [e] at h; exact h
  | bad => rw [e] at h; exact h
theorem par2_nx {s s1 : S} {fl : Fl} (h : par2 i j p q s = .ok fl s1) : fl = .nx := by
  unfold par2 at h
  cases e : evP p s with
  | ok x s' =>
    rw [e] at h
    simp only [R.bind_ok] at h
    cases e2 : evP q s' with
    | ok y s2 => rw [e2] at h; simp only [R.bind_ok] at h; cases h; rfl
    | exc x s2 => rw [e2] at h; cases h
    | bad => rw [e2] at h; cases h
  | exc x s' => rw [e] at h; cases h
  | bad => rw [e] at h; cases h
theorem t_par3 {n : Int} {D : Ends} (h : tS c W (par3 i j l p q n) D σ H) : tPar3 i j l (tCons (tPc c W p) (tCons (tPc c W q) (tCons (tC (.int n)) tNil))) D σ H := by
  obtain ⟨g, M, ρ, s, rel, h⟩ := h
  let D' : Ends := { D with nx := fun σ' H' => D.nx (σ'.set l (some (.int n))) H' }
  have h2 : tS c W (par2 i j p q) D' σ H := by
    refine ⟨g, M, ρ, s, rel, ?_⟩
    unfold par3 at h
    cases e : par2 i j p q s with
    | bad => rw [e] at h; exact h.elim
    | exc x s1 => rw [e] at h; exact h
    | ok fl s1 =>
      have := par2_nx e
      subst this
      rw [e] at h
      exact fun M' ρ' σ' H' r k => h M' ρ' _ H' (r.setv (.int n)) k
  exact tPc.mono (fun v H1 z => tPc.mono (fun w H2 ⟨v', w', e, z⟩ => by
    simp only [List.cons.injEq, and_true] at e
    obtain ⟨rfl, rfl⟩ := e
    exact ⟨_, _, _, rfl, z⟩) z) (t_par h2)
theorem s_par3 {k : Nat} {n : Int} {x y z : Str} {px py pz pt : Pos} {kt k2 pt2 cj} (C : Cc X c W k) (i j l : Nat) (ha : PE X a (tPc c W p)) (hb : PE X b (tPc c W q)) (hi : X.N[i]? = some x := by rfl) (hj : X.N[j]? = some y := by rfl) (hl : X.N[l]? = some z := by rfl) (hij : i ≠ j := by decide) (hil : i ≠ l := by decide) (hjl : j ≠ l := by decide)
    (hx : X.env.scope.names.lookup x = some .local := by rfl) (hy : X.env.scope.names.lookup y = some .local := by rfl) (hz : X.env.scope.names.lookup z = some .local := by rfl)
    (hw : swappedStores [.Tuple [.Name x px, .Name y py, .Name z pz] kt pt] (.Tuple [a, b, .Constant (.int n) cj cp] k2 pt2) X.env = pure (some [x, y, z]) := by rfl)
    (hs : swapsWithSole [.Tuple [.Name x px, .Name y py, .Name z pz] kt pt] (.Tuple [a, b, .Constant (.int n) cj cp] k2 pt2) pos.line X.env = pure false := by rfl)
    (h1 : starEach [a, b, .Constant (.int n) cj cp] X.env = (false, eval a X.env) :: starEach [b, .Constant (.int n) cj cp] X.env := by rfl) (h2 : starEach [b, .Constant (.int n) cj cp] X.env = (false, eval b X.env) :: starEach [.Constant (.int n) cj cp] X.env := by rfl)
    (h3 : starEach [.Constant (.int n) cj cp] X.env = (false, eval (.Constant (.int n) cj cp) X.env) :: starEach [] X.env := by rfl) :
    PS X (.Assign [.Tuple [.Name x px, .Name y py, .Name z pz] kt pt] (.Tuple [a, b, .Constant (.int n) cj cp] k2 pt2) pos) (tS c W (par3 i j l p q n)) := ps_imp (ps_par3 C.hc C.nd hi hj hl hij hil hjl hx hy hz (pa_cons ha (pa_cons hb (pa_cons pe_int pa_nil h3) h2) h1) hw hs) fun D σ H h => t_par3 h
end
/-! ### min of data -/
mutual
theorem toPy_inj : ∀ {a b : D} {p : PyData}, toPy a = some p → toPy b = some p → a = b
  | .non, b, p, h, h' => by unfold toPy at h; cases h; cases b <;> (unfold toPy at h'; first | rfl | (simp at h'; done) | (cases h'; done))
  | .bl x, b, p, h, h' => by unfold toPy at h; cases h; cases b <;> (unfold toPy at h'; first | (simp at h'; done) | (cases h'; done) | (simp at h'; rw [h']))
  | .int x, b, p, h, h' => by unfold toPy at h; cases h; cases b <;> (unfold toPy at h'; first | (simp at h'; done) | (cases h'; done) | (simp at h'; rw [h']))
  | .str x, b, p, h, h' => by unfold toPy at h; cases h; cases b <;> (unfold toPy at h'; first | (simp at h'; done) | (cases h'; done) | (simp at h'; rw [h']))
  | .tup xs, b, p, h, h' => by
    unfold toPy at h
    obtain ⟨ps, h1, rfl⟩ := Option.map_eq_some_iff.mp h
    cases b <;> unfold toPy at h' <;> first | (simp at h'; done) | (cases h'; done) | skip
    obtain ⟨qs, h2, e⟩ := Option.map_eq_some_iff.mp h'
    cases e
    rw [toPys_inj h1 h2]
  | .lst xs, b, p, h, h' => by
    unfold toPy at h
    obtain ⟨ps, h1, rfl⟩ := Option.map_eq_some_iff.mp h
    cases b <;> unfold toPy at h' <;> first | (simp at h'; done) | (cases h'; done) | skip
    obtain ⟨qs, h2, e⟩ := Option.map_eq_some_iff.mp h'
    cases e
    rw [toPys_inj h1 h2]
  | .fn n, b, p, h, h' => by unfold toPy at h; cases h
  | .ref n, b, p, h, h' => by unfold toPy at h; cases h
  | .pr n, b, p, h, h' => by unfold toPy at h; cases h
  | .scr n, b, p, h, h' => by unfold toPy at h; cases h
  | .dct n m o, b, p, h, h' => by unfold toPy at h; cases h
theorem toPys_inj : ∀ {a b : List D} {ps : List PyData}, toPys a = some ps → toPys b = some ps → a = b
  | [], b, ps, h, h' => by
    unfold toPys at h
    cases h
    cases b with
    | nil => rfl
    | cons y b =>
      unfold toPys at h'
      obtain ⟨q, _, h2⟩ := Option.bind_eq_some_iff.mp h'
      obtain ⟨qs, _, e⟩ := Option.map_eq_some_iff.mp h2
      cases e
  | x :: a, b, ps, h, h' => by
    unfold toPys at h
    obtain ⟨p, h1, h2⟩ := Option.bind_eq_some_iff.mp h
    obtain ⟨ps', h3, rfl⟩ := Option.map_eq_some_iff.mp h2
    cases b with
    | nil => unfold toPys at h'; cases h'
    | cons y b =>
      unfold toPys at h'
      obtain ⟨q, g1, g2⟩ := Option.bind_eq_some_iff.mp h'
      obtain ⟨qs, g3, e⟩ := Option.map_eq_some_iff.mp g2
      cases e
      rw [toPy_inj h1 g1, toPys_inj h3 g3]
end
def leastD (d : D) (ds : List D) : D := ds.foldl (fun a y => if PySem.W.dataLt (pyD y) (pyD a) = true then y else a) d
def minX : D → Option D
  | .lst (d :: ds) => if srtOk (d :: ds) && decide ((d :: ds).length < LIM) then some (leastD d ds) else none
  | _ => none
theorem leastD_py : ∀ (ds : List D) (d : D), pyD (leastD d ds) = PySem.W.minD (pyD d) (ds.map pyD)
  | [], d => rfl
  | y :: ds, d => by
    show pyD (leastD (if PySem.W.dataLt (pyD y) (pyD d) = true then y else d) ds) = PySem.W.minD (if PySem.W.dataLt (pyD y) (pyD d) = true then pyD y else pyD d) (ds.map pyD)
    rw [leastD_py ds]
    congr 1
    split <;> rfl
theorem leastD_mem : ∀ (ds : List D) (d : D), leastD d ds ∈ d :: ds
  | [], d => List.mem_cons_self
  | y :: ds, d => by
    show leastD (if PySem.W.dataLt (pyD y) (pyD d) = true then y else d) ds ∈ _
    have h := leastD_mem ds (if PySem.W.dataLt (pyD y) (pyD d) = true then y else d)
    rcases List.mem_cons.mp h with h | h
    · rw [h]
      split <;> simp
    · exact List.mem_cons_of_mem _ (List.mem_cons_of_mem _ h)
theorem depthAll_le {n : Nat} : ∀ (ps : List PyData), (∀ p ∈ ps, p.depth ≤ n) → PyData.depthAll ps ≤ n
  | [], _ => by simp [PyData.depthAll]
  | p :: ps, h => by
    have h1 := h p List.mem_cons_self
    have h2 := depthAll_le ps fun q hq => h q (List.mem_cons_of_mem _ hq)
    unfold PyData.depthAll
    omega
def rMinX (c : Cn) : List V → Hp → VK → Prop := fun vs H Q => ∃ M ρ a d ds xs, vs = [V.ref a] ∧ SqL c.K H a xs ∧ RDs c M ρ H (d :: ds) xs ∧ SrtOk (d :: ds) ∧ ∀ v, RD c M ρ H (leastD d ds) v → Q v H
section
variable {X : Cx} {c : Cn} {W : WX} {k : Nat} {a : Expr} {o : Op} {p pos : Pos}
theorem cr_minX (hK : X.K = c.K) (hc : X.calm = true) (hu : X.A.units + 65 < cLine) : CallR X (.builtin "min") (rMinX c) := by
  intro pins s σ H vs us Q I r h
  obtain ⟨M, ρ, a, d, ds, xs, rfl, hs, rd, ok, q⟩ := h
  rw [Vals.ref1 r]
  obtain ⟨its, rv, hl, hz⟩ := I.list (hK ▸ hs)
  have e := each_of rd rv
  have er := each_reads I hK e ok.py
  obtain ⟨as, ra⟩ := PySem.W.each_readsAll pyD er
  have hdep : PyData.depthAll (pyD d :: ds.map pyD) ≤ 8 := depthAll_le _ fun p hp => by
    obtain ⟨y, hy, rfl⟩ := List.mem_map.mp (show p ∈ (d :: ds).map pyD from hp)
    exact ok.dp y hy
  refine PySem.W.min_list_data (I.ok.hd hc) hl.isList (x := pyD d) (xs := ds.map pyD) (as := as) (by simpa using ra) ⟨fun p hp q hq => ok.al p hp q hq, fun p hp => by
    rcases ok.so with z | z
    · obtain ⟨y, r, e⟩ := z p hp
      rw [e]
      exact fun w => by cases w
    · exact (z p hp).1⟩ (by omega) fun i v h' tk bs hi hr hk => ?_
  have I' : Inv X pins σ H { s with heap := h', toks := tk } := I.kept hk
  have hi' : its[i]? = some v := by simpa using hi
  obtain ⟨x, hx1, hx2⟩ := vals_get rv hi'
  obtain ⟨dd, hd1, hd2⟩ : ∃ dd, (d :: ds)[i]? = some dd ∧ RD c M ρ H dd x := by
    have hlen : i < xs.length := (List.getElem?_eq_some_iff.mp hx1).1
    have hlen2 : i < (d :: ds).length := by rw [rd.length]; exact hlen
    obtain ⟨u, hu1, hu2⟩ := rd.get (List.getElem?_eq_getElem hlen2)
    rw [hx1] at hu1
    cases hu1
    exact ⟨_, List.getElem?_eq_getElem hlen2, hu2⟩
  have hdm : dd ∈ d :: ds := List.mem_of_getElem? hd1
  have hpy := ok.py dd hdm
  obtain ⟨as2, r2⟩ : ∃ as, Reads h' v (pyD dd) as := Dp.reads I' _ x _ (hK ▸ hd2.dp hpy) hx2
  have e1 : pyD dd = pyD (leastD d ds) := by rw [leastD_py]; exact (Reads.unique r2 _ _ hr).1
  have e2 : dd = leastD d ds := toPy_inj hpy (by rw [e1]; exact ok.py _ (leastD_mem ds d))
  exact ⟨x, H, I', hx2, q x (e2 ▸ hd2)⟩
theorem v_minX : V1 c (fun v H Q => rMinX c [v] H Q) minX := by
  intro M ρ H x e v Q dm hx hF q
  unfold minX at hF
  split at hF
  · split at hF
    · rename_i hs
      rw [Bool.and_eq_true] at hs
      cases hF
      obtain ⟨a, vs, rfl, h1, h2⟩ := hx.lst
      exact ⟨M, ρ, a, _, _, vs, rfl, .inl (.inl h1), h2, srtOk_is hs.1, fun v hv => q v H (Ext.refl H) hv⟩
    · cases hF
  · cases hF
theorem e_minX (C : Cc X c W k) (ha : PE X a (tO c W o)) (hm : c.mg "min" = none) (hg : Gl X "min" := by rfl) (hs : starEach [a] X.env = (false, eval a X.env) :: starEach [] X.env := by rfl) (hpl : (backTo pos (starEach [] X.env)).any (·.1) = false := by rfl) :
    PE X (.Call (.Name "min" p) [a] [] pos) (tE c W (op1 minX o)) := e_B1 (cr_minX C.hK C.hc (by have := C.rm.un; omega)) v_minX hg (by rw [C.hm]; exact hm) (by first | rfl | decide +kernel) ha (by decide) (by decide) hs hs hpl
end
end DS
/-! DS36: sorted of tuples, the first one empty. -/
namespace DS
open PySem PySem.Spec PyProof.Rows L2
section
open PySem.SeqAt
variable {prog : Program} {w : World} {A : Around} {E : Value → Shared → Prop} {s : Shared}
theorem call_tup_lt {Q : Value → Shared → Prop} {l b : Addr} {xs ys : Array Value} {e r : Nat → Bool} (hl : s.heap.IsTuple l xs) (hb : s.heap.IsTuple b ys)
    (he : ∀ j (h1 : j < xs.size) (h2 : j < ys.size), EqAt A.in1 s xs[j] ys[j] (e j)) (hr : ∀ j (h1 : j < xs.size) (h2 : j < ys.size), e j = false → RcLt A.in1 s xs[j] ys[j] (r j))
    (h : Q (.bool (firstLt e r (decide (xs.size < ys.size)) (List.range (min xs.size ys.size)))) s) : wpAny (model prog w) A (call (.builtin "tuple.__lt__") [.ref l, .ref b]) Q E s := by
  obtain ⟨⟨c1, d1, t1, sl1⟩, ho, hc, n, hd⟩ := id hl
  obtain ⟨⟨c2, d2, t2, sl2⟩, ho2, hc2, n2, hd2⟩ := id hb
  simp only at hc hd hc2 hd2
  subst hc hd hc2 hd2
  exact call_meets PySem.F.slot_tuple_lt ⟨_, ho, rfl⟩ PySem.F.entry_tuple_lt (PySem.F.args_tuple_lt_2 _ _) (tuple_ltAt l b xs ys n n2 d1 d2 sl1 sl2 e r) ⟨ho, ho2, he, hr, h⟩
/-- one tuple against another, by their type -/
theorem oneLt_tup {xs ys : List PyData} {a b : Value} {as bs : List Addr} {Q : Bool → Shared → Prop} (ra : Reads s.heap a (.tuple xs) as) (rb : Reads s.heap b (.tuple ys) bs) (h : PySem.W.alikeAll xs ys = true)
    (hu : A.units + min (PyData.tuple xs).depth (PyData.tuple ys).depth < cLine) (hq : Q (PySem.W.dataLt (.tuple xs) (.tuple ys)) s) : wpAny (model prog w) A (oneLt' true a b) Q E s := by
  cases ra with
  | @tuple l o vs n _ as₁ h1 h2 h3 h4 =>
    cases rb with
    | @tuple l' o' vs' n' _ bs₁ k1 k2 k3 k4 =>
      have n1 : vs.size = xs.length := by simpa using ReadsAll.length _ _ _ h4
      have n2 : vs'.size = ys.length := by simpa using ReadsAll.length _ _ _ k4
      rw [PySem.W.dataLt_tuple, ← PySem.W.firstLt_toks xs ys h, ← n1, ← n2] at hq
      rw [oneLt'_eq]
      simp only [if_true]
      refine wpAny_bind (wpAny_cRoomFor (by omega) ?_)
      refine wpAny_bind (wpAny_callSpecialIfBound?_slot (T := "tuple") ⟨_, h1, h2⟩ PySem.F.slot_tuple_lt (call_tup_lt (e := pairEq xs ys) (r := fun j => PySem.W.dataLt (xs.getD j .none) (ys.getD j .none)) ⟨_, h1, h2, _, h3⟩ ⟨_, k1, k2, _, k3⟩ (fun j j1 j2 => ?_) (fun j j1 j2 hj => ?_) ?_))
      · have := PySem.W.eqAt_alikeAll xs ys A.in1 s vs.toList vs'.toList _ _ h4 k4 h (room_in hu) j (by simpa using j1) (by simpa using j2)
        simpa using this
      · have := PySem.W.rcLt_alikeAll xs ys A.in1 s vs.toList vs'.toList _ _ h4 k4 h (room_in hu) j (by simpa using j1) (by simpa using j2) hj
        simpa using this
      · exact wpAny_truthy_bool hq
end
/-! the kind of keys: all tuples, the first one empty -/
section
variable {M : Model} {A : Around} {E : Value → Shared → Prop} {s : Shared}
def TupsAt (h : Heap) (vs : List Value) : Prop := ∀ v ∈ vs, ∃ a o xs n, v = .ref a ∧ h.get? a = some o ∧ o.cls = .type "tuple" ∧ o.data = .seq xs n
theorem tup_firsts : ∀ (vs : List Value) {Q : List (Option Value) → Shared → Prop}, TupsAt s.heap vs → (∀ fs, fs.length = vs.length → (∀ a o n, vs[0]? = some (.ref a) → s.heap.get? a = some o → o.data = .seq #[] n → fs[0]? = some none) → Q fs s) → wpAny M A (vs.mapM firstOfTuple') Q E s
  | [], _, _, h => by rw [List.mapM_nil]; exact wpAny_pure (h [] rfl (fun a o n e => by cases e))
  | v :: vs, Q, t, h => by
    obtain ⟨a, o, xs, n, rfl, ho, hc, hd⟩ := t _ List.mem_cons_self
    rw [List.mapM_cons]
    refine wpAny_bind ?_
    rw [PySem.W.kas_first_eq]
    refine wpAny_bind (PySem.W.Looks.here (show PySem.W.Looks M s.heap (typeOf (.ref a)) o.cls from (PySem.W.Looks.ld ho).andThen .now) ?_)
    rw [hc, if_neg (by first | decide | simp)]
    refine wpAny_bind (listItems_at ho hd (wpAny_pure ?_))
    refine wpAny_bind (tup_firsts vs (Q := fun bs s' => wpAny M A (pure (xs[0]? :: bs)) Q E s') (fun v hv => t v (List.mem_cons_of_mem _ hv)) fun fs hl _ => wpAny_pure (h _ (by rw [List.length_cons, List.length_cons, hl]) fun a' o' n' e e1 e2 => ?_))
    cases e
    rw [ho] at e1
    cases e1
    rw [hd] at e2
    cases e2
    rfl
theorem tup_kind {vs : List Value} {Q : SortKind → Shared → Prop} (t : TupsAt s.heap vs) {a : Addr} {o : Obj} {n : Nat} (h0 : vs[0]? = some (.ref a)) (ho : s.heap.get? a = some o) (hd : o.data = .seq #[] n) (h : Q oneType' s) : wpAny M A (keyKind' vs.toArray) Q E s := by
  obtain ⟨v, rest, rfl⟩ : ∃ v rest, vs = v :: rest := by
    cases vs with
    | nil => cases h0
    | cons v rest => exact ⟨v, rest, rfl⟩
  rw [keyKind'_eq, List.mapM_toArray, map_eq_pure_bind]
  refine wpAny_bind (wpAny_bind (tup_firsts _ t fun fs hl hf => wpAny_pure ?_))
  have f0 := hf a o n h0 ho hd
  obtain ⟨fr, rfl⟩ : ∃ fr, fs = none :: fr := by
    cases fs with
    | nil => cases f0
    | cons f fr => cases f0; exact ⟨fr, rfl⟩
  rw [if_neg (by simp), if_neg (by simp)]
  rw [oneTypeOnly'_eq, List.mapM_toArray, map_eq_pure_bind]
  refine wpAny_bind (wpAny_bind (wpAny_bind (PySem.W.kas_mapM (r := Value.type "tuple") _ (fun v hv Q' hq => ?_) (wpAny_pure ?_))))
  · obtain ⟨a', o', xs, n', rfl, ho', hc, hd'⟩ := t v hv
    exact PySem.W.Looks.here (show PySem.W.Looks M s.heap (typeOf (.ref a')) (Value.type "tuple") from hc ▸ (PySem.W.Looks.ld ho').andThen .now) hq
  · have hall : ((List.map (fun _ => Value.type "tuple") (v :: rest)).toArray.all fun x => x == Value.type "tuple") = true := by
      simp only [List.all_toArray, List.all_map, List.all_eq_true]
      intro _ _
      exact beq_self_eq_true _
    have h1 : (List.map (fun _ => Value.type "tuple") (v :: rest)).toArray[0]? = some (Value.type "tuple") := by simp
    rw [h1]
    simp only [hall, if_true]
    exact wpAny_pure (wpAny_pure h)
end
section
open PySem.W
variable {prog : Program} {w : World} {A : Around} {E : Value → Shared → Prop} {s : Shared} {β : Type} {vs : List Value} {bs : List β} {enc : β → PyData} {R : Value → β → Prop}
theorem tups_at {h : Heap} : ∀ {vs : List Value} {ds : List PyData}, EachIs (fun v d => ∃ as, Reads h v d as) vs ds → (∀ d ∈ ds, ∃ r, d = .tuple r) → TupsAt h vs
  | _, _, .nil, _ => fun v hv => nomatch hv
  | _, _, .cons ⟨as, r⟩ t, ht => fun v hv => by
    rcases List.mem_cons.mp hv with rfl | hv
    · obtain ⟨x, rfl⟩ := ht _ List.mem_cons_self
      cases r with
      | tuple ho hc hd hr => exact ⟨_, _, _, _, rfl, ho, hc, hd⟩
    · exact tups_at t (fun d hd => ht d (List.mem_cons_of_mem _ hd)) v hv
theorem sorts_tups {ds : List PyData} (e : EachIs (fun v d => ∃ as, Reads s.heap v d as) vs (.tuple [] :: ds)) (hal : AllAlike (.tuple [] :: ds)) (ht : ∀ d ∈ (PyData.tuple [] :: ds), ∃ r, d = .tuple r) (hu : ∀ d, d ∈ (PyData.tuple [] :: ds) → A.units + d.depth < cLine) : SortsAt prog w A s (dataKind s.heap (.tuple [] :: ds)) vs := by
  refine ⟨fun v hv => ?_, oneType', ?_, fun h2 E Q hq => ?_⟩
  · obtain ⟨d, hd, as, r⟩ := e.left v hv
    exact ⟨_, dataKind_some hal hd r⟩
  · intro E x y a b Q ha hb hq
    obtain ⟨d, as, hd, ra, rfl⟩ := dataKind_inv ha
    obtain ⟨d', as', hd', rb, rfl⟩ := dataKind_inv hb
    obtain ⟨r1, rfl⟩ := ht d hd
    obtain ⟨r2, rfl⟩ := ht d' hd'
    rw [keyLt'_oneType]
    exact oneLt_tup ra rb (by simpa [alike] using hal _ hd _ hd') (Nat.lt_of_le_of_lt (Nat.add_le_add_left (Nat.min_le_left _ _) _) (hu _ hd)) hq
  · have ta := tups_at e ht
    cases e with
    | cons h t =>
      obtain ⟨as, r⟩ := h
      cases r with
      | @tuple a o xs n _ _ ho hc hd hr =>
        have hx : xs = #[] := by
          have := SeqAt.ReadsAll.length _ _ _ hr
          exact Array.eq_empty_of_size_eq_zero (by simpa using this)
        subst hx
        exact tup_kind ta rfl ho hd hq
theorem sorted_tupsE {b0 : β} {l : Addr} {Q : Value → Shared → Prop} (hl : s.heap.IsList l vs.toArray) (e : EachIs R vs (b0 :: bs)) (er : EachIs (fun v b => ∃ as, Reads s.heap v (enc b) as) vs (b0 :: bs)) (h0 : enc b0 = .tuple []) (hal : AllAlike ((b0 :: bs).map enc)) (ht : ∀ d ∈ (b0 :: bs).map enc, ∃ r, d = .tuple r) (hL : (b0 :: bs).length ≤ sizeLine)
    (hu : ∀ b, b ∈ (b0 :: bs) → A.units + 2 + (enc b).depth < cLine) (h : ∀ out, out.length = (b0 :: bs).length → EachIs R out ((b0 :: bs).mergeSort (dataLe false enc)) → Q (.ref (s.heap.objs.size + 1)) { s with heap := sortedAll s.heap vs (List.toArray out) }) : wpAny (model prog w) A (call (.builtin "sorted") [.ref l]) Q E s := by
  have er' : EachIs (fun v b => ∃ as, Reads (sortingHeap (copyHeap s.heap vs) (s.heap.objs.size + 1) vs) v (enc b) as) vs (b0 :: bs) := er.mono fun _ _ ⟨as, r⟩ => ⟨as, PyProof.Rows.Reads.keeps (fun _ _ => sorting_copy_old) r⟩
  have em := each_map (R := fun v d => ∃ as, Reads (sortingHeap (copyHeap s.heap vs) (s.heap.objs.size + 1) vs) v d as) enc er'
  rw [List.map_cons, h0] at em hal ht
  have sa := sorts_tups (prog := prog) (w := w) (A := A.in1.in1) (s := { s with heap := sortingHeap (copyHeap s.heap vs) (s.heap.objs.size + 1) vs }) em hal ht (by
    have : ∀ d, d ∈ (b0 :: bs).map enc → A.in1.in1.units + d.depth < cLine := bound_map (A := A.in1.in1) hu
    rw [List.map_cons, h0] at this
    exact this)
  have hal' : AllAlike ((b0 :: bs).map enc) := by rw [List.map_cons, h0]; exact hal
  have sv := sortVals_data false e er' hal'
  rw [List.map_cons, h0] at sv
  exact sorted_vals hl sa (by rw [e.length]; exact hL) (h _ (by rw [sortVals_length false rfl]; exact e.length) sv)
end
def isTupD : D → Bool
  | .tup _ => true
  | _ => false
def srtOkE (ds : List D) : Bool := match ds with
  | .tup [] :: _ => (match toPys ds with
    | some ps => ps.all (fun p => ps.all fun q => PySem.W.alike p q) && ps.all (fun p => decide (p.depth ≤ 8))
    | none => false) && ds.all isTupD && decide (ds.length < LIM)
  | _ => false
def srtE : D → Option (List D)
  | .lst xs => if srtOkE xs then some (srtP xs) else none
  | _ => none
theorem srtOkE_is {ds : List D} (h : srtOkE ds = true) : ∃ r, ds = .tup [] :: r ∧ (∀ d ∈ ds, toPy d = some (pyD d)) ∧ PySem.W.AllAlike (ds.map pyD) ∧ (∀ d ∈ ds, (pyD d).depth ≤ 8) ∧ (∀ d ∈ ds, ∃ r, d = .tup r) ∧ ds.length < LIM := by
  unfold srtOkE at h
  split at h
  · rename_i r
    rw [Bool.and_eq_true, Bool.and_eq_true, decide_eq_true_eq] at h
    obtain ⟨⟨h1, h2⟩, h3⟩ := h
    cases q : toPys (.tup [] :: r) with
    | none => rw [q] at h1; cases h1
    | some ps =>
      rw [q] at h1
      obtain ⟨e1, e2⟩ := toPys_map q
      simp only [Bool.and_eq_true, List.all_eq_true] at h1
      rw [e1] at h1
      refine ⟨r, rfl, e2, fun d hd d' hd' => h1.1 d hd d' hd', fun d hd => by simpa using h1.2 _ (List.mem_map_of_mem hd), fun d hd => ?_, h3⟩
      have := List.all_eq_true.mp h2 d hd
      cases d <;> first | exact ⟨_, rfl⟩ | cases this
  · cases h
def rSrtE (c : Cn) : List V → Hp → VK → Prop := fun vs H Q => ∃ M ρ a ds xs, vs = [V.ref a] ∧ SqL c.K H a xs ∧ RDs c M ρ H ds xs ∧ srtOkE ds = true ∧ ∀ (us : List V) (p : Addr), RDs c M ρ H (srtP ds) us → H p = none → Q (.ref p) (upd H p (.lst us))
section
variable {X : Cx} {c : Cn} {W : WX} {k : Nat} {a : Expr} {o : Op} {p pos : Pos}
theorem cr_srtE (hK : X.K = c.K) (hu : X.A.units + 65 < cLine) : CallR X (.builtin "sorted") (rSrtE c) := by
  intro pins s σ H vs us Q I r h
  obtain ⟨M, ρ, a, ds, xs, rfl, hs, rd, ok, q⟩ := h
  rw [Vals.ref1 r]
  obtain ⟨its, rv, hl, hz⟩ := I.list (hK ▸ hs)
  obtain ⟨r0, rfl, py, al, dp, tp, lim⟩ := srtOkE_is ok
  have e := each_of rd rv
  have er := each_reads I hK e py
  have hlen : its.length ≤ sizeLine := by rw [← rv.length]; exact hz
  have p0 : pyD (.tup []) = .tuple [] := by unfold pyD toPy toPys; rfl
  refine sorted_tupsE hl.isList e er p0 al (fun d hd => ?_) (by rw [← e.length]; exact hlen) (fun b hb => by have := dp b hb; omega) fun out ho eo => ?_
  · obtain ⟨y, hy, rfl⟩ := List.mem_map.mp hd
    obtain ⟨ts, rfl⟩ := tp y hy
    have := py _ hy
    unfold toPy at this
    obtain ⟨ps, _, e2⟩ := Option.map_eq_some_iff.mp this
    exact ⟨ps, e2.symm⟩
  · obtain ⟨zs, h1, h2⟩ := each_back eo
    obtain ⟨ep, he'⟩ := PyProof.Rows.sortedAll_at s.heap its out.toArray
    have hlo : zs.length ≤ sizeLine := by rw [h2.length, ho, ← e.length]; exact hlen
    exact ⟨.ref _, upd H (s.heap.objs.size + 1) (.lst zs), I.laid (t' := s.toks) (fun _ _ => PyProof.Rows.sortedAll_old) (Nat.le_succ _) ⟨hlo, out, ep, h2, he'⟩, rfl, q _ _ (by rw [srtP_eq]; exact h1) (I.hok.fresh (Nat.le_succ _))⟩
theorem v_srtE : V1L c (fun v H Q => rSrtE c [v] H Q) srtE := by
  intro M ρ H x v xs Q d hx hF q
  unfold srtE at hF
  split at hF
  · split at hF
    · cases hF
      obtain ⟨a, vs, rfl, h1, h2⟩ := hx.lst
      exact ⟨M, ρ, a, _, vs, rfl, .inl (.inl h1), h2, by assumption, fun us p h3 hp => q p us _ hp (Ext.new hp) upd_same h3⟩
    · cases hF
  · cases hF
theorem l_srtE (C : Cc X c W k) (ha : PE X a (tO c W o)) (hm : c.mg "sorted" = none) (hg : Gl X "sorted" := by rfl) (hs : starEach [a] X.env = (false, eval a X.env) :: starEach [] X.env := by rfl) (hpl : (backTo pos (starEach [] X.env)).any (·.1) = false := by rfl) :
    PE X (.Call (.Name "sorted" p) [a] [] pos) (tL c W (op1L srtE o)) := l_B1 (cr_srtE C.hK (by have := C.rm.un; omega)) v_srtE hg (by rw [C.hm]; exact hm) (by first | rfl | decide +kernel) ha (by decide) (by decide) hs hs hpl
end
end DS
/-! DS37: a, b, n = .., .., 0 through a tuple (a name that blocks see). -/
namespace DS
open PySem PySem.Spec PyProof.Rows L2
section
variable {X : Cx} {c : Cn} {g : Gr} {W : WX} {σ : L2.St} {H : Hp} {p q : Pc} {a b : Expr} {i j l : Nat} {pos cp : Pos}
theorem t_ext {f : Sm} {D : Ends} (hf : ∀ s fl s1, f s = .ok fl s1 → fl = .nx) (h : tS c W f D σ H) : tS c W f { D with nx := fun σ' H' => ∀ H'', Ext H' H'' → D.nx σ' H'' } σ H := by
  obtain ⟨g, M, ρ, s, rel, h⟩ := h
  refine ⟨g, M, ρ, s, rel, ?_⟩
  cases e : f s with
  | bad => rw [e] at h; exact h
  | exc x s1 => rw [e] at h; exact h
  | ok fl s1 =>
    have := hf s fl s1 e
    subst this
    rw [e] at h
    exact fun M' ρ' σ' H' r k H'' x => h M' ρ' σ' H'' (r.ext x) (k.trans (r.kext x))
theorem par3_nx {n : Int} {s s1 : S} {fl : Fl} (h : par3 i j l p q n s = .ok fl s1) : fl = .nx := by
  unfold par3 at h
  cases e : par2 i j p q s with
  | bad => rw [e] at h; cases h
  | exc x s' => rw [e] at h; cases h
  | ok f2 s' =>
    have := par2_nx e
    subst this
    rw [e] at h
    simp only [R.bind_ok] at h
    cases h
    rfl
theorem s_asg3 {k : Nat} {n : Int} {x y z : Str} {px py pz pt : Pos} {kt k2 pt2 cj} (C : Cc X c W k) (i j l : Nat) (ha : PE X a (tPc c W p)) (hb : PE X b (tPc c W q)) (hi : X.N[i]? = some x := by rfl) (hj : X.N[j]? = some y := by rfl) (hl : X.N[l]? = some z := by rfl)
    (hx : Loc X.env.scope x := by first | exact Or.inl rfl | exact Or.inr rfl) (hy : Loc X.env.scope y := by first | exact Or.inl rfl | exact Or.inr rfl) (hz : Loc X.env.scope z := by first | exact Or.inl rfl | exact Or.inr rfl)
    (fx : X.fn x = true ∨ X.env.scope.names.lookup x = some .local := by first | exact .inl rfl | exact .inr rfl) (fy : X.fn y = true ∨ X.env.scope.names.lookup y = some .local := by first | exact .inl rfl | exact .inr rfl) (fz : X.fn z = true ∨ X.env.scope.names.lookup z = some .local := by first | exact .inl rfl | exact .inr rfl)
    (hw : swappedStores [.Tuple [.Name x px, .Name y py, .Name z pz] kt pt] (.Tuple [a, b, .Constant (.int n) cj cp] k2 pt2) X.env = pure none := by rfl)
    (hs : swapsWithSole [.Tuple [.Name x px, .Name y py, .Name z pz] kt pt] (.Tuple [a, b, .Constant (.int n) cj cp] k2 pt2) pos.line X.env = pure false := by rfl)
    (h0 : (assignEach [.Tuple [.Name x px, .Name y py, .Name z pz] kt pt] X.env).map (·.2) = [assign (.Tuple [.Name x px, .Name y py, .Name z pz] kt pt) X.env] := by rfl)
    (t1 : (assignEach [.Name x px, .Name y py, .Name z pz] X.env).map (·.2) = assign (.Name x px) X.env :: (assignEach [.Name y py, .Name z pz] X.env).map (·.2) := by rfl)
    (t2 : (assignEach [.Name y py, .Name z pz] X.env).map (·.2) = assign (.Name y py) X.env :: (assignEach [.Name z pz] X.env).map (·.2) := by rfl)
    (t3 : (assignEach [.Name z pz] X.env).map (·.2) = assign (.Name z pz) X.env :: (assignEach [] X.env).map (·.2) := by rfl)
    (t4 : (assignEach [.Name x px, .Name y py, .Name z pz] X.env).length = 3 := by rfl) (t5 : (assignEach [.Name x px, .Name y py, .Name z pz] X.env).findIdx? (·.1) = none := by rfl)
    (h1 : starEach [a, b, .Constant (.int n) cj cp] X.env = (false, eval a X.env) :: starEach [b, .Constant (.int n) cj cp] X.env := by rfl) (h2 : starEach [b, .Constant (.int n) cj cp] X.env = (false, eval b X.env) :: starEach [.Constant (.int n) cj cp] X.env := by rfl)
    (h3 : starEach [.Constant (.int n) cj cp] X.env = (false, eval (.Constant (.int n) cj cp) X.env) :: starEach [] X.env := by rfl) :
    PS X (.Assign [.Tuple [.Name x px, .Name y py, .Name z pz] kt pt] (.Tuple [a, b, .Constant (.int n) cj cp] k2 pt2) pos) (tS c W (par3 i j l p q n)) :=
  ps_imp (ps_asg (pe_tupN (pa_cons ha (pa_cons hb (pa_cons pe_int pa_nil h3) h2) h1)) (pg_tup C.hc (pgs_cons (pg_name C.nd hi hx fx) (pgs_cons (pg_name C.nd hj hy fy) (pgs_cons (pg_name C.nd hl hz fz) pgs_nil t3) t2) t1) t4 t5) hs hw h0) fun D σ H h => by
  have h := t_par3 (t_ext (fun s fl s1 e => par3_nx e) h)
  refine tPc.mono (fun v H1 z => tPc.mono (fun w H2 z => ?_) z) h
  obtain ⟨v1, v2, v3, e, z⟩ := z
  simp only [List.cons.injEq, and_true] at e
  obtain ⟨rfl, rfl, rfl⟩ := e
  refine ⟨by show 3 ≤ sizeLine; rw [sizeLine_eq]; decide, fun t o hn hc hd => ?_⟩
  exact ⟨t, _, rfl, TupN.sq (K := X.K) ⟨o, upd_same, hc, hd⟩, rfl, _, _, rfl, _, _, rfl, _, _, rfl, rfl, z _ (Ext.new hn)⟩
theorem s_asg2 {k : Nat} {x y : Str} {px py pt : Pos} {kt k2 pt2} (C : Cc X c W k) (i j : Nat) (ha : PE X a (tPc c W p)) (hb : PE X b (tPc c W q)) (hi : X.N[i]? = some x := by rfl) (hj : X.N[j]? = some y := by rfl)
    (hx : Loc X.env.scope x := by first | exact Or.inl rfl | exact Or.inr rfl) (hy : Loc X.env.scope y := by first | exact Or.inl rfl | exact Or.inr rfl)
    (fx : X.fn x = true ∨ X.env.scope.names.lookup x = some .local := by first | exact .inl rfl | exact .inr rfl) (fy : X.fn y = true ∨ X.env.scope.names.lookup y = some .local := by first | exact .inl rfl | exact .inr rfl)
    (hw : swappedStores [.Tuple [.Name x px, .Name y py] kt pt] (.Tuple [a, b] k2 pt2) X.env = pure none := by rfl)
    (hs : swapsWithSole [.Tuple [.Name x px, .Name y py] kt pt] (.Tuple [a, b] k2 pt2) pos.line X.env = pure false := by rfl)
    (h0 : (assignEach [.Tuple [.Name x px, .Name y py] kt pt] X.env).map (·.2) = [assign (.Tuple [.Name x px, .Name y py] kt pt) X.env] := by rfl)
    (t1 : (assignEach [.Name x px, .Name y py] X.env).map (·.2) = assign (.Name x px) X.env :: (assignEach [.Name y py] X.env).map (·.2) := by rfl)
    (t2 : (assignEach [.Name y py] X.env).map (·.2) = assign (.Name y py) X.env :: (assignEach [] X.env).map (·.2) := by rfl)
    (t4 : (assignEach [.Name x px, .Name y py] X.env).length = 2 := by rfl) (t5 : (assignEach [.Name x px, .Name y py] X.env).findIdx? (·.1) = none := by rfl)
    (h1 : starEach [a, b] X.env = (false, eval a X.env) :: starEach [b] X.env := by rfl) (h2 : starEach [b] X.env = (false, eval b X.env) :: starEach [] X.env := by rfl) :
    PS X (.Assign [.Tuple [.Name x px, .Name y py] kt pt] (.Tuple [a, b] k2 pt2) pos) (tS c W (par2 i j p q)) :=
  ps_imp (ps_asg (pe_tupN (pa_cons ha (pa_cons hb pa_nil h2) h1)) (pg_tup C.hc (pgs_cons (pg_name C.nd hi hx fx) (pgs_cons (pg_name C.nd hj hy fy) pgs_nil t2) t1) t4 t5) hs hw h0) fun D σ H h => by
  have h := t_par (t_ext (fun s fl s1 e => par2_nx e) h)
  refine tPc.mono (fun v H1 z => tPc.mono (fun w H2 z => ?_) z) h
  obtain ⟨v1, v2, e, z⟩ := z
  simp only [List.cons.injEq, and_true] at e
  obtain ⟨rfl, rfl⟩ := e
  refine ⟨by show 2 ≤ sizeLine; rw [sizeLine_eq]; decide, fun t o hn hc hd => ?_⟩
  exact ⟨t, _, rfl, TupN.sq (K := X.K) ⟨o, upd_same, hc, hd⟩, rfl, _, _, rfl, _, _, rfl, rfl, z _ (Ext.new hn)⟩
end
end DS
/-! DS38: a, b, .. = a list of that length. -/
namespace DS
open PySem PySem.Spec PyProof.Rows L2
def gL (n : Nat) (f : List D → S → Option S) : Tg := fun d s => match d with
  | .lst ds => if ds.length = n then f ds s else none
  | _ => none
section
variable {X : Cx} {c : Cn} {g : Gr} {W : WX} {pos : Pos} {vs : List Nat} {fs : List D → S → Option S} {es : List Expr}
theorem g_lst {n : Nat} {k : Nat} (hc : X.calm = true) (hK : X.K = c.K) (h : PGs X es (tGs c W vs fs)) (hn : (assignEach es X.env).length = n := by rfl) (hst : (assignEach es X.env).findIdx? (·.1) = none := by rfl) : PG X (.Tuple es k pos) (tG c W vs (gL n fs)) := pg_imp (pg_unl hc h hn hst) fun v σ H Q h => by
  obtain ⟨g, M, ρ, s, d, s', rel, hd, q, h⟩ := h
  cases d <;> first | cases q | skip
  rename_i ds
  cases hd with
  | lst h1 m h2 =>
  by_cases hl : ds.length = n
  · exact ⟨_, _, rfl, hK ▸ .inl (.inl h1), by rw [← h2.length]; exact hl, g, M, ρ, s, ds, s', rel, h2, by simpa only [gL, if_pos hl] using q, h⟩
  · simp only [gL, if_neg hl] at q
    cases q
end
end DS
/-! DS39: a tuple once is that tuple. -/
namespace DS
open PySem PySem.Spec PyProof.Rows L2
theorem tuple_mul1 (l : Addr) (items : Array Value) (n : Nat) (dd : Option Addr) (sl : Array (Option Value)) (x : Int) (u : PySem.Tok) (b0 : (decide (x < -(2 ^ 63)) || decide (x ≥ 2 ^ 63)) = false) (b1 : (items.isEmpty || x == 1) = true) :
    Meets (Builtin.«tuple.__mul__» ⟨[.ref l, .int x u], []⟩) (fun _ R s => s.heap.get? l = some { cls := .type "tuple", dict := dd, data := .seq items n, slots := sl } ∧ R (.ok (.ret (Value.ref l))) s) :=
  .of_wp fun prog w A R s h => by
    obtain ⟨hp, g, d, tk, os⟩ := s
    obtain ⟨hl, h⟩ := h
    have f1 := AutoSeq1.idx_int
    wp_walk using wpAny_loadPart' hl
    iterate 6 first
      | (refine wpAny_ite_false (decide_eq_false (show ¬ _ = true by rw [b0]; decide)) ?_; wp_walk using wpAny_loadPart' hl)
      | (refine wpAny_ite_true (decide_eq_true (show _ = true from b1)) ?_; wp_walk using wpAny_loadPart' hl)
      | skip
    exact ⟨_, rfl, h⟩
def rRep1 (K : PySem.W.Frag) : R2 := fun x y H Q => ∃ l k xs, x = .ref l ∧ y = .int k ∧ SqT K H l xs ∧ (xs = [] ∨ k = 1) ∧ -1000 ≤ k ∧ k ≤ 1000 ∧ Q (.ref l) H
theorem op_rep1 {X : Cx} : OpR X (binaryOp .Mult) (rRep1 X.K) := by
  intro pins s σ H x y v u Q I rx ry z
  obtain ⟨l, k, xs, rfl, rfl, hT, hne, h1, h2, q⟩ := z
  cases rx
  obtain ⟨tk, rfl⟩ := ry
  obtain ⟨us, r, ⟨⟨cl, dd, da, sl⟩, ho, hc, n, hd⟩, hs⟩ := I.tuple hT
  dsimp only at hc hd
  cases hc
  cases hd
  have el : us.length = xs.length := r.length.symm
  have d0 : (decide (k < -(2 ^ 63)) || decide (k ≥ 2 ^ 63)) = false := by
    simp only [Bool.or_eq_false_iff, decide_eq_false_iff_not]
    omega
  have d1 : (us.toArray.isEmpty || k == 1) = true := by
    rcases hne with rfl | rfl
    · have : us = [] := List.eq_nil_of_length_eq_zero el
      subst this
      rfl
    · simp
  refine wpAny_binaryOp_repeat_ref (T := "tuple") (U := "int") (by decide) ⟨_, ho, rfl⟩ (fun s' => typeIs_int s' k tk) noFill_tuple_mul F.fills_int_mul F.slot_int_rmul repeat_tuple F.slot_int_index.lookup ?_
  refine call_meets F.slot_int_rmul (typeIs_int s k tk) F.entry_int_rmul (F.args_int_rmul_2 _ _) (int_rmul_tuple k tk l us.toArray n dd sl) ⟨ho, rfl, ⟨_, ho, rfl⟩, ?_⟩
  exact call_meets F.slot_tuple_mul ⟨_, ho, rfl⟩ F.entry_tuple_mul (F.args_tuple_mul_2 _ _) (tuple_mul1 l us.toArray n dd sl k tk d0 d1) ⟨ho, ⟨.ref l, H, I, rfl, q⟩⟩
def mulU : D → D → Option D
  | .tup xs, .int k => if (xs.isEmpty || decide (k = 1)) && decide (-1000 ≤ k) && decide (k ≤ 1000) then some (.tup xs) else mulT (.tup xs) (.int k)
  | _, _ => none
theorem v_mulU {X : Cx} {c : Cn} (hK : X.K = c.K) : V2 c (fun x y H Q => rRep1 X.K x y H Q ∨ (rRepN X.K x y H Q ∨ rRepZ X.K x y H Q)) mulU := by
  intro M ρ H x y e v u Q d hx hy hF q
  unfold mulU at hF
  split at hF
  · rename_i xs k
    split at hF
    · cases hF
      rename_i hl
      simp only [Bool.and_eq_true, decide_eq_true_eq, Bool.or_eq_true, List.isEmpty_iff] at hl
      obtain ⟨a, vs, e1, h1, h2⟩ := hx.tup
      refine .inl ⟨a, k, vs, e1, hy.int, hK ▸ h1, ?_, hl.1.2, hl.2, ?_⟩
      · rcases hl.1.1 with h | h
        · exact .inl (by subst h; cases h2; rfl)
        · exact .inr h
      · have := q v H (Ext.refl H) hx.rdt
        rw [e1] at this
        exact this
    · exact .inr (v_mulT hK M ρ H (.tup xs) (.int k) e v u Q d hx hy hF q)
  · cases hF
theorem e_mulU {X : Cx} {c : Cn} {W : WX} {a b : Expr} {o1 o2 : Op} {pos : Pos} (hK : X.K = c.K) (ha : PE X a (tO c W o1)) (hb : PE X b (tO c W o2)) : PE X (.BinOp a .Mult b pos) (tE c W (op2 mulU o1 o2)) := pe_imp (pe_op (OpR.or op_rep1 (OpR.or op_repN op_repZ)) ha hb) fun _ _ _ h => t_op2 (v_mulU hK) h
end DS
/-! DS40: the sum of a tuple's whole numbers. -/
namespace DS
open PySem PySem.Spec PyProof.Rows L2
theorem sum_tupG {prog : Program} {w : World} {A : Around} {E : Value → Shared → Prop} {s : Shared} {l : Addr} {its : List Value} {ns : List Int} {Q : Value → Shared → Prop} (hh : A.handled = none) (hl : s.heap.IsTuple l its.toArray) (hi : IntsAre its ns)
    (h : ∀ h' tk t', (∀ b o, s.heap.get? b = some o → h'.get? b = some o) → Q (.int ns.sum t') { s with heap := h', toks := tk }) : wpAny (model prog w) A (call (.builtin "sum") [.ref l]) Q E s := by
  obtain ⟨xs, e⟩ := hi.allInts.items
  have hn : numsOf (intItems xs).toList = ns := by rw [← e]; exact hi.numsOf
  rw [nums_intItems] at hn
  rw [e] at hl
  have hlt : l < s.heap.objs.size := by obtain ⟨_, e, _⟩ := hl; exact Heap.lt_size e
  refine call_sum_walkG (wpAny_pyIter_tuple hl ⟨_, _, _, _, _, _, numAt xs, rfl, Walks.tuple (A := A.in1) hh s.heap.objs.size l (Nat.ne_of_lt hlt) (intItems xs), ⟨⟨_, Heap.get?_push_size _ rfl, rfl, rfl⟩, hl.push _⟩, fun b hb => ?_, (fun _ _ => intItems_at), fun h' tk t' hk => ?_⟩)
  · show b < (s.heap.push _).objs.size
    rw [Heap.size_push]
    rcases List.mem_cons.mp hb with rfl | hb
    · exact Nat.lt_succ_self _
    · rcases List.mem_cons.mp hb with rfl | hb
      · exact Nat.lt_succ_of_lt hlt
      · cases hb
  · have := h h' tk t' fun b o e => by
      refine hk b o (fun hm => ?_) (Heap.get?_push_of_some _ e)
      rcases List.mem_cons.mp hm with e1 | hm
      · exact absurd (e1 ▸ Heap.lt_size e) (Nat.lt_irrefl _)
      · cases hm
    rw [show (intItems xs).size = xs.size by simp [intItems], preSum_eq, List.take_of_length_le (by simp), hn]
    exact this
def rSumT (K : PySem.W.Frag) : List V → Hp → VK → Prop := fun vs H Q => ∃ (a : Addr) (ns : List Int), vs = [V.ref a] ∧ SqT K H a (ns.map V.int) ∧ Q (.int ns.sum) H
theorem cr_sumT {X : Cx} (hc : X.calm = true) : CallR X (.builtin "sum") (rSumT X.K) := by
  intro pins s σ H vs us Q I r h
  obtain ⟨a, ns, rfl, hs, q⟩ := h
  obtain ⟨its, rv, hl, _⟩ := I.tuple hs
  rw [Vals.ref1 r]
  exact sum_tupG (I.ok.hd hc) hl rv.ints fun h' tk t' hk => ⟨.int _, H, I.kept hk, ⟨_, rfl⟩, q⟩
def sumU : D → Option D
  | .lst xs => (toInts xs).map fun bs => .int bs.sum
  | .tup xs => (toInts xs).map fun bs => .int bs.sum
  | _ => none
theorem v_sumU {X : Cx} {c : Cn} (hK : X.K = c.K) : V1 c (fun v H Q => rSum X.K [v] H Q ∨ rSumT X.K [v] H Q) sumU := by
  intro M ρ H x e v Q d hx hF q
  unfold sumU at hF
  split at hF
  · obtain ⟨bs, h, rfl⟩ := Option.map_eq_some_iff.mp hF
    obtain ⟨a, vs, e1, h1, h2⟩ := hx.lst
    exact .inl ⟨a, bs, by rw [e1], .inl (.inl (by rw [← h2.ints h]; exact h1)), q _ H (Ext.refl H) (.int _)⟩
  · obtain ⟨bs, h, rfl⟩ := Option.map_eq_some_iff.mp hF
    obtain ⟨a, vs, e1, h1, h2⟩ := hx.tup
    exact .inr ⟨a, bs, by rw [e1], by rw [← h2.ints h]; exact hK ▸ h1, q _ H (Ext.refl H) (.int _)⟩
  · cases hF
theorem e_sumU {X : Cx} {c : Cn} {W : WX} {k : Nat} {a : Expr} {o1 : Op} {p pos : Pos} (C : Cc X c W k) (ha : PE X a (tO c W o1)) (hm : c.mg "sum" = none) (hg : Gl X "sum" := by rfl) (hs : starEach [a] X.env = (false, eval a X.env) :: starEach [] X.env := by rfl) (hpl : (backTo pos (starEach [] X.env)).any (·.1) = false := by rfl) :
    PE X (.Call (.Name "sum" p) [a] [] pos) (tE c W (op1 sumU o1)) := e_B1 (CallR.or (cr_sum C.hc) (cr_sumT C.hc)) (v_sumU C.hK) hg (by rw [C.hm]; exact hm) (by first | rfl | decide +kernel) ha (by decide) (by decide) hs hs hpl
end DS
/-! the defs of the text, over data -/
namespace L44
open PySem PySem.Spec PyProof.Rows L2 DS
def topS (i : Nat) : Stmt := PySem.Challenge.pw_spottedsheets_k44_all_growths_and_maps_r.main.body.getD i (.Pass ⟨0, 0, 0, 0⟩)
abbrev N_then : List Str := ["one", "other", "own"]
noncomputable def B_then : Sm := (retS (op1 tupleD (oV (ofL (lcE (itA (var 0)) (gN 2) [2] yesT (op2 ixD (oS 1) (oS 2)))))))
noncomputable def F_then : Fn := fnOf 3 B_then
abbrev N_made_from : List Str := ["many", "makers", "most", "home", "found", "line", "here", "own", "later"]
noncomputable def B_made_from : Sm := (sqS (setS 3 (tupR1 (var 0))) (sqS (par2 4 5 (.x (oneX (var 3) (cst (.bl true)))) (.l (lstE [(var 3)]))) (sqS (whlF (asB (op2 neD (oS 5) (oV (ofL (lstE []))))) (sqS (setS 6 (mutE (oS 5) [] popF)) (forS (itA (var 1)) (gN 7) (sqS (setS 8 (callE F_then [(var 6), (var 7)])) (ifS (asB (op2 (hasN not) (oS 8) (oS 4))) (sqS (ifS (asB (op2 eqD (oV (op1 lenX (oS 4))) (oS 2))) (raiS "TooMany") nxS) (sqS (setN (cst (.bl true)) (oS 4) (var 8)) (exprS (mutE (oS 5) [(var 8)] appF)))) nxS))))) (retS (ofL (op1L srtA (oS 4)))))))
noncomputable def F_made_from : Fn := fnOf 9 B_made_from
abbrev N_tupled : List Str := ["value", "own"]
noncomputable def B_tupled (F_tupled : Nat → Fn) (n : Nat) : Sm := (retS (ifE (truT (oV (op1 (isiD [.lst, .tup]) (oS 0)))) (op1 tupleD (oV (ofL (lcE (itA (var 0)) (gN 1) [1] yesT (callE (F_tupled n) [(var 1)]))))) (var 0)))
noncomputable def F_tupled : Nat → Fn
  | 0 => fun _ _ => .bad
  | n + 1 => fnOf 2 (B_tupled (fun _ => F_tupled n) n)
theorem F_tupled_s (n : Nat) : F_tupled (n + 1) = fnOf (N_tupled).length (B_tupled (fun _ => F_tupled n) n) := rfl
abbrev N_is_long : List Str := ["thing", "length"]
noncomputable def B_is_long : Sm := (retS (andE (op1 (isiD [.tup]) (oS 0)) (op2 eqD (oV (op1 lenD (oS 0))) (oS 1))))
noncomputable def F_is_long : Fn := fnOf 2 B_is_long
abbrev N_is_number : List Str := ["thing"]
noncomputable def B_is_number : Sm := (retS (andE (op1 (isiD [.int]) (oS 0)) (notE (op1 (isiD [.bl]) (oS 0)))))
noncomputable def F_is_number : Fn := fnOf 1 B_is_number
abbrev N_are_numbers : List Str := ["thing", "own"]
noncomputable def B_are_numbers : Sm := (retS (andE (op1 (isiD [.tup]) (oS 0)) (op1 allD (oV (ofL (lcE (itA (var 0)) (gN 1) [1] yesT (callE F_is_number [(var 1)])))))))
noncomputable def F_are_numbers : Fn := fnOf 2 B_are_numbers
abbrev N_is_shuffle_of : List Str := ["many", "thing"]
noncomputable def B_is_shuffle_of : Sm := (retS (andE (callE F_is_long [(var 1), (var 0)]) (andE (callE F_are_numbers [(var 1)]) (op2 eqD (oV (ofL (op1L sortedL (oS 1)))) (oV (ofL (lstR1 (var 0))))))))
noncomputable def F_is_shuffle_of : Fn := fnOf 2 B_is_shuffle_of
abbrev N_is_group_in : List Str := ["own", "maker"]
noncomputable def B_is_group_in : Sm := (sqS (ifS (orT (notT (truT (oV (op1 (isiD [.tup]) (oS 0))))) (orT (asB (op2 neD (oV (op1 lenD (oS 0))) (oV (cst (.int 2))))) (orT (notT (truT (oV (op1 (isiD [.tup]) (oV (op2 ixD (oS 0) (oV (cst (.int 1))))))))) (truT (oV (op1 (isiD [.bl]) (oV (op2 ixD (oS 0) (oV (cst (.int 0))))))))))) (retS (cst (.bl false))) nxS) (sqS (ifS (orT (notT (truT (oV (op1 (isiD [.int]) (oV (op2 ixD (oS 0) (oV (cst (.int 0))))))))) (orT (notT (asB (chn leD leD (oV (cst (.int 1))) (oV (op2 ixD (oS 0) (oV (cst (.int 0))))) (oV (cst (.int 7)))))) (asB (op2 gtD (oV (op1 lenD (oV (op2 ixD (oS 0) (oV (cst (.int 1))))))) (oV (cst (.int 4))))))) (retS (cst (.bl false))) nxS) (retS (op1 allD (oV (ofL (lcE (itA (op2 ixD (oS 0) (oV (cst (.int 1))))) (gN 1) [1] yesT (callE F_is_shuffle_of [(op2 ixD (oS 0) (oV (cst (.int 0)))), (var 1)]))))))))
noncomputable def F_is_group_in : Fn := fnOf 2 B_is_group_in
abbrev N_turns_of : List Str := ["shuffle", "here", "found"]
noncomputable def B_turns_of : Sm := (sqS (par2 1 2 (.v (var 0)) (.v (cst (.int 1)))) (sqS (whlF (asB (op2 neD (oS 1) (oV (tupR1 (op1 lenD (oS 0)))))) (par2 1 2 (.v (callE F_then [(var 1), (var 0)])) (.v (op2 addD (oS 2) (oV (cst (.int 1))))))) (retS (var 2))))
noncomputable def F_turns_of : Fn := fnOf 3 B_turns_of
abbrev N_map_of_shuffles : List Str := ["one", "other", "many", "shuffles", "places", "near", "far", "place", "own", "its"]
noncomputable def B_map_of_shuffles : Sm := (sqS (par2 5 6 (.v (callE (F_tupled 8) [(var 0)])) (.v (callE (F_tupled 8) [(var 1)]))) (sqS (setS 2 (ifE (truT (oV (op1 (isiD [.tup]) (oS 5)))) (op1 lenD (oS 5)) (cst (.int 0)))) (sqS (ifS (notT (truT (oV (callE F_is_group_in [(tupE [(var 2), (tupE [(var 5), (var 6)])])])))) (raiS "Unfit") nxS) (sqS (ifS (asB (op2 neD (oV (callE F_turns_of [(var 6)])) (oV (cst (.int 2))))) (raiS "CanNot") nxS) (sqS (setS 3 (callE F_made_from [(var 2), (tupE [(var 5), (var 6)]), (cst (.int 60))])) (sqS (setS 4 (ofX (dictX (oV (ofL (lcE (itE (var 3)) (gT 2 (gsC (gN 7) (gsC (gN 8) gsN))) [7, 8] yesT (tupE [(var 8), (var 7)]))))))) (retS (op1 tupleD (oV (ofL (lcE (itA (tupE [(var 5), (var 6)])) (gN 9) [9] yesT (op1 tupleD (oV (ofL (lcE (itA (var 3)) (gN 8) [8] yesT (op2 ixN' (oS 4) (oV (callE F_then [(var 8), (var 9)]))))))))))))))))))
noncomputable def F_map_of_shuffles : Fn := fnOf 10 B_map_of_shuffles
abbrev N_comes_to_all : List Str := ["many", "way", "found", "line", "here", "own"]
noncomputable def B_comes_to_all : Sm := (sqS (par2 2 3 (.y (dspY [((cst (.int 0)), (cst (.bl true)))])) (.l (lstE [(cst (.int 0))]))) (sqS (whlF (asB (op2 neD (oS 3) (oV (ofL (lstE []))))) (sqS (setS 4 (mutE (oS 3) [] popF)) (forS (itA (var 1)) (gN 5) (ifS (asB (op2 (hasK not) (oV (op2 ixD (oS 5) (oS 4))) (oS 2))) (sqS (setK (cst (.bl true)) (oS 2) (op2 ixD (oS 5) (oS 4))) (exprS (mutE (oS 3) [(op2 ixD (oS 5) (oS 4))] appF))) nxS)))) (retS (op2 eqD (oV (op1 lenY (oS 2))) (oS 0)))))
noncomputable def F_comes_to_all : Fn := fnOf 6 B_comes_to_all
abbrev N_is_map_in : List Str := ["thing", "many", "own"]
noncomputable def B_is_map_in : Sm := (sqS (ifS (orT (notT (truT (oV (op1 (isiD [.tup]) (oS 0))))) (orT (asB (op2 neD (oV (op1 lenD (oS 0))) (oV (cst (.int 2))))) (orT (notT (truT (oV (op1 (isiD [.tup]) (oV (op2 ixD (oS 0) (oV (cst (.int 0))))))))) (asB (op2 ltD (oV (op1 lenD (oV (op2 ixD (oS 0) (oV (cst (.int 0))))))) (oV (cst (.int 2)))))))) (retS (cst (.bl false))) nxS) (sqS (setS 1 (op1 lenD (oV (op2 ixD (oS 0) (oV (cst (.int 0))))))) (sqS (ifS (orT (notT (truT (oV (callE F_is_shuffle_of [(var 1), (op2 ixD (oS 0) (oV (cst (.int 0))))])))) (notT (truT (oV (callE F_is_shuffle_of [(var 1), (op2 ixD (oS 0) (oV (cst (.int 1))))]))))) (retS (cst (.bl false))) nxS) (sqS (ifS (truT (oV (op1 anyD (oV (ofL (lcE (itR1 (var 1)) (gN 2) [2] yesT (orE (op2 eqD (oV (op2 ixD (oV (op2 ixD (oS 0) (oV (cst (.int 1))))) (oS 2))) (oS 2)) (op2 neD (oV (op2 ixD (oV (op2 ixD (oS 0) (oV (cst (.int 1))))) (oV (op2 ixD (oV (op2 ixD (oS 0) (oV (cst (.int 1))))) (oS 2))))) (oS 2))))))))) (retS (cst (.bl false))) nxS) (retS (callE F_comes_to_all [(var 1), (var 0)]))))))
noncomputable def F_is_map_in : Fn := fnOf 3 B_is_map_in
abbrev N_sure_map : List Str := ["value", "own"]
noncomputable def B_sure_map : Sm := (sqS (setS 1 (callE (F_tupled 8) [(var 0)])) (sqS (ifS (orT (notT (truT (oV (callE F_is_map_in [(var 1)])))) (asB (op2 gtD (oV (op1 lenD (oV (op2 ixD (oS 1) (oV (cst (.int 0))))))) (oV (cst (.int 60)))))) (raiS "Unfit") nxS) (retS (var 1))))
noncomputable def F_sure_map : Fn := fnOf 2 B_sure_map
abbrev N_rounds_of : List Str := ["shuffle", "own", "found", "seen", "row", "here"]
noncomputable def B_rounds_of : Sm := (sqS (par2 2 3 (.l (lstE [])) (.y newX)) (sqS (forS (itR1 (op1 lenD (oS 0))) (gN 1) (ifS (asB (op2 (hasK not) (oS 1) (oS 3))) (sqS (par2 4 5 (.l (lstE [])) (.v (var 1))) (sqS (whlF (asB (op2 (hasK not) (oS 5) (oS 3))) (sqS (setK (cst (.bl true)) (oS 3) (var 5)) (sqS (exprS (mutE (oS 4) [(var 5)] appF)) (setS 5 (op2 ixD (oS 0) (oS 5)))))) (exprS (mutE (oS 2) [(op1 tupleD (oS 4))] appF)))) nxS)) (retS (var 2))))
noncomputable def F_rounds_of : Fn := fnOf 6 B_rounds_of
abbrev N_faced : List Str := ["own"]
noncomputable def B_faced : Sm := (retS (callE F_then [(op2 ixD (oS 0) (oV (cst (.int 0)))), (op2 ixD (oS 0) (oV (cst (.int 1))))]))
noncomputable def F_faced : Fn := fnOf 1 B_faced
abbrev N_map_type : List Str := ["map_of", "own", "faces", "points", "row"]
noncomputable def B_map_type : Sm := (sqS (setS 1 (callE F_sure_map [(var 0)])) (sqS (setS 2 (ofL (op1L setSL (oV (ofL (lcE (itA (callE F_rounds_of [(callE F_faced [(var 1)])])) (gN 4) [4] yesT (op1 lenD (oS 4)))))))) (sqS (setS 3 (ofL (op1L setSL (oV (ofL (lcE (itA (callE F_rounds_of [(op2 ixD (oS 1) (oV (cst (.int 0))))])) (gN 4) [4] yesT (op1 lenD (oS 4)))))))) (sqS (ifS (orT (asB (op2 gtD (oV (op1 lenD (oS 2))) (oV (cst (.int 1))))) (asB (op2 gtD (oV (op1 lenD (oS 3))) (oV (cst (.int 1)))))) (raiS "CanNot") nxS) (retS (tupE [(op2 ixD (oS 2) (oV (cst (.int 0)))), (op2 ixD (oS 3) (oV (cst (.int 0))))]))))))
noncomputable def F_map_type : Fn := fnOf 5 B_map_type
abbrev N_led_from : List Str := ["one", "other", "goal", "row", "found", "line", "here", "near", "far", "its", "own"]
noncomputable def B_led_from : Sm := (sqS (par2 4 5 (.y (dspY [((cst (.int 0)), (var 2))])) (.l (lstE [(cst (.int 0))]))) (sqS (whlF (asB (op2 neD (oS 5) (oV (ofL (lstE []))))) (sqS (setS 6 (mutE (oS 5) [] popF)) (forS (itZ (var 0) (var 1)) (gT 2 (gsC (gN 7) (gsC (gN 8) gsN))) (sqS (setS 9 (op2 ixD (oS 8) (oV (op2 ixK (oS 4) (oS 6))))) (ifS (asB (op2 (hasK not) (oV (op2 ixD (oS 7) (oS 6))) (oS 4))) (sqS (setK (var 9) (oS 4) (op2 ixD (oS 7) (oS 6))) (exprS (mutE (oS 5) [(op2 ixD (oS 7) (oS 6))] appF))) (ifS (asB (op2 neD (oV (op2 ixK (oS 4) (oV (op2 ixD (oS 7) (oS 6))))) (oS 9))) (retS (cst .non)) nxS)))))) (sqS (setS 3 (op1 tupleD (oV (ofL (lcE (itR1 (op1 lenD (oV (op2 ixD (oS 0) (oV (cst (.int 0))))))) (gN 10) [10] yesT (op2 ixK (oS 4) (oS 10))))))) (retS (ifE (truT (oV (callE F_is_shuffle_of [(op1 lenD (oS 3)), (var 3)]))) (var 3) (cst .non))))))
noncomputable def F_led_from : Fn := fnOf 11 B_led_from
abbrev N_leadings : List Str := ["one", "other", "rows", "goal", "own"]
noncomputable def B_leadings : Sm := (sqS (ifS (asB (op2 neD (oV (op1 lenD (oV (op2 ixD (oS 0) (oV (cst (.int 0))))))) (oV (op1 lenD (oV (op2 ixD (oS 1) (oV (cst (.int 0))))))))) (retS (ofL (lstE []))) nxS) (sqS (setL 2 (lcE (itR1 (op1 lenD (oV (op2 ixD (oS 0) (oV (cst (.int 0))))))) (gN 3) [3] yesT (callE F_led_from [(var 0), (var 1), (var 3)]))) (retS (ofL (lcE (itA (var 2)) (gN 4) [4] (asB (op2 isntN (oS 4) (oV (cst .non)))) (var 4))))))
noncomputable def F_leadings : Fn := fnOf 5 B_leadings
abbrev N_map_leading : List Str := ["one", "other", "near", "found"]
noncomputable def B_map_leading : Sm := (sqS (setS 2 (callE F_sure_map [(var 0)])) (sqS (setS 3 (callE F_leadings [(var 2), (callE F_sure_map [(var 1)])])) (sqS (ifS (asB (op2 eqD (oS 3) (oV (ofL (lstE []))))) (raiS "CanNot") nxS) (retS (op2 ixD (oS 3) (oV (cst (.int 0))))))))
noncomputable def F_map_leading : Fn := fnOf 4 B_map_leading
abbrev N_is_finite_polygon : List Str := ["polygon", "one", "two", "three"]
noncomputable def B_is_finite_polygon : Sm := (sqS (ifS (orT (asB (op2 neD (oV (op1 lenD (oS 0))) (oV (cst (.int 3))))) (asB (op2 inD (oV (cst (.int 0))) (oS 0)))) (retS (cst (.bl false))) nxS) (sqS (asgS (var 0) (gT 3 (gsC (gN 1) (gsC (gN 2) (gsC (gN 3) gsN))))) (retS (op2 gtD (oV (op2 addD (oV (op2 addD (oV (op2 mulD (oS 2) (oS 3))) (oV (op2 mulD (oS 1) (oS 3))))) (oV (op2 mulD (oS 1) (oS 2))))) (oV (op2 mulD (oV (op2 mulD (oS 1) (oS 2))) (oS 3)))))))
noncomputable def F_is_finite_polygon : Fn := fnOf 4 B_is_finite_polygon
abbrev N_slim : List Str := ["row", "many"]
noncomputable def B_slim : Sm := (sqS (setS 1 (op1 lenD (oS 0))) (sqS (whlF (andT (asB (op2 gtD (oS 1) (oV (cst (.int 0))))) (asB (op2 eqD (oV (op2 ixD (oS 0) (oV (op2 subD (oS 1) (oV (cst (.int 1))))))) (oV (cst (.int 0)))))) (setS 1 (op2 subD (oS 1) (oV (cst (.int 1)))))) (retS (op1 tupleD (oV (sl (oS 0) none (some (var 1))))))))
noncomputable def F_slim : Fn := fnOf 2 B_slim
abbrev N_poly_sum : List Str := ["one", "other", "many", "near", "far", "a", "b"]
noncomputable def B_poly_sum : Sm := (sqS (setS 2 (op2 maxD (oV (op1 lenD (oS 0))) (oV (op1 lenD (oS 1))))) (sqS (par2 3 4 (.v (ofL (op2L addL (oV (ofL (op1L listL (oS 0)))) (oV (ofL (op2L mulL (oV (ofL (lstE [(cst (.int 0))]))) (oV (op2 subD (oS 2) (oV (op1 lenD (oS 0))))))))))) (.v (ofL (op2L addL (oV (ofL (op1L listL (oS 1)))) (oV (ofL (op2L mulL (oV (ofL (lstE [(cst (.int 0))]))) (oV (op2 subD (oS 2) (oV (op1 lenD (oS 1)))))))))))) (retS (callE F_slim [(ofL (lcE (itZ (var 3) (var 4)) (gT 2 (gsC (gN 5) (gsC (gN 6) gsN))) [5, 6] yesT (op2 addD (oS 5) (oS 6))))]))))
noncomputable def F_poly_sum : Fn := fnOf 7 B_poly_sum
abbrev N_common : List Str := ["one", "other"]
noncomputable def B_common : Sm := (sqS (par2 0 1 (.v (op1 absD (oS 0))) (.v (op1 absD (oS 1)))) (sqS (whlF (asB (op2 neD (oS 1) (oV (cst (.int 0))))) (par2 0 1 (.v (var 1)) (.v (op2 modD (oS 0) (oS 1))))) (retS (var 0))))
noncomputable def F_common : Fn := fnOf 2 B_common
abbrev N_bare : List Str := ["row", "shared", "own"]
noncomputable def B_bare : Sm := (sqS (setS 1 (cst (.int 0))) (sqS (forS (itA (var 0)) (gN 2) (setS 1 (callE F_common [(var 1), (var 2)]))) (sqS (setS 1 (ifE (asB (op2 gtD (oV (op2 ixD (oS 0) (oV (op1 negD (oV (cst (.int 1))))))) (oV (cst (.int 0))))) (var 1) (op1 negD (oS 1)))) (retS (op1 tupleD (oV (ofL (lcE (itA (var 0)) (gN 2) [2] yesT (op2 divD (oS 2) (oS 1))))))))))
noncomputable def F_bare : Fn := fnOf 3 B_bare
abbrev N_row_left : List Str := ["one", "other", "left", "lead", "gap", "place", "own"]
noncomputable def B_row_left : Sm := (sqS (setL 2 (op1L listL (oS 0))) (sqS (whlF (asB (op2 geD (oV (op1 lenD (oS 2))) (oV (op1 lenD (oS 1))))) (sqS (par2 3 4 (.v (op2 ixD (oS 2) (oV (op1 negD (oV (cst (.int 1))))))) (.v (op2 subD (oV (op1 lenD (oS 2))) (oV (op1 lenD (oS 1)))))) (sqS (setL 2 (lcE (itA (var 2)) (gN 6) [6] yesT (op2 mulD (oS 6) (oV (op2 ixD (oS 1) (oV (op1 negD (oV (cst (.int 1)))))))))) (sqS (forS (itET (var 1)) (gT 2 (gsC (gN 5) (gsC (gN 6) gsN))) (setIx (op2 subD (oV (op2 ixD (oS 2) (oV (op2 addD (oS 4) (oS 5))))) (oV (op2 mulD (oS 3) (oS 6)))) (oS 2) (op2 addD (oS 4) (oS 5)))) (sqS (setL 2 (op1L listL (oV (callE F_slim [(var 2)])))) (ifS (asB (op2 neD (oS 2) (oV (ofL (lstE []))))) (setL 2 (op1L listL (oV (callE F_bare [(var 2)])))) (keepS 2))))))) (retS (op1 tupleD (oS 2)))))
noncomputable def F_row_left : Fn := fnOf 7 B_row_left
abbrev N_row_shared : List Str := ["one", "other", "near", "far", "left"]
noncomputable def B_row_shared : Sm := (sqS (par2 2 3 (.v (callE F_bare [(var 0)])) (.v (callE F_bare [(var 1)]))) (sqS (whlF (asB (op2 neD (oS 3) (oV (tupE [])))) (sqS (setS 4 (callE F_row_left [(var 2), (var 3)])) (par2 2 3 (.v (var 3)) (.v (ifE (asB (op2 neD (oS 4) (oV (tupE [])))) (callE F_bare [(var 4)]) (tupE [])))))) (retS (var 2))))
noncomputable def F_row_shared : Fn := fnOf 5 B_row_shared
abbrev N_row_over : List Str := ["one", "other", "place", "left", "found", "step", "own"]
noncomputable def B_row_over : Sm := (sqS (par2 3 4 (.l (op1L listL (oS 0))) (.l (op2L mulL (oV (ofL (lstE [(cst (.int 0))]))) (oV (op2 addD (oV (op2 subD (oV (op1 lenD (oS 0))) (oV (op1 lenD (oS 1))))) (oV (cst (.int 1)))))))) (sqS (forS (itR3 (op2 subD (oV (op1 lenD (oS 4))) (oV (cst (.int 1)))) (op1 negD (oV (cst (.int 1)))) (op1 negD (oV (cst (.int 1))))) (gN 2) (sqS (setIx (op2 divD (oV (op2 ixD (oS 3) (oV (op2 subD (oV (op2 addD (oS 2) (oV (op1 lenD (oS 1))))) (oV (cst (.int 1))))))) (oV (op2 ixD (oS 1) (oV (op1 negD (oV (cst (.int 1)))))))) (oS 4) (var 2)) (forS (itET (var 1)) (gT 2 (gsC (gN 5) (gsC (gN 6) gsN))) (setIx (op2 subD (oV (op2 ixD (oS 3) (oV (op2 addD (oS 2) (oS 5))))) (oV (op2 mulD (oV (op2 ixD (oS 4) (oS 2))) (oS 6)))) (oS 3) (op2 addD (oS 2) (oS 5)))))) (retS (op1 tupleD (oS 4)))))
noncomputable def F_row_over : Fn := fnOf 7 B_row_over
abbrev N_row_by : List Str := ["row", "number", "own"]
noncomputable def B_row_by : Sm := (retS (callE F_slim [(ofL (lcE (itA (var 0)) (gN 2) [2] yesT (op2 mulD (oS 2) (oS 1))))]))
noncomputable def F_row_by : Fn := fnOf 3 B_row_by
abbrev N_told_share : List Str := ["over", "under", "shared", "near", "far"]
noncomputable def B_told_share : Sm := (sqS (setS 2 (callE F_row_shared [(var 0), (var 1)])) (sqS (par2 3 4 (.v (callE F_row_over [(var 0), (var 2)])) (.v (callE F_row_over [(var 1), (var 2)]))) (retS (tupE [(callE F_row_by [(var 3), (op2 ixD (oS 3) (oV (cst (.int 0))))]), (callE F_row_by [(var 4), (op2 ixD (oS 4) (oV (cst (.int 0))))])]))))
noncomputable def F_told_share : Fn := fnOf 5 B_told_share
abbrev N_degrees_of : List Str := ["polygon", "low", "mid", "high"]
noncomputable def B_degrees_of : Sm := (sqS (asgS (ofL (op1L sortedL (oS 0))) (gL 3 (gsC (gN 1) (gsC (gN 2) (gsC (gN 3) gsN))))) (sqS (ifS (asB (op2 eqD (oS 2) (oV (cst (.int 2))))) (retS (tupE [(cst (.int 2)), (cst (.int 2)), (var 3)])) nxS) (retS (ifE (asB (op2 eqD (oS 3) (oV (cst (.int 3))))) (tupE [(cst (.int 2)), (cst (.int 3)), (cst (.int 4))]) (ifE (asB (op2 eqD (oS 3) (oV (cst (.int 4))))) (tupE [(cst (.int 2)), (cst (.int 4)), (cst (.int 6))]) (tupE [(cst (.int 2)), (cst (.int 6)), (cst (.int 10))]))))))
noncomputable def F_degrees_of : Fn := fnOf 4 B_degrees_of
abbrev N_poly_product : List Str := ["one", "other", "found", "place", "own", "step", "its"]
noncomputable def B_poly_product : Sm := (sqS (setL 2 (op2L mulL (oV (ofL (lstE [(cst (.int 0))]))) (oV (op2 addD (oV (op1 lenD (oS 0))) (oV (op1 lenD (oS 1))))))) (sqS (forS (itET (var 0)) (gT 2 (gsC (gN 3) (gsC (gN 4) gsN))) (forS (itET (var 1)) (gT 2 (gsC (gN 5) (gsC (gN 6) gsN))) (setIx (op2 addD (oV (op2 ixD (oS 2) (oV (op2 addD (oS 3) (oS 5))))) (oV (op2 mulD (oS 4) (oS 6)))) (oS 2) (op2 addD (oS 3) (oS 5))))) (retS (callE F_slim [(var 2)]))))
noncomputable def F_poly_product : Fn := fnOf 7 B_poly_product
abbrev N_steps_row : List Str := ["many"]
noncomputable def B_steps_row : Sm := (retS (op2 mulU (oV (tupE [(cst (.int 1))])) (oS 0)))
noncomputable def F_steps_row : Fn := fnOf 1 B_steps_row
abbrev N_share_of_growth : List Str := ["polygon", "ends", "whole", "own", "over", "found"]
noncomputable def B_share_of_growth : Sm := (sqS (ifS (truT (oV (callE F_is_finite_polygon [(var 0)]))) (sqS (setS 5 (tupE [(cst (.int 1))])) (sqS (forS (itA (callE F_degrees_of [(var 0)])) (gN 3) (setS 5 (callE F_poly_product [(var 5), (callE F_steps_row [(var 3)])]))) (retS (tupE [(var 5), (tupE [(cst (.int 1))])])))) nxS) (sqS (setL 1 (lcE (itA (var 0)) (gN 3) [3] (asB (op2 gtD (oS 3) (oV (cst (.int 0))))) (var 3))) (sqS (setS 2 (tupE [(cst (.int 1))])) (sqS (forS (itA (ofL (op1L setSL (oS 1)))) (gN 3) (setS 2 (callE F_poly_product [(var 2), (callE F_steps_row [(var 3)])]))) (sqS (setS 4 (callE F_poly_sum [(callE F_poly_product [(var 2), (tupE [(cst (.int 1)), (cst (.int 1))])]), (callE F_row_by [(callE F_poly_product [(var 2), (tupE [(cst (.int 0)), (cst (.int 1))])]), (op1 negD (oV (op1 lenD (oS 0))))])])) (sqS (forS (itA (var 1)) (gN 3) (setS 4 (callE F_poly_sum [(var 4), (callE F_poly_product [(op2 addD (oV (op2 mulU (oV (tupE [(cst (.int 0))])) (oS 3))) (oV (tupE [(cst (.int 1))]))), (callE F_row_over [(var 2), (callE F_steps_row [(var 3)])])])]))) (retS (callE F_told_share [(callE F_poly_product [(var 2), (tupE [(cst (.int 1)), (cst (.int 1))])]), (var 4)]))))))))
noncomputable def F_share_of_growth : Fn := fnOf 6 B_share_of_growth
abbrev N_shared_times : List Str := ["orders", "found", "own"]
noncomputable def B_shared_times : Sm := (sqS (setS 1 (cst (.int 1))) (sqS (forS (itA (var 0)) (gN 2) (ifS (asB (op2 gtD (oS 2) (oV (cst (.int 0))))) (setS 1 (op2 mulD (oV (op2 divD (oS 1) (oV (callE F_common [(var 1), (var 2)])))) (oS 2))) nxS)) (retS (var 1))))
noncomputable def F_shared_times : Fn := fnOf 3 B_shared_times
abbrev N_is_polygon_in : List Str := ["thing", "own"]
noncomputable def B_is_polygon_in : Sm := (sqS (ifS (orT (notT (truT (oV (callE F_are_numbers [(var 0)])))) (notT (asB (chn leD leD (oV (cst (.int 3))) (oV (op1 lenD (oS 0))) (oV (cst (.int 6))))))) (retS (cst (.bl false))) nxS) (retS (andE (op1 allD (oV (ofL (lcE (itA (var 0)) (gN 1) [1] yesT (orE (op2 eqD (oS 1) (oV (cst (.int 0)))) (chn leD leD (oV (cst (.int 2))) (oS 1) (oV (cst (.int 12))))))))) (op2 leD (oV (callE F_shared_times [(var 0)])) (oV (cst (.int 60)))))))
noncomputable def F_is_polygon_in : Fn := fnOf 2 B_is_polygon_in
abbrev N_sure_polygon : List Str := ["value", "own"]
noncomputable def B_sure_polygon : Sm := (sqS (setS 1 (callE (F_tupled 8) [(var 0)])) (sqS (ifS (notT (truT (oV (callE F_is_polygon_in [(var 1)])))) (raiS "Unfit") nxS) (retS (var 1))))
noncomputable def F_sure_polygon : Fn := fnOf 2 B_sure_polygon
abbrev N_growth_share : List Str := ["polygon"]
noncomputable def B_growth_share : Sm := (retS (callE F_share_of_growth [(callE F_sure_polygon [(var 0)])]))
noncomputable def F_growth_share : Fn := fnOf 1 B_growth_share
abbrev N_polygon_size : List Str := ["polygon", "own"]
noncomputable def B_polygon_size : Sm := (sqS (setS 1 (callE F_sure_polygon [(var 0)])) (sqS (ifS (notT (truT (oV (callE F_is_finite_polygon [(var 1)])))) (retS (cst .non)) nxS) (retS (op1 sumU (oV (op2 ixD (oV (callE F_share_of_growth [(var 1)])) (oV (cst (.int 0)))))))))
noncomputable def F_polygon_size : Fn := fnOf 2 B_polygon_size
abbrev N_worth_at_one : List Str := ["polygon", "shared", "over", "under", "near", "far"]
noncomputable def B_worth_at_one : Sm := (sqS (asgS (callE F_share_of_growth [(callE F_sure_polygon [(var 0)])]) (gT 2 (gsC (gN 2) (gsC (gN 3) gsN)))) (sqS (par2 4 5 (.v (op1 sumU (oS 2))) (.v (op1 sumU (oS 3)))) (sqS (setS 1 (callE F_common [(var 4), (var 5)])) (retS (ifE (asB (op2 gtD (oS 4) (oV (cst (.int 0))))) (tupE [(op2 divD (oS 5) (oS 1)), (op2 divD (oS 4) (oS 1))]) (tupE [(op2 divD (oV (op1 negD (oS 5))) (oS 1)), (op2 divD (oV (op1 negD (oS 4))) (oS 1))]))))))
noncomputable def F_worth_at_one : Fn := fnOf 6 B_worth_at_one
abbrev N_mirror_corners : List Str := ["polygon", "own", "many", "found", "place", "number"]
noncomputable def B_mirror_corners : Sm := (sqS (setS 1 (callE F_sure_polygon [(var 0)])) (sqS (setS 2 (op1 lenD (oS 1))) (sqS (setL 3 (op2L addL (oV (ofL (lstE [(tupE [])]))) (oV (ofL (lcE (itR2 (cst (.int 1)) (op2 addD (oS 2) (oV (cst (.int 1))))) (gN 4) [4] yesT (tupE [(var 4)])))))) (sqS (forS (itET (var 1)) (gT 2 (gsC (gN 4) (gsC (gN 5) gsN))) (ifS (asB (op2 gtD (oS 5) (oV (cst (.int 0))))) (exprS (mutE (oS 3) [(op1 tupleD (oV (ofL (op1L sortedL (oV (ofL (lstE [(op2 addD (oS 4) (oV (cst (.int 1)))), (op2 addD (oV (op2 modD (oV (op2 addD (oS 4) (oV (cst (.int 1))))) (oS 2))) (oV (cst (.int 1))))])))))))] appF)) nxS)) (retS (ofL (op1L srtE (oS 3))))))))
noncomputable def F_mirror_corners : Fn := fnOf 6 B_mirror_corners
abbrev N_series_of : List Str := ["over", "under", "many", "found", "place", "own", "step"]
noncomputable def B_series_of : Sm := (sqS (setL 3 (lstE [])) (sqS (forS (itR1 (op2 addD (oS 2) (oV (cst (.int 1))))) (gN 4) (sqS (setS 5 (ifE (asB (op2 ltD (oS 4) (oV (op1 lenD (oS 0))))) (op2 ixD (oS 0) (oS 4)) (cst (.int 0)))) (sqS (forS (itR2 (cst (.int 1)) (op2 addD (oV (op2 minD (oS 4) (oV (op2 subD (oV (op1 lenD (oS 1))) (oV (cst (.int 1))))))) (oV (cst (.int 1))))) (gN 6) (setS 5 (op2 subD (oS 5) (oV (op2 mulD (oV (op2 ixD (oS 1) (oS 6))) (oV (op2 ixD (oS 3) (oV (op2 subD (oS 4) (oS 6)))))))))) (exprS (mutE (oS 3) [(var 5)] appF))))) (retS (op1 tupleD (oS 3)))))
noncomputable def F_series_of : Fn := fnOf 7 B_series_of
abbrev N_is_within : List Str := ["thing", "least", "most"]
noncomputable def B_is_within : Sm := (retS (andE (callE F_is_number [(var 0)]) (chn leD leD (oS 1) (oS 0) (oS 2))))
noncomputable def F_is_within : Fn := fnOf 3 B_is_within
abbrev N_sure_within : List Str := ["thing", "least", "most"]
noncomputable def B_sure_within : Sm := (sqS (ifS (notT (truT (oV (callE F_is_within [(var 0), (var 1), (var 2)])))) (raiS "Unfit") nxS) (retS (var 0)))
noncomputable def F_sure_within : Fn := fnOf 3 B_sure_within
abbrev N_growth_numbers : List Str := ["polygon", "many", "over", "under"]
noncomputable def B_growth_numbers : Sm := (sqS (asgS (callE F_share_of_growth [(callE F_sure_polygon [(var 0)])]) (gT 2 (gsC (gN 2) (gsC (gN 3) gsN)))) (retS (callE F_series_of [(var 2), (var 3), (callE F_sure_within [(var 1), (cst (.int 0)), (cst (.int 200))])])))
noncomputable def F_growth_numbers : Fn := fnOf 4 B_growth_numbers
abbrev N_spots_growth_numbers : List Str := ["polygon", "many", "over", "under"]
noncomputable def B_spots_growth_numbers : Sm := (sqS (asgS (callE F_share_of_growth [(callE F_sure_polygon [(var 0)])]) (gT 2 (gsC (gN 2) (gsC (gN 3) gsN)))) (retS (slS (oV (callE F_series_of [(var 2), (var 3), (op2 mulD (oV (cst (.int 2))) (oV (callE F_sure_within [(var 1), (cst (.int 0)), (op2 divD (oV (cst (.int 200))) (oV (cst (.int 2))))])))])) none none (some (cst (.int 2))))))
noncomputable def F_spots_growth_numbers : Fn := fnOf 4 B_spots_growth_numbers
abbrev N_map_points : List Str := ["map_of"]
noncomputable def B_map_points : Sm := (retS (callE F_rounds_of [(op2 ixD (oV (callE F_sure_map [(var 0)])) (oV (cst (.int 0))))]))
noncomputable def F_map_points : Fn := fnOf 1 B_map_points
abbrev N_map_faces : List Str := ["map_of"]
noncomputable def B_map_faces : Sm := (retS (callE F_rounds_of [(callE F_faced [(callE F_sure_map [(var 0)])])]))
noncomputable def F_map_faces : Fn := fnOf 1 B_map_faces
abbrev N_map_turns : List Str := ["map_of", "own"]
noncomputable def B_map_turns : Sm := (sqS (setS 1 (callE F_sure_map [(var 0)])) (retS (callE F_leadings [(var 1), (var 1)])))
noncomputable def F_map_turns : Fn := fnOf 2 B_map_turns
abbrev N_named_from : List Str := ["own", "start", "names", "line", "place", "row", "goal", "here"]
noncomputable def B_named_from : Sm := (sqS (par3 2 3 4 (.y (dspY [((var 1), (cst (.int 0)))])) (.l (lstE [(var 1)])) 0) (sqS (whlF (asB (op2 ltD (oS 4) (oV (op1 lenD (oS 3))))) (sqS (forS (itA (var 0)) (gN 5) (sqS (setS 6 (op2 ixD (oS 5) (oV (op2 ixD (oS 3) (oS 4))))) (ifS (asB (op2 (hasK not) (oS 6) (oS 2))) (sqS (setK (op1 lenD (oS 3)) (oS 2) (var 6)) (exprS (mutE (oS 3) [(var 6)] appF))) nxS))) (setS 4 (op2 addD (oS 4) (oV (cst (.int 1))))))) (retS (op1 tupleD (oV (ofL (lcE (itA (var 0)) (gN 5) [5] yesT (op1 tupleD (oV (ofL (lcE (itA (var 3)) (gN 7) [7] yesT (op2 ixK (oS 2) (oV (op2 ixD (oS 5) (oS 7)))))))))))))))
noncomputable def F_named_from : Fn := fnOf 8 B_named_from
abbrev N_least_map : List Str := ["map_of", "own", "start"]
noncomputable def B_least_map : Sm := (sqS (setS 1 (callE F_sure_map [(var 0)])) (retS (op1 minX (oV (ofL (lcE (itR1 (op1 lenD (oV (op2 ixD (oS 1) (oV (cst (.int 0))))))) (gN 2) [2] yesT (callE F_named_from [(var 1), (var 2)])))))))
noncomputable def F_least_map : Fn := fnOf 3 B_least_map
abbrev N_undone : List Str := ["shuffle", "found", "place", "own"]
noncomputable def B_undone : Sm := (sqS (setL 1 (op2L mulL (oV (ofL (lstE [(cst (.int 0))]))) (oV (op1 lenD (oS 0))))) (sqS (forS (itET (var 0)) (gT 2 (gsC (gN 2) (gsC (gN 3) gsN))) (setIx (var 2) (oS 1) (var 3))) (retS (op1 tupleD (oS 1)))))
noncomputable def F_undone : Fn := fnOf 4 B_undone
abbrev N_map_mirrored : List Str := ["map_of", "own"]
noncomputable def B_map_mirrored : Sm := (sqS (setS 1 (callE F_sure_map [(var 0)])) (retS (tupE [(callE F_undone [(op2 ixD (oS 1) (oV (cst (.int 0))))]), (op2 ixD (oS 1) (oV (cst (.int 1))))])))
noncomputable def F_map_mirrored : Fn := fnOf 2 B_map_mirrored
abbrev N_map_sides : List Str := ["map_of"]
noncomputable def B_map_sides : Sm := (retS (callE F_rounds_of [(op2 ixD (oV (callE F_sure_map [(var 0)])) (oV (cst (.int 1))))]))
noncomputable def F_map_sides : Fn := fnOf 1 B_map_sides
abbrev N_handles_in : List Str := ["own"]
noncomputable def B_handles_in : Sm := (retS (op2 divD (oV (op2 subD (oV (op2 addD (oV (op2 subD (oV (cst (.int 2))) (oV (op1 lenD (oV (callE F_rounds_of [(op2 ixD (oS 0) (oV (cst (.int 0))))])))))) (oV (op2 divD (oV (op1 lenD (oV (op2 ixD (oS 0) (oV (cst (.int 0))))))) (oV (cst (.int 2))))))) (oV (op1 lenD (oV (callE F_rounds_of [(callE F_faced [(var 0)])])))))) (oV (cst (.int 2)))))
noncomputable def F_handles_in : Fn := fnOf 1 B_handles_in
abbrev N_map_handles : List Str := ["map_of"]
noncomputable def B_map_handles : Sm := (retS (callE F_handles_in [(callE F_sure_map [(var 0)])]))
noncomputable def F_map_handles : Fn := fnOf 1 B_map_handles
abbrev N_map_turned : List Str := ["map_of", "own"]
noncomputable def B_map_turned : Sm := (sqS (setS 1 (callE F_sure_map [(var 0)])) (retS (tupE [(callE F_faced [(var 1)]), (op2 ixD (oS 1) (oV (cst (.int 1))))])))
noncomputable def F_map_turned : Fn := fnOf 2 B_map_turned
abbrev N_is_even_map : List Str := ["map_of", "own"]
noncomputable def B_is_even_map : Sm := (sqS (setS 1 (callE F_sure_map [(var 0)])) (retS (op2 eqD (oV (op1 lenD (oV (callE F_leadings [(var 1), (var 1)])))) (oV (op1 lenD (oV (op2 ixD (oS 1) (oV (cst (.int 0))))))))))
noncomputable def F_is_even_map : Fn := fnOf 2 B_is_even_map
abbrev N_is_mirror_alike : List Str := ["map_of", "own"]
noncomputable def B_is_mirror_alike : Sm := (sqS (setS 1 (callE F_sure_map [(var 0)])) (retS (op2 neD (oV (callE F_leadings [(var 1), (tupE [(callE F_undone [(op2 ixD (oS 1) (oV (cst (.int 0))))]), (op2 ixD (oS 1) (oV (cst (.int 1))))])])) (oV (ofL (lstE []))))))
noncomputable def F_is_mirror_alike : Fn := fnOf 2 B_is_mirror_alike
abbrev N_are_like_maps : List Str := ["one", "other", "near"]
noncomputable def B_are_like_maps : Sm := (sqS (setS 2 (callE F_sure_map [(var 0)])) (retS (op2 neD (oV (callE F_leadings [(var 2), (callE F_sure_map [(var 1)])])) (oV (ofL (lstE []))))))
noncomputable def F_are_like_maps : Fn := fnOf 3 B_are_like_maps
abbrev N__law_box : List Str := ["script", "k", "bit_so"]
noncomputable def B__law_box : Sm := (sqS (setS 2 (ifE (asB (op2 ltD (oS 1) (oV (op1 lenD (oS 0))))) (op2 ixD (oS 0) (oS 1)) (cst (.int 0)))) (retS (shr (lstE [(op2 mulD (oV (op1 absD (oS 2))) (oV (op1 intD (oV (op2 geD (oV (op1 absD (oS 2))) (oV (op2 powD (oV (cst (.int 10))) (oV (cst (.int 18)))))))))), (op2 addD (oV (op2 addD (oV (op2 modD (oV (op1 intD (oS 2))) (oV (cst (.int 2305843009213693951))))) (oV (op2 mulD (oV (cst (.int 39373))) (oS 1))))) (oV (cst (.int 251700)))), (cst (.int 0))]))))
noncomputable def F__law_box : Fn := fnOf 3 B__law_box
abbrev N__law_take : List Str := ["tin", "below_so", "once_so", "wide_so", "twice_so", "drawn_so"]
noncomputable def B__law_take : Sm := (sqS (ifS (asB (op2 gtD (oV (op2 ixD (oS 0) (oV (cst (.int 0))))) (oV (cst (.int 0))))) (sqS (setS 5 (op2 modD (oV (op1 intD (oV (op2 ixD (oS 0) (oV (cst (.int 0))))))) (oS 1))) (sqS (setIx (op2 divD (oV (op2 ixD (oS 0) (oV (cst (.int 0))))) (oS 1)) (oS 0) (cst (.int 0))) (retS (var 5)))) nxS) (sqS (setIx (op2 addD (oV (op2 ixD (oS 0) (oV (cst (.int 2))))) (oV (cst (.int 1)))) (oS 0) (cst (.int 2))) (sqS (setS 2 (op2 modD (oV (op1 intD (oV (op2 mulD (oV (op2 addD (oV (op2 ixD (oS 0) (oV (cst (.int 1))))) (oV (op2 mulD (oV (cst (.int 48271))) (oV (op2 ixD (oS 0) (oV (cst (.int 2))))))))) (oV (op2 addD (oV (cst (.int 39373))) (oV (op2 ixD (oS 0) (oV (cst (.int 2))))))))))) (oV (cst (.int 2147483647))))) (sqS (setS 3 (op2 addD (oV (op2 modD (oV (op1 intD (oS 2))) (oV (cst (.int 40009))))) (oV (cst (.int 7))))) (sqS (setS 4 (op2 modD (oV (op1 intD (oV (op2 mulD (oV (op2 addD (oV (op2 addD (oS 2) (oV (op2 ixD (oS 0) (oV (cst (.int 2))))))) (oV (op2 divD (oV (op2 ixD (oS 0) (oV (cst (.int 1))))) (oV (cst (.int 1000003))))))) (oS 3))))) (oV (cst (.int 2147483629))))) (retS (op2 modD (oV (op1 intD (oV (op2 divD (oV (op2 modD (oV (op1 intD (oV (op2 addD (oV (op2 mulD (oS 4) (oV (cst (.int 48271))))) (oS 2))))) (oV (cst (.int 2147483587))))) (oV (cst (.int 64))))))) (oS 1))))))))
noncomputable def F__law_take : Fn := fnOf 6 B__law_take
abbrev N__law_pick : List Str := ["tin", "goods_so", "count_so", "lap", "pool_so", "found"]
noncomputable def B__law_pick : Sm := (sqS (par2 4 5 (.l (op1L listL (oS 1))) (.l (lstE []))) (sqS (forS (itR1 (op2 minD (oV (op1 intD (oS 2))) (oV (op1 lenD (oS 4))))) (gN 3) (exprS (mutE (oS 5) [(mutE (oS 4) [(callE F__law_take [(var 0), (op1 lenD (oS 4))])] popAtF)] appF))) (retS (var 5))))
noncomputable def F__law_pick : Fn := fnOf 6 B__law_pick
abbrev N__law_cells : List Str := ["script", "most_so", "cells_so", "k", "bit_so", "at_so"]
noncomputable def B__law_cells : Sm := (sqS (setL 2 (orL (op1L listL (oV (sl (oS 0) none (some (var 1))))) (lstE [(cst (.int 0))]))) (sqS (forS (itE (sl (oS 0) (some (var 1)) (some (cst (.int 63))))) (gT 2 (gsC (gN 3) (gsC (gN 4) gsN))) (sqS (setS 5 (op2 modD (oV (op1 intD (oS 3))) (oS 1))) (setIx (op2 addD (oV (op2 ixD (oS 2) (oS 5))) (oV (op2 mulD (oS 4) (oV (op2 addD (oS 3) (oV (cst (.int 2)))))))) (oS 2) (var 5)))) (retS (var 2))))
noncomputable def F__law_cells : Fn := fnOf 6 B__law_cells
abbrev N_is_map : List Str := ["thing"]
noncomputable def B_is_map : Sm := (retS (callE F_is_map_in [(var 0)]))
noncomputable def F_is_map : Fn := fnOf 1 B_is_map
abbrev N__law_same : List Str := ["got", "due", "mine", "its"]
noncomputable def B__law_same (F__law_same : Nat → Fn) (n : Nat) : Sm := (sqS (ifS (truT (oV (op1 (isiD [.lst, .tup]) (oS 1)))) (sqS (ifS (orT (asB (op2 neD (oV (op1 (isiD [.lst]) (oS 0))) (oV (op1 (isiD [.lst]) (oS 1))))) (asB (op2 neD (oV (op1 (isiD [.tup]) (oS 0))) (oV (op1 (isiD [.tup]) (oS 1)))))) (retS (cst (.bl false))) nxS) (retS (andE (op2 eqD (oV (op1 lenD (oS 0))) (oV (op1 lenD (oS 1)))) (op1 allD (oV (ofL (lcE (itZ (var 0) (var 1)) (gT 2 (gsC (gN 2) (gsC (gN 3) gsN))) [2, 3] yesT (callE (F__law_same n) [(var 2), (var 3)])))))))) nxS) (sqS (ifS (asB (op2 isN (oS 1) (oV (cst .non)))) (retS (op2 isN (oS 0) (oV (cst .non)))) nxS) (sqS (ifS (truT (oV (op1 (isiD [.bl, .str]) (oS 1)))) (retS (andE (op2 eqD (oV (op1 (isiD [.bl]) (oS 0))) (oV (op1 (isiD [.bl]) (oS 1)))) (andE (op2 eqD (oV (op1 (isiD [.str]) (oS 0))) (oV (op1 (isiD [.str]) (oS 1)))) (op2 eqD (oS 0) (oS 1))))) nxS) (retS (andE (op1 (isiD [.int]) (oS 0)) (andE (notE (op1 (isiD [.bl]) (oS 0))) (op2 eqD (oS 0) (oS 1))))))))
noncomputable def F__law_same : Nat → Fn
  | 0 => fun _ _ => .bad
  | n + 1 => fnOf 4 (B__law_same (fun _ => F__law_same n) n)
theorem F__law_same_s (n : Nat) : F__law_same (n + 1) = fnOf (N__law_same).length (B__law_same (fun _ => F__law_same n) n) := rfl
abbrev N__law_call : List Str := ["door", "goods_so"]
noncomputable def B__law_call : Sm := (sqS (ifS (asB (op2 eqD (oV (op1 lenD (oS 1))) (oV (cst (.int 1))))) (retS (doorE [⟨"map_of_shuffles", 2, F_map_of_shuffles⟩, ⟨"map_type", 1, F_map_type⟩, ⟨"map_leading", 2, F_map_leading⟩, ⟨"growth_share", 1, F_growth_share⟩, ⟨"polygon_size", 1, F_polygon_size⟩, ⟨"worth_at_one", 1, F_worth_at_one⟩, ⟨"mirror_corners", 1, F_mirror_corners⟩, ⟨"growth_numbers", 2, F_growth_numbers⟩, ⟨"spots_growth_numbers", 2, F_spots_growth_numbers⟩, ⟨"map_points", 1, F_map_points⟩, ⟨"map_sides", 1, F_map_sides⟩, ⟨"map_faces", 1, F_map_faces⟩, ⟨"map_handles", 1, F_map_handles⟩, ⟨"map_turned", 1, F_map_turned⟩, ⟨"map_mirrored", 1, F_map_mirrored⟩, ⟨"map_turns", 1, F_map_turns⟩, ⟨"is_even_map", 1, F_is_even_map⟩, ⟨"is_mirror_alike", 1, F_is_mirror_alike⟩, ⟨"least_map", 1, F_least_map⟩, ⟨"are_like_maps", 2, F_are_like_maps⟩] 0 [(op2 ixD (oS 1) (oV (cst (.int 0))))])) nxS) (sqS (ifS (asB (op2 eqD (oV (op1 lenD (oS 1))) (oV (cst (.int 2))))) (retS (doorE [⟨"map_of_shuffles", 2, F_map_of_shuffles⟩, ⟨"map_type", 1, F_map_type⟩, ⟨"map_leading", 2, F_map_leading⟩, ⟨"growth_share", 1, F_growth_share⟩, ⟨"polygon_size", 1, F_polygon_size⟩, ⟨"worth_at_one", 1, F_worth_at_one⟩, ⟨"mirror_corners", 1, F_mirror_corners⟩, ⟨"growth_numbers", 2, F_growth_numbers⟩, ⟨"spots_growth_numbers", 2, F_spots_growth_numbers⟩, ⟨"map_points", 1, F_map_points⟩, ⟨"map_sides", 1, F_map_sides⟩, ⟨"map_faces", 1, F_map_faces⟩, ⟨"map_handles", 1, F_map_handles⟩, ⟨"map_turned", 1, F_map_turned⟩, ⟨"map_mirrored", 1, F_map_mirrored⟩, ⟨"map_turns", 1, F_map_turns⟩, ⟨"is_even_map", 1, F_is_even_map⟩, ⟨"is_mirror_alike", 1, F_is_mirror_alike⟩, ⟨"least_map", 1, F_least_map⟩, ⟨"are_like_maps", 2, F_are_like_maps⟩] 0 [(op2 ixD (oS 1) (oV (cst (.int 0)))), (op2 ixD (oS 1) (oV (cst (.int 1))))])) nxS) (sqS (ifS (asB (op2 eqD (oV (op1 lenD (oS 1))) (oV (cst (.int 3))))) (retS (doorE [⟨"map_of_shuffles", 2, F_map_of_shuffles⟩, ⟨"map_type", 1, F_map_type⟩, ⟨"map_leading", 2, F_map_leading⟩, ⟨"growth_share", 1, F_growth_share⟩, ⟨"polygon_size", 1, F_polygon_size⟩, ⟨"worth_at_one", 1, F_worth_at_one⟩, ⟨"mirror_corners", 1, F_mirror_corners⟩, ⟨"growth_numbers", 2, F_growth_numbers⟩, ⟨"spots_growth_numbers", 2, F_spots_growth_numbers⟩, ⟨"map_points", 1, F_map_points⟩, ⟨"map_sides", 1, F_map_sides⟩, ⟨"map_faces", 1, F_map_faces⟩, ⟨"map_handles", 1, F_map_handles⟩, ⟨"map_turned", 1, F_map_turned⟩, ⟨"map_mirrored", 1, F_map_mirrored⟩, ⟨"map_turns", 1, F_map_turns⟩, ⟨"is_even_map", 1, F_is_even_map⟩, ⟨"is_mirror_alike", 1, F_is_mirror_alike⟩, ⟨"least_map", 1, F_least_map⟩, ⟨"are_like_maps", 2, F_are_like_maps⟩] 0 [(op2 ixD (oS 1) (oV (cst (.int 0)))), (op2 ixD (oS 1) (oV (cst (.int 1)))), (op2 ixD (oS 1) (oV (cst (.int 2))))])) nxS) (retS (doorE [⟨"map_of_shuffles", 2, F_map_of_shuffles⟩, ⟨"map_type", 1, F_map_type⟩, ⟨"map_leading", 2, F_map_leading⟩, ⟨"growth_share", 1, F_growth_share⟩, ⟨"polygon_size", 1, F_polygon_size⟩, ⟨"worth_at_one", 1, F_worth_at_one⟩, ⟨"mirror_corners", 1, F_mirror_corners⟩, ⟨"growth_numbers", 2, F_growth_numbers⟩, ⟨"spots_growth_numbers", 2, F_spots_growth_numbers⟩, ⟨"map_points", 1, F_map_points⟩, ⟨"map_sides", 1, F_map_sides⟩, ⟨"map_faces", 1, F_map_faces⟩, ⟨"map_handles", 1, F_map_handles⟩, ⟨"map_turned", 1, F_map_turned⟩, ⟨"map_mirrored", 1, F_map_mirrored⟩, ⟨"map_turns", 1, F_map_turns⟩, ⟨"is_even_map", 1, F_is_even_map⟩, ⟨"is_mirror_alike", 1, F_is_mirror_alike⟩, ⟨"least_map", 1, F_least_map⟩, ⟨"are_like_maps", 2, F_are_like_maps⟩] 0 [(op2 ixD (oS 1) (oV (cst (.int 0)))), (op2 ixD (oS 1) (oV (cst (.int 1)))), (op2 ixD (oS 1) (oV (cst (.int 2)))), (op2 ixD (oS 1) (oV (cst (.int 3))))])))))
noncomputable def F__law_call : Fn := fnOf 2 B__law_call
abbrev N__law_none_fits : List Str := ["door", "goods_so", "bads_so", "place_so", "rows_so", "bad_so", "own", "caught", "told_so", "slip_so"]
noncomputable def B__law_none_fits : Sm := (sqS (forS (itE (var 2)) (gT 2 (gsC (gN 3) (gsC (gN 4) gsN))) (forS (itA (var 4)) (gN 5) (forS (itA (tupE [(sl (oS 1) (some (op2 addD (oS 3) (oV (cst (.int 1))))) none), (op2 mulU (oV (tupE [(cst .non)])) (oV (op2 subD (oV (op2 subD (oV (op1 lenD (oS 1))) (oS 3))) (oV (cst (.int 1))))))])) (gN 6) (sqS (asgS (tupE [(cst .non), (cst .non)]) (gT 2 (gsC (gN 7) (gsC (gN 8) gsN)))) (sqS (tryA "Unfit" 9 7 true (setS 8 (callE F__law_call [(var 0), (op2 addD (oV (op2 addD (oV (sl (oS 1) none (some (var 3)))) (oV (tupE [(var 5)])))) (oS 6))]))) (ifS (orT (asB (op2 isntN (oS 8) (oV (cst .non)))) (asB (op2 isntN (oS 7) (oV (cst (.bl true)))))) (retS (cst (.bl false))) nxS)))))) (retS (cst (.bl true))))
noncomputable def F__law_none_fits : Fn := fnOf 10 B__law_none_fits
abbrev N_law : List Str := ["script", "tin", "polygons_so", "long_so", "maps_so", "rows_so", "shuffles_so", "caught", "got", "due", "ring_so", "path_so", "door", "goods_so", "bads_so", "error_a", "error_b", "own", "k"]
noncomputable def B_law : Sm := (sqS (setS 1 (callE F__law_box [(callE F__law_cells [(var 0), (cst (.int 1))]), (cst (.int 0))])) (sqS (setS 2 (ofL (lstE [(cst .non), (cst (.int 3)), (tupE []), (tupE [(cst (.int 2)), (cst (.int 3))]), (op2 mulU (oV (tupE [(cst (.int 2))])) (oV (cst (.int 7)))), (tupE [(cst (.int 2)), (cst (.int 3)), (cst (.int 1))]), (tupE [(cst (.int 2)), (cst (.int 3)), (cst (.int 13))]), (tupE [(cst (.int 2)), (cst (.int 3)), (op1 negD (oV (cst (.int 2))))]), (tupE [(cst (.int 7)), (cst (.int 5)), (cst (.int 2))]), (tupE [(cst (.bl true)), (cst (.int 2)), (cst (.int 3))]), (tupE [(cst (.int 2)), (cst (.int 3)), (cst (.str "4"))]), (tupE [(cst (.int 8)), (cst (.int 9)), (cst (.int 2))])]))) (sqS (asgS (tupE [(tupE [(tupE [(cst (.int 1)), (cst (.int 2)), (cst (.int 3)), (cst (.int 0))]), (tupE [(cst (.int 2)), (cst (.int 3)), (cst (.int 0)), (cst (.int 1))])]), (tupE [(tupE [(cst (.int 0)), (cst (.int 2)), (cst (.int 1)), (cst (.int 3))]), (tupE [(cst (.int 1)), (cst (.int 0)), (cst (.int 3)), (cst (.int 2))])])]) (gT 2 (gsC (gN 10) (gsC (gN 11) gsN)))) (sqS (setS 3 (op1 tupleD (oV (ofL (lcE (itR1 (cst (.int 62))) (gN 18) [18] yesT (op2 subD (oV (op2 addD (oS 18) (oV (cst (.int 1))))) (oV (op2 mulD (oV (cst (.int 2))) (oV (op2 modD (oS 18) (oV (cst (.int 2))))))))))))) (sqS (setS 4 (ofL (lstE [(cst .non), (cst (.int 0)), (tupE []), (sl (oS 10) none (some (cst (.int 1)))), (op2 addD (oS 10) (oV (sl (oS 10) none (some (cst (.int 1)))))), (tupE [(tupE [(cst (.int 0))]), (tupE [(cst (.int 0))])]), (tupE [(tupE [(cst (.int 0)), (cst (.int 1))]), (tupE [(cst (.int 0)), (cst (.int 1))])]), (tupE [(tupE [(cst (.int 1)), (cst (.int 2)), (cst (.int 3)), (cst (.int 0))]), (tupE [(cst (.int 0)), (cst (.int 1)), (cst (.int 2)), (cst (.int 3))])]), (tupE [(tupE [(cst (.int 0)), (cst (.int 1)), (cst (.int 2)), (cst (.int 3))]), (tupE [(cst (.int 1)), (cst (.int 0)), (cst (.int 3)), (cst (.int 2))])]), (tupE [(tupE [(cst (.int 1)), (cst (.int 0))]), (tupE [(cst (.int 1)), (cst (.int 0)), (cst (.int 2))])]), (tupE [(tupE [(cst (.bl true)), (cst (.int 0))]), (tupE [(cst (.int 1)), (cst (.int 0))])]), (tupE [(op2 addD (oV (tupR2 (cst (.int 1)) (cst (.int 62)))) (oV (tupE [(cst (.int 0))]))), (var 3)]), (tupE [(tupE [(cst (.int 1)), (cst (.int 2)), (cst (.int 0))]), (tupE [(cst (.int 1)), (cst (.int 2)), (cst (.int 0))])])]))) (sqS (setL 5 (lcE (itA (tupE [(cst (.fn "growth_share")), (cst (.fn "polygon_size")), (cst (.fn "worth_at_one")), (cst (.fn "mirror_corners"))])) (gN 17) [17] yesT (tupE [(var 17), (tupE [(tupE [(cst (.int 2)), (cst (.int 3)), (cst (.int 7))])]), (ofL (lstE [(var 2)]))]))) (sqS (setL 5 (op2L addL (oS 5) (oV (ofL (lstE [(tupE [(cst (.fn "growth_numbers")), (tupE [(tupE [(cst (.int 2)), (cst (.int 3)), (cst (.int 7))]), (cst (.int 200))]), (ofL (lstE [(var 2), (ofL (lstE [(op1 negD (oV (cst (.int 1)))), (cst (.int 201)), (cst (.bl true)), (cst .non)]))]))]), (tupE [(cst (.fn "spots_growth_numbers")), (tupE [(tupE [(cst (.int 2)), (cst (.int 3)), (cst (.int 7))]), (cst (.int 100))]), (ofL (lstE [(var 2), (ofL (lstE [(op1 negD (oV (cst (.int 1)))), (cst (.int 101)), (cst (.bl true)), (cst .non)]))]))])]))))) (sqS (setL 5 (op2L addL (oS 5) (oV (ofL (lcE (itA (tupE [(cst (.fn "map_points")), (cst (.fn "map_sides")), (cst (.fn "map_faces")), (cst (.fn "map_handles")), (cst (.fn "map_type")), (cst (.fn "map_turned")), (cst (.fn "map_mirrored")), (cst (.fn "map_turns")), (cst (.fn "is_even_map")), (cst (.fn "is_mirror_alike")), (cst (.fn "least_map"))])) (gN 17) [17] yesT (tupE [(var 17), (tupE [(var 10)]), (ofL (lstE [(var 4)]))])))))) (sqS (setL 5 (op2L addL (oS 5) (oV (ofL (lcE (itA (tupE [(cst (.fn "are_like_maps")), (cst (.fn "map_leading"))])) (gN 17) [17] yesT (tupE [(var 17), (tupE [(var 10), (var 10)]), (ofL (lstE [(var 4), (var 4)]))])))))) (sqS (setS 6 (ofL (lstE [(cst .non), (tupE []), (tupE [(cst (.int 0)), (cst (.int 0))]), (tupE [(cst (.int 0)), (cst (.int 1)), (cst (.int 3))]), (tupE [(cst (.bl true)), (cst (.int 0))]), (cst (.int 4)), (tupR1 (cst (.int 8)))]))) (sqS (exprS (mutE (oS 5) [(tupE [(cst (.fn "map_of_shuffles")), (tupE [(tupE [(cst (.int 1)), (cst (.int 2)), (cst (.int 0))]), (tupE [(cst (.int 1)), (cst (.int 0)), (cst (.int 2))])]), (ofL (lstE [(op2 addD (oS 6) (oV (ofL (lstE [(tupE [(cst (.int 1)), (cst (.int 0))])])))), (op2 addD (oS 6) (oV (ofL (lstE [(tupE [(cst (.int 1)), (cst (.int 0))])]))))]))])] appF)) (sqS (forS (itA (callE F__law_pick [(var 1), (var 5), (op1 lenD (oS 5))])) (gT 3 (gsC (gN 12) (gsC (gN 13) (gsC (gN 14) gsN)))) (ifS (notT (truT (oV (callE F__law_none_fits [(var 12), (var 13), (var 14)])))) (retS (cst (.bl false))) nxS)) (sqS (setL 7 (lstE [])) (sqS (forS (itA (tupE [(tupE [(cst (.fn "map_type")), (tupE [(var 11)])]), (tupE [(cst (.fn "map_leading")), (tupE [(var 10), (var 11)])]), (tupE [(cst (.fn "map_leading")), (tupE [(var 11), (tupE [(tupE [(cst (.int 0)), (cst (.int 1))]), (tupE [(cst (.int 1)), (cst (.int 0))])])])]), (tupE [(cst (.fn "map_of_shuffles")), (tupE [(tupE [(cst (.int 1)), (cst (.int 2)), (cst (.int 0))]), (tupE [(cst (.int 1)), (cst (.int 2)), (cst (.int 0))])])]), (tupE [(cst (.fn "map_of_shuffles")), (tupE [(tupE [(cst (.int 1)), (cst (.int 0))]), (tupE [(cst (.int 0)), (cst (.int 1))])])]), (tupE [(cst (.fn "map_of_shuffles")), (tupE [(tupE [(cst (.int 1)), (cst (.int 2)), (cst (.int 3)), (cst (.int 4)), (cst (.int 0))]), (tupE [(cst (.int 1)), (cst (.int 2)), (cst (.int 3)), (cst (.int 4)), (cst (.int 0))])])])])) (gT 2 (gsC (gN 12) (gsC (gN 13) gsN))) (tryP "CanNot" 15 7 true (exprS (callE F__law_call [(var 12), (var 13)])))) (sqS (tryP "TooMany" 16 7 true (exprS (callE F_map_of_shuffles [(tupE [(cst (.int 1)), (cst (.int 2)), (cst (.int 3)), (cst (.int 4)), (cst (.int 0))]), (tupE [(cst (.int 1)), (cst (.int 0)), (cst (.int 2)), (cst (.int 3)), (cst (.int 4))])]))) (sqS (setS 8 (ofL (lstE [(callE F_is_map [(tupE [(op2 addD (oV (tupR2 (cst (.int 1)) (cst (.int 62)))) (oV (tupE [(cst (.int 0))]))), (var 3)])]), (callE F_is_map [(var 10)]), (callE F_is_map [(ofL (op1L listL (oS 10)))]), (callE F_is_map [(tupE [(tupE [(cst (.int 1)), (cst (.int 0))]), (tupE [(cst (.int 1)), (cst (.int 0))])])])]))) (sqS (setS 8 (op2 addD (oS 8) (oV (ofL (lstE [(callE F_growth_share [(tupE [(cst (.int 0)), (cst (.int 0)), (cst (.int 0))])]), (callE F_growth_share [(tupE [(cst (.int 2)), (cst (.int 2)), (cst (.int 2)), (cst (.int 2))])]), (callE F_polygon_size [(tupE [(cst (.int 2)), (cst (.int 3)), (cst (.int 5))])]), (callE F_polygon_size [(tupE [(cst (.int 2)), (cst (.int 3)), (cst (.int 6))])]), (callE F_polygon_size [(tupE [(cst (.int 12)), (cst (.int 2)), (cst (.int 2))])]), (callE F_worth_at_one [(tupE [(cst (.int 2)), (cst (.int 3)), (cst (.int 7))])]), (callE F_worth_at_one [(tupE [(cst (.int 0)), (cst (.int 0)), (cst (.int 0)), (cst (.int 0)), (cst (.int 0)), (cst (.int 0))])]), (callE F_mirror_corners [(tupE [(cst (.int 2)), (cst (.int 0)), (cst (.int 3))])])]))))) (sqS (setS 9 (ofL (lstE [(cst (.bl true)), (cst (.bl true)), (cst (.bl false)), (cst (.bl true)), (tupE [(tupE [(cst (.int 1)), (cst (.int 1))]), (tupE [(cst (.int 1)), (op1 negD (oV (cst (.int 2))))])]), (tupE [(tupE [(cst (.int 1)), (cst (.int 2)), (cst (.int 1))]), (tupE [(cst (.int 1)), (op1 negD (oV (cst (.int 2)))), (cst (.int 1))])]), (cst (.int 120)), (cst .non), (cst (.int 48)), (tupE [(op1 negD (oV (cst (.int 1)))), (cst (.int 84))]), (tupE [(op1 negD (oV (cst (.int 2)))), (cst (.int 1))]), (ofL (lstE [(tupE []), (tupE [(cst (.int 1))]), (tupE [(cst (.int 1)), (cst (.int 2))]), (tupE [(cst (.int 1)), (cst (.int 3))]), (tupE [(cst (.int 2))]), (tupE [(cst (.int 3))])]))]))) (sqS (setS 8 (op2 addD (oS 8) (oV (ofL (lstE [(callE F_map_points [(var 11)]), (callE F_map_faces [(var 11)]), (callE F_map_type [(var 10)]), (callE F_map_turns [(var 11)]), (callE F_least_map [(var 11)]), (callE F_map_mirrored [(var 10)]), (callE F_map_of_shuffles [(tupE [(cst (.int 1)), (cst (.int 2)), (cst (.int 0))]), (tupE [(cst (.int 1)), (cst (.int 0)), (cst (.int 2))])])]))))) (sqS (setS 9 (op2 addD (oS 9) (oV (ofL (lstE [(ofL (lstE [(tupE [(cst (.int 0))]), (tupE [(cst (.int 1)), (cst (.int 2))]), (tupE [(cst (.int 3))])])), (ofL (lstE [(tupE [(cst (.int 0)), (cst (.int 1)), (cst (.int 3)), (cst (.int 2))])])), (tupE [(cst (.int 4)), (cst (.int 4))]), (ofL (lstE [(tupE [(cst (.int 0)), (cst (.int 1)), (cst (.int 2)), (cst (.int 3))]), (tupE [(cst (.int 3)), (cst (.int 2)), (cst (.int 1)), (cst (.int 0))])])), (var 11), (tupE [(tupE [(cst (.int 3)), (cst (.int 0)), (cst (.int 1)), (cst (.int 2))]), (tupE [(cst (.int 2)), (cst (.int 3)), (cst (.int 0)), (cst (.int 1))])]), (tupE [(tupE [(cst (.int 3)), (cst (.int 2)), (cst (.int 5)), (cst (.int 4)), (cst (.int 0)), (cst (.int 1))]), (tupE [(cst (.int 2)), (cst (.int 3)), (cst (.int 0)), (cst (.int 1)), (cst (.int 5)), (cst (.int 4))])])]))))) (retS (andE (op2 eqD (oS 7) (oV (ofL (op2L mulL (oV (ofL (lstE [(cst (.bl true))]))) (oV (cst (.int 7))))))) (callE (F__law_same 8) [(var 8), (var 9)])))))))))))))))))))))))
noncomputable def F_law : Fn := fnOf 19 B_law
end L44
/-! the walk: each def is as told -/
namespace L44
open PySem PySem.Spec PyProof.Rows L2 DS
structure Gz (mg : Str → Option Value) : Prop where
  g_ValueError : mg "ValueError" = none
  g_abs : mg "abs" = none
  g_all : mg "all" = none
  g_any : mg "any" = none
  g_bool : mg "bool" = none
  g_dict : mg "dict" = none
  g_enumerate : mg "enumerate" = none
  g_int : mg "int" = none
  g_isinstance : mg "isinstance" = none
  g_len : mg "len" = none
  g_list : mg "list" = none
  g_max : mg "max" = none
  g_min : mg "min" = none
  g_range : mg "range" = none
  g_set : mg "set" = none
  g_sorted : mg "sorted" = none
  g_str : mg "str" = none
  g_sum : mg "sum" = none
  g_tuple : mg "tuple" = none
  g_zip : mg "zip" = none
  c_MOST_DARTS : ∃ t, mg "MOST_DARTS" = some (.int 60 t)
  c_MOST_LONG : ∃ t, mg "MOST_LONG" = some (.int 200 t)
  c_MOST_MAKERS : ∃ t, mg "MOST_MAKERS" = some (.int 4 t)
  c_MOST_MANY : ∃ t, mg "MOST_MANY" = some (.int 7 t)
  c_MOST_ORDER : ∃ t, mg "MOST_ORDER" = some (.int 12 t)
  c_MOST_SHARED : ∃ t, mg "MOST_SHARED" = some (.int 60 t)
structure Gx (K : PySem.W.Frag) (mg : Str → Option Value) (C_CanNot C_TooMany C_Unfit : Addr) : Prop where
  e_CanNot : ExK K mg "CanNot" C_CanNot
  e_TooMany : ExK K mg "TooMany" C_TooMany
  e_Unfit : ExK K mg "Unfit" C_Unfit
  k_CanNot_Unfit : PySem.W.kitOne K (.ref C_CanNot) (.ref C_Unfit) = some false
  k_TooMany_Unfit : PySem.W.kitOne K (.ref C_TooMany) (.ref C_Unfit) = some false
  k_Unfit_ValueError : PySem.W.kitOne K (.ref C_Unfit) (.type "ValueError") = some true
abbrev s_then : Stmt := topS 14
theorem sc_then : FnScope N_then ["one", "other"] (defScope s_then) := ⟨rfl, rfl, rfl, by decide +kernel, rfl, by decide +kernel, by decide +kernel⟩
set_option maxHeartbeats 0 in
theorem ok_then {P : Program} {w : World} {K : PySem.W.Frag} {mg : Str → Option Value} {base : Heap} (z : Gz mg) {C_CanNot C_TooMany C_Unfit : Addr} (y : Gx K mg C_CanNot C_TooMany C_Unfit)  {f : Addr} {fd : FuncData} (Fu : L2.Fun K "then" "then" s_then f fd) : FnOk P w K mg base (L2.CX P w) 1 f fd ["one", "other"] (spF ⟨K, mg, w⟩ 2 F_then) :=
  fnk (k := 0) (ps := ["one", "other"]) (N := N_then) (body := B_then) Fu sc_then fun cdv A outer s H E C =>
    (s_one (s_ret (e_tuple1 C (o_val (e_ofL (l_lcM (N := N_then) (own := [("own", 2)]) C rfl (i_any C (e_var 0)) rfl rfl (by decide +kernel) (by decide +kernel) (by decide +kernel) (by repeat (first | exact List.forall_mem_nil _ | refine List.forall_mem_cons.mpr ⟨by first | (intro _; exact Or.inl rfl) | (intro _; exact Or.inr rfl) | (intro h; cases h; done), ?_⟩)) (fun s H A cl fp => (g_name 2 C.nd)) (fun s H A cl fp C => ts_nil) (fun s H A cl fp C => (e_ix C.hK (o_slot 1) (o_slot 2)))))) z.g_tuple)))
theorem bi_then (kV doc pm : Value) (an : Option Addr) (cdv ct : Value) (us : List Value) (hl : us.length = (["one", "other"] : List Str).length) : bindArgs (PySem.W.fnOf "then" "then" (defArgs s_then) (defBody s_then) (defScope s_then) .none kV doc pm an cdv ct) ⟨us, []⟩ = pure ((["one", "other"] : List Str).zip us) := match us, hl with | [_, _], _ => rfl
abbrev s_made_from : Stmt := topS 19
theorem sc_made_from : FnScope N_made_from ["many", "makers", "most"] (defScope s_made_from) := ⟨rfl, rfl, rfl, by decide +kernel, rfl, by decide +kernel, by decide +kernel⟩
set_option maxHeartbeats 0 in
theorem ok_made_from {P : Program} {w : World} {K : PySem.W.Frag} {mg : Str → Option Value} {base : Heap} (z : Gz mg) {C_CanNot C_TooMany C_Unfit : Addr} (y : Gx K mg C_CanNot C_TooMany C_Unfit) (R_then : FnR ⟨K, mg, w⟩ P w base "then" s_then 1 ["one", "other"] F_then) {f : Addr} {fd : FuncData} (Fu : L2.Fun K "made_from" "made_from" s_made_from f fd) : FnOk P w K mg base (L2.CX P w) 2 f fd ["many", "makers", "most"] (spF ⟨K, mg, w⟩ 3 F_made_from) :=
  fnk (k := 1) (ps := ["many", "makers", "most"]) (N := N_made_from) (body := B_made_from) Fu sc_made_from fun cdv A outer s H E C =>
    (s_cons (s_set C 3 (e_tupR1 C z.g_tuple z.g_range (e_var 0)))
    (s_cons (s_par C 4 5 (pc_x (x_one C (e_var 3) e_bl (by have := C.rm.un; omega))) (pc_l (l_lst (a_cons (e_var 3) a_nil))))
    (s_cons (s_whlF C (passes_of rfl) (b_cmp (op_neD C.rm.units) (v_ne C.hK) (o_slot 5) (o_val (e_ofL (l_lst a_nil)))) (s_cons (s_set C 6 (e_pop (o_slot 5)))
    (s_one (s_for (vs := [7]) C (passes_of rfl) (i_any C (e_var 1)) (g_name 7 C.nd) (s_cons (s_set C 8 (e_call C R_then (a_cons (e_var 6) (a_cons (e_var 7) a_nil)) (by decide)))
    (s_one (s_if (b_cmp (op_ninN (by have := C.rm.un; omega) C.hK C.hw) (v_hasN not) (o_slot 8) (o_slot 4)) (s_cons (s_if (b_cmp (op_eqD C.rm.units) (v_eq C.hK) (o_val (e_lenX C (o_slot 4) z.g_len)) (o_slot 2)) (s_one (s_rai C y.e_TooMany)) s_nil)
    (s_cons (s_setN C e_bl (o_slot 4) (e_var 8) (hu := (by have := C.rm.un; omega)))
    (s_one (s_expr (e_app (o_slot 5) (e_var 8)))))) s_nil)))))))
    (s_one (s_ret (e_ofL (l_srt C (o_slot 4) z.g_sorted)))))))
theorem bi_made_from (kV doc pm : Value) (an : Option Addr) (cdv ct : Value) (us : List Value) (hl : us.length = (["many", "makers", "most"] : List Str).length) : bindArgs (PySem.W.fnOf "made_from" "made_from" (defArgs s_made_from) (defBody s_made_from) (defScope s_made_from) .none kV doc pm an cdv ct) ⟨us, []⟩ = pure ((["many", "makers", "most"] : List Str).zip us) := match us, hl with | [_, _, _], _ => rfl
abbrev s_tupled : Stmt := topS 9
theorem sc_tupled : FnScope N_tupled ["value"] (defScope s_tupled) := ⟨rfl, rfl, rfl, by decide +kernel, rfl, by decide +kernel, by decide +kernel⟩
theorem st_tupled {P : Program} {w : World} {K : PySem.W.Frag} {mg : Str → Option Value} {base : Heap} (z : Gz mg) {C_CanNot C_TooMany C_Unfit : Addr} (y : Gx K mg C_CanNot C_TooMany C_Unfit)  {f : Addr} {fd : FuncData} (Fu : L2.Fun K "tupled" "tupled" s_tupled f fd) (hm : mg "tupled" = some (.ref f)) (n : Nat) (ih : FnR ⟨K, mg, w⟩ P w base "tupled" s_tupled (0 + n) ["value"] (F_tupled n)) : FnR ⟨K, mg, w⟩ P w base "tupled" s_tupled (0 + n + 1) ["value"] (F_tupled (n + 1)) :=
  F_tupled_s n ▸ fnr (k := 0 + n) (body := B_tupled (fun _ => F_tupled n) n) Fu hm sc_tupled (fun _ _ _ _ _ _ us hl => match us, hl with | [_], _ => rfl) fun cdv A outer s H E C =>
    (s_one (s_ret (e_if (b_tru C (o_val (e_isiT C (o_slot 0) (ty_cons (t := .lst) z.g_list (ty_cons (t := .tup) z.g_tuple ty_nil)) z.g_isinstance))) (e_tuple1 C (o_val (e_ofL (l_lcM (N := N_tupled) (own := [("own", 1)]) C rfl (i_any C (e_var 0)) rfl rfl (by decide +kernel) (by decide +kernel) (by decide +kernel) (by repeat (first | exact List.forall_mem_nil _ | refine List.forall_mem_cons.mpr ⟨by first | (intro _; exact Or.inl rfl) | (intro _; exact Or.inr rfl) | (intro h; cases h; done), ?_⟩)) (fun s H A cl fp => (g_name 1 C.nd)) (fun s H A cl fp C => ts_nil) (fun s H A cl fp C => (e_call C ih (a_cons (e_var 1) a_nil) (Nat.le_refl _)))))) z.g_tuple) (e_var 0))))
theorem ok_tupled {P : Program} {w : World} {K : PySem.W.Frag} {mg : Str → Option Value} {base : Heap} (z : Gz mg) {C_CanNot C_TooMany C_Unfit : Addr} (y : Gx K mg C_CanNot C_TooMany C_Unfit)  {f : Addr} {fd : FuncData} (Fu : L2.Fun K "tupled" "tupled" s_tupled f fd) (hm : mg "tupled" = some (.ref f)) (n : Nat) : FnR ⟨K, mg, w⟩ P w base "tupled" s_tupled (0 + n) ["value"] (F_tupled n) := by
  induction n with
  | zero => exact fnr_bad Fu hm (fun _ _ _ _ _ _ us hl => match us, hl with | [_], _ => rfl)
  | succ n ih => exact st_tupled z y  Fu hm n ih
abbrev s_is_long : Stmt := topS 7
theorem sc_is_long : FnScope N_is_long ["thing", "length"] (defScope s_is_long) := ⟨rfl, rfl, rfl, by decide +kernel, rfl, by decide +kernel, by decide +kernel⟩
set_option maxHeartbeats 0 in
theorem ok_is_long {P : Program} {w : World} {K : PySem.W.Frag} {mg : Str → Option Value} {base : Heap} (z : Gz mg) {C_CanNot C_TooMany C_Unfit : Addr} (y : Gx K mg C_CanNot C_TooMany C_Unfit)  {f : Addr} {fd : FuncData} (Fu : L2.Fun K "is_long" "is_long" s_is_long f fd) : FnOk P w K mg base (L2.CX P w) 1 f fd ["thing", "length"] (spF ⟨K, mg, w⟩ 2 F_is_long) :=
  fnk (k := 0) (ps := ["thing", "length"]) (N := N_is_long) (body := B_is_long) Fu sc_is_long fun cdv A outer s H E C =>
    (s_one (s_ret (e_and (e_isi C (o_slot 0) (ty_cons (t := .tup) z.g_tuple ty_nil) z.g_isinstance) (pe_one (e_cmp (op_eqD C.rm.units) (v_eq C.hK) (o_val (e_len C (o_slot 0) z.g_len)) (o_slot 1))))))
theorem bi_is_long (kV doc pm : Value) (an : Option Addr) (cdv ct : Value) (us : List Value) (hl : us.length = (["thing", "length"] : List Str).length) : bindArgs (PySem.W.fnOf "is_long" "is_long" (defArgs s_is_long) (defBody s_is_long) (defScope s_is_long) .none kV doc pm an cdv ct) ⟨us, []⟩ = pure ((["thing", "length"] : List Str).zip us) := match us, hl with | [_, _], _ => rfl
abbrev s_is_number : Stmt := topS 5
theorem sc_is_number : FnScope N_is_number ["thing"] (defScope s_is_number) := ⟨rfl, rfl, rfl, by decide +kernel, rfl, by decide +kernel, by decide +kernel⟩
set_option maxHeartbeats 0 in
theorem ok_is_number {P : Program} {w : World} {K : PySem.W.Frag} {mg : Str → Option Value} {base : Heap} (z : Gz mg) {C_CanNot C_TooMany C_Unfit : Addr} (y : Gx K mg C_CanNot C_TooMany C_Unfit)  {f : Addr} {fd : FuncData} (Fu : L2.Fun K "is_number" "is_number" s_is_number f fd) : FnOk P w K mg base (L2.CX P w) 1 f fd ["thing"] (spF ⟨K, mg, w⟩ 1 F_is_number) :=
  fnk (k := 0) (ps := ["thing"]) (N := N_is_number) (body := B_is_number) Fu sc_is_number fun cdv A outer s H E C =>
    (s_one (s_ret (e_and (e_isi C (o_slot 0) (ty_cons (t := .int) z.g_int ty_nil) z.g_isinstance) (pe_one (e_not (e_isi C (o_slot 0) (ty_cons (t := .bl) z.g_bool ty_nil) z.g_isinstance))))))
theorem bi_is_number (kV doc pm : Value) (an : Option Addr) (cdv ct : Value) (us : List Value) (hl : us.length = (["thing"] : List Str).length) : bindArgs (PySem.W.fnOf "is_number" "is_number" (defArgs s_is_number) (defBody s_is_number) (defScope s_is_number) .none kV doc pm an cdv ct) ⟨us, []⟩ = pure ((["thing"] : List Str).zip us) := match us, hl with | [_], _ => rfl
abbrev s_are_numbers : Stmt := topS 8
theorem sc_are_numbers : FnScope N_are_numbers ["thing"] (defScope s_are_numbers) := ⟨rfl, rfl, rfl, by decide +kernel, rfl, by decide +kernel, by decide +kernel⟩
set_option maxHeartbeats 0 in
theorem ok_are_numbers {P : Program} {w : World} {K : PySem.W.Frag} {mg : Str → Option Value} {base : Heap} (z : Gz mg) {C_CanNot C_TooMany C_Unfit : Addr} (y : Gx K mg C_CanNot C_TooMany C_Unfit) (R_is_number : FnR ⟨K, mg, w⟩ P w base "is_number" s_is_number 1 ["thing"] F_is_number) {f : Addr} {fd : FuncData} (Fu : L2.Fun K "are_numbers" "are_numbers" s_are_numbers f fd) : FnOk P w K mg base (L2.CX P w) 2 f fd ["thing"] (spF ⟨K, mg, w⟩ 1 F_are_numbers) :=
  fnk (k := 1) (ps := ["thing"]) (N := N_are_numbers) (body := B_are_numbers) Fu sc_are_numbers fun cdv A outer s H E C =>
    (s_one (s_ret (e_and (e_isi C (o_slot 0) (ty_cons (t := .tup) z.g_tuple ty_nil) z.g_isinstance) (pe_one (e_all C (o_val (e_ofL (l_lcM (N := N_are_numbers) (own := [("own", 1)]) C rfl (i_any C (e_var 0)) rfl rfl (by decide +kernel) (by decide +kernel) (by decide +kernel) (by repeat (first | exact List.forall_mem_nil _ | refine List.forall_mem_cons.mpr ⟨by first | (intro _; exact Or.inl rfl) | (intro _; exact Or.inr rfl) | (intro h; cases h; done), ?_⟩)) (fun s H A cl fp => (g_name 1 C.nd)) (fun s H A cl fp C => ts_nil) (fun s H A cl fp C => (e_call C R_is_number (a_cons (e_var 1) a_nil) (by decide)))))) z.g_all)))))
theorem bi_are_numbers (kV doc pm : Value) (an : Option Addr) (cdv ct : Value) (us : List Value) (hl : us.length = (["thing"] : List Str).length) : bindArgs (PySem.W.fnOf "are_numbers" "are_numbers" (defArgs s_are_numbers) (defBody s_are_numbers) (defScope s_are_numbers) .none kV doc pm an cdv ct) ⟨us, []⟩ = pure ((["thing"] : List Str).zip us) := match us, hl with | [_], _ => rfl
abbrev s_is_shuffle_of : Stmt := topS 12
theorem sc_is_shuffle_of : FnScope N_is_shuffle_of ["many", "thing"] (defScope s_is_shuffle_of) := ⟨rfl, rfl, rfl, by decide +kernel, rfl, by decide +kernel, by decide +kernel⟩
set_option maxHeartbeats 0 in
theorem ok_is_shuffle_of {P : Program} {w : World} {K : PySem.W.Frag} {mg : Str → Option Value} {base : Heap} (z : Gz mg) {C_CanNot C_TooMany C_Unfit : Addr} (y : Gx K mg C_CanNot C_TooMany C_Unfit) (R_is_long : FnR ⟨K, mg, w⟩ P w base "is_long" s_is_long 1 ["thing", "length"] F_is_long) (R_are_numbers : FnR ⟨K, mg, w⟩ P w base "are_numbers" s_are_numbers 2 ["thing"] F_are_numbers) {f : Addr} {fd : FuncData} (Fu : L2.Fun K "is_shuffle_of" "is_shuffle_of" s_is_shuffle_of f fd) : FnOk P w K mg base (L2.CX P w) 3 f fd ["many", "thing"] (spF ⟨K, mg, w⟩ 2 F_is_shuffle_of) :=
  fnk (k := 2) (ps := ["many", "thing"]) (N := N_is_shuffle_of) (body := B_is_shuffle_of) Fu sc_is_shuffle_of fun cdv A outer s H E C =>
    (s_one (s_ret (e_and (e_call C R_is_long (a_cons (e_var 1) (a_cons (e_var 0) a_nil)) (by decide)) (e_and (e_call C R_are_numbers (a_cons (e_var 1) a_nil) (by decide)) (pe_one (e_cmp (op_eqD C.rm.units) (v_eq C.hK) (o_val (e_ofL (l_sorted C (o_slot 1) z.g_sorted))) (o_val (e_ofL (l_lstR1 C z.g_list z.g_range (e_var 0))))))))))
theorem bi_is_shuffle_of (kV doc pm : Value) (an : Option Addr) (cdv ct : Value) (us : List Value) (hl : us.length = (["many", "thing"] : List Str).length) : bindArgs (PySem.W.fnOf "is_shuffle_of" "is_shuffle_of" (defArgs s_is_shuffle_of) (defBody s_is_shuffle_of) (defScope s_is_shuffle_of) .none kV doc pm an cdv ct) ⟨us, []⟩ = pure ((["many", "thing"] : List Str).zip us) := match us, hl with | [_, _], _ => rfl
abbrev s_is_group_in : Stmt := topS 18
theorem sc_is_group_in : FnScope N_is_group_in ["own"] (defScope s_is_group_in) := ⟨rfl, rfl, rfl, by decide +kernel, rfl, by decide +kernel, by decide +kernel⟩
set_option maxHeartbeats 0 in
theorem ok_is_group_in {P : Program} {w : World} {K : PySem.W.Frag} {mg : Str → Option Value} {base : Heap} (z : Gz mg) {C_CanNot C_TooMany C_Unfit : Addr} (y : Gx K mg C_CanNot C_TooMany C_Unfit) (R_is_shuffle_of : FnR ⟨K, mg, w⟩ P w base "is_shuffle_of" s_is_shuffle_of 3 ["many", "thing"] F_is_shuffle_of) {f : Addr} {fd : FuncData} (Fu : L2.Fun K "is_group_in" "is_group_in" s_is_group_in f fd) : FnOk P w K mg base (L2.CX P w) 4 f fd ["own"] (spF ⟨K, mg, w⟩ 1 F_is_group_in) :=
  fnk (k := 3) (ps := ["own"]) (N := N_is_group_in) (body := B_is_group_in) Fu sc_is_group_in fun cdv A outer s H E C =>
    (s_cons (s_if (PW.pt (w_or (b_not (b_tru C (o_val (e_isi C (o_slot 0) (ty_cons (t := .tup) z.g_tuple ty_nil) z.g_isinstance)))) (w_or (b_cmp (op_neD C.rm.units) (v_ne C.hK) (o_val (e_len C (o_slot 0) z.g_len)) (o_val e_int)) (w_or (b_not (b_tru C (o_val (e_isi C (o_val (e_ix C.hK (o_slot 0) (o_val e_int))) (ty_cons (t := .tup) z.g_tuple ty_nil) z.g_isinstance)))) (pw_or1 (b_tru C (o_val (e_isi C (o_val (e_ix C.hK (o_slot 0) (o_val e_int))) (ty_cons (t := .bl) z.g_bool ty_nil) z.g_isinstance)))))))) (s_one (s_ret e_bl)) s_nil)
    (s_cons (s_if (PW.pt (w_or (b_not (b_tru C (o_val (e_isi C (o_val (e_ix C.hK (o_slot 0) (o_val e_int))) (ty_cons (t := .int) z.g_int ty_nil) z.g_isinstance)))) (w_or (b_not (b_chn op_le v_le op_le v_le (o_val e_int) (o_val (e_ix C.hK (o_slot 0) (o_val e_int))) (o_val (e_globI C z.c_MOST_MANY.choose_spec)))) (pw_or1 (b_cmp op_gt v_gt (o_val (e_len C (o_val (e_ix C.hK (o_slot 0) (o_val e_int))) z.g_len)) (o_val (e_globI C z.c_MOST_MAKERS.choose_spec))))))) (s_one (s_ret e_bl)) s_nil)
    (s_one (s_ret (e_all C (o_val (e_ofL (l_lcM (N := N_is_group_in) (own := [("maker", 1)]) C rfl (i_any C (e_ix C.hK (o_slot 0) (o_val e_int))) rfl rfl (by decide +kernel) (by decide +kernel) (by decide +kernel) (by repeat (first | exact List.forall_mem_nil _ | refine List.forall_mem_cons.mpr ⟨by first | (intro _; exact Or.inl rfl) | (intro _; exact Or.inr rfl) | (intro h; cases h; done), ?_⟩)) (fun s H A cl fp => (g_name 1 C.nd)) (fun s H A cl fp C => ts_nil) (fun s H A cl fp C => (e_call C R_is_shuffle_of (a_cons (e_ix C.hK (o_slot 0) (o_val e_int)) (a_cons (e_var 1) a_nil)) (by decide)))))) z.g_all)))))
theorem bi_is_group_in (kV doc pm : Value) (an : Option Addr) (cdv ct : Value) (us : List Value) (hl : us.length = (["own"] : List Str).length) : bindArgs (PySem.W.fnOf "is_group_in" "is_group_in" (defArgs s_is_group_in) (defBody s_is_group_in) (defScope s_is_group_in) .none kV doc pm an cdv ct) ⟨us, []⟩ = pure ((["own"] : List Str).zip us) := match us, hl with | [_], _ => rfl
abbrev s_turns_of : Stmt := topS 20
theorem sc_turns_of : FnScope N_turns_of ["shuffle"] (defScope s_turns_of) := ⟨rfl, rfl, rfl, by decide +kernel, rfl, by decide +kernel, by decide +kernel⟩
set_option maxHeartbeats 0 in
theorem ok_turns_of {P : Program} {w : World} {K : PySem.W.Frag} {mg : Str → Option Value} {base : Heap} (z : Gz mg) {C_CanNot C_TooMany C_Unfit : Addr} (y : Gx K mg C_CanNot C_TooMany C_Unfit) (R_then : FnR ⟨K, mg, w⟩ P w base "then" s_then 1 ["one", "other"] F_then) {f : Addr} {fd : FuncData} (Fu : L2.Fun K "turns_of" "turns_of" s_turns_of f fd) : FnOk P w K mg base (L2.CX P w) 2 f fd ["shuffle"] (spF ⟨K, mg, w⟩ 1 F_turns_of) :=
  fnk (k := 1) (ps := ["shuffle"]) (N := N_turns_of) (body := B_turns_of) Fu sc_turns_of fun cdv A outer s H E C =>
    (s_cons (s_par C 1 2 (pc_v (e_var 0)) (pc_v e_int))
    (s_cons (s_whlF C (passes_of rfl) (b_cmp (op_neD C.rm.units) (v_ne C.hK) (o_slot 1) (o_val (e_tupR1 C z.g_tuple z.g_range (e_len C (o_slot 0) z.g_len)))) (s_one (s_par C 1 2 (pc_v (e_call C R_then (a_cons (e_var 1) (a_cons (e_var 0) a_nil)) (by decide))) (pc_v (e_add C.hK (o_slot 2) (o_val e_int))))))
    (s_one (s_ret (e_var 2)))))
theorem bi_turns_of (kV doc pm : Value) (an : Option Addr) (cdv ct : Value) (us : List Value) (hl : us.length = (["shuffle"] : List Str).length) : bindArgs (PySem.W.fnOf "turns_of" "turns_of" (defArgs s_turns_of) (defBody s_turns_of) (defScope s_turns_of) .none kV doc pm an cdv ct) ⟨us, []⟩ = pure ((["shuffle"] : List Str).zip us) := match us, hl with | [_], _ => rfl
abbrev s_map_of_shuffles : Stmt := topS 47
theorem sc_map_of_shuffles : FnScope N_map_of_shuffles ["one", "other"] (defScope s_map_of_shuffles) := ⟨rfl, rfl, rfl, by decide +kernel, rfl, by decide +kernel, by decide +kernel⟩
set_option maxHeartbeats 0 in
theorem ok_map_of_shuffles {P : Program} {w : World} {K : PySem.W.Frag} {mg : Str → Option Value} {base : Heap} (z : Gz mg) {C_CanNot C_TooMany C_Unfit : Addr} (y : Gx K mg C_CanNot C_TooMany C_Unfit) (R_made_from : FnR ⟨K, mg, w⟩ P w base "made_from" s_made_from 2 ["many", "makers", "most"] F_made_from) (R_tupled : FnR ⟨K, mg, w⟩ P w base "tupled" s_tupled 8 ["value"] (F_tupled 8)) (R_is_group_in : FnR ⟨K, mg, w⟩ P w base "is_group_in" s_is_group_in 4 ["own"] F_is_group_in) (R_turns_of : FnR ⟨K, mg, w⟩ P w base "turns_of" s_turns_of 2 ["shuffle"] F_turns_of) (R_then : FnR ⟨K, mg, w⟩ P w base "then" s_then 1 ["one", "other"] F_then) {f : Addr} {fd : FuncData} (Fu : L2.Fun K "map_of_shuffles" "map_of_shuffles" s_map_of_shuffles f fd) : FnOk P w K mg base (L2.CX P w) 9 f fd ["one", "other"] (spF ⟨K, mg, w⟩ 2 F_map_of_shuffles) :=
  fnk (k := 8) (ps := ["one", "other"]) (N := N_map_of_shuffles) (body := B_map_of_shuffles) Fu sc_map_of_shuffles fun cdv A outer s H E C =>
    (s_cons (s_par C 5 6 (pc_v (e_call C R_tupled (a_cons (e_var 0) a_nil) (by decide))) (pc_v (e_call C R_tupled (a_cons (e_var 1) a_nil) (by decide))))
    (s_cons (s_set C 2 (e_if (b_tru C (o_val (e_isi C (o_slot 5) (ty_cons (t := .tup) z.g_tuple ty_nil) z.g_isinstance))) (e_len C (o_slot 5) z.g_len) e_int))
    (s_cons (s_if (b_not (b_tru C (o_val (e_call C R_is_group_in (a_cons (e_tup (a_cons (e_var 2) (a_cons (e_tup (a_cons (e_var 5) (a_cons (e_var 6) a_nil))) a_nil))) a_nil) (by decide))))) (s_one (s_rai C y.e_Unfit)) s_nil)
    (s_cons (s_if (b_cmp (op_neD C.rm.units) (v_ne C.hK) (o_val (e_call C R_turns_of (a_cons (e_var 6) a_nil) (by decide))) (o_val e_int)) (s_one (s_rai C y.e_CanNot)) s_nil)
    (s_cons (s_set C 3 (e_call C R_made_from (a_cons (e_var 2) (a_cons (e_tup (a_cons (e_var 5) (a_cons (e_var 6) a_nil))) (a_cons (e_globI C z.c_MOST_DARTS.choose_spec) a_nil))) (by decide)))
    (s_cons (s_set C 4 (e_ofX (x_dict C (o_val (e_ofL (l_lcM (N := N_map_of_shuffles) (own := [("place", 7), ("own", 8)]) C rfl (i_enum C z.g_enumerate (e_var 3)) rfl rfl (by decide +kernel) (by decide +kernel) (by decide +kernel) (by repeat (first | exact List.forall_mem_nil _ | refine List.forall_mem_cons.mpr ⟨by first | (intro _; exact Or.inl rfl) | (intro _; exact Or.inr rfl) | (intro h; cases h; done), ?_⟩)) (fun s H A cl fp => (g_tup C.hc C.hK (gs_cons (g_name 7 C.nd) (gs_cons (g_name 8 C.nd) gs_nil)))) (fun s H A cl fp C => ts_nil) (fun s H A cl fp C => (e_tup (a_cons (e_var 8) (a_cons (e_var 7) a_nil))))))) z.g_dict)))
    (s_one (s_ret (e_tuple1 C (o_val (e_ofL (l_lcM (N := N_map_of_shuffles) (own := [("its", 9)]) C rfl (i_any C (e_tup (a_cons (e_var 5) (a_cons (e_var 6) a_nil)))) rfl rfl (by decide +kernel) (by decide +kernel) (by decide +kernel) (by repeat (first | exact List.forall_mem_nil _ | refine List.forall_mem_cons.mpr ⟨by first | (intro _; exact Or.inl rfl) | (intro _; exact Or.inr rfl) | (intro h; cases h; done), ?_⟩)) (fun s H A cl fp => (g_name 9 C.nd)) (fun s H A cl fp C => ts_nil) (fun s H A cl fp C => (e_tuple1 C (o_val (e_ofL (l_lcM (N := N_map_of_shuffles) (own := [("own", 8)]) C rfl (i_any C (e_var 3)) rfl rfl (by decide +kernel) (by decide +kernel) (by decide +kernel) (by repeat (first | exact List.forall_mem_nil _ | refine List.forall_mem_cons.mpr ⟨by first | (intro _; exact Or.inl rfl) | (intro _; exact Or.inr rfl) | (intro h; cases h; done), ?_⟩)) (fun s H A cl fp => (g_name 8 C.nd)) (fun s H A cl fp C => ts_nil) (fun s H A cl fp C => (e_ixN C (o_slot 4) (o_val (e_call C R_then (a_cons (e_var 8) (a_cons (e_var 9) a_nil)) (by decide)))))))) z.g_tuple))))) z.g_tuple)))))))))
theorem bi_map_of_shuffles (kV doc pm : Value) (an : Option Addr) (cdv ct : Value) (us : List Value) (hl : us.length = (["one", "other"] : List Str).length) : bindArgs (PySem.W.fnOf "map_of_shuffles" "map_of_shuffles" (defArgs s_map_of_shuffles) (defBody s_map_of_shuffles) (defScope s_map_of_shuffles) .none kV doc pm an cdv ct) ⟨us, []⟩ = pure ((["one", "other"] : List Str).zip us) := match us, hl with | [_, _], _ => rfl
abbrev s_comes_to_all : Stmt := topS 23
theorem sc_comes_to_all : FnScope N_comes_to_all ["many", "way"] (defScope s_comes_to_all) := ⟨rfl, rfl, rfl, by decide +kernel, rfl, by decide +kernel, by decide +kernel⟩
set_option maxHeartbeats 0 in
theorem ok_comes_to_all {P : Program} {w : World} {K : PySem.W.Frag} {mg : Str → Option Value} {base : Heap} (z : Gz mg) {C_CanNot C_TooMany C_Unfit : Addr} (y : Gx K mg C_CanNot C_TooMany C_Unfit)  {f : Addr} {fd : FuncData} (Fu : L2.Fun K "comes_to_all" "comes_to_all" s_comes_to_all f fd) : FnOk P w K mg base (L2.CX P w) 1 f fd ["many", "way"] (spF ⟨K, mg, w⟩ 2 F_comes_to_all) :=
  fnk (k := 0) (ps := ["many", "way"]) (N := N_comes_to_all) (body := B_comes_to_all) Fu sc_comes_to_all fun cdv A outer s H E C =>
    (s_cons (s_par C 2 3 (pc_y (y_disp (ps := [((cst (.int 0)), (cst (.bl true)))]) C (pps_cons e_int e_bl pps_nil))) (pc_l (l_lst (a_cons e_int a_nil))))
    (s_cons (s_whlF C (passes_of rfl) (b_cmp (op_neD C.rm.units) (v_ne C.hK) (o_slot 3) (o_val (e_ofL (l_lst a_nil)))) (s_cons (s_set C 4 (e_pop (o_slot 3)))
    (s_one (s_for (vs := [5]) C (passes_of rfl) (i_any C (e_var 1)) (g_name 5 C.nd) (s_one (s_if (b_cmp (op_ninK (by have := C.rm.un; omega)) (v_hasK not) (o_val (e_ix C.hK (o_slot 5) (o_slot 4))) (o_slot 2)) (s_cons (s_setK C e_bl (o_slot 2) (e_ix C.hK (o_slot 5) (o_slot 4)) (hu := (by have := C.rm.un; omega)))
    (s_one (s_expr (e_app (o_slot 3) (e_ix C.hK (o_slot 5) (o_slot 4)))))) s_nil))))))
    (s_one (s_ret (e_cmp (op_eqD C.rm.units) (v_eq C.hK) (o_val (e_lenY C (o_slot 2) z.g_len)) (o_slot 0))))))
theorem bi_comes_to_all (kV doc pm : Value) (an : Option Addr) (cdv ct : Value) (us : List Value) (hl : us.length = (["many", "way"] : List Str).length) : bindArgs (PySem.W.fnOf "comes_to_all" "comes_to_all" (defArgs s_comes_to_all) (defBody s_comes_to_all) (defScope s_comes_to_all) .none kV doc pm an cdv ct) ⟨us, []⟩ = pure ((["many", "way"] : List Str).zip us) := match us, hl with | [_, _], _ => rfl
abbrev s_is_map_in : Stmt := topS 26
theorem sc_is_map_in : FnScope N_is_map_in ["thing"] (defScope s_is_map_in) := ⟨rfl, rfl, rfl, by decide +kernel, rfl, by decide +kernel, by decide +kernel⟩
set_option maxHeartbeats 0 in
theorem ok_is_map_in {P : Program} {w : World} {K : PySem.W.Frag} {mg : Str → Option Value} {base : Heap} (z : Gz mg) {C_CanNot C_TooMany C_Unfit : Addr} (y : Gx K mg C_CanNot C_TooMany C_Unfit) (R_comes_to_all : FnR ⟨K, mg, w⟩ P w base "comes_to_all" s_comes_to_all 1 ["many", "way"] F_comes_to_all) (R_is_shuffle_of : FnR ⟨K, mg, w⟩ P w base "is_shuffle_of" s_is_shuffle_of 3 ["many", "thing"] F_is_shuffle_of) {f : Addr} {fd : FuncData} (Fu : L2.Fun K "is_map_in" "is_map_in" s_is_map_in f fd) : FnOk P w K mg base (L2.CX P w) 4 f fd ["thing"] (spF ⟨K, mg, w⟩ 1 F_is_map_in) :=
  fnk (k := 3) (ps := ["thing"]) (N := N_is_map_in) (body := B_is_map_in) Fu sc_is_map_in fun cdv A outer s H E C =>
    (s_cons (s_if (PW.pt (w_or (b_not (b_tru C (o_val (e_isi C (o_slot 0) (ty_cons (t := .tup) z.g_tuple ty_nil) z.g_isinstance)))) (w_or (b_cmp (op_neD C.rm.units) (v_ne C.hK) (o_val (e_len C (o_slot 0) z.g_len)) (o_val e_int)) (w_or (b_not (b_tru C (o_val (e_isi C (o_val (e_ix C.hK (o_slot 0) (o_val e_int))) (ty_cons (t := .tup) z.g_tuple ty_nil) z.g_isinstance)))) (pw_or1 (b_cmp op_lt v_lt (o_val (e_len C (o_val (e_ix C.hK (o_slot 0) (o_val e_int))) z.g_len)) (o_val e_int))))))) (s_one (s_ret e_bl)) s_nil)
    (s_cons (s_set C 1 (e_len C (o_val (e_ix C.hK (o_slot 0) (o_val e_int))) z.g_len))
    (s_cons (s_if (PW.pt (w_or (b_not (b_tru C (o_val (e_call C R_is_shuffle_of (a_cons (e_var 1) (a_cons (e_ix C.hK (o_slot 0) (o_val e_int)) a_nil)) (by decide))))) (pw_or1 (b_not (b_tru C (o_val (e_call C R_is_shuffle_of (a_cons (e_var 1) (a_cons (e_ix C.hK (o_slot 0) (o_val e_int)) a_nil)) (by decide)))))))) (s_one (s_ret e_bl)) s_nil)
    (s_cons (s_if (b_tru C (o_val (e_any C (o_val (e_ofL (l_lcM (N := N_is_map_in) (own := [("own", 2)]) C rfl (i_r1 C z.g_range (e_var 1)) rfl rfl (by decide +kernel) (by decide +kernel) (by decide +kernel) (by repeat (first | exact List.forall_mem_nil _ | refine List.forall_mem_cons.mpr ⟨by first | (intro _; exact Or.inl rfl) | (intro _; exact Or.inr rfl) | (intro h; cases h; done), ?_⟩)) (fun s H A cl fp => (g_name 2 C.nd)) (fun s H A cl fp C => ts_nil) (fun s H A cl fp C => (e_or (e_cmp (op_eqD C.rm.units) (v_eq C.hK) (o_val (e_ix C.hK (o_val (e_ix C.hK (o_slot 0) (o_val e_int))) (o_slot 2))) (o_slot 2)) (pe_one (e_cmp (op_neD C.rm.units) (v_ne C.hK) (o_val (e_ix C.hK (o_val (e_ix C.hK (o_slot 0) (o_val e_int))) (o_val (e_ix C.hK (o_val (e_ix C.hK (o_slot 0) (o_val e_int))) (o_slot 2))))) (o_slot 2)))))))) z.g_any))) (s_one (s_ret e_bl)) s_nil)
    (s_one (s_ret (e_call C R_comes_to_all (a_cons (e_var 1) (a_cons (e_var 0) a_nil)) (by decide))))))))
theorem bi_is_map_in (kV doc pm : Value) (an : Option Addr) (cdv ct : Value) (us : List Value) (hl : us.length = (["thing"] : List Str).length) : bindArgs (PySem.W.fnOf "is_map_in" "is_map_in" (defArgs s_is_map_in) (defBody s_is_map_in) (defScope s_is_map_in) .none kV doc pm an cdv ct) ⟨us, []⟩ = pure ((["thing"] : List Str).zip us) := match us, hl with | [_], _ => rfl
abbrev s_sure_map : Stmt := topS 28
theorem sc_sure_map : FnScope N_sure_map ["value"] (defScope s_sure_map) := ⟨rfl, rfl, rfl, by decide +kernel, rfl, by decide +kernel, by decide +kernel⟩
set_option maxHeartbeats 0 in
theorem ok_sure_map {P : Program} {w : World} {K : PySem.W.Frag} {mg : Str → Option Value} {base : Heap} (z : Gz mg) {C_CanNot C_TooMany C_Unfit : Addr} (y : Gx K mg C_CanNot C_TooMany C_Unfit) (R_tupled : FnR ⟨K, mg, w⟩ P w base "tupled" s_tupled 8 ["value"] (F_tupled 8)) (R_is_map_in : FnR ⟨K, mg, w⟩ P w base "is_map_in" s_is_map_in 4 ["thing"] F_is_map_in) {f : Addr} {fd : FuncData} (Fu : L2.Fun K "sure_map" "sure_map" s_sure_map f fd) : FnOk P w K mg base (L2.CX P w) 9 f fd ["value"] (spF ⟨K, mg, w⟩ 1 F_sure_map) :=
  fnk (k := 8) (ps := ["value"]) (N := N_sure_map) (body := B_sure_map) Fu sc_sure_map fun cdv A outer s H E C =>
    (s_cons (s_set C 1 (e_call C R_tupled (a_cons (e_var 0) a_nil) (by decide)))
    (s_cons (s_if (PW.pt (w_or (b_not (b_tru C (o_val (e_call C R_is_map_in (a_cons (e_var 1) a_nil) (by decide))))) (pw_or1 (b_cmp op_gt v_gt (o_val (e_len C (o_val (e_ix C.hK (o_slot 1) (o_val e_int))) z.g_len)) (o_val (e_globI C z.c_MOST_DARTS.choose_spec)))))) (s_one (s_rai C y.e_Unfit)) s_nil)
    (s_one (s_ret (e_var 1)))))
theorem bi_sure_map (kV doc pm : Value) (an : Option Addr) (cdv ct : Value) (us : List Value) (hl : us.length = (["value"] : List Str).length) : bindArgs (PySem.W.fnOf "sure_map" "sure_map" (defArgs s_sure_map) (defBody s_sure_map) (defScope s_sure_map) .none kV doc pm an cdv ct) ⟨us, []⟩ = pure ((["value"] : List Str).zip us) := match us, hl with | [_], _ => rfl
abbrev s_rounds_of : Stmt := topS 22
theorem sc_rounds_of : FnScope N_rounds_of ["shuffle"] (defScope s_rounds_of) := ⟨rfl, rfl, rfl, by decide +kernel, rfl, by decide +kernel, by decide +kernel⟩
set_option maxHeartbeats 0 in
theorem ok_rounds_of {P : Program} {w : World} {K : PySem.W.Frag} {mg : Str → Option Value} {base : Heap} (z : Gz mg) {C_CanNot C_TooMany C_Unfit : Addr} (y : Gx K mg C_CanNot C_TooMany C_Unfit)  {f : Addr} {fd : FuncData} (Fu : L2.Fun K "rounds_of" "rounds_of" s_rounds_of f fd) : FnOk P w K mg base (L2.CX P w) 1 f fd ["shuffle"] (spF ⟨K, mg, w⟩ 1 F_rounds_of) :=
  fnk (k := 0) (ps := ["shuffle"]) (N := N_rounds_of) (body := B_rounds_of) Fu sc_rounds_of fun cdv A outer s H E C =>
    (s_cons (s_par C 2 3 (pc_l (l_lst a_nil)) (pc_y y_new))
    (s_cons (s_for (vs := [1]) C (passes_of rfl) (i_r1 C z.g_range (e_len C (o_slot 0) z.g_len)) (g_name 1 C.nd) (s_one (s_if (b_cmp (op_ninK (by have := C.rm.un; omega)) (v_hasK not) (o_slot 1) (o_slot 3)) (s_cons (s_par C 4 5 (pc_l (l_lst a_nil)) (pc_v (e_var 1)))
    (s_cons (s_whlF C (passes_of rfl) (b_cmp (op_ninK (by have := C.rm.un; omega)) (v_hasK not) (o_slot 5) (o_slot 3)) (s_cons (s_setK C e_bl (o_slot 3) (e_var 5) (hu := (by have := C.rm.un; omega)))
    (s_cons (s_expr (e_app (o_slot 4) (e_var 5)))
    (s_one (s_set C 5 (e_ix C.hK (o_slot 0) (o_slot 5)))))))
    (s_one (s_expr (e_app (o_slot 2) (e_tuple1 C (o_slot 4) z.g_tuple)))))) s_nil)))
    (s_one (s_ret (e_var 2)))))
theorem bi_rounds_of (kV doc pm : Value) (an : Option Addr) (cdv ct : Value) (us : List Value) (hl : us.length = (["shuffle"] : List Str).length) : bindArgs (PySem.W.fnOf "rounds_of" "rounds_of" (defArgs s_rounds_of) (defBody s_rounds_of) (defScope s_rounds_of) .none kV doc pm an cdv ct) ⟨us, []⟩ = pure ((["shuffle"] : List Str).zip us) := match us, hl with | [_], _ => rfl
abbrev s_faced : Stmt := topS 29
theorem sc_faced : FnScope N_faced ["own"] (defScope s_faced) := ⟨rfl, rfl, rfl, by decide +kernel, rfl, by decide +kernel, by decide +kernel⟩
set_option maxHeartbeats 0 in
theorem ok_faced {P : Program} {w : World} {K : PySem.W.Frag} {mg : Str → Option Value} {base : Heap} (z : Gz mg) {C_CanNot C_TooMany C_Unfit : Addr} (y : Gx K mg C_CanNot C_TooMany C_Unfit) (R_then : FnR ⟨K, mg, w⟩ P w base "then" s_then 1 ["one", "other"] F_then) {f : Addr} {fd : FuncData} (Fu : L2.Fun K "faced" "faced" s_faced f fd) : FnOk P w K mg base (L2.CX P w) 2 f fd ["own"] (spF ⟨K, mg, w⟩ 1 F_faced) :=
  fnk (k := 1) (ps := ["own"]) (N := N_faced) (body := B_faced) Fu sc_faced fun cdv A outer s H E C =>
    (s_one (s_ret (e_call C R_then (a_cons (e_ix C.hK (o_slot 0) (o_val e_int)) (a_cons (e_ix C.hK (o_slot 0) (o_val e_int)) a_nil)) (by decide))))
theorem bi_faced (kV doc pm : Value) (an : Option Addr) (cdv ct : Value) (us : List Value) (hl : us.length = (["own"] : List Str).length) : bindArgs (PySem.W.fnOf "faced" "faced" (defArgs s_faced) (defBody s_faced) (defScope s_faced) .none kV doc pm an cdv ct) ⟨us, []⟩ = pure ((["own"] : List Str).zip us) := match us, hl with | [_], _ => rfl
abbrev s_map_type : Stmt := topS 35
theorem sc_map_type : FnScope N_map_type ["map_of"] (defScope s_map_type) := ⟨rfl, rfl, rfl, by decide +kernel, rfl, by decide +kernel, by decide +kernel⟩
set_option maxHeartbeats 0 in
theorem ok_map_type {P : Program} {w : World} {K : PySem.W.Frag} {mg : Str → Option Value} {base : Heap} (z : Gz mg) {C_CanNot C_TooMany C_Unfit : Addr} (y : Gx K mg C_CanNot C_TooMany C_Unfit) (R_sure_map : FnR ⟨K, mg, w⟩ P w base "sure_map" s_sure_map 9 ["value"] F_sure_map) (R_rounds_of : FnR ⟨K, mg, w⟩ P w base "rounds_of" s_rounds_of 1 ["shuffle"] F_rounds_of) (R_faced : FnR ⟨K, mg, w⟩ P w base "faced" s_faced 2 ["own"] F_faced) {f : Addr} {fd : FuncData} (Fu : L2.Fun K "map_type" "map_type" s_map_type f fd) : FnOk P w K mg base (L2.CX P w) 10 f fd ["map_of"] (spF ⟨K, mg, w⟩ 1 F_map_type) :=
  fnk (k := 9) (ps := ["map_of"]) (N := N_map_type) (body := B_map_type) Fu sc_map_type fun cdv A outer s H E C =>
    (s_cons (s_set C 1 (e_call C R_sure_map (a_cons (e_var 0) a_nil) (by decide)))
    (s_cons (s_set C 2 (e_ofL (l_sset C (o_val (e_ofL (l_lcM (N := N_map_type) (own := [("row", 4)]) C rfl (i_any C (e_call C R_rounds_of (a_cons (e_call C R_faced (a_cons (e_var 1) a_nil) (by decide)) a_nil) (by decide))) rfl rfl (by decide +kernel) (by decide +kernel) (by decide +kernel) (by repeat (first | exact List.forall_mem_nil _ | refine List.forall_mem_cons.mpr ⟨by first | (intro _; exact Or.inl rfl) | (intro _; exact Or.inr rfl) | (intro h; cases h; done), ?_⟩)) (fun s H A cl fp => (g_name 4 C.nd)) (fun s H A cl fp C => ts_nil) (fun s H A cl fp C => (e_len C (o_slot 4) z.g_len))))) z.g_sorted z.g_set)))
    (s_cons (s_set C 3 (e_ofL (l_sset C (o_val (e_ofL (l_lcM (N := N_map_type) (own := [("row", 4)]) C rfl (i_any C (e_call C R_rounds_of (a_cons (e_ix C.hK (o_slot 1) (o_val e_int)) a_nil) (by decide))) rfl rfl (by decide +kernel) (by decide +kernel) (by decide +kernel) (by repeat (first | exact List.forall_mem_nil _ | refine List.forall_mem_cons.mpr ⟨by first | (intro _; exact Or.inl rfl) | (intro _; exact Or.inr rfl) | (intro h; cases h; done), ?_⟩)) (fun s H A cl fp => (g_name 4 C.nd)) (fun s H A cl fp C => ts_nil) (fun s H A cl fp C => (e_len C (o_slot 4) z.g_len))))) z.g_sorted z.g_set)))
    (s_cons (s_if (PW.pt (w_or (b_cmp op_gt v_gt (o_val (e_len C (o_slot 2) z.g_len)) (o_val e_int)) (pw_or1 (b_cmp op_gt v_gt (o_val (e_len C (o_slot 3) z.g_len)) (o_val e_int))))) (s_one (s_rai C y.e_CanNot)) s_nil)
    (s_one (s_ret (e_tup (a_cons (e_ix C.hK (o_slot 2) (o_val e_int)) (a_cons (e_ix C.hK (o_slot 3) (o_val e_int)) a_nil)))))))))
theorem bi_map_type (kV doc pm : Value) (an : Option Addr) (cdv ct : Value) (us : List Value) (hl : us.length = (["map_of"] : List Str).length) : bindArgs (PySem.W.fnOf "map_type" "map_type" (defArgs s_map_type) (defBody s_map_type) (defScope s_map_type) .none kV doc pm an cdv ct) ⟨us, []⟩ = pure ((["map_of"] : List Str).zip us) := match us, hl with | [_], _ => rfl
abbrev s_led_from : Stmt := topS 38
theorem sc_led_from : FnScope N_led_from ["one", "other", "goal"] (defScope s_led_from) := ⟨rfl, rfl, rfl, by decide +kernel, rfl, by decide +kernel, by decide +kernel⟩
set_option maxHeartbeats 0 in
theorem ok_led_from {P : Program} {w : World} {K : PySem.W.Frag} {mg : Str → Option Value} {base : Heap} (z : Gz mg) {C_CanNot C_TooMany C_Unfit : Addr} (y : Gx K mg C_CanNot C_TooMany C_Unfit) (R_is_shuffle_of : FnR ⟨K, mg, w⟩ P w base "is_shuffle_of" s_is_shuffle_of 3 ["many", "thing"] F_is_shuffle_of) {f : Addr} {fd : FuncData} (Fu : L2.Fun K "led_from" "led_from" s_led_from f fd) : FnOk P w K mg base (L2.CX P w) 4 f fd ["one", "other", "goal"] (spF ⟨K, mg, w⟩ 3 F_led_from) :=
  fnk (k := 3) (ps := ["one", "other", "goal"]) (N := N_led_from) (body := B_led_from) Fu sc_led_from fun cdv A outer s H E C =>
    (s_cons (s_asg2 C 4 5 (pc_y (y_disp (ps := [((cst (.int 0)), (var 2))]) C (pps_cons e_int (e_var 2) pps_nil))) (pc_l (l_lst (a_cons e_int a_nil))))
    (s_cons (s_whlF C (passes_of rfl) (b_cmp (op_neD C.rm.units) (v_ne C.hK) (o_slot 5) (o_val (e_ofL (l_lst a_nil)))) (s_cons (s_set C 6 (e_pop (o_slot 5)))
    (s_one (s_for (vs := [7, 8]) C (passes_of rfl) (i_zip C z.g_zip (e_var 0) (e_var 1)) (g_tup C.hc C.hK (gs_cons (g_name 7 C.nd) (gs_cons (g_name 8 C.nd) gs_nil))) (s_cons (s_set C 9 (e_ix C.hK (o_slot 8) (o_val (e_ixK C (o_slot 4) (o_slot 6)))))
    (s_one (s_if (b_cmp (op_ninK (by have := C.rm.un; omega)) (v_hasK not) (o_val (e_ix C.hK (o_slot 7) (o_slot 6))) (o_slot 4)) (s_cons (s_setK C (e_var 9) (o_slot 4) (e_ix C.hK (o_slot 7) (o_slot 6)) (hu := (by have := C.rm.un; omega)))
    (s_one (s_expr (e_app (o_slot 5) (e_ix C.hK (o_slot 7) (o_slot 6)))))) (s_one (s_if (b_cmp (op_neD C.rm.units) (v_ne C.hK) (o_val (e_ixK C (o_slot 4) (o_val (e_ix C.hK (o_slot 7) (o_slot 6))))) (o_slot 9)) (s_one (s_ret e_non)) s_nil)))))))))
    (s_cons (s_set C 3 (e_tuple1 C (o_val (e_ofL (l_lcM (N := N_led_from) (own := [("own", 10)]) C rfl (i_r1 C z.g_range (e_len C (o_val (e_ix C.hK (o_slot 0) (o_val e_int))) z.g_len)) rfl rfl (by decide +kernel) (by decide +kernel) (by decide +kernel) (by repeat (first | exact List.forall_mem_nil _ | refine List.forall_mem_cons.mpr ⟨by first | (intro _; exact Or.inl rfl) | (intro _; exact Or.inr rfl) | (intro h; cases h; done), ?_⟩)) (fun s H A cl fp => (g_name 10 C.nd)) (fun s H A cl fp C => ts_nil) (fun s H A cl fp C => (e_ixK C (o_slot 4) (o_slot 10)))))) z.g_tuple))
    (s_one (s_ret (e_if (b_tru C (o_val (e_call C R_is_shuffle_of (a_cons (e_len C (o_slot 3) z.g_len) (a_cons (e_var 3) a_nil)) (by decide)))) (e_var 3) e_non))))))
theorem bi_led_from (kV doc pm : Value) (an : Option Addr) (cdv ct : Value) (us : List Value) (hl : us.length = (["one", "other", "goal"] : List Str).length) : bindArgs (PySem.W.fnOf "led_from" "led_from" (defArgs s_led_from) (defBody s_led_from) (defScope s_led_from) .none kV doc pm an cdv ct) ⟨us, []⟩ = pure ((["one", "other", "goal"] : List Str).zip us) := match us, hl with | [_, _, _], _ => rfl
abbrev s_leadings : Stmt := topS 39
theorem sc_leadings : FnScope N_leadings ["one", "other"] (defScope s_leadings) := ⟨rfl, rfl, rfl, by decide +kernel, rfl, by decide +kernel, by decide +kernel⟩
set_option maxHeartbeats 0 in
theorem ok_leadings {P : Program} {w : World} {K : PySem.W.Frag} {mg : Str → Option Value} {base : Heap} (z : Gz mg) {C_CanNot C_TooMany C_Unfit : Addr} (y : Gx K mg C_CanNot C_TooMany C_Unfit) (R_led_from : FnR ⟨K, mg, w⟩ P w base "led_from" s_led_from 4 ["one", "other", "goal"] F_led_from) {f : Addr} {fd : FuncData} (Fu : L2.Fun K "leadings" "leadings" s_leadings f fd) : FnOk P w K mg base (L2.CX P w) 5 f fd ["one", "other"] (spF ⟨K, mg, w⟩ 2 F_leadings) :=
  fnk (k := 4) (ps := ["one", "other"]) (N := N_leadings) (body := B_leadings) Fu sc_leadings fun cdv A outer s H E C =>
    (s_cons (s_if (b_cmp (op_neD C.rm.units) (v_ne C.hK) (o_val (e_len C (o_val (e_ix C.hK (o_slot 0) (o_val e_int))) z.g_len)) (o_val (e_len C (o_val (e_ix C.hK (o_slot 1) (o_val e_int))) z.g_len))) (s_one (s_ret (e_ofL (l_lst a_nil)))) s_nil)
    (s_cons (s_setLcN (N := N_leadings) (sc := (defScope s_leadings)) (own := [("goal", 3)]) C 2 rfl (i_r1 C z.g_range (e_len C (o_val (e_ix C.hK (o_slot 0) (o_val e_int))) z.g_len)) rfl rfl ⟨rfl, by decide +kernel, by decide +kernel, by decide +kernel, by decide +kernel⟩ (fun s H A cl fp => (g_name 3 C.nd)) (fun s H A cl fp C => ts_nil) (fun s H A cl fp C => (e_call C R_led_from (a_cons (e_var 0) (a_cons (e_var 1) (a_cons (e_var 3) a_nil))) (by decide))))
    (s_one (s_ret (e_ofL (l_lcM (N := N_leadings) (own := [("own", 4)]) C rfl (i_any C (e_var 2)) rfl rfl (by decide +kernel) (by decide +kernel) (by decide +kernel) (by repeat (first | exact List.forall_mem_nil _ | refine List.forall_mem_cons.mpr ⟨by first | (intro _; exact Or.inl rfl) | (intro _; exact Or.inr rfl) | (intro h; cases h; done), ?_⟩)) (fun s H A cl fp => (g_name 4 C.nd)) (fun s H A cl fp C => (ts_one (b_cmp r_isnt v_isnt (o_slot 4) (o_val e_non)))) (fun s H A cl fp C => (e_var 4))))))))
theorem bi_leadings (kV doc pm : Value) (an : Option Addr) (cdv ct : Value) (us : List Value) (hl : us.length = (["one", "other"] : List Str).length) : bindArgs (PySem.W.fnOf "leadings" "leadings" (defArgs s_leadings) (defBody s_leadings) (defScope s_leadings) .none kV doc pm an cdv ct) ⟨us, []⟩ = pure ((["one", "other"] : List Str).zip us) := match us, hl with | [_, _], _ => rfl
abbrev s_map_leading : Stmt := topS 43
theorem sc_map_leading : FnScope N_map_leading ["one", "other"] (defScope s_map_leading) := ⟨rfl, rfl, rfl, by decide +kernel, rfl, by decide +kernel, by decide +kernel⟩
set_option maxHeartbeats 0 in
theorem ok_map_leading {P : Program} {w : World} {K : PySem.W.Frag} {mg : Str → Option Value} {base : Heap} (z : Gz mg) {C_CanNot C_TooMany C_Unfit : Addr} (y : Gx K mg C_CanNot C_TooMany C_Unfit) (R_sure_map : FnR ⟨K, mg, w⟩ P w base "sure_map" s_sure_map 9 ["value"] F_sure_map) (R_leadings : FnR ⟨K, mg, w⟩ P w base "leadings" s_leadings 5 ["one", "other"] F_leadings) {f : Addr} {fd : FuncData} (Fu : L2.Fun K "map_leading" "map_leading" s_map_leading f fd) : FnOk P w K mg base (L2.CX P w) 10 f fd ["one", "other"] (spF ⟨K, mg, w⟩ 2 F_map_leading) :=
  fnk (k := 9) (ps := ["one", "other"]) (N := N_map_leading) (body := B_map_leading) Fu sc_map_leading fun cdv A outer s H E C =>
    (s_cons (s_set C 2 (e_call C R_sure_map (a_cons (e_var 0) a_nil) (by decide)))
    (s_cons (s_set C 3 (e_call C R_leadings (a_cons (e_var 2) (a_cons (e_call C R_sure_map (a_cons (e_var 1) a_nil) (by decide)) a_nil)) (by decide)))
    (s_cons (s_if (b_cmp (op_eqD C.rm.units) (v_eq C.hK) (o_slot 3) (o_val (e_ofL (l_lst a_nil)))) (s_one (s_rai C y.e_CanNot)) s_nil)
    (s_one (s_ret (e_ix C.hK (o_slot 3) (o_val e_int)))))))
theorem bi_map_leading (kV doc pm : Value) (an : Option Addr) (cdv ct : Value) (us : List Value) (hl : us.length = (["one", "other"] : List Str).length) : bindArgs (PySem.W.fnOf "map_leading" "map_leading" (defArgs s_map_leading) (defBody s_map_leading) (defScope s_map_leading) .none kV doc pm an cdv ct) ⟨us, []⟩ = pure ((["one", "other"] : List Str).zip us) := match us, hl with | [_, _], _ => rfl
abbrev s_is_finite_polygon : Stmt := topS 65
theorem sc_is_finite_polygon : FnScope N_is_finite_polygon ["polygon"] (defScope s_is_finite_polygon) := ⟨rfl, rfl, rfl, by decide +kernel, rfl, by decide +kernel, by decide +kernel⟩
set_option maxHeartbeats 0 in
theorem ok_is_finite_polygon {P : Program} {w : World} {K : PySem.W.Frag} {mg : Str → Option Value} {base : Heap} (z : Gz mg) {C_CanNot C_TooMany C_Unfit : Addr} (y : Gx K mg C_CanNot C_TooMany C_Unfit)  {f : Addr} {fd : FuncData} (Fu : L2.Fun K "is_finite_polygon" "is_finite_polygon" s_is_finite_polygon f fd) : FnOk P w K mg base (L2.CX P w) 1 f fd ["polygon"] (spF ⟨K, mg, w⟩ 1 F_is_finite_polygon) :=
  fnk (k := 0) (ps := ["polygon"]) (N := N_is_finite_polygon) (body := B_is_finite_polygon) Fu sc_is_finite_polygon fun cdv A outer s H E C =>
    (s_cons (s_if (PW.pt (w_or (b_cmp (op_neD C.rm.units) (v_ne C.hK) (o_val (e_len C (o_slot 0) z.g_len)) (o_val e_int)) (pw_or1 (b_cmp (r_in (by have := C.rm.un; omega)) (v_in C.hK) (o_val e_int) (o_slot 0))))) (s_one (s_ret e_bl)) s_nil)
    (s_cons (s_asg (vs := [1, 2, 3]) (e_var 0) (g_tup C.hc C.hK (gs_cons (g_name 1 C.nd) (gs_cons (g_name 2 C.nd) (gs_cons (g_name 3 C.nd) gs_nil)))))
    (s_one (s_ret (e_cmp op_gt v_gt (o_val (e_add C.hK (o_val (e_add C.hK (o_val (e_mul C.hK (o_slot 2) (o_slot 3))) (o_val (e_mul C.hK (o_slot 1) (o_slot 3))))) (o_val (e_mul C.hK (o_slot 1) (o_slot 2))))) (o_val (e_mul C.hK (o_val (e_mul C.hK (o_slot 1) (o_slot 2))) (o_slot 3))))))))
theorem bi_is_finite_polygon (kV doc pm : Value) (an : Option Addr) (cdv ct : Value) (us : List Value) (hl : us.length = (["polygon"] : List Str).length) : bindArgs (PySem.W.fnOf "is_finite_polygon" "is_finite_polygon" (defArgs s_is_finite_polygon) (defBody s_is_finite_polygon) (defScope s_is_finite_polygon) .none kV doc pm an cdv ct) ⟨us, []⟩ = pure ((["polygon"] : List Str).zip us) := match us, hl with | [_], _ => rfl
abbrev s_slim : Stmt := topS 56
theorem sc_slim : FnScope N_slim ["row"] (defScope s_slim) := ⟨rfl, rfl, rfl, by decide +kernel, rfl, by decide +kernel, by decide +kernel⟩
set_option maxHeartbeats 0 in
theorem ok_slim {P : Program} {w : World} {K : PySem.W.Frag} {mg : Str → Option Value} {base : Heap} (z : Gz mg) {C_CanNot C_TooMany C_Unfit : Addr} (y : Gx K mg C_CanNot C_TooMany C_Unfit)  {f : Addr} {fd : FuncData} (Fu : L2.Fun K "slim" "slim" s_slim f fd) : FnOk P w K mg base (L2.CX P w) 1 f fd ["row"] (spF ⟨K, mg, w⟩ 1 F_slim) :=
  fnk (k := 0) (ps := ["row"]) (N := N_slim) (body := B_slim) Fu sc_slim fun cdv A outer s H E C =>
    (s_cons (s_set C 1 (e_len C (o_slot 0) z.g_len))
    (s_cons (s_whlF C (passes_of rfl) (PW.pt (w_and (b_cmp op_gt v_gt (o_slot 1) (o_val e_int)) (pw_and1 (b_cmp (op_eqD C.rm.units) (v_eq C.hK) (o_val (e_ix C.hK (o_slot 0) (o_val (e_sub (o_slot 1) (o_val e_int))))) (o_val e_int))))) (s_one (s_set C 1 (e_sub (o_slot 1) (o_val e_int)))))
    (s_one (s_ret (e_tuple1 C (o_val (e_sl C.hK (o_slot 0) p_none (p_some (e_var 1)))) z.g_tuple)))))
theorem bi_slim (kV doc pm : Value) (an : Option Addr) (cdv ct : Value) (us : List Value) (hl : us.length = (["row"] : List Str).length) : bindArgs (PySem.W.fnOf "slim" "slim" (defArgs s_slim) (defBody s_slim) (defScope s_slim) .none kV doc pm an cdv ct) ⟨us, []⟩ = pure ((["row"] : List Str).zip us) := match us, hl with | [_], _ => rfl
abbrev s_poly_sum : Stmt := topS 57
theorem sc_poly_sum : FnScope N_poly_sum ["one", "other"] (defScope s_poly_sum) := ⟨rfl, rfl, rfl, by decide +kernel, rfl, by decide +kernel, by decide +kernel⟩
set_option maxHeartbeats 0 in
theorem ok_poly_sum {P : Program} {w : World} {K : PySem.W.Frag} {mg : Str → Option Value} {base : Heap} (z : Gz mg) {C_CanNot C_TooMany C_Unfit : Addr} (y : Gx K mg C_CanNot C_TooMany C_Unfit) (R_slim : FnR ⟨K, mg, w⟩ P w base "slim" s_slim 1 ["row"] F_slim) {f : Addr} {fd : FuncData} (Fu : L2.Fun K "poly_sum" "poly_sum" s_poly_sum f fd) : FnOk P w K mg base (L2.CX P w) 2 f fd ["one", "other"] (spF ⟨K, mg, w⟩ 2 F_poly_sum) :=
  fnk (k := 1) (ps := ["one", "other"]) (N := N_poly_sum) (body := B_poly_sum) Fu sc_poly_sum fun cdv A outer s H E C =>
    (s_cons (s_set C 2 (e_max2 C (o_val (e_len C (o_slot 0) z.g_len)) (o_val (e_len C (o_slot 1) z.g_len)) z.g_max))
    (s_cons (s_par C 3 4 (pc_v (e_ofL (l_add (o_val (e_ofL (l_list1 C (o_slot 0) z.g_list))) (o_val (e_ofL (l_mul (o_val (e_ofL (l_lst (a_cons e_int a_nil)))) (o_val (e_sub (o_slot 2) (o_val (e_len C (o_slot 0) z.g_len)))))))))) (pc_v (e_ofL (l_add (o_val (e_ofL (l_list1 C (o_slot 1) z.g_list))) (o_val (e_ofL (l_mul (o_val (e_ofL (l_lst (a_cons e_int a_nil)))) (o_val (e_sub (o_slot 2) (o_val (e_len C (o_slot 1) z.g_len)))))))))))
    (s_one (s_ret (e_call C R_slim (a_cons (e_ofL (l_lcM (N := N_poly_sum) (own := [("a", 5), ("b", 6)]) C rfl (i_zip C z.g_zip (e_var 3) (e_var 4)) rfl rfl (by decide +kernel) (by decide +kernel) (by decide +kernel) (by repeat (first | exact List.forall_mem_nil _ | refine List.forall_mem_cons.mpr ⟨by first | (intro _; exact Or.inl rfl) | (intro _; exact Or.inr rfl) | (intro h; cases h; done), ?_⟩)) (fun s H A cl fp => (g_tup C.hc C.hK (gs_cons (g_name 5 C.nd) (gs_cons (g_name 6 C.nd) gs_nil)))) (fun s H A cl fp C => ts_nil) (fun s H A cl fp C => (e_add C.hK (o_slot 5) (o_slot 6))))) a_nil) (by decide))))))
theorem bi_poly_sum (kV doc pm : Value) (an : Option Addr) (cdv ct : Value) (us : List Value) (hl : us.length = (["one", "other"] : List Str).length) : bindArgs (PySem.W.fnOf "poly_sum" "poly_sum" (defArgs s_poly_sum) (defBody s_poly_sum) (defScope s_poly_sum) .none kV doc pm an cdv ct) ⟨us, []⟩ = pure ((["one", "other"] : List Str).zip us) := match us, hl with | [_, _], _ => rfl
abbrev s_common : Stmt := topS 11
theorem sc_common : FnScope N_common ["one", "other"] (defScope s_common) := ⟨rfl, rfl, rfl, by decide +kernel, rfl, by decide +kernel, by decide +kernel⟩
set_option maxHeartbeats 0 in
theorem ok_common {P : Program} {w : World} {K : PySem.W.Frag} {mg : Str → Option Value} {base : Heap} (z : Gz mg) {C_CanNot C_TooMany C_Unfit : Addr} (y : Gx K mg C_CanNot C_TooMany C_Unfit)  {f : Addr} {fd : FuncData} (Fu : L2.Fun K "common" "common" s_common f fd) : FnOk P w K mg base (L2.CX P w) 1 f fd ["one", "other"] (spF ⟨K, mg, w⟩ 2 F_common) :=
  fnk (k := 0) (ps := ["one", "other"]) (N := N_common) (body := B_common) Fu sc_common fun cdv A outer s H E C =>
    (s_cons (s_par C 0 1 (pc_v (e_abs C (o_slot 0) z.g_abs)) (pc_v (e_abs C (o_slot 1) z.g_abs)))
    (s_cons (s_whlF C (passes_of rfl) (b_cmp (op_neD C.rm.units) (v_ne C.hK) (o_slot 1) (o_val e_int)) (s_one (s_par C 0 1 (pc_v (e_var 1)) (pc_v (e_mod (o_slot 0) (o_slot 1))))))
    (s_one (s_ret (e_var 0)))))
theorem bi_common (kV doc pm : Value) (an : Option Addr) (cdv ct : Value) (us : List Value) (hl : us.length = (["one", "other"] : List Str).length) : bindArgs (PySem.W.fnOf "common" "common" (defArgs s_common) (defBody s_common) (defScope s_common) .none kV doc pm an cdv ct) ⟨us, []⟩ = pure ((["one", "other"] : List Str).zip us) := match us, hl with | [_, _], _ => rfl
abbrev s_bare : Stmt := topS 60
theorem sc_bare : FnScope N_bare ["row"] (defScope s_bare) := ⟨rfl, rfl, rfl, by decide +kernel, rfl, by decide +kernel, by decide +kernel⟩
set_option maxHeartbeats 0 in
theorem ok_bare {P : Program} {w : World} {K : PySem.W.Frag} {mg : Str → Option Value} {base : Heap} (z : Gz mg) {C_CanNot C_TooMany C_Unfit : Addr} (y : Gx K mg C_CanNot C_TooMany C_Unfit) (R_common : FnR ⟨K, mg, w⟩ P w base "common" s_common 1 ["one", "other"] F_common) {f : Addr} {fd : FuncData} (Fu : L2.Fun K "bare" "bare" s_bare f fd) : FnOk P w K mg base (L2.CX P w) 2 f fd ["row"] (spF ⟨K, mg, w⟩ 1 F_bare) :=
  fnk (k := 1) (ps := ["row"]) (N := N_bare) (body := B_bare) Fu sc_bare fun cdv A outer s H E C =>
    (s_cons (s_set C 1 e_int)
    (s_cons (s_for (vs := [2]) C (passes_of rfl) (i_any C (e_var 0)) (g_name 2 C.nd) (s_one (s_set C 1 (e_call C R_common (a_cons (e_var 1) (a_cons (e_var 2) a_nil)) (by decide)))))
    (s_cons (s_set C 1 (e_if (b_cmp op_gt v_gt (o_val (e_ix C.hK (o_slot 0) (o_val (e_neg (o_val e_int))))) (o_val e_int)) (e_var 1) (e_neg (o_slot 1))))
    (s_one (s_ret (e_tuple1 C (o_val (e_ofL (l_lcM (N := N_bare) (own := [("own", 2)]) C rfl (i_any C (e_var 0)) rfl rfl (by decide +kernel) (by decide +kernel) (by decide +kernel) (by repeat (first | exact List.forall_mem_nil _ | refine List.forall_mem_cons.mpr ⟨by first | (intro _; exact Or.inl rfl) | (intro _; exact Or.inr rfl) | (intro h; cases h; done), ?_⟩)) (fun s H A cl fp => (g_name 2 C.nd)) (fun s H A cl fp C => ts_nil) (fun s H A cl fp C => (e_div (o_slot 2) (o_slot 1)))))) z.g_tuple))))))
theorem bi_bare (kV doc pm : Value) (an : Option Addr) (cdv ct : Value) (us : List Value) (hl : us.length = (["row"] : List Str).length) : bindArgs (PySem.W.fnOf "bare" "bare" (defArgs s_bare) (defBody s_bare) (defScope s_bare) .none kV doc pm an cdv ct) ⟨us, []⟩ = pure ((["row"] : List Str).zip us) := match us, hl with | [_], _ => rfl
abbrev s_row_left : Stmt := topS 61
theorem sc_row_left : FnScope N_row_left ["one", "other"] (defScope s_row_left) := ⟨rfl, rfl, rfl, by decide +kernel, rfl, by decide +kernel, by decide +kernel⟩
set_option maxHeartbeats 0 in
theorem ok_row_left {P : Program} {w : World} {K : PySem.W.Frag} {mg : Str → Option Value} {base : Heap} (z : Gz mg) {C_CanNot C_TooMany C_Unfit : Addr} (y : Gx K mg C_CanNot C_TooMany C_Unfit) (R_slim : FnR ⟨K, mg, w⟩ P w base "slim" s_slim 1 ["row"] F_slim) (R_bare : FnR ⟨K, mg, w⟩ P w base "bare" s_bare 2 ["row"] F_bare) {f : Addr} {fd : FuncData} (Fu : L2.Fun K "row_left" "row_left" s_row_left f fd) : FnOk P w K mg base (L2.CX P w) 3 f fd ["one", "other"] (spF ⟨K, mg, w⟩ 2 F_row_left) :=
  fnk (k := 2) (ps := ["one", "other"]) (N := N_row_left) (body := B_row_left) Fu sc_row_left fun cdv A outer s H E C =>
    (s_cons (s_setL C 2 (l_list1 C (o_slot 0) z.g_list))
    (s_cons (s_whlF C (passes_of rfl) (b_cmp op_ge v_ge (o_val (e_len C (o_slot 2) z.g_len)) (o_val (e_len C (o_slot 1) z.g_len))) (s_cons (s_par C 3 4 (pc_v (e_ix C.hK (o_slot 2) (o_val (e_neg (o_val e_int))))) (pc_v (e_sub (o_val (e_len C (o_slot 2) z.g_len)) (o_val (e_len C (o_slot 1) z.g_len)))))
    (s_cons (s_setLcN (N := N_row_left) (sc := (defScope s_row_left)) (own := [("own", 6)]) C 2 rfl (i_any C (e_var 2)) rfl rfl ⟨rfl, by decide +kernel, by decide +kernel, by decide +kernel, by decide +kernel⟩ (fun s H A cl fp => (g_name 6 C.nd)) (fun s H A cl fp C => ts_nil) (fun s H A cl fp C => (e_mul C.hK (o_slot 6) (o_val (e_ix C.hK (o_slot 1) (o_val (e_neg (o_val e_int))))))))
    (s_cons (s_for (vs := [5, 6]) C (passes_of rfl) (i_en C z.g_enumerate (e_var 1)) (g_tup C.hc C.hK (gs_cons (g_name 5 C.nd) (gs_cons (g_name 6 C.nd) gs_nil))) (s_one (s_setIx (e_sub (o_val (e_ix C.hK (o_slot 2) (o_val (e_add C.hK (o_slot 4) (o_slot 5))))) (o_val (e_mul C.hK (o_slot 3) (o_slot 6)))) (o_slot 2) (e_add C.hK (o_slot 4) (o_slot 5)))))
    (s_cons (s_setL C 2 (l_list1 C (o_val (e_call C R_slim (a_cons (e_var 2) a_nil) (by decide))) z.g_list))
    (s_one (s_setIf C 2 (b_cmp (op_neD C.rm.units) (v_ne C.hK) (o_slot 2) (o_val (e_ofL (l_lst a_nil)))) (l_list1 C (o_val (e_call C R_bare (a_cons (e_var 2) a_nil) (by decide))) z.g_list))))))))
    (s_one (s_ret (e_tuple1 C (o_slot 2) z.g_tuple)))))
theorem bi_row_left (kV doc pm : Value) (an : Option Addr) (cdv ct : Value) (us : List Value) (hl : us.length = (["one", "other"] : List Str).length) : bindArgs (PySem.W.fnOf "row_left" "row_left" (defArgs s_row_left) (defBody s_row_left) (defScope s_row_left) .none kV doc pm an cdv ct) ⟨us, []⟩ = pure ((["one", "other"] : List Str).zip us) := match us, hl with | [_, _], _ => rfl
abbrev s_row_shared : Stmt := topS 62
theorem sc_row_shared : FnScope N_row_shared ["one", "other"] (defScope s_row_shared) := ⟨rfl, rfl, rfl, by decide +kernel, rfl, by decide +kernel, by decide +kernel⟩
set_option maxHeartbeats 0 in
theorem ok_row_shared {P : Program} {w : World} {K : PySem.W.Frag} {mg : Str → Option Value} {base : Heap} (z : Gz mg) {C_CanNot C_TooMany C_Unfit : Addr} (y : Gx K mg C_CanNot C_TooMany C_Unfit) (R_bare : FnR ⟨K, mg, w⟩ P w base "bare" s_bare 2 ["row"] F_bare) (R_row_left : FnR ⟨K, mg, w⟩ P w base "row_left" s_row_left 3 ["one", "other"] F_row_left) {f : Addr} {fd : FuncData} (Fu : L2.Fun K "row_shared" "row_shared" s_row_shared f fd) : FnOk P w K mg base (L2.CX P w) 4 f fd ["one", "other"] (spF ⟨K, mg, w⟩ 2 F_row_shared) :=
  fnk (k := 3) (ps := ["one", "other"]) (N := N_row_shared) (body := B_row_shared) Fu sc_row_shared fun cdv A outer s H E C =>
    (s_cons (s_par C 2 3 (pc_v (e_call C R_bare (a_cons (e_var 0) a_nil) (by decide))) (pc_v (e_call C R_bare (a_cons (e_var 1) a_nil) (by decide))))
    (s_cons (s_whlF C (passes_of rfl) (b_cmp (op_neD C.rm.units) (v_ne C.hK) (o_slot 3) (o_val (e_tup a_nil))) (s_cons (s_set C 4 (e_call C R_row_left (a_cons (e_var 2) (a_cons (e_var 3) a_nil)) (by decide)))
    (s_one (s_par C 2 3 (pc_v (e_var 3)) (pc_v (e_if (b_cmp (op_neD C.rm.units) (v_ne C.hK) (o_slot 4) (o_val (e_tup a_nil))) (e_call C R_bare (a_cons (e_var 4) a_nil) (by decide)) (e_tup a_nil)))))))
    (s_one (s_ret (e_var 2)))))
theorem bi_row_shared (kV doc pm : Value) (an : Option Addr) (cdv ct : Value) (us : List Value) (hl : us.length = (["one", "other"] : List Str).length) : bindArgs (PySem.W.fnOf "row_shared" "row_shared" (defArgs s_row_shared) (defBody s_row_shared) (defScope s_row_shared) .none kV doc pm an cdv ct) ⟨us, []⟩ = pure ((["one", "other"] : List Str).zip us) := match us, hl with | [_, _], _ => rfl
abbrev s_row_over : Stmt := topS 63
theorem sc_row_over : FnScope N_row_over ["one", "other"] (defScope s_row_over) := ⟨rfl, rfl, rfl, by decide +kernel, rfl, by decide +kernel, by decide +kernel⟩
set_option maxHeartbeats 0 in
theorem ok_row_over {P : Program} {w : World} {K : PySem.W.Frag} {mg : Str → Option Value} {base : Heap} (z : Gz mg) {C_CanNot C_TooMany C_Unfit : Addr} (y : Gx K mg C_CanNot C_TooMany C_Unfit)  {f : Addr} {fd : FuncData} (Fu : L2.Fun K "row_over" "row_over" s_row_over f fd) : FnOk P w K mg base (L2.CX P w) 1 f fd ["one", "other"] (spF ⟨K, mg, w⟩ 2 F_row_over) :=
  fnk (k := 0) (ps := ["one", "other"]) (N := N_row_over) (body := B_row_over) Fu sc_row_over fun cdv A outer s H E C =>
    (s_cons (s_par C 3 4 (pc_l (l_list1 C (o_slot 0) z.g_list)) (pc_l (l_mul (o_val (e_ofL (l_lst (a_cons e_int a_nil)))) (o_val (e_add C.hK (o_val (e_sub (o_val (e_len C (o_slot 0) z.g_len)) (o_val (e_len C (o_slot 1) z.g_len)))) (o_val e_int))))))
    (s_cons (s_for (vs := [2]) C (passes_of rfl) (i_r3 C z.g_range (e_sub (o_val (e_len C (o_slot 4) z.g_len)) (o_val e_int)) (e_neg (o_val e_int)) (e_neg (o_val e_int))) (g_name 2 C.nd) (s_cons (s_setIx (e_div (o_val (e_ix C.hK (o_slot 3) (o_val (e_sub (o_val (e_add C.hK (o_slot 2) (o_val (e_len C (o_slot 1) z.g_len)))) (o_val e_int))))) (o_val (e_ix C.hK (o_slot 1) (o_val (e_neg (o_val e_int)))))) (o_slot 4) (e_var 2))
    (s_one (s_for (vs := [5, 6]) C (passes_of rfl) (i_en C z.g_enumerate (e_var 1)) (g_tup C.hc C.hK (gs_cons (g_name 5 C.nd) (gs_cons (g_name 6 C.nd) gs_nil))) (s_one (s_setIx (e_sub (o_val (e_ix C.hK (o_slot 3) (o_val (e_add C.hK (o_slot 2) (o_slot 5))))) (o_val (e_mul C.hK (o_val (e_ix C.hK (o_slot 4) (o_slot 2))) (o_slot 6)))) (o_slot 3) (e_add C.hK (o_slot 2) (o_slot 5))))))))
    (s_one (s_ret (e_tuple1 C (o_slot 4) z.g_tuple)))))
theorem bi_row_over (kV doc pm : Value) (an : Option Addr) (cdv ct : Value) (us : List Value) (hl : us.length = (["one", "other"] : List Str).length) : bindArgs (PySem.W.fnOf "row_over" "row_over" (defArgs s_row_over) (defBody s_row_over) (defScope s_row_over) .none kV doc pm an cdv ct) ⟨us, []⟩ = pure ((["one", "other"] : List Str).zip us) := match us, hl with | [_, _], _ => rfl
abbrev s_row_by : Stmt := topS 59
theorem sc_row_by : FnScope N_row_by ["row", "number"] (defScope s_row_by) := ⟨rfl, rfl, rfl, by decide +kernel, rfl, by decide +kernel, by decide +kernel⟩
set_option maxHeartbeats 0 in
theorem ok_row_by {P : Program} {w : World} {K : PySem.W.Frag} {mg : Str → Option Value} {base : Heap} (z : Gz mg) {C_CanNot C_TooMany C_Unfit : Addr} (y : Gx K mg C_CanNot C_TooMany C_Unfit) (R_slim : FnR ⟨K, mg, w⟩ P w base "slim" s_slim 1 ["row"] F_slim) {f : Addr} {fd : FuncData} (Fu : L2.Fun K "row_by" "row_by" s_row_by f fd) : FnOk P w K mg base (L2.CX P w) 2 f fd ["row", "number"] (spF ⟨K, mg, w⟩ 2 F_row_by) :=
  fnk (k := 1) (ps := ["row", "number"]) (N := N_row_by) (body := B_row_by) Fu sc_row_by fun cdv A outer s H E C =>
    (s_one (s_ret (e_call C R_slim (a_cons (e_ofL (l_lcM (N := N_row_by) (own := [("own", 2)]) C rfl (i_any C (e_var 0)) rfl rfl (by decide +kernel) (by decide +kernel) (by decide +kernel) (by repeat (first | exact List.forall_mem_nil _ | refine List.forall_mem_cons.mpr ⟨by first | (intro _; exact Or.inl rfl) | (intro _; exact Or.inr rfl) | (intro h; cases h; done), ?_⟩)) (fun s H A cl fp => (g_name 2 C.nd)) (fun s H A cl fp C => ts_nil) (fun s H A cl fp C => (e_mul C.hK (o_slot 2) (o_slot 1))))) a_nil) (by decide))))
theorem bi_row_by (kV doc pm : Value) (an : Option Addr) (cdv ct : Value) (us : List Value) (hl : us.length = (["row", "number"] : List Str).length) : bindArgs (PySem.W.fnOf "row_by" "row_by" (defArgs s_row_by) (defBody s_row_by) (defScope s_row_by) .none kV doc pm an cdv ct) ⟨us, []⟩ = pure ((["row", "number"] : List Str).zip us) := match us, hl with | [_, _], _ => rfl
abbrev s_told_share : Stmt := topS 67
theorem sc_told_share : FnScope N_told_share ["over", "under"] (defScope s_told_share) := ⟨rfl, rfl, rfl, by decide +kernel, rfl, by decide +kernel, by decide +kernel⟩
set_option maxHeartbeats 0 in
theorem ok_told_share {P : Program} {w : World} {K : PySem.W.Frag} {mg : Str → Option Value} {base : Heap} (z : Gz mg) {C_CanNot C_TooMany C_Unfit : Addr} (y : Gx K mg C_CanNot C_TooMany C_Unfit) (R_row_shared : FnR ⟨K, mg, w⟩ P w base "row_shared" s_row_shared 4 ["one", "other"] F_row_shared) (R_row_over : FnR ⟨K, mg, w⟩ P w base "row_over" s_row_over 1 ["one", "other"] F_row_over) (R_row_by : FnR ⟨K, mg, w⟩ P w base "row_by" s_row_by 2 ["row", "number"] F_row_by) {f : Addr} {fd : FuncData} (Fu : L2.Fun K "told_share" "told_share" s_told_share f fd) : FnOk P w K mg base (L2.CX P w) 5 f fd ["over", "under"] (spF ⟨K, mg, w⟩ 2 F_told_share) :=
  fnk (k := 4) (ps := ["over", "under"]) (N := N_told_share) (body := B_told_share) Fu sc_told_share fun cdv A outer s H E C =>
    (s_cons (s_set C 2 (e_call C R_row_shared (a_cons (e_var 0) (a_cons (e_var 1) a_nil)) (by decide)))
    (s_cons (s_par C 3 4 (pc_v (e_call C R_row_over (a_cons (e_var 0) (a_cons (e_var 2) a_nil)) (by decide))) (pc_v (e_call C R_row_over (a_cons (e_var 1) (a_cons (e_var 2) a_nil)) (by decide))))
    (s_one (s_ret (e_tup (a_cons (e_call C R_row_by (a_cons (e_var 3) (a_cons (e_ix C.hK (o_slot 3) (o_val e_int)) a_nil)) (by decide)) (a_cons (e_call C R_row_by (a_cons (e_var 4) (a_cons (e_ix C.hK (o_slot 4) (o_val e_int)) a_nil)) (by decide)) a_nil)))))))
theorem bi_told_share (kV doc pm : Value) (an : Option Addr) (cdv ct : Value) (us : List Value) (hl : us.length = (["over", "under"] : List Str).length) : bindArgs (PySem.W.fnOf "told_share" "told_share" (defArgs s_told_share) (defBody s_told_share) (defScope s_told_share) .none kV doc pm an cdv ct) ⟨us, []⟩ = pure ((["over", "under"] : List Str).zip us) := match us, hl with | [_, _], _ => rfl
abbrev s_degrees_of : Stmt := topS 66
theorem sc_degrees_of : FnScope N_degrees_of ["polygon"] (defScope s_degrees_of) := ⟨rfl, rfl, rfl, by decide +kernel, rfl, by decide +kernel, by decide +kernel⟩
set_option maxHeartbeats 0 in
theorem ok_degrees_of {P : Program} {w : World} {K : PySem.W.Frag} {mg : Str → Option Value} {base : Heap} (z : Gz mg) {C_CanNot C_TooMany C_Unfit : Addr} (y : Gx K mg C_CanNot C_TooMany C_Unfit)  {f : Addr} {fd : FuncData} (Fu : L2.Fun K "degrees_of" "degrees_of" s_degrees_of f fd) : FnOk P w K mg base (L2.CX P w) 1 f fd ["polygon"] (spF ⟨K, mg, w⟩ 1 F_degrees_of) :=
  fnk (k := 0) (ps := ["polygon"]) (N := N_degrees_of) (body := B_degrees_of) Fu sc_degrees_of fun cdv A outer s H E C =>
    (s_cons (s_asg (vs := [1, 2, 3]) (e_ofL (l_sorted C (o_slot 0) z.g_sorted)) (g_lst C.hc C.hK (gs_cons (g_name 1 C.nd) (gs_cons (g_name 2 C.nd) (gs_cons (g_name 3 C.nd) gs_nil)))))
    (s_cons (s_if (b_cmp (op_eqD C.rm.units) (v_eq C.hK) (o_slot 2) (o_val e_int)) (s_one (s_ret (e_tup (a_cons e_int (a_cons e_int (a_cons (e_var 3) a_nil)))))) s_nil)
    (s_one (s_ret (e_if (b_cmp (op_eqD C.rm.units) (v_eq C.hK) (o_slot 3) (o_val e_int)) (e_tup (a_cons e_int (a_cons e_int (a_cons e_int a_nil)))) (e_if (b_cmp (op_eqD C.rm.units) (v_eq C.hK) (o_slot 3) (o_val e_int)) (e_tup (a_cons e_int (a_cons e_int (a_cons e_int a_nil)))) (e_tup (a_cons e_int (a_cons e_int (a_cons e_int a_nil))))))))))
theorem bi_degrees_of (kV doc pm : Value) (an : Option Addr) (cdv ct : Value) (us : List Value) (hl : us.length = (["polygon"] : List Str).length) : bindArgs (PySem.W.fnOf "degrees_of" "degrees_of" (defArgs s_degrees_of) (defBody s_degrees_of) (defScope s_degrees_of) .none kV doc pm an cdv ct) ⟨us, []⟩ = pure ((["polygon"] : List Str).zip us) := match us, hl with | [_], _ => rfl
abbrev s_poly_product : Stmt := topS 58
theorem sc_poly_product : FnScope N_poly_product ["one", "other"] (defScope s_poly_product) := ⟨rfl, rfl, rfl, by decide +kernel, rfl, by decide +kernel, by decide +kernel⟩
set_option maxHeartbeats 0 in
theorem ok_poly_product {P : Program} {w : World} {K : PySem.W.Frag} {mg : Str → Option Value} {base : Heap} (z : Gz mg) {C_CanNot C_TooMany C_Unfit : Addr} (y : Gx K mg C_CanNot C_TooMany C_Unfit) (R_slim : FnR ⟨K, mg, w⟩ P w base "slim" s_slim 1 ["row"] F_slim) {f : Addr} {fd : FuncData} (Fu : L2.Fun K "poly_product" "poly_product" s_poly_product f fd) : FnOk P w K mg base (L2.CX P w) 2 f fd ["one", "other"] (spF ⟨K, mg, w⟩ 2 F_poly_product) :=
  fnk (k := 1) (ps := ["one", "other"]) (N := N_poly_product) (body := B_poly_product) Fu sc_poly_product fun cdv A outer s H E C =>
    (s_cons (s_setL C 2 (l_mul (o_val (e_ofL (l_lst (a_cons e_int a_nil)))) (o_val (e_add C.hK (o_val (e_len C (o_slot 0) z.g_len)) (o_val (e_len C (o_slot 1) z.g_len))))))
    (s_cons (s_for (vs := [3, 4]) C (passes_of rfl) (i_en C z.g_enumerate (e_var 0)) (g_tup C.hc C.hK (gs_cons (g_name 3 C.nd) (gs_cons (g_name 4 C.nd) gs_nil))) (s_one (s_for (vs := [5, 6]) C (passes_of rfl) (i_en C z.g_enumerate (e_var 1)) (g_tup C.hc C.hK (gs_cons (g_name 5 C.nd) (gs_cons (g_name 6 C.nd) gs_nil))) (s_one (s_setIx (e_add C.hK (o_val (e_ix C.hK (o_slot 2) (o_val (e_add C.hK (o_slot 3) (o_slot 5))))) (o_val (e_mul C.hK (o_slot 4) (o_slot 6)))) (o_slot 2) (e_add C.hK (o_slot 3) (o_slot 5)))))))
    (s_one (s_ret (e_call C R_slim (a_cons (e_var 2) a_nil) (by decide))))))
theorem bi_poly_product (kV doc pm : Value) (an : Option Addr) (cdv ct : Value) (us : List Value) (hl : us.length = (["one", "other"] : List Str).length) : bindArgs (PySem.W.fnOf "poly_product" "poly_product" (defArgs s_poly_product) (defBody s_poly_product) (defScope s_poly_product) .none kV doc pm an cdv ct) ⟨us, []⟩ = pure ((["one", "other"] : List Str).zip us) := match us, hl with | [_, _], _ => rfl
abbrev s_steps_row : Stmt := topS 64
theorem sc_steps_row : FnScope N_steps_row ["many"] (defScope s_steps_row) := ⟨rfl, rfl, rfl, by decide +kernel, rfl, by decide +kernel, by decide +kernel⟩
set_option maxHeartbeats 0 in
theorem ok_steps_row {P : Program} {w : World} {K : PySem.W.Frag} {mg : Str → Option Value} {base : Heap} (z : Gz mg) {C_CanNot C_TooMany C_Unfit : Addr} (y : Gx K mg C_CanNot C_TooMany C_Unfit)  {f : Addr} {fd : FuncData} (Fu : L2.Fun K "steps_row" "steps_row" s_steps_row f fd) : FnOk P w K mg base (L2.CX P w) 1 f fd ["many"] (spF ⟨K, mg, w⟩ 1 F_steps_row) :=
  fnk (k := 0) (ps := ["many"]) (N := N_steps_row) (body := B_steps_row) Fu sc_steps_row fun cdv A outer s H E C =>
    (s_one (s_ret (e_mulU C.hK (o_val (e_tup (a_cons e_int a_nil))) (o_slot 0))))
theorem bi_steps_row (kV doc pm : Value) (an : Option Addr) (cdv ct : Value) (us : List Value) (hl : us.length = (["many"] : List Str).length) : bindArgs (PySem.W.fnOf "steps_row" "steps_row" (defArgs s_steps_row) (defBody s_steps_row) (defScope s_steps_row) .none kV doc pm an cdv ct) ⟨us, []⟩ = pure ((["many"] : List Str).zip us) := match us, hl with | [_], _ => rfl
abbrev s_share_of_growth : Stmt := topS 68
theorem sc_share_of_growth : FnScope N_share_of_growth ["polygon"] (defScope s_share_of_growth) := ⟨rfl, rfl, rfl, by decide +kernel, rfl, by decide +kernel, by decide +kernel⟩
set_option maxHeartbeats 0 in
theorem ok_share_of_growth {P : Program} {w : World} {K : PySem.W.Frag} {mg : Str → Option Value} {base : Heap} (z : Gz mg) {C_CanNot C_TooMany C_Unfit : Addr} (y : Gx K mg C_CanNot C_TooMany C_Unfit) (R_is_finite_polygon : FnR ⟨K, mg, w⟩ P w base "is_finite_polygon" s_is_finite_polygon 1 ["polygon"] F_is_finite_polygon) (R_poly_sum : FnR ⟨K, mg, w⟩ P w base "poly_sum" s_poly_sum 2 ["one", "other"] F_poly_sum) (R_told_share : FnR ⟨K, mg, w⟩ P w base "told_share" s_told_share 5 ["over", "under"] F_told_share) (R_degrees_of : FnR ⟨K, mg, w⟩ P w base "degrees_of" s_degrees_of 1 ["polygon"] F_degrees_of) (R_poly_product : FnR ⟨K, mg, w⟩ P w base "poly_product" s_poly_product 2 ["one", "other"] F_poly_product) (R_row_by : FnR ⟨K, mg, w⟩ P w base "row_by" s_row_by 2 ["row", "number"] F_row_by) (R_steps_row : FnR ⟨K, mg, w⟩ P w base "steps_row" s_steps_row 1 ["many"] F_steps_row) (R_row_over : FnR ⟨K, mg, w⟩ P w base "row_over" s_row_over 1 ["one", "other"] F_row_over) {f : Addr} {fd : FuncData} (Fu : L2.Fun K "share_of_growth" "share_of_growth" s_share_of_growth f fd) : FnOk P w K mg base (L2.CX P w) 6 f fd ["polygon"] (spF ⟨K, mg, w⟩ 1 F_share_of_growth) :=
  fnk (k := 5) (ps := ["polygon"]) (N := N_share_of_growth) (body := B_share_of_growth) Fu sc_share_of_growth fun cdv A outer s H E C =>
    (s_cons (s_if (b_tru C (o_val (e_call C R_is_finite_polygon (a_cons (e_var 0) a_nil) (by decide)))) (s_cons (s_set C 5 (e_tup (a_cons e_int a_nil)))
    (s_cons (s_for (vs := [3]) C (passes_of rfl) (i_any C (e_call C R_degrees_of (a_cons (e_var 0) a_nil) (by decide))) (g_name 3 C.nd) (s_one (s_set C 5 (e_call C R_poly_product (a_cons (e_var 5) (a_cons (e_call C R_steps_row (a_cons (e_var 3) a_nil) (by decide)) a_nil)) (by decide)))))
    (s_one (s_ret (e_tup (a_cons (e_var 5) (a_cons (e_tup (a_cons e_int a_nil)) a_nil))))))) s_nil)
    (s_cons (s_setLcN (N := N_share_of_growth) (sc := (defScope s_share_of_growth)) (own := [("own", 3)]) C 1 rfl (i_any C (e_var 0)) rfl rfl ⟨rfl, by decide +kernel, by decide +kernel, by decide +kernel, by decide +kernel⟩ (fun s H A cl fp => (g_name 3 C.nd)) (fun s H A cl fp C => (ts_one (b_cmp op_gt v_gt (o_slot 3) (o_val e_int)))) (fun s H A cl fp C => (e_var 3)))
    (s_cons (s_set C 2 (e_tup (a_cons e_int a_nil)))
    (s_cons (s_for (vs := [3]) C (passes_of rfl) (i_any C (e_ofL (l_sset C (o_slot 1) z.g_sorted z.g_set))) (g_name 3 C.nd) (s_one (s_set C 2 (e_call C R_poly_product (a_cons (e_var 2) (a_cons (e_call C R_steps_row (a_cons (e_var 3) a_nil) (by decide)) a_nil)) (by decide)))))
    (s_cons (s_set C 4 (e_call C R_poly_sum (a_cons (e_call C R_poly_product (a_cons (e_var 2) (a_cons (e_tup (a_cons e_int (a_cons e_int a_nil))) a_nil)) (by decide)) (a_cons (e_call C R_row_by (a_cons (e_call C R_poly_product (a_cons (e_var 2) (a_cons (e_tup (a_cons e_int (a_cons e_int a_nil))) a_nil)) (by decide)) (a_cons (e_neg (o_val (e_len C (o_slot 0) z.g_len))) a_nil)) (by decide)) a_nil)) (by decide)))
    (s_cons (s_for (vs := [3]) C (passes_of rfl) (i_any C (e_var 1)) (g_name 3 C.nd) (s_one (s_set C 4 (e_call C R_poly_sum (a_cons (e_var 4) (a_cons (e_call C R_poly_product (a_cons (e_add C.hK (o_val (e_mulU C.hK (o_val (e_tup (a_cons e_int a_nil))) (o_slot 3))) (o_val (e_tup (a_cons e_int a_nil)))) (a_cons (e_call C R_row_over (a_cons (e_var 2) (a_cons (e_call C R_steps_row (a_cons (e_var 3) a_nil) (by decide)) a_nil)) (by decide)) a_nil)) (by decide)) a_nil)) (by decide)))))
    (s_one (s_ret (e_call C R_told_share (a_cons (e_call C R_poly_product (a_cons (e_var 2) (a_cons (e_tup (a_cons e_int (a_cons e_int a_nil))) a_nil)) (by decide)) (a_cons (e_var 4) a_nil)) (by decide))))))))))
theorem bi_share_of_growth (kV doc pm : Value) (an : Option Addr) (cdv ct : Value) (us : List Value) (hl : us.length = (["polygon"] : List Str).length) : bindArgs (PySem.W.fnOf "share_of_growth" "share_of_growth" (defArgs s_share_of_growth) (defBody s_share_of_growth) (defScope s_share_of_growth) .none kV doc pm an cdv ct) ⟨us, []⟩ = pure ((["polygon"] : List Str).zip us) := match us, hl with | [_], _ => rfl
abbrev s_shared_times : Stmt := topS 51
theorem sc_shared_times : FnScope N_shared_times ["orders"] (defScope s_shared_times) := ⟨rfl, rfl, rfl, by decide +kernel, rfl, by decide +kernel, by decide +kernel⟩
set_option maxHeartbeats 0 in
theorem ok_shared_times {P : Program} {w : World} {K : PySem.W.Frag} {mg : Str → Option Value} {base : Heap} (z : Gz mg) {C_CanNot C_TooMany C_Unfit : Addr} (y : Gx K mg C_CanNot C_TooMany C_Unfit) (R_common : FnR ⟨K, mg, w⟩ P w base "common" s_common 1 ["one", "other"] F_common) {f : Addr} {fd : FuncData} (Fu : L2.Fun K "shared_times" "shared_times" s_shared_times f fd) : FnOk P w K mg base (L2.CX P w) 2 f fd ["orders"] (spF ⟨K, mg, w⟩ 1 F_shared_times) :=
  fnk (k := 1) (ps := ["orders"]) (N := N_shared_times) (body := B_shared_times) Fu sc_shared_times fun cdv A outer s H E C =>
    (s_cons (s_set C 1 e_int)
    (s_cons (s_for (vs := [2]) C (passes_of rfl) (i_any C (e_var 0)) (g_name 2 C.nd) (s_one (s_if (b_cmp op_gt v_gt (o_slot 2) (o_val e_int)) (s_one (s_set C 1 (e_mul C.hK (o_val (e_div (o_slot 1) (o_val (e_call C R_common (a_cons (e_var 1) (a_cons (e_var 2) a_nil)) (by decide))))) (o_slot 2)))) s_nil)))
    (s_one (s_ret (e_var 1)))))
theorem bi_shared_times (kV doc pm : Value) (an : Option Addr) (cdv ct : Value) (us : List Value) (hl : us.length = (["orders"] : List Str).length) : bindArgs (PySem.W.fnOf "shared_times" "shared_times" (defArgs s_shared_times) (defBody s_shared_times) (defScope s_shared_times) .none kV doc pm an cdv ct) ⟨us, []⟩ = pure ((["orders"] : List Str).zip us) := match us, hl with | [_], _ => rfl
abbrev s_is_polygon_in : Stmt := topS 52
theorem sc_is_polygon_in : FnScope N_is_polygon_in ["thing"] (defScope s_is_polygon_in) := ⟨rfl, rfl, rfl, by decide +kernel, rfl, by decide +kernel, by decide +kernel⟩
set_option maxHeartbeats 0 in
theorem ok_is_polygon_in {P : Program} {w : World} {K : PySem.W.Frag} {mg : Str → Option Value} {base : Heap} (z : Gz mg) {C_CanNot C_TooMany C_Unfit : Addr} (y : Gx K mg C_CanNot C_TooMany C_Unfit) (R_are_numbers : FnR ⟨K, mg, w⟩ P w base "are_numbers" s_are_numbers 2 ["thing"] F_are_numbers) (R_shared_times : FnR ⟨K, mg, w⟩ P w base "shared_times" s_shared_times 2 ["orders"] F_shared_times) {f : Addr} {fd : FuncData} (Fu : L2.Fun K "is_polygon_in" "is_polygon_in" s_is_polygon_in f fd) : FnOk P w K mg base (L2.CX P w) 3 f fd ["thing"] (spF ⟨K, mg, w⟩ 1 F_is_polygon_in) :=
  fnk (k := 2) (ps := ["thing"]) (N := N_is_polygon_in) (body := B_is_polygon_in) Fu sc_is_polygon_in fun cdv A outer s H E C =>
    (s_cons (s_if (PW.pt (w_or (b_not (b_tru C (o_val (e_call C R_are_numbers (a_cons (e_var 0) a_nil) (by decide))))) (pw_or1 (b_not (b_chn op_le v_le op_le v_le (o_val e_int) (o_val (e_len C (o_slot 0) z.g_len)) (o_val e_int)))))) (s_one (s_ret e_bl)) s_nil)
    (s_one (s_ret (e_and (e_all C (o_val (e_ofL (l_lcM (N := N_is_polygon_in) (own := [("own", 1)]) C rfl (i_any C (e_var 0)) rfl rfl (by decide +kernel) (by decide +kernel) (by decide +kernel) (by repeat (first | exact List.forall_mem_nil _ | refine List.forall_mem_cons.mpr ⟨by first | (intro _; exact Or.inl rfl) | (intro _; exact Or.inr rfl) | (intro h; cases h; done), ?_⟩)) (fun s H A cl fp => (g_name 1 C.nd)) (fun s H A cl fp C => ts_nil) (fun s H A cl fp C => (e_or (e_cmp (op_eqD C.rm.units) (v_eq C.hK) (o_slot 1) (o_val e_int)) (pe_one (e_chn op_le v_le op_le v_le (o_val e_int) (o_slot 1) (o_val (e_globI C z.c_MOST_ORDER.choose_spec))))))))) z.g_all) (pe_one (e_cmp op_le v_le (o_val (e_call C R_shared_times (a_cons (e_var 0) a_nil) (by decide))) (o_val (e_globI C z.c_MOST_SHARED.choose_spec))))))))
theorem bi_is_polygon_in (kV doc pm : Value) (an : Option Addr) (cdv ct : Value) (us : List Value) (hl : us.length = (["thing"] : List Str).length) : bindArgs (PySem.W.fnOf "is_polygon_in" "is_polygon_in" (defArgs s_is_polygon_in) (defBody s_is_polygon_in) (defScope s_is_polygon_in) .none kV doc pm an cdv ct) ⟨us, []⟩ = pure ((["thing"] : List Str).zip us) := match us, hl with | [_], _ => rfl
abbrev s_sure_polygon : Stmt := topS 53
theorem sc_sure_polygon : FnScope N_sure_polygon ["value"] (defScope s_sure_polygon) := ⟨rfl, rfl, rfl, by decide +kernel, rfl, by decide +kernel, by decide +kernel⟩
set_option maxHeartbeats 0 in
theorem ok_sure_polygon {P : Program} {w : World} {K : PySem.W.Frag} {mg : Str → Option Value} {base : Heap} (z : Gz mg) {C_CanNot C_TooMany C_Unfit : Addr} (y : Gx K mg C_CanNot C_TooMany C_Unfit) (R_tupled : FnR ⟨K, mg, w⟩ P w base "tupled" s_tupled 8 ["value"] (F_tupled 8)) (R_is_polygon_in : FnR ⟨K, mg, w⟩ P w base "is_polygon_in" s_is_polygon_in 3 ["thing"] F_is_polygon_in) {f : Addr} {fd : FuncData} (Fu : L2.Fun K "sure_polygon" "sure_polygon" s_sure_polygon f fd) : FnOk P w K mg base (L2.CX P w) 9 f fd ["value"] (spF ⟨K, mg, w⟩ 1 F_sure_polygon) :=
  fnk (k := 8) (ps := ["value"]) (N := N_sure_polygon) (body := B_sure_polygon) Fu sc_sure_polygon fun cdv A outer s H E C =>
    (s_cons (s_set C 1 (e_call C R_tupled (a_cons (e_var 0) a_nil) (by decide)))
    (s_cons (s_if (b_not (b_tru C (o_val (e_call C R_is_polygon_in (a_cons (e_var 1) a_nil) (by decide))))) (s_one (s_rai C y.e_Unfit)) s_nil)
    (s_one (s_ret (e_var 1)))))
theorem bi_sure_polygon (kV doc pm : Value) (an : Option Addr) (cdv ct : Value) (us : List Value) (hl : us.length = (["value"] : List Str).length) : bindArgs (PySem.W.fnOf "sure_polygon" "sure_polygon" (defArgs s_sure_polygon) (defBody s_sure_polygon) (defScope s_sure_polygon) .none kV doc pm an cdv ct) ⟨us, []⟩ = pure ((["value"] : List Str).zip us) := match us, hl with | [_], _ => rfl
abbrev s_growth_share : Stmt := topS 69
theorem sc_growth_share : FnScope N_growth_share ["polygon"] (defScope s_growth_share) := ⟨rfl, rfl, rfl, by decide +kernel, rfl, by decide +kernel, by decide +kernel⟩
set_option maxHeartbeats 0 in
theorem ok_growth_share {P : Program} {w : World} {K : PySem.W.Frag} {mg : Str → Option Value} {base : Heap} (z : Gz mg) {C_CanNot C_TooMany C_Unfit : Addr} (y : Gx K mg C_CanNot C_TooMany C_Unfit) (R_share_of_growth : FnR ⟨K, mg, w⟩ P w base "share_of_growth" s_share_of_growth 6 ["polygon"] F_share_of_growth) (R_sure_polygon : FnR ⟨K, mg, w⟩ P w base "sure_polygon" s_sure_polygon 9 ["value"] F_sure_polygon) {f : Addr} {fd : FuncData} (Fu : L2.Fun K "growth_share" "growth_share" s_growth_share f fd) : FnOk P w K mg base (L2.CX P w) 10 f fd ["polygon"] (spF ⟨K, mg, w⟩ 1 F_growth_share) :=
  fnk (k := 9) (ps := ["polygon"]) (N := N_growth_share) (body := B_growth_share) Fu sc_growth_share fun cdv A outer s H E C =>
    (s_one (s_ret (e_call C R_share_of_growth (a_cons (e_call C R_sure_polygon (a_cons (e_var 0) a_nil) (by decide)) a_nil) (by decide))))
theorem bi_growth_share (kV doc pm : Value) (an : Option Addr) (cdv ct : Value) (us : List Value) (hl : us.length = (["polygon"] : List Str).length) : bindArgs (PySem.W.fnOf "growth_share" "growth_share" (defArgs s_growth_share) (defBody s_growth_share) (defScope s_growth_share) .none kV doc pm an cdv ct) ⟨us, []⟩ = pure ((["polygon"] : List Str).zip us) := match us, hl with | [_], _ => rfl
abbrev s_polygon_size : Stmt := topS 73
theorem sc_polygon_size : FnScope N_polygon_size ["polygon"] (defScope s_polygon_size) := ⟨rfl, rfl, rfl, by decide +kernel, rfl, by decide +kernel, by decide +kernel⟩
set_option maxHeartbeats 0 in
theorem ok_polygon_size {P : Program} {w : World} {K : PySem.W.Frag} {mg : Str → Option Value} {base : Heap} (z : Gz mg) {C_CanNot C_TooMany C_Unfit : Addr} (y : Gx K mg C_CanNot C_TooMany C_Unfit) (R_sure_polygon : FnR ⟨K, mg, w⟩ P w base "sure_polygon" s_sure_polygon 9 ["value"] F_sure_polygon) (R_is_finite_polygon : FnR ⟨K, mg, w⟩ P w base "is_finite_polygon" s_is_finite_polygon 1 ["polygon"] F_is_finite_polygon) (R_share_of_growth : FnR ⟨K, mg, w⟩ P w base "share_of_growth" s_share_of_growth 6 ["polygon"] F_share_of_growth) {f : Addr} {fd : FuncData} (Fu : L2.Fun K "polygon_size" "polygon_size" s_polygon_size f fd) : FnOk P w K mg base (L2.CX P w) 10 f fd ["polygon"] (spF ⟨K, mg, w⟩ 1 F_polygon_size) :=
  fnk (k := 9) (ps := ["polygon"]) (N := N_polygon_size) (body := B_polygon_size) Fu sc_polygon_size fun cdv A outer s H E C =>
    (s_cons (s_set C 1 (e_call C R_sure_polygon (a_cons (e_var 0) a_nil) (by decide)))
    (s_cons (s_if (b_not (b_tru C (o_val (e_call C R_is_finite_polygon (a_cons (e_var 1) a_nil) (by decide))))) (s_one (s_ret e_non)) s_nil)
    (s_one (s_ret (e_sumU C (o_val (e_ix C.hK (o_val (e_call C R_share_of_growth (a_cons (e_var 1) a_nil) (by decide))) (o_val e_int))) z.g_sum)))))
theorem bi_polygon_size (kV doc pm : Value) (an : Option Addr) (cdv ct : Value) (us : List Value) (hl : us.length = (["polygon"] : List Str).length) : bindArgs (PySem.W.fnOf "polygon_size" "polygon_size" (defArgs s_polygon_size) (defBody s_polygon_size) (defScope s_polygon_size) .none kV doc pm an cdv ct) ⟨us, []⟩ = pure ((["polygon"] : List Str).zip us) := match us, hl with | [_], _ => rfl
abbrev s_worth_at_one : Stmt := topS 74
theorem sc_worth_at_one : FnScope N_worth_at_one ["polygon"] (defScope s_worth_at_one) := ⟨rfl, rfl, rfl, by decide +kernel, rfl, by decide +kernel, by decide +kernel⟩
set_option maxHeartbeats 0 in
theorem ok_worth_at_one {P : Program} {w : World} {K : PySem.W.Frag} {mg : Str → Option Value} {base : Heap} (z : Gz mg) {C_CanNot C_TooMany C_Unfit : Addr} (y : Gx K mg C_CanNot C_TooMany C_Unfit) (R_share_of_growth : FnR ⟨K, mg, w⟩ P w base "share_of_growth" s_share_of_growth 6 ["polygon"] F_share_of_growth) (R_common : FnR ⟨K, mg, w⟩ P w base "common" s_common 1 ["one", "other"] F_common) (R_sure_polygon : FnR ⟨K, mg, w⟩ P w base "sure_polygon" s_sure_polygon 9 ["value"] F_sure_polygon) {f : Addr} {fd : FuncData} (Fu : L2.Fun K "worth_at_one" "worth_at_one" s_worth_at_one f fd) : FnOk P w K mg base (L2.CX P w) 10 f fd ["polygon"] (spF ⟨K, mg, w⟩ 1 F_worth_at_one) :=
  fnk (k := 9) (ps := ["polygon"]) (N := N_worth_at_one) (body := B_worth_at_one) Fu sc_worth_at_one fun cdv A outer s H E C =>
    (s_cons (s_asg (vs := [2, 3]) (e_call C R_share_of_growth (a_cons (e_call C R_sure_polygon (a_cons (e_var 0) a_nil) (by decide)) a_nil) (by decide)) (g_tup C.hc C.hK (gs_cons (g_name 2 C.nd) (gs_cons (g_name 3 C.nd) gs_nil))))
    (s_cons (s_par C 4 5 (pc_v (e_sumU C (o_slot 2) z.g_sum)) (pc_v (e_sumU C (o_slot 3) z.g_sum)))
    (s_cons (s_set C 1 (e_call C R_common (a_cons (e_var 4) (a_cons (e_var 5) a_nil)) (by decide)))
    (s_one (s_ret (e_if (b_cmp op_gt v_gt (o_slot 4) (o_val e_int)) (e_tup (a_cons (e_div (o_slot 5) (o_slot 1)) (a_cons (e_div (o_slot 4) (o_slot 1)) a_nil))) (e_tup (a_cons (e_div (o_val (e_neg (o_slot 5))) (o_slot 1)) (a_cons (e_div (o_val (e_neg (o_slot 4))) (o_slot 1)) a_nil)))))))))
theorem bi_worth_at_one (kV doc pm : Value) (an : Option Addr) (cdv ct : Value) (us : List Value) (hl : us.length = (["polygon"] : List Str).length) : bindArgs (PySem.W.fnOf "worth_at_one" "worth_at_one" (defArgs s_worth_at_one) (defBody s_worth_at_one) (defScope s_worth_at_one) .none kV doc pm an cdv ct) ⟨us, []⟩ = pure ((["polygon"] : List Str).zip us) := match us, hl with | [_], _ => rfl
abbrev s_mirror_corners : Stmt := topS 75
theorem sc_mirror_corners : FnScope N_mirror_corners ["polygon"] (defScope s_mirror_corners) := ⟨rfl, rfl, rfl, by decide +kernel, rfl, by decide +kernel, by decide +kernel⟩
set_option maxHeartbeats 0 in
theorem ok_mirror_corners {P : Program} {w : World} {K : PySem.W.Frag} {mg : Str → Option Value} {base : Heap} (z : Gz mg) {C_CanNot C_TooMany C_Unfit : Addr} (y : Gx K mg C_CanNot C_TooMany C_Unfit) (R_sure_polygon : FnR ⟨K, mg, w⟩ P w base "sure_polygon" s_sure_polygon 9 ["value"] F_sure_polygon) {f : Addr} {fd : FuncData} (Fu : L2.Fun K "mirror_corners" "mirror_corners" s_mirror_corners f fd) : FnOk P w K mg base (L2.CX P w) 10 f fd ["polygon"] (spF ⟨K, mg, w⟩ 1 F_mirror_corners) :=
  fnk (k := 9) (ps := ["polygon"]) (N := N_mirror_corners) (body := B_mirror_corners) Fu sc_mirror_corners fun cdv A outer s H E C =>
    (s_cons (s_set C 1 (e_call C R_sure_polygon (a_cons (e_var 0) a_nil) (by decide)))
    (s_cons (s_set C 2 (e_len C (o_slot 1) z.g_len))
    (s_cons (s_setL C 3 (l_add (o_val (e_ofL (l_lst (a_cons (e_tup a_nil) a_nil)))) (o_val (e_ofL (l_lcM (N := N_mirror_corners) (own := [("place", 4)]) C rfl (i_r2 C z.g_range e_int (e_add C.hK (o_slot 2) (o_val e_int))) rfl rfl (by decide +kernel) (by decide +kernel) (by decide +kernel) (by repeat (first | exact List.forall_mem_nil _ | refine List.forall_mem_cons.mpr ⟨by first | (intro _; exact Or.inl rfl) | (intro _; exact Or.inr rfl) | (intro h; cases h; done), ?_⟩)) (fun s H A cl fp => (g_name 4 C.nd)) (fun s H A cl fp C => ts_nil) (fun s H A cl fp C => (e_tup (a_cons (e_var 4) a_nil))))))))
    (s_cons (s_for (vs := [4, 5]) C (passes_of rfl) (i_en C z.g_enumerate (e_var 1)) (g_tup C.hc C.hK (gs_cons (g_name 4 C.nd) (gs_cons (g_name 5 C.nd) gs_nil))) (s_one (s_if (b_cmp op_gt v_gt (o_slot 5) (o_val e_int)) (s_one (s_expr (e_app (o_slot 3) (e_tuple1 C (o_val (e_ofL (l_sorted C (o_val (e_ofL (l_lst (a_cons (e_add C.hK (o_slot 4) (o_val e_int)) (a_cons (e_add C.hK (o_val (e_mod (o_val (e_add C.hK (o_slot 4) (o_val e_int))) (o_slot 2))) (o_val e_int)) a_nil))))) z.g_sorted))) z.g_tuple)))) s_nil)))
    (s_one (s_ret (e_ofL (l_srtE C (o_slot 3) z.g_sorted))))))))
theorem bi_mirror_corners (kV doc pm : Value) (an : Option Addr) (cdv ct : Value) (us : List Value) (hl : us.length = (["polygon"] : List Str).length) : bindArgs (PySem.W.fnOf "mirror_corners" "mirror_corners" (defArgs s_mirror_corners) (defBody s_mirror_corners) (defScope s_mirror_corners) .none kV doc pm an cdv ct) ⟨us, []⟩ = pure ((["polygon"] : List Str).zip us) := match us, hl with | [_], _ => rfl
abbrev s_series_of : Stmt := topS 70
theorem sc_series_of : FnScope N_series_of ["over", "under", "many"] (defScope s_series_of) := ⟨rfl, rfl, rfl, by decide +kernel, rfl, by decide +kernel, by decide +kernel⟩
set_option maxHeartbeats 0 in
theorem ok_series_of {P : Program} {w : World} {K : PySem.W.Frag} {mg : Str → Option Value} {base : Heap} (z : Gz mg) {C_CanNot C_TooMany C_Unfit : Addr} (y : Gx K mg C_CanNot C_TooMany C_Unfit)  {f : Addr} {fd : FuncData} (Fu : L2.Fun K "series_of" "series_of" s_series_of f fd) : FnOk P w K mg base (L2.CX P w) 1 f fd ["over", "under", "many"] (spF ⟨K, mg, w⟩ 3 F_series_of) :=
  fnk (k := 0) (ps := ["over", "under", "many"]) (N := N_series_of) (body := B_series_of) Fu sc_series_of fun cdv A outer s H E C =>
    (s_cons (s_setL C 3 (l_lst a_nil))
    (s_cons (s_for (vs := [4]) C (passes_of rfl) (i_r1 C z.g_range (e_add C.hK (o_slot 2) (o_val e_int))) (g_name 4 C.nd) (s_cons (s_set C 5 (e_if (b_cmp op_lt v_lt (o_slot 4) (o_val (e_len C (o_slot 0) z.g_len))) (e_ix C.hK (o_slot 0) (o_slot 4)) e_int))
    (s_cons (s_for (vs := [6]) C (passes_of rfl) (i_r2 C z.g_range e_int (e_add C.hK (o_val (e_min2 C (o_slot 4) (o_val (e_sub (o_val (e_len C (o_slot 1) z.g_len)) (o_val e_int))) z.g_min)) (o_val e_int))) (g_name 6 C.nd) (s_one (s_set C 5 (e_sub (o_slot 5) (o_val (e_mul C.hK (o_val (e_ix C.hK (o_slot 1) (o_slot 6))) (o_val (e_ix C.hK (o_slot 3) (o_val (e_sub (o_slot 4) (o_slot 6)))))))))))
    (s_one (s_expr (e_app (o_slot 3) (e_var 5)))))))
    (s_one (s_ret (e_tuple1 C (o_slot 3) z.g_tuple)))))
theorem bi_series_of (kV doc pm : Value) (an : Option Addr) (cdv ct : Value) (us : List Value) (hl : us.length = (["over", "under", "many"] : List Str).length) : bindArgs (PySem.W.fnOf "series_of" "series_of" (defArgs s_series_of) (defBody s_series_of) (defScope s_series_of) .none kV doc pm an cdv ct) ⟨us, []⟩ = pure ((["over", "under", "many"] : List Str).zip us) := match us, hl with | [_, _, _], _ => rfl
abbrev s_is_within : Stmt := topS 6
theorem sc_is_within : FnScope N_is_within ["thing", "least", "most"] (defScope s_is_within) := ⟨rfl, rfl, rfl, by decide +kernel, rfl, by decide +kernel, by decide +kernel⟩
set_option maxHeartbeats 0 in
theorem ok_is_within {P : Program} {w : World} {K : PySem.W.Frag} {mg : Str → Option Value} {base : Heap} (z : Gz mg) {C_CanNot C_TooMany C_Unfit : Addr} (y : Gx K mg C_CanNot C_TooMany C_Unfit) (R_is_number : FnR ⟨K, mg, w⟩ P w base "is_number" s_is_number 1 ["thing"] F_is_number) {f : Addr} {fd : FuncData} (Fu : L2.Fun K "is_within" "is_within" s_is_within f fd) : FnOk P w K mg base (L2.CX P w) 2 f fd ["thing", "least", "most"] (spF ⟨K, mg, w⟩ 3 F_is_within) :=
  fnk (k := 1) (ps := ["thing", "least", "most"]) (N := N_is_within) (body := B_is_within) Fu sc_is_within fun cdv A outer s H E C =>
    (s_one (s_ret (e_and (e_call C R_is_number (a_cons (e_var 0) a_nil) (by decide)) (pe_one (e_chn op_le v_le op_le v_le (o_slot 1) (o_slot 0) (o_slot 2))))))
theorem bi_is_within (kV doc pm : Value) (an : Option Addr) (cdv ct : Value) (us : List Value) (hl : us.length = (["thing", "least", "most"] : List Str).length) : bindArgs (PySem.W.fnOf "is_within" "is_within" (defArgs s_is_within) (defBody s_is_within) (defScope s_is_within) .none kV doc pm an cdv ct) ⟨us, []⟩ = pure ((["thing", "least", "most"] : List Str).zip us) := match us, hl with | [_, _, _], _ => rfl
abbrev s_sure_within : Stmt := topS 10
theorem sc_sure_within : FnScope N_sure_within ["thing", "least", "most"] (defScope s_sure_within) := ⟨rfl, rfl, rfl, by decide +kernel, rfl, by decide +kernel, by decide +kernel⟩
set_option maxHeartbeats 0 in
theorem ok_sure_within {P : Program} {w : World} {K : PySem.W.Frag} {mg : Str → Option Value} {base : Heap} (z : Gz mg) {C_CanNot C_TooMany C_Unfit : Addr} (y : Gx K mg C_CanNot C_TooMany C_Unfit) (R_is_within : FnR ⟨K, mg, w⟩ P w base "is_within" s_is_within 2 ["thing", "least", "most"] F_is_within) {f : Addr} {fd : FuncData} (Fu : L2.Fun K "sure_within" "sure_within" s_sure_within f fd) : FnOk P w K mg base (L2.CX P w) 3 f fd ["thing", "least", "most"] (spF ⟨K, mg, w⟩ 3 F_sure_within) :=
  fnk (k := 2) (ps := ["thing", "least", "most"]) (N := N_sure_within) (body := B_sure_within) Fu sc_sure_within fun cdv A outer s H E C =>
    (s_cons (s_if (b_not (b_tru C (o_val (e_call C R_is_within (a_cons (e_var 0) (a_cons (e_var 1) (a_cons (e_var 2) a_nil))) (by decide))))) (s_one (s_rai C y.e_Unfit)) s_nil)
    (s_one (s_ret (e_var 0))))
theorem bi_sure_within (kV doc pm : Value) (an : Option Addr) (cdv ct : Value) (us : List Value) (hl : us.length = (["thing", "least", "most"] : List Str).length) : bindArgs (PySem.W.fnOf "sure_within" "sure_within" (defArgs s_sure_within) (defBody s_sure_within) (defScope s_sure_within) .none kV doc pm an cdv ct) ⟨us, []⟩ = pure ((["thing", "least", "most"] : List Str).zip us) := match us, hl with | [_, _, _], _ => rfl
abbrev s_growth_numbers : Stmt := topS 71
theorem sc_growth_numbers : FnScope N_growth_numbers ["polygon", "many"] (defScope s_growth_numbers) := ⟨rfl, rfl, rfl, by decide +kernel, rfl, by decide +kernel, by decide +kernel⟩
set_option maxHeartbeats 0 in
theorem ok_growth_numbers {P : Program} {w : World} {K : PySem.W.Frag} {mg : Str → Option Value} {base : Heap} (z : Gz mg) {C_CanNot C_TooMany C_Unfit : Addr} (y : Gx K mg C_CanNot C_TooMany C_Unfit) (R_share_of_growth : FnR ⟨K, mg, w⟩ P w base "share_of_growth" s_share_of_growth 6 ["polygon"] F_share_of_growth) (R_series_of : FnR ⟨K, mg, w⟩ P w base "series_of" s_series_of 1 ["over", "under", "many"] F_series_of) (R_sure_polygon : FnR ⟨K, mg, w⟩ P w base "sure_polygon" s_sure_polygon 9 ["value"] F_sure_polygon) (R_sure_within : FnR ⟨K, mg, w⟩ P w base "sure_within" s_sure_within 3 ["thing", "least", "most"] F_sure_within) {f : Addr} {fd : FuncData} (Fu : L2.Fun K "growth_numbers" "growth_numbers" s_growth_numbers f fd) : FnOk P w K mg base (L2.CX P w) 10 f fd ["polygon", "many"] (spF ⟨K, mg, w⟩ 2 F_growth_numbers) :=
  fnk (k := 9) (ps := ["polygon", "many"]) (N := N_growth_numbers) (body := B_growth_numbers) Fu sc_growth_numbers fun cdv A outer s H E C =>
    (s_cons (s_asg (vs := [2, 3]) (e_call C R_share_of_growth (a_cons (e_call C R_sure_polygon (a_cons (e_var 0) a_nil) (by decide)) a_nil) (by decide)) (g_tup C.hc C.hK (gs_cons (g_name 2 C.nd) (gs_cons (g_name 3 C.nd) gs_nil))))
    (s_one (s_ret (e_call C R_series_of (a_cons (e_var 2) (a_cons (e_var 3) (a_cons (e_call C R_sure_within (a_cons (e_var 1) (a_cons e_int (a_cons (e_globI C z.c_MOST_LONG.choose_spec) a_nil))) (by decide)) a_nil))) (by decide)))))
theorem bi_growth_numbers (kV doc pm : Value) (an : Option Addr) (cdv ct : Value) (us : List Value) (hl : us.length = (["polygon", "many"] : List Str).length) : bindArgs (PySem.W.fnOf "growth_numbers" "growth_numbers" (defArgs s_growth_numbers) (defBody s_growth_numbers) (defScope s_growth_numbers) .none kV doc pm an cdv ct) ⟨us, []⟩ = pure ((["polygon", "many"] : List Str).zip us) := match us, hl with | [_, _], _ => rfl
abbrev s_spots_growth_numbers : Stmt := topS 72
theorem sc_spots_growth_numbers : FnScope N_spots_growth_numbers ["polygon", "many"] (defScope s_spots_growth_numbers) := ⟨rfl, rfl, rfl, by decide +kernel, rfl, by decide +kernel, by decide +kernel⟩
set_option maxHeartbeats 0 in
theorem ok_spots_growth_numbers {P : Program} {w : World} {K : PySem.W.Frag} {mg : Str → Option Value} {base : Heap} (z : Gz mg) {C_CanNot C_TooMany C_Unfit : Addr} (y : Gx K mg C_CanNot C_TooMany C_Unfit) (R_share_of_growth : FnR ⟨K, mg, w⟩ P w base "share_of_growth" s_share_of_growth 6 ["polygon"] F_share_of_growth) (R_sure_polygon : FnR ⟨K, mg, w⟩ P w base "sure_polygon" s_sure_polygon 9 ["value"] F_sure_polygon) (R_series_of : FnR ⟨K, mg, w⟩ P w base "series_of" s_series_of 1 ["over", "under", "many"] F_series_of) (R_sure_within : FnR ⟨K, mg, w⟩ P w base "sure_within" s_sure_within 3 ["thing", "least", "most"] F_sure_within) {f : Addr} {fd : FuncData} (Fu : L2.Fun K "spots_growth_numbers" "spots_growth_numbers" s_spots_growth_numbers f fd) : FnOk P w K mg base (L2.CX P w) 10 f fd ["polygon", "many"] (spF ⟨K, mg, w⟩ 2 F_spots_growth_numbers) :=
  fnk (k := 9) (ps := ["polygon", "many"]) (N := N_spots_growth_numbers) (body := B_spots_growth_numbers) Fu sc_spots_growth_numbers fun cdv A outer s H E C =>
    (s_cons (s_asg (vs := [2, 3]) (e_call C R_share_of_growth (a_cons (e_call C R_sure_polygon (a_cons (e_var 0) a_nil) (by decide)) a_nil) (by decide)) (g_tup C.hc C.hK (gs_cons (g_name 2 C.nd) (gs_cons (g_name 3 C.nd) gs_nil))))
    (s_one (s_ret (e_slS C.hK (o_val (e_call C R_series_of (a_cons (e_var 2) (a_cons (e_var 3) (a_cons (e_mul C.hK (o_val e_int) (o_val (e_call C R_sure_within (a_cons (e_var 1) (a_cons e_int (a_cons (e_div (o_val (e_globI C z.c_MOST_LONG.choose_spec)) (o_val e_int)) a_nil))) (by decide)))) a_nil))) (by decide))) p_none p_none (p_some e_int)))))
theorem bi_spots_growth_numbers (kV doc pm : Value) (an : Option Addr) (cdv ct : Value) (us : List Value) (hl : us.length = (["polygon", "many"] : List Str).length) : bindArgs (PySem.W.fnOf "spots_growth_numbers" "spots_growth_numbers" (defArgs s_spots_growth_numbers) (defBody s_spots_growth_numbers) (defScope s_spots_growth_numbers) .none kV doc pm an cdv ct) ⟨us, []⟩ = pure ((["polygon", "many"] : List Str).zip us) := match us, hl with | [_, _], _ => rfl
abbrev s_map_points : Stmt := topS 30
theorem sc_map_points : FnScope N_map_points ["map_of"] (defScope s_map_points) := ⟨rfl, rfl, rfl, by decide +kernel, rfl, by decide +kernel, by decide +kernel⟩
set_option maxHeartbeats 0 in
theorem ok_map_points {P : Program} {w : World} {K : PySem.W.Frag} {mg : Str → Option Value} {base : Heap} (z : Gz mg) {C_CanNot C_TooMany C_Unfit : Addr} (y : Gx K mg C_CanNot C_TooMany C_Unfit) (R_rounds_of : FnR ⟨K, mg, w⟩ P w base "rounds_of" s_rounds_of 1 ["shuffle"] F_rounds_of) (R_sure_map : FnR ⟨K, mg, w⟩ P w base "sure_map" s_sure_map 9 ["value"] F_sure_map) {f : Addr} {fd : FuncData} (Fu : L2.Fun K "map_points" "map_points" s_map_points f fd) : FnOk P w K mg base (L2.CX P w) 10 f fd ["map_of"] (spF ⟨K, mg, w⟩ 1 F_map_points) :=
  fnk (k := 9) (ps := ["map_of"]) (N := N_map_points) (body := B_map_points) Fu sc_map_points fun cdv A outer s H E C =>
    (s_one (s_ret (e_call C R_rounds_of (a_cons (e_ix C.hK (o_val (e_call C R_sure_map (a_cons (e_var 0) a_nil) (by decide))) (o_val e_int)) a_nil) (by decide))))
theorem bi_map_points (kV doc pm : Value) (an : Option Addr) (cdv ct : Value) (us : List Value) (hl : us.length = (["map_of"] : List Str).length) : bindArgs (PySem.W.fnOf "map_points" "map_points" (defArgs s_map_points) (defBody s_map_points) (defScope s_map_points) .none kV doc pm an cdv ct) ⟨us, []⟩ = pure ((["map_of"] : List Str).zip us) := match us, hl with | [_], _ => rfl
abbrev s_map_faces : Stmt := topS 32
theorem sc_map_faces : FnScope N_map_faces ["map_of"] (defScope s_map_faces) := ⟨rfl, rfl, rfl, by decide +kernel, rfl, by decide +kernel, by decide +kernel⟩
set_option maxHeartbeats 0 in
theorem ok_map_faces {P : Program} {w : World} {K : PySem.W.Frag} {mg : Str → Option Value} {base : Heap} (z : Gz mg) {C_CanNot C_TooMany C_Unfit : Addr} (y : Gx K mg C_CanNot C_TooMany C_Unfit) (R_rounds_of : FnR ⟨K, mg, w⟩ P w base "rounds_of" s_rounds_of 1 ["shuffle"] F_rounds_of) (R_faced : FnR ⟨K, mg, w⟩ P w base "faced" s_faced 2 ["own"] F_faced) (R_sure_map : FnR ⟨K, mg, w⟩ P w base "sure_map" s_sure_map 9 ["value"] F_sure_map) {f : Addr} {fd : FuncData} (Fu : L2.Fun K "map_faces" "map_faces" s_map_faces f fd) : FnOk P w K mg base (L2.CX P w) 10 f fd ["map_of"] (spF ⟨K, mg, w⟩ 1 F_map_faces) :=
  fnk (k := 9) (ps := ["map_of"]) (N := N_map_faces) (body := B_map_faces) Fu sc_map_faces fun cdv A outer s H E C =>
    (s_one (s_ret (e_call C R_rounds_of (a_cons (e_call C R_faced (a_cons (e_call C R_sure_map (a_cons (e_var 0) a_nil) (by decide)) a_nil) (by decide)) a_nil) (by decide))))
theorem bi_map_faces (kV doc pm : Value) (an : Option Addr) (cdv ct : Value) (us : List Value) (hl : us.length = (["map_of"] : List Str).length) : bindArgs (PySem.W.fnOf "map_faces" "map_faces" (defArgs s_map_faces) (defBody s_map_faces) (defScope s_map_faces) .none kV doc pm an cdv ct) ⟨us, []⟩ = pure ((["map_of"] : List Str).zip us) := match us, hl with | [_], _ => rfl
abbrev s_map_turns : Stmt := topS 40
theorem sc_map_turns : FnScope N_map_turns ["map_of"] (defScope s_map_turns) := ⟨rfl, rfl, rfl, by decide +kernel, rfl, by decide +kernel, by decide +kernel⟩
set_option maxHeartbeats 0 in
theorem ok_map_turns {P : Program} {w : World} {K : PySem.W.Frag} {mg : Str → Option Value} {base : Heap} (z : Gz mg) {C_CanNot C_TooMany C_Unfit : Addr} (y : Gx K mg C_CanNot C_TooMany C_Unfit) (R_sure_map : FnR ⟨K, mg, w⟩ P w base "sure_map" s_sure_map 9 ["value"] F_sure_map) (R_leadings : FnR ⟨K, mg, w⟩ P w base "leadings" s_leadings 5 ["one", "other"] F_leadings) {f : Addr} {fd : FuncData} (Fu : L2.Fun K "map_turns" "map_turns" s_map_turns f fd) : FnOk P w K mg base (L2.CX P w) 10 f fd ["map_of"] (spF ⟨K, mg, w⟩ 1 F_map_turns) :=
  fnk (k := 9) (ps := ["map_of"]) (N := N_map_turns) (body := B_map_turns) Fu sc_map_turns fun cdv A outer s H E C =>
    (s_cons (s_set C 1 (e_call C R_sure_map (a_cons (e_var 0) a_nil) (by decide)))
    (s_one (s_ret (e_call C R_leadings (a_cons (e_var 1) (a_cons (e_var 1) a_nil)) (by decide)))))
theorem bi_map_turns (kV doc pm : Value) (an : Option Addr) (cdv ct : Value) (us : List Value) (hl : us.length = (["map_of"] : List Str).length) : bindArgs (PySem.W.fnOf "map_turns" "map_turns" (defArgs s_map_turns) (defBody s_map_turns) (defScope s_map_turns) .none kV doc pm an cdv ct) ⟨us, []⟩ = pure ((["map_of"] : List Str).zip us) := match us, hl with | [_], _ => rfl
abbrev s_named_from : Stmt := topS 44
theorem sc_named_from : FnScope N_named_from ["own", "start"] (defScope s_named_from) := ⟨rfl, rfl, rfl, by decide +kernel, rfl, by decide +kernel, by decide +kernel⟩
set_option maxHeartbeats 0 in
theorem ok_named_from {P : Program} {w : World} {K : PySem.W.Frag} {mg : Str → Option Value} {base : Heap} (z : Gz mg) {C_CanNot C_TooMany C_Unfit : Addr} (y : Gx K mg C_CanNot C_TooMany C_Unfit)  {f : Addr} {fd : FuncData} (Fu : L2.Fun K "named_from" "named_from" s_named_from f fd) : FnOk P w K mg base (L2.CX P w) 1 f fd ["own", "start"] (spF ⟨K, mg, w⟩ 2 F_named_from) :=
  fnk (k := 0) (ps := ["own", "start"]) (N := N_named_from) (body := B_named_from) Fu sc_named_from fun cdv A outer s H E C =>
    (s_cons (s_asg3 C 2 3 4 (pc_y (y_disp (ps := [((var 1), (cst (.int 0)))]) C (pps_cons (e_var 1) e_int pps_nil))) (pc_l (l_lst (a_cons (e_var 1) a_nil))))
    (s_cons (s_whlF C (passes_of rfl) (b_cmp op_lt v_lt (o_slot 4) (o_val (e_len C (o_slot 3) z.g_len))) (s_cons (s_for (vs := [5]) C (passes_of rfl) (i_any C (e_var 0)) (g_name 5 C.nd) (s_cons (s_set C 6 (e_ix C.hK (o_slot 5) (o_val (e_ix C.hK (o_slot 3) (o_slot 4)))))
    (s_one (s_if (b_cmp (op_ninK (by have := C.rm.un; omega)) (v_hasK not) (o_slot 6) (o_slot 2)) (s_cons (s_setK C (e_len C (o_slot 3) z.g_len) (o_slot 2) (e_var 6) (hu := (by have := C.rm.un; omega)))
    (s_one (s_expr (e_app (o_slot 3) (e_var 6))))) s_nil))))
    (s_one (s_set C 4 (e_add C.hK (o_slot 4) (o_val e_int))))))
    (s_one (s_ret (e_tuple1 C (o_val (e_ofL (l_lcM (N := N_named_from) (own := [("row", 5)]) C rfl (i_any C (e_var 0)) rfl rfl (by decide +kernel) (by decide +kernel) (by decide +kernel) (by repeat (first | exact List.forall_mem_nil _ | refine List.forall_mem_cons.mpr ⟨by first | (intro _; exact Or.inl rfl) | (intro _; exact Or.inr rfl) | (intro h; cases h; done), ?_⟩)) (fun s H A cl fp => (g_name 5 C.nd)) (fun s H A cl fp C => ts_nil) (fun s H A cl fp C => (e_tuple1 C (o_val (e_ofL (l_lcM (N := N_named_from) (own := [("here", 7)]) C rfl (i_any C (e_var 3)) rfl rfl (by decide +kernel) (by decide +kernel) (by decide +kernel) (by repeat (first | exact List.forall_mem_nil _ | refine List.forall_mem_cons.mpr ⟨by first | (intro _; exact Or.inl rfl) | (intro _; exact Or.inr rfl) | (intro h; cases h; done), ?_⟩)) (fun s H A cl fp => (g_name 7 C.nd)) (fun s H A cl fp C => ts_nil) (fun s H A cl fp C => (e_ixK C (o_slot 2) (o_val (e_ix C.hK (o_slot 5) (o_slot 7)))))))) z.g_tuple))))) z.g_tuple)))))
theorem bi_named_from (kV doc pm : Value) (an : Option Addr) (cdv ct : Value) (us : List Value) (hl : us.length = (["own", "start"] : List Str).length) : bindArgs (PySem.W.fnOf "named_from" "named_from" (defArgs s_named_from) (defBody s_named_from) (defScope s_named_from) .none kV doc pm an cdv ct) ⟨us, []⟩ = pure ((["own", "start"] : List Str).zip us) := match us, hl with | [_, _], _ => rfl
abbrev s_least_map : Stmt := topS 45
theorem sc_least_map : FnScope N_least_map ["map_of"] (defScope s_least_map) := ⟨rfl, rfl, rfl, by decide +kernel, rfl, by decide +kernel, by decide +kernel⟩
set_option maxHeartbeats 0 in
theorem ok_least_map {P : Program} {w : World} {K : PySem.W.Frag} {mg : Str → Option Value} {base : Heap} (z : Gz mg) {C_CanNot C_TooMany C_Unfit : Addr} (y : Gx K mg C_CanNot C_TooMany C_Unfit) (R_sure_map : FnR ⟨K, mg, w⟩ P w base "sure_map" s_sure_map 9 ["value"] F_sure_map) (R_named_from : FnR ⟨K, mg, w⟩ P w base "named_from" s_named_from 1 ["own", "start"] F_named_from) {f : Addr} {fd : FuncData} (Fu : L2.Fun K "least_map" "least_map" s_least_map f fd) : FnOk P w K mg base (L2.CX P w) 10 f fd ["map_of"] (spF ⟨K, mg, w⟩ 1 F_least_map) :=
  fnk (k := 9) (ps := ["map_of"]) (N := N_least_map) (body := B_least_map) Fu sc_least_map fun cdv A outer s H E C =>
    (s_cons (s_set C 1 (e_call C R_sure_map (a_cons (e_var 0) a_nil) (by decide)))
    (s_one (s_ret (e_minX C (o_val (e_ofL (l_lcM (N := N_least_map) (own := [("start", 2)]) C rfl (i_r1 C z.g_range (e_len C (o_val (e_ix C.hK (o_slot 1) (o_val e_int))) z.g_len)) rfl rfl (by decide +kernel) (by decide +kernel) (by decide +kernel) (by repeat (first | exact List.forall_mem_nil _ | refine List.forall_mem_cons.mpr ⟨by first | (intro _; exact Or.inl rfl) | (intro _; exact Or.inr rfl) | (intro h; cases h; done), ?_⟩)) (fun s H A cl fp => (g_name 2 C.nd)) (fun s H A cl fp C => ts_nil) (fun s H A cl fp C => (e_call C R_named_from (a_cons (e_var 1) (a_cons (e_var 2) a_nil)) (by decide)))))) z.g_min))))
theorem bi_least_map (kV doc pm : Value) (an : Option Addr) (cdv ct : Value) (us : List Value) (hl : us.length = (["map_of"] : List Str).length) : bindArgs (PySem.W.fnOf "least_map" "least_map" (defArgs s_least_map) (defBody s_least_map) (defScope s_least_map) .none kV doc pm an cdv ct) ⟨us, []⟩ = pure ((["map_of"] : List Str).zip us) := match us, hl with | [_], _ => rfl
abbrev s_undone : Stmt := topS 13
theorem sc_undone : FnScope N_undone ["shuffle"] (defScope s_undone) := ⟨rfl, rfl, rfl, by decide +kernel, rfl, by decide +kernel, by decide +kernel⟩
set_option maxHeartbeats 0 in
theorem ok_undone {P : Program} {w : World} {K : PySem.W.Frag} {mg : Str → Option Value} {base : Heap} (z : Gz mg) {C_CanNot C_TooMany C_Unfit : Addr} (y : Gx K mg C_CanNot C_TooMany C_Unfit)  {f : Addr} {fd : FuncData} (Fu : L2.Fun K "undone" "undone" s_undone f fd) : FnOk P w K mg base (L2.CX P w) 1 f fd ["shuffle"] (spF ⟨K, mg, w⟩ 1 F_undone) :=
  fnk (k := 0) (ps := ["shuffle"]) (N := N_undone) (body := B_undone) Fu sc_undone fun cdv A outer s H E C =>
    (s_cons (s_setL C 1 (l_mul (o_val (e_ofL (l_lst (a_cons e_int a_nil)))) (o_val (e_len C (o_slot 0) z.g_len))))
    (s_cons (s_for (vs := [2, 3]) C (passes_of rfl) (i_en C z.g_enumerate (e_var 0)) (g_tup C.hc C.hK (gs_cons (g_name 2 C.nd) (gs_cons (g_name 3 C.nd) gs_nil))) (s_one (s_setIx (e_var 2) (o_slot 1) (e_var 3))))
    (s_one (s_ret (e_tuple1 C (o_slot 1) z.g_tuple)))))
theorem bi_undone (kV doc pm : Value) (an : Option Addr) (cdv ct : Value) (us : List Value) (hl : us.length = (["shuffle"] : List Str).length) : bindArgs (PySem.W.fnOf "undone" "undone" (defArgs s_undone) (defBody s_undone) (defScope s_undone) .none kV doc pm an cdv ct) ⟨us, []⟩ = pure ((["shuffle"] : List Str).zip us) := match us, hl with | [_], _ => rfl
abbrev s_map_mirrored : Stmt := topS 37
theorem sc_map_mirrored : FnScope N_map_mirrored ["map_of"] (defScope s_map_mirrored) := ⟨rfl, rfl, rfl, by decide +kernel, rfl, by decide +kernel, by decide +kernel⟩
set_option maxHeartbeats 0 in
theorem ok_map_mirrored {P : Program} {w : World} {K : PySem.W.Frag} {mg : Str → Option Value} {base : Heap} (z : Gz mg) {C_CanNot C_TooMany C_Unfit : Addr} (y : Gx K mg C_CanNot C_TooMany C_Unfit) (R_sure_map : FnR ⟨K, mg, w⟩ P w base "sure_map" s_sure_map 9 ["value"] F_sure_map) (R_undone : FnR ⟨K, mg, w⟩ P w base "undone" s_undone 1 ["shuffle"] F_undone) {f : Addr} {fd : FuncData} (Fu : L2.Fun K "map_mirrored" "map_mirrored" s_map_mirrored f fd) : FnOk P w K mg base (L2.CX P w) 10 f fd ["map_of"] (spF ⟨K, mg, w⟩ 1 F_map_mirrored) :=
  fnk (k := 9) (ps := ["map_of"]) (N := N_map_mirrored) (body := B_map_mirrored) Fu sc_map_mirrored fun cdv A outer s H E C =>
    (s_cons (s_set C 1 (e_call C R_sure_map (a_cons (e_var 0) a_nil) (by decide)))
    (s_one (s_ret (e_tup (a_cons (e_call C R_undone (a_cons (e_ix C.hK (o_slot 1) (o_val e_int)) a_nil) (by decide)) (a_cons (e_ix C.hK (o_slot 1) (o_val e_int)) a_nil))))))
theorem bi_map_mirrored (kV doc pm : Value) (an : Option Addr) (cdv ct : Value) (us : List Value) (hl : us.length = (["map_of"] : List Str).length) : bindArgs (PySem.W.fnOf "map_mirrored" "map_mirrored" (defArgs s_map_mirrored) (defBody s_map_mirrored) (defScope s_map_mirrored) .none kV doc pm an cdv ct) ⟨us, []⟩ = pure ((["map_of"] : List Str).zip us) := match us, hl with | [_], _ => rfl
abbrev s_map_sides : Stmt := topS 31
theorem sc_map_sides : FnScope N_map_sides ["map_of"] (defScope s_map_sides) := ⟨rfl, rfl, rfl, by decide +kernel, rfl, by decide +kernel, by decide +kernel⟩
set_option maxHeartbeats 0 in
theorem ok_map_sides {P : Program} {w : World} {K : PySem.W.Frag} {mg : Str → Option Value} {base : Heap} (z : Gz mg) {C_CanNot C_TooMany C_Unfit : Addr} (y : Gx K mg C_CanNot C_TooMany C_Unfit) (R_rounds_of : FnR ⟨K, mg, w⟩ P w base "rounds_of" s_rounds_of 1 ["shuffle"] F_rounds_of) (R_sure_map : FnR ⟨K, mg, w⟩ P w base "sure_map" s_sure_map 9 ["value"] F_sure_map) {f : Addr} {fd : FuncData} (Fu : L2.Fun K "map_sides" "map_sides" s_map_sides f fd) : FnOk P w K mg base (L2.CX P w) 10 f fd ["map_of"] (spF ⟨K, mg, w⟩ 1 F_map_sides) :=
  fnk (k := 9) (ps := ["map_of"]) (N := N_map_sides) (body := B_map_sides) Fu sc_map_sides fun cdv A outer s H E C =>
    (s_one (s_ret (e_call C R_rounds_of (a_cons (e_ix C.hK (o_val (e_call C R_sure_map (a_cons (e_var 0) a_nil) (by decide))) (o_val e_int)) a_nil) (by decide))))
theorem bi_map_sides (kV doc pm : Value) (an : Option Addr) (cdv ct : Value) (us : List Value) (hl : us.length = (["map_of"] : List Str).length) : bindArgs (PySem.W.fnOf "map_sides" "map_sides" (defArgs s_map_sides) (defBody s_map_sides) (defScope s_map_sides) .none kV doc pm an cdv ct) ⟨us, []⟩ = pure ((["map_of"] : List Str).zip us) := match us, hl with | [_], _ => rfl
abbrev s_handles_in : Stmt := topS 33
theorem sc_handles_in : FnScope N_handles_in ["own"] (defScope s_handles_in) := ⟨rfl, rfl, rfl, by decide +kernel, rfl, by decide +kernel, by decide +kernel⟩
set_option maxHeartbeats 0 in
theorem ok_handles_in {P : Program} {w : World} {K : PySem.W.Frag} {mg : Str → Option Value} {base : Heap} (z : Gz mg) {C_CanNot C_TooMany C_Unfit : Addr} (y : Gx K mg C_CanNot C_TooMany C_Unfit) (R_rounds_of : FnR ⟨K, mg, w⟩ P w base "rounds_of" s_rounds_of 1 ["shuffle"] F_rounds_of) (R_faced : FnR ⟨K, mg, w⟩ P w base "faced" s_faced 2 ["own"] F_faced) {f : Addr} {fd : FuncData} (Fu : L2.Fun K "handles_in" "handles_in" s_handles_in f fd) : FnOk P w K mg base (L2.CX P w) 3 f fd ["own"] (spF ⟨K, mg, w⟩ 1 F_handles_in) :=
  fnk (k := 2) (ps := ["own"]) (N := N_handles_in) (body := B_handles_in) Fu sc_handles_in fun cdv A outer s H E C =>
    (s_one (s_ret (e_div (o_val (e_sub (o_val (e_add C.hK (o_val (e_sub (o_val e_int) (o_val (e_len C (o_val (e_call C R_rounds_of (a_cons (e_ix C.hK (o_slot 0) (o_val e_int)) a_nil) (by decide))) z.g_len)))) (o_val (e_div (o_val (e_len C (o_val (e_ix C.hK (o_slot 0) (o_val e_int))) z.g_len)) (o_val e_int))))) (o_val (e_len C (o_val (e_call C R_rounds_of (a_cons (e_call C R_faced (a_cons (e_var 0) a_nil) (by decide)) a_nil) (by decide))) z.g_len)))) (o_val e_int))))
theorem bi_handles_in (kV doc pm : Value) (an : Option Addr) (cdv ct : Value) (us : List Value) (hl : us.length = (["own"] : List Str).length) : bindArgs (PySem.W.fnOf "handles_in" "handles_in" (defArgs s_handles_in) (defBody s_handles_in) (defScope s_handles_in) .none kV doc pm an cdv ct) ⟨us, []⟩ = pure ((["own"] : List Str).zip us) := match us, hl with | [_], _ => rfl
abbrev s_map_handles : Stmt := topS 34
theorem sc_map_handles : FnScope N_map_handles ["map_of"] (defScope s_map_handles) := ⟨rfl, rfl, rfl, by decide +kernel, rfl, by decide +kernel, by decide +kernel⟩
set_option maxHeartbeats 0 in
theorem ok_map_handles {P : Program} {w : World} {K : PySem.W.Frag} {mg : Str → Option Value} {base : Heap} (z : Gz mg) {C_CanNot C_TooMany C_Unfit : Addr} (y : Gx K mg C_CanNot C_TooMany C_Unfit) (R_handles_in : FnR ⟨K, mg, w⟩ P w base "handles_in" s_handles_in 3 ["own"] F_handles_in) (R_sure_map : FnR ⟨K, mg, w⟩ P w base "sure_map" s_sure_map 9 ["value"] F_sure_map) {f : Addr} {fd : FuncData} (Fu : L2.Fun K "map_handles" "map_handles" s_map_handles f fd) : FnOk P w K mg base (L2.CX P w) 10 f fd ["map_of"] (spF ⟨K, mg, w⟩ 1 F_map_handles) :=
  fnk (k := 9) (ps := ["map_of"]) (N := N_map_handles) (body := B_map_handles) Fu sc_map_handles fun cdv A outer s H E C =>
    (s_one (s_ret (e_call C R_handles_in (a_cons (e_call C R_sure_map (a_cons (e_var 0) a_nil) (by decide)) a_nil) (by decide))))
theorem bi_map_handles (kV doc pm : Value) (an : Option Addr) (cdv ct : Value) (us : List Value) (hl : us.length = (["map_of"] : List Str).length) : bindArgs (PySem.W.fnOf "map_handles" "map_handles" (defArgs s_map_handles) (defBody s_map_handles) (defScope s_map_handles) .none kV doc pm an cdv ct) ⟨us, []⟩ = pure ((["map_of"] : List Str).zip us) := match us, hl with | [_], _ => rfl
abbrev s_map_turned : Stmt := topS 36
theorem sc_map_turned : FnScope N_map_turned ["map_of"] (defScope s_map_turned) := ⟨rfl, rfl, rfl, by decide +kernel, rfl, by decide +kernel, by decide +kernel⟩
set_option maxHeartbeats 0 in
theorem ok_map_turned {P : Program} {w : World} {K : PySem.W.Frag} {mg : Str → Option Value} {base : Heap} (z : Gz mg) {C_CanNot C_TooMany C_Unfit : Addr} (y : Gx K mg C_CanNot C_TooMany C_Unfit) (R_sure_map : FnR ⟨K, mg, w⟩ P w base "sure_map" s_sure_map 9 ["value"] F_sure_map) (R_faced : FnR ⟨K, mg, w⟩ P w base "faced" s_faced 2 ["own"] F_faced) {f : Addr} {fd : FuncData} (Fu : L2.Fun K "map_turned" "map_turned" s_map_turned f fd) : FnOk P w K mg base (L2.CX P w) 10 f fd ["map_of"] (spF ⟨K, mg, w⟩ 1 F_map_turned) :=
  fnk (k := 9) (ps := ["map_of"]) (N := N_map_turned) (body := B_map_turned) Fu sc_map_turned fun cdv A outer s H E C =>
    (s_cons (s_set C 1 (e_call C R_sure_map (a_cons (e_var 0) a_nil) (by decide)))
    (s_one (s_ret (e_tup (a_cons (e_call C R_faced (a_cons (e_var 1) a_nil) (by decide)) (a_cons (e_ix C.hK (o_slot 1) (o_val e_int)) a_nil))))))
theorem bi_map_turned (kV doc pm : Value) (an : Option Addr) (cdv ct : Value) (us : List Value) (hl : us.length = (["map_of"] : List Str).length) : bindArgs (PySem.W.fnOf "map_turned" "map_turned" (defArgs s_map_turned) (defBody s_map_turned) (defScope s_map_turned) .none kV doc pm an cdv ct) ⟨us, []⟩ = pure ((["map_of"] : List Str).zip us) := match us, hl with | [_], _ => rfl
abbrev s_is_even_map : Stmt := topS 41
theorem sc_is_even_map : FnScope N_is_even_map ["map_of"] (defScope s_is_even_map) := ⟨rfl, rfl, rfl, by decide +kernel, rfl, by decide +kernel, by decide +kernel⟩
set_option maxHeartbeats 0 in
theorem ok_is_even_map {P : Program} {w : World} {K : PySem.W.Frag} {mg : Str → Option Value} {base : Heap} (z : Gz mg) {C_CanNot C_TooMany C_Unfit : Addr} (y : Gx K mg C_CanNot C_TooMany C_Unfit) (R_sure_map : FnR ⟨K, mg, w⟩ P w base "sure_map" s_sure_map 9 ["value"] F_sure_map) (R_leadings : FnR ⟨K, mg, w⟩ P w base "leadings" s_leadings 5 ["one", "other"] F_leadings) {f : Addr} {fd : FuncData} (Fu : L2.Fun K "is_even_map" "is_even_map" s_is_even_map f fd) : FnOk P w K mg base (L2.CX P w) 10 f fd ["map_of"] (spF ⟨K, mg, w⟩ 1 F_is_even_map) :=
  fnk (k := 9) (ps := ["map_of"]) (N := N_is_even_map) (body := B_is_even_map) Fu sc_is_even_map fun cdv A outer s H E C =>
    (s_cons (s_set C 1 (e_call C R_sure_map (a_cons (e_var 0) a_nil) (by decide)))
    (s_one (s_ret (e_cmp (op_eqD C.rm.units) (v_eq C.hK) (o_val (e_len C (o_val (e_call C R_leadings (a_cons (e_var 1) (a_cons (e_var 1) a_nil)) (by decide))) z.g_len)) (o_val (e_len C (o_val (e_ix C.hK (o_slot 1) (o_val e_int))) z.g_len))))))
theorem bi_is_even_map (kV doc pm : Value) (an : Option Addr) (cdv ct : Value) (us : List Value) (hl : us.length = (["map_of"] : List Str).length) : bindArgs (PySem.W.fnOf "is_even_map" "is_even_map" (defArgs s_is_even_map) (defBody s_is_even_map) (defScope s_is_even_map) .none kV doc pm an cdv ct) ⟨us, []⟩ = pure ((["map_of"] : List Str).zip us) := match us, hl with | [_], _ => rfl
abbrev s_is_mirror_alike : Stmt := topS 46
theorem sc_is_mirror_alike : FnScope N_is_mirror_alike ["map_of"] (defScope s_is_mirror_alike) := ⟨rfl, rfl, rfl, by decide +kernel, rfl, by decide +kernel, by decide +kernel⟩
set_option maxHeartbeats 0 in
theorem ok_is_mirror_alike {P : Program} {w : World} {K : PySem.W.Frag} {mg : Str → Option Value} {base : Heap} (z : Gz mg) {C_CanNot C_TooMany C_Unfit : Addr} (y : Gx K mg C_CanNot C_TooMany C_Unfit) (R_sure_map : FnR ⟨K, mg, w⟩ P w base "sure_map" s_sure_map 9 ["value"] F_sure_map) (R_leadings : FnR ⟨K, mg, w⟩ P w base "leadings" s_leadings 5 ["one", "other"] F_leadings) (R_undone : FnR ⟨K, mg, w⟩ P w base "undone" s_undone 1 ["shuffle"] F_undone) {f : Addr} {fd : FuncData} (Fu : L2.Fun K "is_mirror_alike" "is_mirror_alike" s_is_mirror_alike f fd) : FnOk P w K mg base (L2.CX P w) 10 f fd ["map_of"] (spF ⟨K, mg, w⟩ 1 F_is_mirror_alike) :=
  fnk (k := 9) (ps := ["map_of"]) (N := N_is_mirror_alike) (body := B_is_mirror_alike) Fu sc_is_mirror_alike fun cdv A outer s H E C =>
    (s_cons (s_set C 1 (e_call C R_sure_map (a_cons (e_var 0) a_nil) (by decide)))
    (s_one (s_ret (e_cmp (op_neD C.rm.units) (v_ne C.hK) (o_val (e_call C R_leadings (a_cons (e_var 1) (a_cons (e_tup (a_cons (e_call C R_undone (a_cons (e_ix C.hK (o_slot 1) (o_val e_int)) a_nil) (by decide)) (a_cons (e_ix C.hK (o_slot 1) (o_val e_int)) a_nil))) a_nil)) (by decide))) (o_val (e_ofL (l_lst a_nil)))))))
theorem bi_is_mirror_alike (kV doc pm : Value) (an : Option Addr) (cdv ct : Value) (us : List Value) (hl : us.length = (["map_of"] : List Str).length) : bindArgs (PySem.W.fnOf "is_mirror_alike" "is_mirror_alike" (defArgs s_is_mirror_alike) (defBody s_is_mirror_alike) (defScope s_is_mirror_alike) .none kV doc pm an cdv ct) ⟨us, []⟩ = pure ((["map_of"] : List Str).zip us) := match us, hl with | [_], _ => rfl
abbrev s_are_like_maps : Stmt := topS 42
theorem sc_are_like_maps : FnScope N_are_like_maps ["one", "other"] (defScope s_are_like_maps) := ⟨rfl, rfl, rfl, by decide +kernel, rfl, by decide +kernel, by decide +kernel⟩
set_option maxHeartbeats 0 in
theorem ok_are_like_maps {P : Program} {w : World} {K : PySem.W.Frag} {mg : Str → Option Value} {base : Heap} (z : Gz mg) {C_CanNot C_TooMany C_Unfit : Addr} (y : Gx K mg C_CanNot C_TooMany C_Unfit) (R_sure_map : FnR ⟨K, mg, w⟩ P w base "sure_map" s_sure_map 9 ["value"] F_sure_map) (R_leadings : FnR ⟨K, mg, w⟩ P w base "leadings" s_leadings 5 ["one", "other"] F_leadings) {f : Addr} {fd : FuncData} (Fu : L2.Fun K "are_like_maps" "are_like_maps" s_are_like_maps f fd) : FnOk P w K mg base (L2.CX P w) 10 f fd ["one", "other"] (spF ⟨K, mg, w⟩ 2 F_are_like_maps) :=
  fnk (k := 9) (ps := ["one", "other"]) (N := N_are_like_maps) (body := B_are_like_maps) Fu sc_are_like_maps fun cdv A outer s H E C =>
    (s_cons (s_set C 2 (e_call C R_sure_map (a_cons (e_var 0) a_nil) (by decide)))
    (s_one (s_ret (e_cmp (op_neD C.rm.units) (v_ne C.hK) (o_val (e_call C R_leadings (a_cons (e_var 2) (a_cons (e_call C R_sure_map (a_cons (e_var 1) a_nil) (by decide)) a_nil)) (by decide))) (o_val (e_ofL (l_lst a_nil)))))))
theorem bi_are_like_maps (kV doc pm : Value) (an : Option Addr) (cdv ct : Value) (us : List Value) (hl : us.length = (["one", "other"] : List Str).length) : bindArgs (PySem.W.fnOf "are_like_maps" "are_like_maps" (defArgs s_are_like_maps) (defBody s_are_like_maps) (defScope s_are_like_maps) .none kV doc pm an cdv ct) ⟨us, []⟩ = pure ((["one", "other"] : List Str).zip us) := match us, hl with | [_, _], _ => rfl
abbrev s__law_box : Stmt := topS 77
theorem sc__law_box : FnScope N__law_box ["script", "k"] (defScope s__law_box) := ⟨rfl, rfl, rfl, by decide +kernel, rfl, by decide +kernel, by decide +kernel⟩
set_option maxHeartbeats 0 in
theorem ok__law_box {P : Program} {w : World} {K : PySem.W.Frag} {mg : Str → Option Value} {base : Heap} (z : Gz mg) {C_CanNot C_TooMany C_Unfit : Addr} (y : Gx K mg C_CanNot C_TooMany C_Unfit)  {f : Addr} {fd : FuncData} (Fu : L2.Fun K "_law_box" "_law_box" s__law_box f fd) : FnOk P w K mg base (L2.CX P w) 1 f fd ["script", "k"] (spF ⟨K, mg, w⟩ 2 F__law_box) :=
  fnk (k := 0) (ps := ["script", "k"]) (N := N__law_box) (body := B__law_box) Fu sc__law_box fun cdv A outer s H E C =>
    (s_cons (s_set C 2 (e_if (b_cmp op_lt v_lt (o_slot 1) (o_val (e_len C (o_slot 0) z.g_len))) (e_ix C.hK (o_slot 0) (o_slot 1)) e_int))
    (s_one (s_ret (e_shr (l_lst (a_cons (e_mul C.hK (o_val (e_abs C (o_slot 2) z.g_abs)) (o_val (e_int1 C (o_val (e_cmp op_ge v_ge (o_val (e_abs C (o_slot 2) z.g_abs)) (o_val (e_pow (o_val e_int) (o_val e_int))))) z.g_int))) (a_cons (e_add C.hK (o_val (e_add C.hK (o_val (e_mod (o_val (e_int1 C (o_slot 2) z.g_int)) (o_val e_int))) (o_val (e_mul C.hK (o_val e_int) (o_slot 1))))) (o_val e_int)) (a_cons e_int a_nil))))))))
theorem bi__law_box (kV doc pm : Value) (an : Option Addr) (cdv ct : Value) (us : List Value) (hl : us.length = (["script", "k"] : List Str).length) : bindArgs (PySem.W.fnOf "_law_box" "_law_box" (defArgs s__law_box) (defBody s__law_box) (defScope s__law_box) .none kV doc pm an cdv ct) ⟨us, []⟩ = pure ((["script", "k"] : List Str).zip us) := match us, hl with | [_, _], _ => rfl
abbrev s__law_take : Stmt := topS 78
theorem sc__law_take : FnScope N__law_take ["tin", "below_so"] (defScope s__law_take) := ⟨rfl, rfl, rfl, by decide +kernel, rfl, by decide +kernel, by decide +kernel⟩
set_option maxHeartbeats 0 in
theorem ok__law_take {P : Program} {w : World} {K : PySem.W.Frag} {mg : Str → Option Value} {base : Heap} (z : Gz mg) {C_CanNot C_TooMany C_Unfit : Addr} (y : Gx K mg C_CanNot C_TooMany C_Unfit)  {f : Addr} {fd : FuncData} (Fu : L2.Fun K "_law_take" "_law_take" s__law_take f fd) : FnOk P w K mg base (L2.CX P w) 1 f fd ["tin", "below_so"] (spF ⟨K, mg, w⟩ 2 F__law_take) :=
  fnk (k := 0) (ps := ["tin", "below_so"]) (N := N__law_take) (body := B__law_take) Fu sc__law_take fun cdv A outer s H E C =>
    (s_cons (s_if (b_cmp op_gt v_gt (o_val (e_ix C.hK (o_slot 0) (o_val e_int))) (o_val e_int)) (s_cons (s_set C 5 (e_mod (o_val (e_int1 C (o_val (e_ix C.hK (o_slot 0) (o_val e_int))) z.g_int)) (o_slot 1)))
    (s_cons (s_setIx (e_div (o_val (e_ix C.hK (o_slot 0) (o_val e_int))) (o_slot 1)) (o_slot 0) e_int)
    (s_one (s_ret (e_var 5))))) s_nil)
    (s_cons (s_setIx (e_add C.hK (o_val (e_ix C.hK (o_slot 0) (o_val e_int))) (o_val e_int)) (o_slot 0) e_int)
    (s_cons (s_set C 2 (e_mod (o_val (e_int1 C (o_val (e_mul C.hK (o_val (e_add C.hK (o_val (e_ix C.hK (o_slot 0) (o_val e_int))) (o_val (e_mul C.hK (o_val e_int) (o_val (e_ix C.hK (o_slot 0) (o_val e_int))))))) (o_val (e_add C.hK (o_val e_int) (o_val (e_ix C.hK (o_slot 0) (o_val e_int))))))) z.g_int)) (o_val e_int)))
    (s_cons (s_set C 3 (e_add C.hK (o_val (e_mod (o_val (e_int1 C (o_slot 2) z.g_int)) (o_val e_int))) (o_val e_int)))
    (s_cons (s_set C 4 (e_mod (o_val (e_int1 C (o_val (e_mul C.hK (o_val (e_add C.hK (o_val (e_add C.hK (o_slot 2) (o_val (e_ix C.hK (o_slot 0) (o_val e_int))))) (o_val (e_div (o_val (e_ix C.hK (o_slot 0) (o_val e_int))) (o_val e_int))))) (o_slot 3))) z.g_int)) (o_val e_int)))
    (s_one (s_ret (e_mod (o_val (e_int1 C (o_val (e_div (o_val (e_mod (o_val (e_int1 C (o_val (e_add C.hK (o_val (e_mul C.hK (o_slot 4) (o_val e_int))) (o_slot 2))) z.g_int)) (o_val e_int))) (o_val e_int))) z.g_int)) (o_slot 1)))))))))
theorem bi__law_take (kV doc pm : Value) (an : Option Addr) (cdv ct : Value) (us : List Value) (hl : us.length = (["tin", "below_so"] : List Str).length) : bindArgs (PySem.W.fnOf "_law_take" "_law_take" (defArgs s__law_take) (defBody s__law_take) (defScope s__law_take) .none kV doc pm an cdv ct) ⟨us, []⟩ = pure ((["tin", "below_so"] : List Str).zip us) := match us, hl with | [_, _], _ => rfl
abbrev s__law_pick : Stmt := topS 80
theorem sc__law_pick : FnScope N__law_pick ["tin", "goods_so", "count_so"] (defScope s__law_pick) := ⟨rfl, rfl, rfl, by decide +kernel, rfl, by decide +kernel, by decide +kernel⟩
set_option maxHeartbeats 0 in
theorem ok__law_pick {P : Program} {w : World} {K : PySem.W.Frag} {mg : Str → Option Value} {base : Heap} (z : Gz mg) {C_CanNot C_TooMany C_Unfit : Addr} (y : Gx K mg C_CanNot C_TooMany C_Unfit) (R__law_take : FnR ⟨K, mg, w⟩ P w base "_law_take" s__law_take 1 ["tin", "below_so"] F__law_take) {f : Addr} {fd : FuncData} (Fu : L2.Fun K "_law_pick" "_law_pick" s__law_pick f fd) : FnOk P w K mg base (L2.CX P w) 2 f fd ["tin", "goods_so", "count_so"] (spF ⟨K, mg, w⟩ 3 F__law_pick) :=
  fnk (k := 1) (ps := ["tin", "goods_so", "count_so"]) (N := N__law_pick) (body := B__law_pick) Fu sc__law_pick fun cdv A outer s H E C =>
    (s_cons (s_par C 4 5 (pc_l (l_list1 C (o_slot 1) z.g_list)) (pc_l (l_lst a_nil)))
    (s_cons (s_for (vs := [3]) C (passes_of rfl) (i_r1 C z.g_range (e_min2 C (o_val (e_int1 C (o_slot 2) z.g_int)) (o_val (e_len C (o_slot 4) z.g_len)) z.g_min)) (g_name 3 C.nd) (s_one (s_expr (e_app (o_slot 5) (e_popAt (o_slot 4) (e_call C R__law_take (a_cons (e_var 0) (a_cons (e_len C (o_slot 4) z.g_len) a_nil)) (by decide)))))))
    (s_one (s_ret (e_var 5)))))
theorem bi__law_pick (kV doc pm : Value) (an : Option Addr) (cdv ct : Value) (us : List Value) (hl : us.length = (["tin", "goods_so", "count_so"] : List Str).length) : bindArgs (PySem.W.fnOf "_law_pick" "_law_pick" (defArgs s__law_pick) (defBody s__law_pick) (defScope s__law_pick) .none kV doc pm an cdv ct) ⟨us, []⟩ = pure ((["tin", "goods_so", "count_so"] : List Str).zip us) := match us, hl with | [_, _, _], _ => rfl
abbrev s__law_cells : Stmt := topS 79
theorem sc__law_cells : FnScope N__law_cells ["script", "most_so"] (defScope s__law_cells) := ⟨rfl, rfl, rfl, by decide +kernel, rfl, by decide +kernel, by decide +kernel⟩
set_option maxHeartbeats 0 in
theorem ok__law_cells {P : Program} {w : World} {K : PySem.W.Frag} {mg : Str → Option Value} {base : Heap} (z : Gz mg) {C_CanNot C_TooMany C_Unfit : Addr} (y : Gx K mg C_CanNot C_TooMany C_Unfit)  {f : Addr} {fd : FuncData} (Fu : L2.Fun K "_law_cells" "_law_cells" s__law_cells f fd) : FnOk P w K mg base (L2.CX P w) 1 f fd ["script", "most_so"] (spF ⟨K, mg, w⟩ 2 F__law_cells) :=
  fnk (k := 0) (ps := ["script", "most_so"]) (N := N__law_cells) (body := B__law_cells) Fu sc__law_cells fun cdv A outer s H E C =>
    (s_cons (s_setL C 2 (l_or C (l_list1 C (o_val (e_sl C.hK (o_slot 0) p_none (p_some (e_var 1)))) z.g_list) (pe_one (l_lst (a_cons e_int a_nil)))))
    (s_cons (s_for (vs := [3, 4]) C (passes_of rfl) (i_enum C z.g_enumerate (e_sl C.hK (o_slot 0) (p_some (e_var 1)) (p_some e_int))) (g_tup C.hc C.hK (gs_cons (g_name 3 C.nd) (gs_cons (g_name 4 C.nd) gs_nil))) (s_cons (s_set C 5 (e_mod (o_val (e_int1 C (o_slot 3) z.g_int)) (o_slot 1)))
    (s_one (s_setIx (e_add C.hK (o_val (e_ix C.hK (o_slot 2) (o_slot 5))) (o_val (e_mul C.hK (o_slot 4) (o_val (e_add C.hK (o_slot 3) (o_val e_int)))))) (o_slot 2) (e_var 5)))))
    (s_one (s_ret (e_var 2)))))
theorem bi__law_cells (kV doc pm : Value) (an : Option Addr) (cdv ct : Value) (us : List Value) (hl : us.length = (["script", "most_so"] : List Str).length) : bindArgs (PySem.W.fnOf "_law_cells" "_law_cells" (defArgs s__law_cells) (defBody s__law_cells) (defScope s__law_cells) .none kV doc pm an cdv ct) ⟨us, []⟩ = pure ((["script", "most_so"] : List Str).zip us) := match us, hl with | [_, _], _ => rfl
abbrev s_is_map : Stmt := topS 27
theorem sc_is_map : FnScope N_is_map ["thing"] (defScope s_is_map) := ⟨rfl, rfl, rfl, by decide +kernel, rfl, by decide +kernel, by decide +kernel⟩
set_option maxHeartbeats 0 in
theorem ok_is_map {P : Program} {w : World} {K : PySem.W.Frag} {mg : Str → Option Value} {base : Heap} (z : Gz mg) {C_CanNot C_TooMany C_Unfit : Addr} (y : Gx K mg C_CanNot C_TooMany C_Unfit) (R_is_map_in : FnR ⟨K, mg, w⟩ P w base "is_map_in" s_is_map_in 4 ["thing"] F_is_map_in) {f : Addr} {fd : FuncData} (Fu : L2.Fun K "is_map" "is_map" s_is_map f fd) : FnOk P w K mg base (L2.CX P w) 5 f fd ["thing"] (spF ⟨K, mg, w⟩ 1 F_is_map) :=
  fnk (k := 4) (ps := ["thing"]) (N := N_is_map) (body := B_is_map) Fu sc_is_map fun cdv A outer s H E C =>
    (s_one (s_ret (e_call C R_is_map_in (a_cons (e_var 0) a_nil) (by decide))))
theorem bi_is_map (kV doc pm : Value) (an : Option Addr) (cdv ct : Value) (us : List Value) (hl : us.length = (["thing"] : List Str).length) : bindArgs (PySem.W.fnOf "is_map" "is_map" (defArgs s_is_map) (defBody s_is_map) (defScope s_is_map) .none kV doc pm an cdv ct) ⟨us, []⟩ = pure ((["thing"] : List Str).zip us) := match us, hl with | [_], _ => rfl
abbrev s__law_same : Stmt := topS 81
theorem sc__law_same : FnScope N__law_same ["got", "due"] (defScope s__law_same) := ⟨rfl, rfl, rfl, by decide +kernel, rfl, by decide +kernel, by decide +kernel⟩
theorem st__law_same {P : Program} {w : World} {K : PySem.W.Frag} {mg : Str → Option Value} {base : Heap} (z : Gz mg) {C_CanNot C_TooMany C_Unfit : Addr} (y : Gx K mg C_CanNot C_TooMany C_Unfit)  {f : Addr} {fd : FuncData} (Fu : L2.Fun K "_law_same" "_law_same" s__law_same f fd) (hm : mg "_law_same" = some (.ref f)) (n : Nat) (ih : FnR ⟨K, mg, w⟩ P w base "_law_same" s__law_same (0 + n) ["got", "due"] (F__law_same n)) : FnR ⟨K, mg, w⟩ P w base "_law_same" s__law_same (0 + n + 1) ["got", "due"] (F__law_same (n + 1)) :=
  F__law_same_s n ▸ fnr (k := 0 + n) (body := B__law_same (fun _ => F__law_same n) n) Fu hm sc__law_same (fun _ _ _ _ _ _ us hl => match us, hl with | [_, _], _ => rfl) fun cdv A outer s H E C =>
    (s_cons (s_if (b_tru C (o_val (e_isiT C (o_slot 1) (ty_cons (t := .lst) z.g_list (ty_cons (t := .tup) z.g_tuple ty_nil)) z.g_isinstance))) (s_cons (s_if (PW.pt (w_or (b_cmp (op_neD C.rm.units) (v_ne C.hK) (o_val (e_isi C (o_slot 0) (ty_cons (t := .lst) z.g_list ty_nil) z.g_isinstance)) (o_val (e_isi C (o_slot 1) (ty_cons (t := .lst) z.g_list ty_nil) z.g_isinstance))) (pw_or1 (b_cmp (op_neD C.rm.units) (v_ne C.hK) (o_val (e_isi C (o_slot 0) (ty_cons (t := .tup) z.g_tuple ty_nil) z.g_isinstance)) (o_val (e_isi C (o_slot 1) (ty_cons (t := .tup) z.g_tuple ty_nil) z.g_isinstance)))))) (s_one (s_ret e_bl)) s_nil)
    (s_one (s_ret (e_and (e_cmp (op_eqD C.rm.units) (v_eq C.hK) (o_val (e_len C (o_slot 0) z.g_len)) (o_val (e_len C (o_slot 1) z.g_len))) (pe_one (e_all C (o_val (e_ofL (l_lcM (N := N__law_same) (own := [("mine", 2), ("its", 3)]) C rfl (i_zip C z.g_zip (e_var 0) (e_var 1)) rfl rfl (by decide +kernel) (by decide +kernel) (by decide +kernel) (by repeat (first | exact List.forall_mem_nil _ | refine List.forall_mem_cons.mpr ⟨by first | (intro _; exact Or.inl rfl) | (intro _; exact Or.inr rfl) | (intro h; cases h; done), ?_⟩)) (fun s H A cl fp => (g_tup C.hc C.hK (gs_cons (g_name 2 C.nd) (gs_cons (g_name 3 C.nd) gs_nil)))) (fun s H A cl fp C => ts_nil) (fun s H A cl fp C => (e_call C ih (a_cons (e_var 2) (a_cons (e_var 3) a_nil)) (Nat.le_refl _)))))) z.g_all)))))) s_nil)
    (s_cons (s_if (b_cmp r_is v_is (o_slot 1) (o_val e_non)) (s_one (s_ret (e_cmp r_is v_is (o_slot 0) (o_val e_non)))) s_nil)
    (s_cons (s_if (b_tru C (o_val (e_isiT C (o_slot 1) (ty_cons (t := .bl) z.g_bool (ty_cons (t := .str) z.g_str ty_nil)) z.g_isinstance))) (s_one (s_ret (e_and (e_cmp (op_eqD C.rm.units) (v_eq C.hK) (o_val (e_isi C (o_slot 0) (ty_cons (t := .bl) z.g_bool ty_nil) z.g_isinstance)) (o_val (e_isi C (o_slot 1) (ty_cons (t := .bl) z.g_bool ty_nil) z.g_isinstance))) (e_and (e_cmp (op_eqD C.rm.units) (v_eq C.hK) (o_val (e_isi C (o_slot 0) (ty_cons (t := .str) z.g_str ty_nil) z.g_isinstance)) (o_val (e_isi C (o_slot 1) (ty_cons (t := .str) z.g_str ty_nil) z.g_isinstance))) (pe_one (e_cmp (op_eqD C.rm.units) (v_eq C.hK) (o_slot 0) (o_slot 1))))))) s_nil)
    (s_one (s_ret (e_and (e_isi C (o_slot 0) (ty_cons (t := .int) z.g_int ty_nil) z.g_isinstance) (e_and (e_not (e_isi C (o_slot 0) (ty_cons (t := .bl) z.g_bool ty_nil) z.g_isinstance)) (pe_one (e_cmp (op_eqD C.rm.units) (v_eq C.hK) (o_slot 0) (o_slot 1))))))))))
theorem ok__law_same {P : Program} {w : World} {K : PySem.W.Frag} {mg : Str → Option Value} {base : Heap} (z : Gz mg) {C_CanNot C_TooMany C_Unfit : Addr} (y : Gx K mg C_CanNot C_TooMany C_Unfit)  {f : Addr} {fd : FuncData} (Fu : L2.Fun K "_law_same" "_law_same" s__law_same f fd) (hm : mg "_law_same" = some (.ref f)) (n : Nat) : FnR ⟨K, mg, w⟩ P w base "_law_same" s__law_same (0 + n) ["got", "due"] (F__law_same n) := by
  induction n with
  | zero => exact fnr_bad Fu hm (fun _ _ _ _ _ _ us hl => match us, hl with | [_, _], _ => rfl)
  | succ n ih => exact st__law_same z y  Fu hm n ih
abbrev s__law_call : Stmt := topS 82
theorem sc__law_call : FnScope N__law_call ["door", "goods_so"] (defScope s__law_call) := ⟨rfl, rfl, rfl, by decide +kernel, rfl, by decide +kernel, by decide +kernel⟩
set_option maxHeartbeats 0 in
theorem ok__law_call {P : Program} {w : World} {K : PySem.W.Frag} {mg : Str → Option Value} {base : Heap} (z : Gz mg) {C_CanNot C_TooMany C_Unfit : Addr} (y : Gx K mg C_CanNot C_TooMany C_Unfit) (R_map_of_shuffles : FnR ⟨K, mg, w⟩ P w base "map_of_shuffles" s_map_of_shuffles 9 ["one", "other"] F_map_of_shuffles) (R_map_type : FnR ⟨K, mg, w⟩ P w base "map_type" s_map_type 10 ["map_of"] F_map_type) (R_map_leading : FnR ⟨K, mg, w⟩ P w base "map_leading" s_map_leading 10 ["one", "other"] F_map_leading) (R_growth_share : FnR ⟨K, mg, w⟩ P w base "growth_share" s_growth_share 10 ["polygon"] F_growth_share) (R_polygon_size : FnR ⟨K, mg, w⟩ P w base "polygon_size" s_polygon_size 10 ["polygon"] F_polygon_size) (R_worth_at_one : FnR ⟨K, mg, w⟩ P w base "worth_at_one" s_worth_at_one 10 ["polygon"] F_worth_at_one) (R_mirror_corners : FnR ⟨K, mg, w⟩ P w base "mirror_corners" s_mirror_corners 10 ["polygon"] F_mirror_corners) (R_growth_numbers : FnR ⟨K, mg, w⟩ P w base "growth_numbers" s_growth_numbers 10 ["polygon", "many"] F_growth_numbers) (R_spots_growth_numbers : FnR ⟨K, mg, w⟩ P w base "spots_growth_numbers" s_spots_growth_numbers 10 ["polygon", "many"] F_spots_growth_numbers) (R_map_points : FnR ⟨K, mg, w⟩ P w base "map_points" s_map_points 10 ["map_of"] F_map_points) (R_map_sides : FnR ⟨K, mg, w⟩ P w base "map_sides" s_map_sides 10 ["map_of"] F_map_sides) (R_map_faces : FnR ⟨K, mg, w⟩ P w base "map_faces" s_map_faces 10 ["map_of"] F_map_faces) (R_map_handles : FnR ⟨K, mg, w⟩ P w base "map_handles" s_map_handles 10 ["map_of"] F_map_handles) (R_map_turned : FnR ⟨K, mg, w⟩ P w base "map_turned" s_map_turned 10 ["map_of"] F_map_turned) (R_map_mirrored : FnR ⟨K, mg, w⟩ P w base "map_mirrored" s_map_mirrored 10 ["map_of"] F_map_mirrored) (R_map_turns : FnR ⟨K, mg, w⟩ P w base "map_turns" s_map_turns 10 ["map_of"] F_map_turns) (R_is_even_map : FnR ⟨K, mg, w⟩ P w base "is_even_map" s_is_even_map 10 ["map_of"] F_is_even_map) (R_is_mirror_alike : FnR ⟨K, mg, w⟩ P w base "is_mirror_alike" s_is_mirror_alike 10 ["map_of"] F_is_mirror_alike) (R_least_map : FnR ⟨K, mg, w⟩ P w base "least_map" s_least_map 10 ["map_of"] F_least_map) (R_are_like_maps : FnR ⟨K, mg, w⟩ P w base "are_like_maps" s_are_like_maps 10 ["one", "other"] F_are_like_maps) {f : Addr} {fd : FuncData} (Fu : L2.Fun K "_law_call" "_law_call" s__law_call f fd) : FnOk P w K mg base (L2.CX P w) 11 f fd ["door", "goods_so"] (spF ⟨K, mg, w⟩ 2 F__law_call) :=
  fnk (k := 10) (ps := ["door", "goods_so"]) (N := N__law_call) (body := B__law_call) Fu sc__law_call fun cdv A outer s H E C =>
    (s_cons (s_if (b_cmp (op_eqD C.rm.units) (v_eq C.hK) (o_val (e_len C (o_slot 1) z.g_len)) (o_val e_int)) (s_one (s_ret (e_door (T := [⟨"map_of_shuffles", 2, F_map_of_shuffles⟩, ⟨"map_type", 1, F_map_type⟩, ⟨"map_leading", 2, F_map_leading⟩, ⟨"growth_share", 1, F_growth_share⟩, ⟨"polygon_size", 1, F_polygon_size⟩, ⟨"worth_at_one", 1, F_worth_at_one⟩, ⟨"mirror_corners", 1, F_mirror_corners⟩, ⟨"growth_numbers", 2, F_growth_numbers⟩, ⟨"spots_growth_numbers", 2, F_spots_growth_numbers⟩, ⟨"map_points", 1, F_map_points⟩, ⟨"map_sides", 1, F_map_sides⟩, ⟨"map_faces", 1, F_map_faces⟩, ⟨"map_handles", 1, F_map_handles⟩, ⟨"map_turned", 1, F_map_turned⟩, ⟨"map_mirrored", 1, F_map_mirrored⟩, ⟨"map_turns", 1, F_map_turns⟩, ⟨"is_even_map", 1, F_is_even_map⟩, ⟨"is_mirror_alike", 1, F_is_mirror_alike⟩, ⟨"least_map", 1, F_least_map⟩, ⟨"are_like_maps", 2, F_are_like_maps⟩]) C (List.forall_mem_cons.mpr ⟨dr R_map_of_shuffles, (List.forall_mem_cons.mpr ⟨dr R_map_type, (List.forall_mem_cons.mpr ⟨dr R_map_leading, (List.forall_mem_cons.mpr ⟨dr R_growth_share, (List.forall_mem_cons.mpr ⟨dr R_polygon_size, (List.forall_mem_cons.mpr ⟨dr R_worth_at_one, (List.forall_mem_cons.mpr ⟨dr R_mirror_corners, (List.forall_mem_cons.mpr ⟨dr R_growth_numbers, (List.forall_mem_cons.mpr ⟨dr R_spots_growth_numbers, (List.forall_mem_cons.mpr ⟨dr R_map_points, (List.forall_mem_cons.mpr ⟨dr R_map_sides, (List.forall_mem_cons.mpr ⟨dr R_map_faces, (List.forall_mem_cons.mpr ⟨dr R_map_handles, (List.forall_mem_cons.mpr ⟨dr R_map_turned, (List.forall_mem_cons.mpr ⟨dr R_map_mirrored, (List.forall_mem_cons.mpr ⟨dr R_map_turns, (List.forall_mem_cons.mpr ⟨dr R_is_even_map, (List.forall_mem_cons.mpr ⟨dr R_is_mirror_alike, (List.forall_mem_cons.mpr ⟨dr R_least_map, (List.forall_mem_cons.mpr ⟨dr R_are_like_maps, (List.forall_mem_nil _)⟩)⟩)⟩)⟩)⟩)⟩)⟩)⟩)⟩)⟩)⟩)⟩)⟩)⟩)⟩)⟩)⟩)⟩)⟩)⟩) 0 (a_cons (e_ix C.hK (o_slot 1) (o_val e_int)) a_nil)))) s_nil)
    (s_cons (s_if (b_cmp (op_eqD C.rm.units) (v_eq C.hK) (o_val (e_len C (o_slot 1) z.g_len)) (o_val e_int)) (s_one (s_ret (e_door (T := [⟨"map_of_shuffles", 2, F_map_of_shuffles⟩, ⟨"map_type", 1, F_map_type⟩, ⟨"map_leading", 2, F_map_leading⟩, ⟨"growth_share", 1, F_growth_share⟩, ⟨"polygon_size", 1, F_polygon_size⟩, ⟨"worth_at_one", 1, F_worth_at_one⟩, ⟨"mirror_corners", 1, F_mirror_corners⟩, ⟨"growth_numbers", 2, F_growth_numbers⟩, ⟨"spots_growth_numbers", 2, F_spots_growth_numbers⟩, ⟨"map_points", 1, F_map_points⟩, ⟨"map_sides", 1, F_map_sides⟩, ⟨"map_faces", 1, F_map_faces⟩, ⟨"map_handles", 1, F_map_handles⟩, ⟨"map_turned", 1, F_map_turned⟩, ⟨"map_mirrored", 1, F_map_mirrored⟩, ⟨"map_turns", 1, F_map_turns⟩, ⟨"is_even_map", 1, F_is_even_map⟩, ⟨"is_mirror_alike", 1, F_is_mirror_alike⟩, ⟨"least_map", 1, F_least_map⟩, ⟨"are_like_maps", 2, F_are_like_maps⟩]) C (List.forall_mem_cons.mpr ⟨dr R_map_of_shuffles, (List.forall_mem_cons.mpr ⟨dr R_map_type, (List.forall_mem_cons.mpr ⟨dr R_map_leading, (List.forall_mem_cons.mpr ⟨dr R_growth_share, (List.forall_mem_cons.mpr ⟨dr R_polygon_size, (List.forall_mem_cons.mpr ⟨dr R_worth_at_one, (List.forall_mem_cons.mpr ⟨dr R_mirror_corners, (List.forall_mem_cons.mpr ⟨dr R_growth_numbers, (List.forall_mem_cons.mpr ⟨dr R_spots_growth_numbers, (List.forall_mem_cons.mpr ⟨dr R_map_points, (List.forall_mem_cons.mpr ⟨dr R_map_sides, (List.forall_mem_cons.mpr ⟨dr R_map_faces, (List.forall_mem_cons.mpr ⟨dr R_map_handles, (List.forall_mem_cons.mpr ⟨dr R_map_turned, (List.forall_mem_cons.mpr ⟨dr R_map_mirrored, (List.forall_mem_cons.mpr ⟨dr R_map_turns, (List.forall_mem_cons.mpr ⟨dr R_is_even_map, (List.forall_mem_cons.mpr ⟨dr R_is_mirror_alike, (List.forall_mem_cons.mpr ⟨dr R_least_map, (List.forall_mem_cons.mpr ⟨dr R_are_like_maps, (List.forall_mem_nil _)⟩)⟩)⟩)⟩)⟩)⟩)⟩)⟩)⟩)⟩)⟩)⟩)⟩)⟩)⟩)⟩)⟩)⟩)⟩)⟩) 0 (a_cons (e_ix C.hK (o_slot 1) (o_val e_int)) (a_cons (e_ix C.hK (o_slot 1) (o_val e_int)) a_nil))))) s_nil)
    (s_cons (s_if (b_cmp (op_eqD C.rm.units) (v_eq C.hK) (o_val (e_len C (o_slot 1) z.g_len)) (o_val e_int)) (s_one (s_ret (e_door (T := [⟨"map_of_shuffles", 2, F_map_of_shuffles⟩, ⟨"map_type", 1, F_map_type⟩, ⟨"map_leading", 2, F_map_leading⟩, ⟨"growth_share", 1, F_growth_share⟩, ⟨"polygon_size", 1, F_polygon_size⟩, ⟨"worth_at_one", 1, F_worth_at_one⟩, ⟨"mirror_corners", 1, F_mirror_corners⟩, ⟨"growth_numbers", 2, F_growth_numbers⟩, ⟨"spots_growth_numbers", 2, F_spots_growth_numbers⟩, ⟨"map_points", 1, F_map_points⟩, ⟨"map_sides", 1, F_map_sides⟩, ⟨"map_faces", 1, F_map_faces⟩, ⟨"map_handles", 1, F_map_handles⟩, ⟨"map_turned", 1, F_map_turned⟩, ⟨"map_mirrored", 1, F_map_mirrored⟩, ⟨"map_turns", 1, F_map_turns⟩, ⟨"is_even_map", 1, F_is_even_map⟩, ⟨"is_mirror_alike", 1, F_is_mirror_alike⟩, ⟨"least_map", 1, F_least_map⟩, ⟨"are_like_maps", 2, F_are_like_maps⟩]) C (List.forall_mem_cons.mpr ⟨dr R_map_of_shuffles, (List.forall_mem_cons.mpr ⟨dr R_map_type, (List.forall_mem_cons.mpr ⟨dr R_map_leading, (List.forall_mem_cons.mpr ⟨dr R_growth_share, (List.forall_mem_cons.mpr ⟨dr R_polygon_size, (List.forall_mem_cons.mpr ⟨dr R_worth_at_one, (List.forall_mem_cons.mpr ⟨dr R_mirror_corners, (List.forall_mem_cons.mpr ⟨dr R_growth_numbers, (List.forall_mem_cons.mpr ⟨dr R_spots_growth_numbers, (List.forall_mem_cons.mpr ⟨dr R_map_points, (List.forall_mem_cons.mpr ⟨dr R_map_sides, (List.forall_mem_cons.mpr ⟨dr R_map_faces, (List.forall_mem_cons.mpr ⟨dr R_map_handles, (List.forall_mem_cons.mpr ⟨dr R_map_turned, (List.forall_mem_cons.mpr ⟨dr R_map_mirrored, (List.forall_mem_cons.mpr ⟨dr R_map_turns, (List.forall_mem_cons.mpr ⟨dr R_is_even_map, (List.forall_mem_cons.mpr ⟨dr R_is_mirror_alike, (List.forall_mem_cons.mpr ⟨dr R_least_map, (List.forall_mem_cons.mpr ⟨dr R_are_like_maps, (List.forall_mem_nil _)⟩)⟩)⟩)⟩)⟩)⟩)⟩)⟩)⟩)⟩)⟩)⟩)⟩)⟩)⟩)⟩)⟩)⟩)⟩)⟩) 0 (a_cons (e_ix C.hK (o_slot 1) (o_val e_int)) (a_cons (e_ix C.hK (o_slot 1) (o_val e_int)) (a_cons (e_ix C.hK (o_slot 1) (o_val e_int)) a_nil)))))) s_nil)
    (s_one (s_ret (e_door (T := [⟨"map_of_shuffles", 2, F_map_of_shuffles⟩, ⟨"map_type", 1, F_map_type⟩, ⟨"map_leading", 2, F_map_leading⟩, ⟨"growth_share", 1, F_growth_share⟩, ⟨"polygon_size", 1, F_polygon_size⟩, ⟨"worth_at_one", 1, F_worth_at_one⟩, ⟨"mirror_corners", 1, F_mirror_corners⟩, ⟨"growth_numbers", 2, F_growth_numbers⟩, ⟨"spots_growth_numbers", 2, F_spots_growth_numbers⟩, ⟨"map_points", 1, F_map_points⟩, ⟨"map_sides", 1, F_map_sides⟩, ⟨"map_faces", 1, F_map_faces⟩, ⟨"map_handles", 1, F_map_handles⟩, ⟨"map_turned", 1, F_map_turned⟩, ⟨"map_mirrored", 1, F_map_mirrored⟩, ⟨"map_turns", 1, F_map_turns⟩, ⟨"is_even_map", 1, F_is_even_map⟩, ⟨"is_mirror_alike", 1, F_is_mirror_alike⟩, ⟨"least_map", 1, F_least_map⟩, ⟨"are_like_maps", 2, F_are_like_maps⟩]) C (List.forall_mem_cons.mpr ⟨dr R_map_of_shuffles, (List.forall_mem_cons.mpr ⟨dr R_map_type, (List.forall_mem_cons.mpr ⟨dr R_map_leading, (List.forall_mem_cons.mpr ⟨dr R_growth_share, (List.forall_mem_cons.mpr ⟨dr R_polygon_size, (List.forall_mem_cons.mpr ⟨dr R_worth_at_one, (List.forall_mem_cons.mpr ⟨dr R_mirror_corners, (List.forall_mem_cons.mpr ⟨dr R_growth_numbers, (List.forall_mem_cons.mpr ⟨dr R_spots_growth_numbers, (List.forall_mem_cons.mpr ⟨dr R_map_points, (List.forall_mem_cons.mpr ⟨dr R_map_sides, (List.forall_mem_cons.mpr ⟨dr R_map_faces, (List.forall_mem_cons.mpr ⟨dr R_map_handles, (List.forall_mem_cons.mpr ⟨dr R_map_turned, (List.forall_mem_cons.mpr ⟨dr R_map_mirrored, (List.forall_mem_cons.mpr ⟨dr R_map_turns, (List.forall_mem_cons.mpr ⟨dr R_is_even_map, (List.forall_mem_cons.mpr ⟨dr R_is_mirror_alike, (List.forall_mem_cons.mpr ⟨dr R_least_map, (List.forall_mem_cons.mpr ⟨dr R_are_like_maps, (List.forall_mem_nil _)⟩)⟩)⟩)⟩)⟩)⟩)⟩)⟩)⟩)⟩)⟩)⟩)⟩)⟩)⟩)⟩)⟩)⟩)⟩)⟩) 0 (a_cons (e_ix C.hK (o_slot 1) (o_val e_int)) (a_cons (e_ix C.hK (o_slot 1) (o_val e_int)) (a_cons (e_ix C.hK (o_slot 1) (o_val e_int)) (a_cons (e_ix C.hK (o_slot 1) (o_val e_int)) a_nil))))))))))
theorem bi__law_call (kV doc pm : Value) (an : Option Addr) (cdv ct : Value) (us : List Value) (hl : us.length = (["door", "goods_so"] : List Str).length) : bindArgs (PySem.W.fnOf "_law_call" "_law_call" (defArgs s__law_call) (defBody s__law_call) (defScope s__law_call) .none kV doc pm an cdv ct) ⟨us, []⟩ = pure ((["door", "goods_so"] : List Str).zip us) := match us, hl with | [_, _], _ => rfl
abbrev s__law_none_fits : Stmt := topS 83
theorem sc__law_none_fits : FnScope N__law_none_fits ["door", "goods_so", "bads_so"] (defScope s__law_none_fits) := ⟨rfl, rfl, rfl, by decide +kernel, rfl, by decide +kernel, by decide +kernel⟩
set_option maxHeartbeats 0 in
theorem ok__law_none_fits {P : Program} {w : World} {K : PySem.W.Frag} {mg : Str → Option Value} {base : Heap} (z : Gz mg) {C_CanNot C_TooMany C_Unfit : Addr} (y : Gx K mg C_CanNot C_TooMany C_Unfit) (R__law_call : FnR ⟨K, mg, w⟩ P w base "_law_call" s__law_call 11 ["door", "goods_so"] F__law_call) {f : Addr} {fd : FuncData} (Fu : L2.Fun K "_law_none_fits" "_law_none_fits" s__law_none_fits f fd) : FnOk P w K mg base (L2.CX P w) 12 f fd ["door", "goods_so", "bads_so"] (spF ⟨K, mg, w⟩ 3 F__law_none_fits) :=
  fnk (k := 11) (ps := ["door", "goods_so", "bads_so"]) (N := N__law_none_fits) (body := B__law_none_fits) Fu sc__law_none_fits fun cdv A outer s H E C =>
    (s_cons (s_for (vs := [3, 4]) C (passes_of rfl) (i_enum C z.g_enumerate (e_var 2)) (g_tup C.hc C.hK (gs_cons (g_name 3 C.nd) (gs_cons (g_name 4 C.nd) gs_nil))) (s_one (s_for (vs := [5]) C (passes_of rfl) (i_any C (e_var 4)) (g_name 5 C.nd) (s_one (s_for (vs := [6]) C (passes_of rfl) (i_any C (e_tup (a_cons (e_sl C.hK (o_slot 1) (p_some (e_add C.hK (o_slot 3) (o_val e_int))) p_none) (a_cons (e_mulU C.hK (o_val (e_tup (a_cons e_non a_nil))) (o_val (e_sub (o_val (e_sub (o_val (e_len C (o_slot 1) z.g_len)) (o_slot 3))) (o_val e_int)))) a_nil)))) (g_name 6 C.nd) (s_cons (s_asg (vs := [7, 8]) (e_tup (a_cons e_non (a_cons e_non a_nil))) (g_tup C.hc C.hK (gs_cons (g_name 7 C.nd) (gs_cons (g_name 8 C.nd) gs_nil))))
    (s_cons (s_tryA C y.e_Unfit 9 7 (hb := fun W' pn xe C hp => (s_one (s_set C 8 (e_call C R__law_call (a_cons (e_var 0) (a_cons (e_add C.hK (o_val (e_add C.hK (o_val (e_sl C.hK (o_slot 1) p_none (p_some (e_var 3)))) (o_val (e_tup (a_cons (e_var 5) a_nil))))) (o_slot 6)) a_nil)) (by decide))))) (hh := fun a oe pn hz hf => (hb_isi y.e_Unfit.e hz hf (kit_bt z.g_ValueError (by first | rfl | decide +kernel) y.k_Unfit_ValueError) z.g_isinstance)))
    (s_one (s_if (PW.pt (w_or (b_cmp r_isnt v_isnt (o_slot 8) (o_val e_non)) (pw_or1 (b_cmp r_isnt v_isnt (o_slot 7) (o_val e_bl))))) (s_one (s_ret e_bl)) s_nil)))))))))
    (s_one (s_ret e_bl)))
theorem bi__law_none_fits (kV doc pm : Value) (an : Option Addr) (cdv ct : Value) (us : List Value) (hl : us.length = (["door", "goods_so", "bads_so"] : List Str).length) : bindArgs (PySem.W.fnOf "_law_none_fits" "_law_none_fits" (defArgs s__law_none_fits) (defBody s__law_none_fits) (defScope s__law_none_fits) .none kV doc pm an cdv ct) ⟨us, []⟩ = pure ((["door", "goods_so", "bads_so"] : List Str).zip us) := match us, hl with | [_, _, _], _ => rfl
abbrev s_law : Stmt := topS 84
theorem sc_law : FnScope N_law ["script"] (defScope s_law) := ⟨rfl, rfl, rfl, by decide +kernel, rfl, by decide +kernel, by decide +kernel⟩
set_option maxHeartbeats 0 in
theorem ok_law {P : Program} {w : World} {K : PySem.W.Frag} {mg : Str → Option Value} {base : Heap} (z : Gz mg) {C_CanNot C_TooMany C_Unfit : Addr} (y : Gx K mg C_CanNot C_TooMany C_Unfit) (R_map_of_shuffles : FnR ⟨K, mg, w⟩ P w base "map_of_shuffles" s_map_of_shuffles 9 ["one", "other"] F_map_of_shuffles) (R_map_type : FnR ⟨K, mg, w⟩ P w base "map_type" s_map_type 10 ["map_of"] F_map_type) (R_map_leading : FnR ⟨K, mg, w⟩ P w base "map_leading" s_map_leading 10 ["one", "other"] F_map_leading) (R_growth_share : FnR ⟨K, mg, w⟩ P w base "growth_share" s_growth_share 10 ["polygon"] F_growth_share) (R_polygon_size : FnR ⟨K, mg, w⟩ P w base "polygon_size" s_polygon_size 10 ["polygon"] F_polygon_size) (R_worth_at_one : FnR ⟨K, mg, w⟩ P w base "worth_at_one" s_worth_at_one 10 ["polygon"] F_worth_at_one) (R_mirror_corners : FnR ⟨K, mg, w⟩ P w base "mirror_corners" s_mirror_corners 10 ["polygon"] F_mirror_corners) (R_growth_numbers : FnR ⟨K, mg, w⟩ P w base "growth_numbers" s_growth_numbers 10 ["polygon", "many"] F_growth_numbers) (R_spots_growth_numbers : FnR ⟨K, mg, w⟩ P w base "spots_growth_numbers" s_spots_growth_numbers 10 ["polygon", "many"] F_spots_growth_numbers) (R_map_points : FnR ⟨K, mg, w⟩ P w base "map_points" s_map_points 10 ["map_of"] F_map_points) (R_map_faces : FnR ⟨K, mg, w⟩ P w base "map_faces" s_map_faces 10 ["map_of"] F_map_faces) (R_map_turns : FnR ⟨K, mg, w⟩ P w base "map_turns" s_map_turns 10 ["map_of"] F_map_turns) (R_least_map : FnR ⟨K, mg, w⟩ P w base "least_map" s_least_map 10 ["map_of"] F_least_map) (R_map_mirrored : FnR ⟨K, mg, w⟩ P w base "map_mirrored" s_map_mirrored 10 ["map_of"] F_map_mirrored) (R_map_sides : FnR ⟨K, mg, w⟩ P w base "map_sides" s_map_sides 10 ["map_of"] F_map_sides) (R_map_handles : FnR ⟨K, mg, w⟩ P w base "map_handles" s_map_handles 10 ["map_of"] F_map_handles) (R_map_turned : FnR ⟨K, mg, w⟩ P w base "map_turned" s_map_turned 10 ["map_of"] F_map_turned) (R_is_even_map : FnR ⟨K, mg, w⟩ P w base "is_even_map" s_is_even_map 10 ["map_of"] F_is_even_map) (R_is_mirror_alike : FnR ⟨K, mg, w⟩ P w base "is_mirror_alike" s_is_mirror_alike 10 ["map_of"] F_is_mirror_alike) (R_are_like_maps : FnR ⟨K, mg, w⟩ P w base "are_like_maps" s_are_like_maps 10 ["one", "other"] F_are_like_maps) (R__law_box : FnR ⟨K, mg, w⟩ P w base "_law_box" s__law_box 1 ["script", "k"] F__law_box) (R__law_pick : FnR ⟨K, mg, w⟩ P w base "_law_pick" s__law_pick 2 ["tin", "goods_so", "count_so"] F__law_pick) (R__law_cells : FnR ⟨K, mg, w⟩ P w base "_law_cells" s__law_cells 1 ["script", "most_so"] F__law_cells) (R_is_map : FnR ⟨K, mg, w⟩ P w base "is_map" s_is_map 5 ["thing"] F_is_map) (R__law_same : FnR ⟨K, mg, w⟩ P w base "_law_same" s__law_same 8 ["got", "due"] (F__law_same 8)) (R__law_none_fits : FnR ⟨K, mg, w⟩ P w base "_law_none_fits" s__law_none_fits 12 ["door", "goods_so", "bads_so"] F__law_none_fits) (R__law_call : FnR ⟨K, mg, w⟩ P w base "_law_call" s__law_call 11 ["door", "goods_so"] F__law_call) {f : Addr} {fd : FuncData} (Fu : L2.Fun K "law" "law" s_law f fd) : FnOk P w K mg base (L2.CX P w) 13 f fd ["script"] (spF ⟨K, mg, w⟩ 1 F_law) :=
  fnk (k := 12) (ps := ["script"]) (N := N_law) (body := B_law) Fu sc_law fun cdv A outer s H E C =>
    (s_cons (s_set C 1 (e_call C R__law_box (a_cons (e_call C R__law_cells (a_cons (e_var 0) (a_cons e_int a_nil)) (by decide)) (a_cons e_int a_nil)) (by decide)))
    (s_cons (s_set C 2 (e_ofL (l_lst (a_cons e_non (a_cons e_int (a_cons (e_tup a_nil) (a_cons (e_tup (a_cons e_int (a_cons e_int a_nil))) (a_cons (e_mulU C.hK (o_val (e_tup (a_cons e_int a_nil))) (o_val e_int)) (a_cons (e_tup (a_cons e_int (a_cons e_int (a_cons e_int a_nil)))) (a_cons (e_tup (a_cons e_int (a_cons e_int (a_cons e_int a_nil)))) (a_cons (e_tup (a_cons e_int (a_cons e_int (a_cons (e_neg (o_val e_int)) a_nil)))) (a_cons (e_tup (a_cons e_int (a_cons e_int (a_cons e_int a_nil)))) (a_cons (e_tup (a_cons e_bl (a_cons e_int (a_cons e_int a_nil)))) (a_cons (e_tup (a_cons e_int (a_cons e_int (a_cons e_str a_nil)))) (a_cons (e_tup (a_cons e_int (a_cons e_int (a_cons e_int a_nil)))) a_nil)))))))))))))))
    (s_cons (s_asg (vs := [10, 11]) (e_tup (a_cons (e_tup (a_cons (e_tup (a_cons e_int (a_cons e_int (a_cons e_int (a_cons e_int a_nil))))) (a_cons (e_tup (a_cons e_int (a_cons e_int (a_cons e_int (a_cons e_int a_nil))))) a_nil))) (a_cons (e_tup (a_cons (e_tup (a_cons e_int (a_cons e_int (a_cons e_int (a_cons e_int a_nil))))) (a_cons (e_tup (a_cons e_int (a_cons e_int (a_cons e_int (a_cons e_int a_nil))))) a_nil))) a_nil))) (g_tup C.hc C.hK (gs_cons (g_name 10 C.nd) (gs_cons (g_name 11 C.nd) gs_nil))))
    (s_cons (s_set C 3 (e_tuple1 C (o_val (e_ofL (l_lcM (N := N_law) (own := [("k", 18)]) C rfl (i_r1 C z.g_range e_int) rfl rfl (by decide +kernel) (by decide +kernel) (by decide +kernel) (by repeat (first | exact List.forall_mem_nil _ | refine List.forall_mem_cons.mpr ⟨by first | (intro _; exact Or.inl rfl) | (intro _; exact Or.inr rfl) | (intro h; cases h; done), ?_⟩)) (fun s H A cl fp => (g_name 18 C.nd)) (fun s H A cl fp C => ts_nil) (fun s H A cl fp C => (e_sub (o_val (e_add C.hK (o_slot 18) (o_val e_int))) (o_val (e_mul C.hK (o_val e_int) (o_val (e_mod (o_slot 18) (o_val e_int)))))))))) z.g_tuple))
    (s_cons (s_set C 4 (e_ofL (l_lst (a_cons e_non (a_cons e_int (a_cons (e_tup a_nil) (a_cons (e_sl C.hK (o_slot 10) p_none (p_some e_int)) (a_cons (e_add C.hK (o_slot 10) (o_val (e_sl C.hK (o_slot 10) p_none (p_some e_int)))) (a_cons (e_tup (a_cons (e_tup (a_cons e_int a_nil)) (a_cons (e_tup (a_cons e_int a_nil)) a_nil))) (a_cons (e_tup (a_cons (e_tup (a_cons e_int (a_cons e_int a_nil))) (a_cons (e_tup (a_cons e_int (a_cons e_int a_nil))) a_nil))) (a_cons (e_tup (a_cons (e_tup (a_cons e_int (a_cons e_int (a_cons e_int (a_cons e_int a_nil))))) (a_cons (e_tup (a_cons e_int (a_cons e_int (a_cons e_int (a_cons e_int a_nil))))) a_nil))) (a_cons (e_tup (a_cons (e_tup (a_cons e_int (a_cons e_int (a_cons e_int (a_cons e_int a_nil))))) (a_cons (e_tup (a_cons e_int (a_cons e_int (a_cons e_int (a_cons e_int a_nil))))) a_nil))) (a_cons (e_tup (a_cons (e_tup (a_cons e_int (a_cons e_int a_nil))) (a_cons (e_tup (a_cons e_int (a_cons e_int (a_cons e_int a_nil)))) a_nil))) (a_cons (e_tup (a_cons (e_tup (a_cons e_bl (a_cons e_int a_nil))) (a_cons (e_tup (a_cons e_int (a_cons e_int a_nil))) a_nil))) (a_cons (e_tup (a_cons (e_add C.hK (o_val (e_tupR2 C z.g_tuple z.g_range e_int e_int)) (o_val (e_tup (a_cons e_int a_nil)))) (a_cons (e_var 3) a_nil))) (a_cons (e_tup (a_cons (e_tup (a_cons e_int (a_cons e_int (a_cons e_int a_nil)))) (a_cons (e_tup (a_cons e_int (a_cons e_int (a_cons e_int a_nil)))) a_nil))) a_nil))))))))))))))))
    (s_cons (s_setLcN (N := N_law) (sc := (defScope s_law)) (own := [("own", 17)]) C 5 rfl (i_any C (e_tup (a_cons (e_globF C R_growth_share.ex.choose_spec.choose_spec.1) (a_cons (e_globF C R_polygon_size.ex.choose_spec.choose_spec.1) (a_cons (e_globF C R_worth_at_one.ex.choose_spec.choose_spec.1) (a_cons (e_globF C R_mirror_corners.ex.choose_spec.choose_spec.1) a_nil)))))) rfl rfl ⟨rfl, by decide +kernel, by decide +kernel, by decide +kernel, by decide +kernel⟩ (fun s H A cl fp => (g_name 17 C.nd)) (fun s H A cl fp C => ts_nil) (fun s H A cl fp C => (e_tup (a_cons (e_var 17) (a_cons (e_tup (a_cons (e_tup (a_cons e_int (a_cons e_int (a_cons e_int a_nil)))) a_nil)) (a_cons (e_ofL (l_lst (a_cons (e_var 2) a_nil))) a_nil))))))
    (s_cons (s_setL C 5 (l_add (o_slot 5) (o_val (e_ofL (l_lst (a_cons (e_tup (a_cons (e_globF C R_growth_numbers.ex.choose_spec.choose_spec.1) (a_cons (e_tup (a_cons (e_tup (a_cons e_int (a_cons e_int (a_cons e_int a_nil)))) (a_cons e_int a_nil))) (a_cons (e_ofL (l_lst (a_cons (e_var 2) (a_cons (e_ofL (l_lst (a_cons (e_neg (o_val e_int)) (a_cons e_int (a_cons e_bl (a_cons e_non a_nil)))))) a_nil)))) a_nil)))) (a_cons (e_tup (a_cons (e_globF C R_spots_growth_numbers.ex.choose_spec.choose_spec.1) (a_cons (e_tup (a_cons (e_tup (a_cons e_int (a_cons e_int (a_cons e_int a_nil)))) (a_cons e_int a_nil))) (a_cons (e_ofL (l_lst (a_cons (e_var 2) (a_cons (e_ofL (l_lst (a_cons (e_neg (o_val e_int)) (a_cons e_int (a_cons e_bl (a_cons e_non a_nil)))))) a_nil)))) a_nil)))) a_nil)))))))
    (s_cons (s_setL C 5 (l_add (o_slot 5) (o_val (e_ofL (l_lcM (N := N_law) (own := [("own", 17)]) C rfl (i_any C (e_tup (a_cons (e_globF C R_map_points.ex.choose_spec.choose_spec.1) (a_cons (e_globF C R_map_sides.ex.choose_spec.choose_spec.1) (a_cons (e_globF C R_map_faces.ex.choose_spec.choose_spec.1) (a_cons (e_globF C R_map_handles.ex.choose_spec.choose_spec.1) (a_cons (e_globF C R_map_type.ex.choose_spec.choose_spec.1) (a_cons (e_globF C R_map_turned.ex.choose_spec.choose_spec.1) (a_cons (e_globF C R_map_mirrored.ex.choose_spec.choose_spec.1) (a_cons (e_globF C R_map_turns.ex.choose_spec.choose_spec.1) (a_cons (e_globF C R_is_even_map.ex.choose_spec.choose_spec.1) (a_cons (e_globF C R_is_mirror_alike.ex.choose_spec.choose_spec.1) (a_cons (e_globF C R_least_map.ex.choose_spec.choose_spec.1) a_nil))))))))))))) rfl rfl (by decide +kernel) (by decide +kernel) (by decide +kernel) (by repeat (first | exact List.forall_mem_nil _ | refine List.forall_mem_cons.mpr ⟨by first | (intro _; exact Or.inl rfl) | (intro _; exact Or.inr rfl) | (intro h; cases h; done), ?_⟩)) (fun s H A cl fp => (g_name 17 C.nd)) (fun s H A cl fp C => ts_nil) (fun s H A cl fp C => (e_tup (a_cons (e_var 17) (a_cons (e_tup (a_cons (e_var 10) a_nil)) (a_cons (e_ofL (l_lst (a_cons (e_var 4) a_nil))) a_nil))))))))))
    (s_cons (s_setL C 5 (l_add (o_slot 5) (o_val (e_ofL (l_lcM (N := N_law) (own := [("own", 17)]) C rfl (i_any C (e_tup (a_cons (e_globF C R_are_like_maps.ex.choose_spec.choose_spec.1) (a_cons (e_globF C R_map_leading.ex.choose_spec.choose_spec.1) a_nil)))) rfl rfl (by decide +kernel) (by decide +kernel) (by decide +kernel) (by repeat (first | exact List.forall_mem_nil _ | refine List.forall_mem_cons.mpr ⟨by first | (intro _; exact Or.inl rfl) | (intro _; exact Or.inr rfl) | (intro h; cases h; done), ?_⟩)) (fun s H A cl fp => (g_name 17 C.nd)) (fun s H A cl fp C => ts_nil) (fun s H A cl fp C => (e_tup (a_cons (e_var 17) (a_cons (e_tup (a_cons (e_var 10) (a_cons (e_var 10) a_nil))) (a_cons (e_ofL (l_lst (a_cons (e_var 4) (a_cons (e_var 4) a_nil)))) a_nil))))))))))
    (s_cons (s_set C 6 (e_ofL (l_lst (a_cons e_non (a_cons (e_tup a_nil) (a_cons (e_tup (a_cons e_int (a_cons e_int a_nil))) (a_cons (e_tup (a_cons e_int (a_cons e_int (a_cons e_int a_nil)))) (a_cons (e_tup (a_cons e_bl (a_cons e_int a_nil))) (a_cons e_int (a_cons (e_tupR1 C z.g_tuple z.g_range e_int) a_nil))))))))))
    (s_cons (s_expr (e_app (o_slot 5) (e_tup (a_cons (e_globF C R_map_of_shuffles.ex.choose_spec.choose_spec.1) (a_cons (e_tup (a_cons (e_tup (a_cons e_int (a_cons e_int (a_cons e_int a_nil)))) (a_cons (e_tup (a_cons e_int (a_cons e_int (a_cons e_int a_nil)))) a_nil))) (a_cons (e_ofL (l_lst (a_cons (e_add C.hK (o_slot 6) (o_val (e_ofL (l_lst (a_cons (e_tup (a_cons e_int (a_cons e_int a_nil))) a_nil))))) (a_cons (e_add C.hK (o_slot 6) (o_val (e_ofL (l_lst (a_cons (e_tup (a_cons e_int (a_cons e_int a_nil))) a_nil))))) a_nil)))) a_nil))))))
    (s_cons (s_for (vs := [12, 13, 14]) C (passes_of rfl) (i_any C (e_call C R__law_pick (a_cons (e_var 1) (a_cons (e_var 5) (a_cons (e_len C (o_slot 5) z.g_len) a_nil))) (by decide))) (g_tup C.hc C.hK (gs_cons (g_name 12 C.nd) (gs_cons (g_name 13 C.nd) (gs_cons (g_name 14 C.nd) gs_nil)))) (s_one (s_if (b_not (b_tru C (o_val (e_call C R__law_none_fits (a_cons (e_var 12) (a_cons (e_var 13) (a_cons (e_var 14) a_nil))) (by decide))))) (s_one (s_ret e_bl)) s_nil)))
    (s_cons (s_setL C 7 (l_lst a_nil))
    (s_cons (s_for (vs := [12, 13]) C (passes_of rfl) (i_any C (e_tup (a_cons (e_tup (a_cons (e_globF C R_map_type.ex.choose_spec.choose_spec.1) (a_cons (e_tup (a_cons (e_var 11) a_nil)) a_nil))) (a_cons (e_tup (a_cons (e_globF C R_map_leading.ex.choose_spec.choose_spec.1) (a_cons (e_tup (a_cons (e_var 10) (a_cons (e_var 11) a_nil))) a_nil))) (a_cons (e_tup (a_cons (e_globF C R_map_leading.ex.choose_spec.choose_spec.1) (a_cons (e_tup (a_cons (e_var 11) (a_cons (e_tup (a_cons (e_tup (a_cons e_int (a_cons e_int a_nil))) (a_cons (e_tup (a_cons e_int (a_cons e_int a_nil))) a_nil))) a_nil))) a_nil))) (a_cons (e_tup (a_cons (e_globF C R_map_of_shuffles.ex.choose_spec.choose_spec.1) (a_cons (e_tup (a_cons (e_tup (a_cons e_int (a_cons e_int (a_cons e_int a_nil)))) (a_cons (e_tup (a_cons e_int (a_cons e_int (a_cons e_int a_nil)))) a_nil))) a_nil))) (a_cons (e_tup (a_cons (e_globF C R_map_of_shuffles.ex.choose_spec.choose_spec.1) (a_cons (e_tup (a_cons (e_tup (a_cons e_int (a_cons e_int a_nil))) (a_cons (e_tup (a_cons e_int (a_cons e_int a_nil))) a_nil))) a_nil))) (a_cons (e_tup (a_cons (e_globF C R_map_of_shuffles.ex.choose_spec.choose_spec.1) (a_cons (e_tup (a_cons (e_tup (a_cons e_int (a_cons e_int (a_cons e_int (a_cons e_int (a_cons e_int a_nil)))))) (a_cons (e_tup (a_cons e_int (a_cons e_int (a_cons e_int (a_cons e_int (a_cons e_int a_nil)))))) a_nil))) a_nil))) a_nil)))))))) (g_tup C.hc C.hK (gs_cons (g_name 12 C.nd) (gs_cons (g_name 13 C.nd) gs_nil))) (s_one (s_tryP C y.e_CanNot 15 7 (hb := fun W' pn xe C hp => (s_one (s_expr (e_call C R__law_call (a_cons (e_var 12) (a_cons (e_var 13) a_nil)) (by decide))))) (hh := fun a oe pn hz hf => (hb_not (b := false) (hb_isi y.e_CanNot.e hz hf (kit_cl y.e_Unfit.g y.k_CanNot_Unfit) z.g_isinstance))))))
    (s_cons (s_tryP C y.e_TooMany 16 7 (hb := fun W' pn xe C hp => (s_one (s_expr (e_call C R_map_of_shuffles (a_cons (e_tup (a_cons e_int (a_cons e_int (a_cons e_int (a_cons e_int (a_cons e_int a_nil)))))) (a_cons (e_tup (a_cons e_int (a_cons e_int (a_cons e_int (a_cons e_int (a_cons e_int a_nil)))))) a_nil)) (by decide))))) (hh := fun a oe pn hz hf => (hb_not (b := false) (hb_isi y.e_TooMany.e hz hf (kit_cl y.e_Unfit.g y.k_TooMany_Unfit) z.g_isinstance))))
    (s_cons (s_set C 8 (e_ofL (l_lst (a_cons (e_call C R_is_map (a_cons (e_tup (a_cons (e_add C.hK (o_val (e_tupR2 C z.g_tuple z.g_range e_int e_int)) (o_val (e_tup (a_cons e_int a_nil)))) (a_cons (e_var 3) a_nil))) a_nil) (by decide)) (a_cons (e_call C R_is_map (a_cons (e_var 10) a_nil) (by decide)) (a_cons (e_call C R_is_map (a_cons (e_ofL (l_list1 C (o_slot 10) z.g_list)) a_nil) (by decide)) (a_cons (e_call C R_is_map (a_cons (e_tup (a_cons (e_tup (a_cons e_int (a_cons e_int a_nil))) (a_cons (e_tup (a_cons e_int (a_cons e_int a_nil))) a_nil))) a_nil) (by decide)) a_nil)))))))
    (s_cons (s_set C 8 (e_add C.hK (o_slot 8) (o_val (e_ofL (l_lst (a_cons (e_call C R_growth_share (a_cons (e_tup (a_cons e_int (a_cons e_int (a_cons e_int a_nil)))) a_nil) (by decide)) (a_cons (e_call C R_growth_share (a_cons (e_tup (a_cons e_int (a_cons e_int (a_cons e_int (a_cons e_int a_nil))))) a_nil) (by decide)) (a_cons (e_call C R_polygon_size (a_cons (e_tup (a_cons e_int (a_cons e_int (a_cons e_int a_nil)))) a_nil) (by decide)) (a_cons (e_call C R_polygon_size (a_cons (e_tup (a_cons e_int (a_cons e_int (a_cons e_int a_nil)))) a_nil) (by decide)) (a_cons (e_call C R_polygon_size (a_cons (e_tup (a_cons e_int (a_cons e_int (a_cons e_int a_nil)))) a_nil) (by decide)) (a_cons (e_call C R_worth_at_one (a_cons (e_tup (a_cons e_int (a_cons e_int (a_cons e_int a_nil)))) a_nil) (by decide)) (a_cons (e_call C R_worth_at_one (a_cons (e_tup (a_cons e_int (a_cons e_int (a_cons e_int (a_cons e_int (a_cons e_int (a_cons e_int a_nil))))))) a_nil) (by decide)) (a_cons (e_call C R_mirror_corners (a_cons (e_tup (a_cons e_int (a_cons e_int (a_cons e_int a_nil)))) a_nil) (by decide)) a_nil)))))))))))))
    (s_cons (s_set C 9 (e_ofL (l_lst (a_cons e_bl (a_cons e_bl (a_cons e_bl (a_cons e_bl (a_cons (e_tup (a_cons (e_tup (a_cons e_int (a_cons e_int a_nil))) (a_cons (e_tup (a_cons e_int (a_cons (e_neg (o_val e_int)) a_nil))) a_nil))) (a_cons (e_tup (a_cons (e_tup (a_cons e_int (a_cons e_int (a_cons e_int a_nil)))) (a_cons (e_tup (a_cons e_int (a_cons (e_neg (o_val e_int)) (a_cons e_int a_nil)))) a_nil))) (a_cons e_int (a_cons e_non (a_cons e_int (a_cons (e_tup (a_cons (e_neg (o_val e_int)) (a_cons e_int a_nil))) (a_cons (e_tup (a_cons (e_neg (o_val e_int)) (a_cons e_int a_nil))) (a_cons (e_ofL (l_lst (a_cons (e_tup a_nil) (a_cons (e_tup (a_cons e_int a_nil)) (a_cons (e_tup (a_cons e_int (a_cons e_int a_nil))) (a_cons (e_tup (a_cons e_int (a_cons e_int a_nil))) (a_cons (e_tup (a_cons e_int a_nil)) (a_cons (e_tup (a_cons e_int a_nil)) a_nil)))))))) a_nil)))))))))))))))
    (s_cons (s_set C 8 (e_add C.hK (o_slot 8) (o_val (e_ofL (l_lst (a_cons (e_call C R_map_points (a_cons (e_var 11) a_nil) (by decide)) (a_cons (e_call C R_map_faces (a_cons (e_var 11) a_nil) (by decide)) (a_cons (e_call C R_map_type (a_cons (e_var 10) a_nil) (by decide)) (a_cons (e_call C R_map_turns (a_cons (e_var 11) a_nil) (by decide)) (a_cons (e_call C R_least_map (a_cons (e_var 11) a_nil) (by decide)) (a_cons (e_call C R_map_mirrored (a_cons (e_var 10) a_nil) (by decide)) (a_cons (e_call C R_map_of_shuffles (a_cons (e_tup (a_cons e_int (a_cons e_int (a_cons e_int a_nil)))) (a_cons (e_tup (a_cons e_int (a_cons e_int (a_cons e_int a_nil)))) a_nil)) (by decide)) a_nil))))))))))))
    (s_cons (s_set C 9 (e_add C.hK (o_slot 9) (o_val (e_ofL (l_lst (a_cons (e_ofL (l_lst (a_cons (e_tup (a_cons e_int a_nil)) (a_cons (e_tup (a_cons e_int (a_cons e_int a_nil))) (a_cons (e_tup (a_cons e_int a_nil)) a_nil))))) (a_cons (e_ofL (l_lst (a_cons (e_tup (a_cons e_int (a_cons e_int (a_cons e_int (a_cons e_int a_nil))))) a_nil))) (a_cons (e_tup (a_cons e_int (a_cons e_int a_nil))) (a_cons (e_ofL (l_lst (a_cons (e_tup (a_cons e_int (a_cons e_int (a_cons e_int (a_cons e_int a_nil))))) (a_cons (e_tup (a_cons e_int (a_cons e_int (a_cons e_int (a_cons e_int a_nil))))) a_nil)))) (a_cons (e_var 11) (a_cons (e_tup (a_cons (e_tup (a_cons e_int (a_cons e_int (a_cons e_int (a_cons e_int a_nil))))) (a_cons (e_tup (a_cons e_int (a_cons e_int (a_cons e_int (a_cons e_int a_nil))))) a_nil))) (a_cons (e_tup (a_cons (e_tup (a_cons e_int (a_cons e_int (a_cons e_int (a_cons e_int (a_cons e_int (a_cons e_int a_nil))))))) (a_cons (e_tup (a_cons e_int (a_cons e_int (a_cons e_int (a_cons e_int (a_cons e_int (a_cons e_int a_nil))))))) a_nil))) a_nil))))))))))))
    (s_one (s_ret (e_and (e_cmp (op_eqD C.rm.units) (v_eq C.hK) (o_slot 7) (o_val (e_ofL (l_mul (o_val (e_ofL (l_lst (a_cons e_bl a_nil)))) (o_val e_int))))) (pe_one (e_call C R__law_same (a_cons (e_var 8) (a_cons (e_var 9) a_nil)) (by decide))))))))))))))))))))))))))
theorem bi_law (kV doc pm : Value) (an : Option Addr) (cdv ct : Value) (us : List Value) (hl : us.length = (["script"] : List Str).length) : bindArgs (PySem.W.fnOf "law" "law" (defArgs s_law) (defBody s_law) (defScope s_law) .none kV doc pm an cdv ct) ⟨us, []⟩ = pure ((["script"] : List Str).zip us) := match us, hl with | [_], _ => rfl
/-- from what the top has written -/
theorem all_mk {l : PySem.W.OpenLaw} {w : World} {K : PySem.W.Frag} {h : Heap} {mg : Str → Option Value} {fa : Addr} (hlaw : ∀ ns : List Int, ns.length ≤ 63 → ∃ hp, F_law [.scr (ns.map .int)] [] = .ok (.bl true) hp) (X : K.In h) (G : h.Ns mainGlobals mg) (hfa : mg "law" = some (.ref fa))
    {f0 : Addr} {oc0 kV0 dc0 pm0 cd0 ct0 : Value} {od0 an0 : Option Addr} {sl0 : Array (Option Value)} (a0 : PySem.W.nsIn K mainGlobals "then" = some (some (.ref f0)))
    (l0 : K.lookup f0 = some ⟨oc0, od0, .func (PySem.W.fnOf "then" "then" (defArgs s_then) (defBody s_then) (defScope s_then) .none kV0 dc0 pm0 an0 cd0 ct0), sl0⟩) (c0 : PySem.W.codeIn K cd0 "then" = true) (k0 : PySem.W.keepIn K (.ref f0) = true)
    {f1 : Addr} {oc1 kV1 dc1 pm1 cd1 ct1 : Value} {od1 an1 : Option Addr} {sl1 : Array (Option Value)} (a1 : PySem.W.nsIn K mainGlobals "made_from" = some (some (.ref f1)))
    (l1 : K.lookup f1 = some ⟨oc1, od1, .func (PySem.W.fnOf "made_from" "made_from" (defArgs s_made_from) (defBody s_made_from) (defScope s_made_from) .none kV1 dc1 pm1 an1 cd1 ct1), sl1⟩) (c1 : PySem.W.codeIn K cd1 "made_from" = true) (k1 : PySem.W.keepIn K (.ref f1) = true)
    {f2 : Addr} {oc2 kV2 dc2 pm2 cd2 ct2 : Value} {od2 an2 : Option Addr} {sl2 : Array (Option Value)} (a2 : PySem.W.nsIn K mainGlobals "tupled" = some (some (.ref f2)))
    (l2 : K.lookup f2 = some ⟨oc2, od2, .func (PySem.W.fnOf "tupled" "tupled" (defArgs s_tupled) (defBody s_tupled) (defScope s_tupled) .none kV2 dc2 pm2 an2 cd2 ct2), sl2⟩) (c2 : PySem.W.codeIn K cd2 "tupled" = true) (k2 : PySem.W.keepIn K (.ref f2) = true)
    {f3 : Addr} {oc3 kV3 dc3 pm3 cd3 ct3 : Value} {od3 an3 : Option Addr} {sl3 : Array (Option Value)} (a3 : PySem.W.nsIn K mainGlobals "is_long" = some (some (.ref f3)))
    (l3 : K.lookup f3 = some ⟨oc3, od3, .func (PySem.W.fnOf "is_long" "is_long" (defArgs s_is_long) (defBody s_is_long) (defScope s_is_long) .none kV3 dc3 pm3 an3 cd3 ct3), sl3⟩) (c3 : PySem.W.codeIn K cd3 "is_long" = true) (k3 : PySem.W.keepIn K (.ref f3) = true)
    {f4 : Addr} {oc4 kV4 dc4 pm4 cd4 ct4 : Value} {od4 an4 : Option Addr} {sl4 : Array (Option Value)} (a4 : PySem.W.nsIn K mainGlobals "is_number" = some (some (.ref f4)))
    (l4 : K.lookup f4 = some ⟨oc4, od4, .func (PySem.W.fnOf "is_number" "is_number" (defArgs s_is_number) (defBody s_is_number) (defScope s_is_number) .none kV4 dc4 pm4 an4 cd4 ct4), sl4⟩) (c4 : PySem.W.codeIn K cd4 "is_number" = true) (k4 : PySem.W.keepIn K (.ref f4) = true)
    {f5 : Addr} {oc5 kV5 dc5 pm5 cd5 ct5 : Value} {od5 an5 : Option Addr} {sl5 : Array (Option Value)} (a5 : PySem.W.nsIn K mainGlobals "are_numbers" = some (some (.ref f5)))
    (l5 : K.lookup f5 = some ⟨oc5, od5, .func (PySem.W.fnOf "are_numbers" "are_numbers" (defArgs s_are_numbers) (defBody s_are_numbers) (defScope s_are_numbers) .none kV5 dc5 pm5 an5 cd5 ct5), sl5⟩) (c5 : PySem.W.codeIn K cd5 "are_numbers" = true) (k5 : PySem.W.keepIn K (.ref f5) = true)
    {f6 : Addr} {oc6 kV6 dc6 pm6 cd6 ct6 : Value} {od6 an6 : Option Addr} {sl6 : Array (Option Value)} (a6 : PySem.W.nsIn K mainGlobals "is_shuffle_of" = some (some (.ref f6)))
    (l6 : K.lookup f6 = some ⟨oc6, od6, .func (PySem.W.fnOf "is_shuffle_of" "is_shuffle_of" (defArgs s_is_shuffle_of) (defBody s_is_shuffle_of) (defScope s_is_shuffle_of) .none kV6 dc6 pm6 an6 cd6 ct6), sl6⟩) (c6 : PySem.W.codeIn K cd6 "is_shuffle_of" = true) (k6 : PySem.W.keepIn K (.ref f6) = true)
    {f7 : Addr} {oc7 kV7 dc7 pm7 cd7 ct7 : Value} {od7 an7 : Option Addr} {sl7 : Array (Option Value)} (a7 : PySem.W.nsIn K mainGlobals "is_group_in" = some (some (.ref f7)))
    (l7 : K.lookup f7 = some ⟨oc7, od7, .func (PySem.W.fnOf "is_group_in" "is_group_in" (defArgs s_is_group_in) (defBody s_is_group_in) (defScope s_is_group_in) .none kV7 dc7 pm7 an7 cd7 ct7), sl7⟩) (c7 : PySem.W.codeIn K cd7 "is_group_in" = true) (k7 : PySem.W.keepIn K (.ref f7) = true)
    {f8 : Addr} {oc8 kV8 dc8 pm8 cd8 ct8 : Value} {od8 an8 : Option Addr} {sl8 : Array (Option Value)} (a8 : PySem.W.nsIn K mainGlobals "turns_of" = some (some (.ref f8)))
    (l8 : K.lookup f8 = some ⟨oc8, od8, .func (PySem.W.fnOf "turns_of" "turns_of" (defArgs s_turns_of) (defBody s_turns_of) (defScope s_turns_of) .none kV8 dc8 pm8 an8 cd8 ct8), sl8⟩) (c8 : PySem.W.codeIn K cd8 "turns_of" = true) (k8 : PySem.W.keepIn K (.ref f8) = true)
    {f9 : Addr} {oc9 kV9 dc9 pm9 cd9 ct9 : Value} {od9 an9 : Option Addr} {sl9 : Array (Option Value)} (a9 : PySem.W.nsIn K mainGlobals "map_of_shuffles" = some (some (.ref f9)))
    (l9 : K.lookup f9 = some ⟨oc9, od9, .func (PySem.W.fnOf "map_of_shuffles" "map_of_shuffles" (defArgs s_map_of_shuffles) (defBody s_map_of_shuffles) (defScope s_map_of_shuffles) .none kV9 dc9 pm9 an9 cd9 ct9), sl9⟩) (c9 : PySem.W.codeIn K cd9 "map_of_shuffles" = true) (k9 : PySem.W.keepIn K (.ref f9) = true)
    {f10 : Addr} {oc10 kV10 dc10 pm10 cd10 ct10 : Value} {od10 an10 : Option Addr} {sl10 : Array (Option Value)} (a10 : PySem.W.nsIn K mainGlobals "comes_to_all" = some (some (.ref f10)))
    (l10 : K.lookup f10 = some ⟨oc10, od10, .func (PySem.W.fnOf "comes_to_all" "comes_to_all" (defArgs s_comes_to_all) (defBody s_comes_to_all) (defScope s_comes_to_all) .none kV10 dc10 pm10 an10 cd10 ct10), sl10⟩) (c10 : PySem.W.codeIn K cd10 "comes_to_all" = true) (k10 : PySem.W.keepIn K (.ref f10) = true)
    {f11 : Addr} {oc11 kV11 dc11 pm11 cd11 ct11 : Value} {od11 an11 : Option Addr} {sl11 : Array (Option Value)} (a11 : PySem.W.nsIn K mainGlobals "is_map_in" = some (some (.ref f11)))
    (l11 : K.lookup f11 = some ⟨oc11, od11, .func (PySem.W.fnOf "is_map_in" "is_map_in" (defArgs s_is_map_in) (defBody s_is_map_in) (defScope s_is_map_in) .none kV11 dc11 pm11 an11 cd11 ct11), sl11⟩) (c11 : PySem.W.codeIn K cd11 "is_map_in" = true) (k11 : PySem.W.keepIn K (.ref f11) = true)
    {f12 : Addr} {oc12 kV12 dc12 pm12 cd12 ct12 : Value} {od12 an12 : Option Addr} {sl12 : Array (Option Value)} (a12 : PySem.W.nsIn K mainGlobals "sure_map" = some (some (.ref f12)))
    (l12 : K.lookup f12 = some ⟨oc12, od12, .func (PySem.W.fnOf "sure_map" "sure_map" (defArgs s_sure_map) (defBody s_sure_map) (defScope s_sure_map) .none kV12 dc12 pm12 an12 cd12 ct12), sl12⟩) (c12 : PySem.W.codeIn K cd12 "sure_map" = true) (k12 : PySem.W.keepIn K (.ref f12) = true)
    {f13 : Addr} {oc13 kV13 dc13 pm13 cd13 ct13 : Value} {od13 an13 : Option Addr} {sl13 : Array (Option Value)} (a13 : PySem.W.nsIn K mainGlobals "rounds_of" = some (some (.ref f13)))
    (l13 : K.lookup f13 = some ⟨oc13, od13, .func (PySem.W.fnOf "rounds_of" "rounds_of" (defArgs s_rounds_of) (defBody s_rounds_of) (defScope s_rounds_of) .none kV13 dc13 pm13 an13 cd13 ct13), sl13⟩) (c13 : PySem.W.codeIn K cd13 "rounds_of" = true) (k13 : PySem.W.keepIn K (.ref f13) = true)
    {f14 : Addr} {oc14 kV14 dc14 pm14 cd14 ct14 : Value} {od14 an14 : Option Addr} {sl14 : Array (Option Value)} (a14 : PySem.W.nsIn K mainGlobals "faced" = some (some (.ref f14)))
    (l14 : K.lookup f14 = some ⟨oc14, od14, .func (PySem.W.fnOf "faced" "faced" (defArgs s_faced) (defBody s_faced) (defScope s_faced) .none kV14 dc14 pm14 an14 cd14 ct14), sl14⟩) (c14 : PySem.W.codeIn K cd14 "faced" = true) (k14 : PySem.W.keepIn K (.ref f14) = true)
    {f15 : Addr} {oc15 kV15 dc15 pm15 cd15 ct15 : Value} {od15 an15 : Option Addr} {sl15 : Array (Option Value)} (a15 : PySem.W.nsIn K mainGlobals "map_type" = some (some (.ref f15)))
    (l15 : K.lookup f15 = some ⟨oc15, od15, .func (PySem.W.fnOf "map_type" "map_type" (defArgs s_map_type) (defBody s_map_type) (defScope s_map_type) .none kV15 dc15 pm15 an15 cd15 ct15), sl15⟩) (c15 : PySem.W.codeIn K cd15 "map_type" = true) (k15 : PySem.W.keepIn K (.ref f15) = true)
    {f16 : Addr} {oc16 kV16 dc16 pm16 cd16 ct16 : Value} {od16 an16 : Option Addr} {sl16 : Array (Option Value)} (a16 : PySem.W.nsIn K mainGlobals "led_from" = some (some (.ref f16)))
    (l16 : K.lookup f16 = some ⟨oc16, od16, .func (PySem.W.fnOf "led_from" "led_from" (defArgs s_led_from) (defBody s_led_from) (defScope s_led_from) .none kV16 dc16 pm16 an16 cd16 ct16), sl16⟩) (c16 : PySem.W.codeIn K cd16 "led_from" = true) (k16 : PySem.W.keepIn K (.ref f16) = true)
    {f17 : Addr} {oc17 kV17 dc17 pm17 cd17 ct17 : Value} {od17 an17 : Option Addr} {sl17 : Array (Option Value)} (a17 : PySem.W.nsIn K mainGlobals "leadings" = some (some (.ref f17)))
    (l17 : K.lookup f17 = some ⟨oc17, od17, .func (PySem.W.fnOf "leadings" "leadings" (defArgs s_leadings) (defBody s_leadings) (defScope s_leadings) .none kV17 dc17 pm17 an17 cd17 ct17), sl17⟩) (c17 : PySem.W.codeIn K cd17 "leadings" = true) (k17 : PySem.W.keepIn K (.ref f17) = true)
    {f18 : Addr} {oc18 kV18 dc18 pm18 cd18 ct18 : Value} {od18 an18 : Option Addr} {sl18 : Array (Option Value)} (a18 : PySem.W.nsIn K mainGlobals "map_leading" = some (some (.ref f18)))
    (l18 : K.lookup f18 = some ⟨oc18, od18, .func (PySem.W.fnOf "map_leading" "map_leading" (defArgs s_map_leading) (defBody s_map_leading) (defScope s_map_leading) .none kV18 dc18 pm18 an18 cd18 ct18), sl18⟩) (c18 : PySem.W.codeIn K cd18 "map_leading" = true) (k18 : PySem.W.keepIn K (.ref f18) = true)
    {f19 : Addr} {oc19 kV19 dc19 pm19 cd19 ct19 : Value} {od19 an19 : Option Addr} {sl19 : Array (Option Value)} (a19 : PySem.W.nsIn K mainGlobals "is_finite_polygon" = some (some (.ref f19)))
    (l19 : K.lookup f19 = some ⟨oc19, od19, .func (PySem.W.fnOf "is_finite_polygon" "is_finite_polygon" (defArgs s_is_finite_polygon) (defBody s_is_finite_polygon) (defScope s_is_finite_polygon) .none kV19 dc19 pm19 an19 cd19 ct19), sl19⟩) (c19 : PySem.W.codeIn K cd19 "is_finite_polygon" = true) (k19 : PySem.W.keepIn K (.ref f19) = true)
    {f20 : Addr} {oc20 kV20 dc20 pm20 cd20 ct20 : Value} {od20 an20 : Option Addr} {sl20 : Array (Option Value)} (a20 : PySem.W.nsIn K mainGlobals "slim" = some (some (.ref f20)))
    (l20 : K.lookup f20 = some ⟨oc20, od20, .func (PySem.W.fnOf "slim" "slim" (defArgs s_slim) (defBody s_slim) (defScope s_slim) .none kV20 dc20 pm20 an20 cd20 ct20), sl20⟩) (c20 : PySem.W.codeIn K cd20 "slim" = true) (k20 : PySem.W.keepIn K (.ref f20) = true)
    {f21 : Addr} {oc21 kV21 dc21 pm21 cd21 ct21 : Value} {od21 an21 : Option Addr} {sl21 : Array (Option Value)} (a21 : PySem.W.nsIn K mainGlobals "poly_sum" = some (some (.ref f21)))
    (l21 : K.lookup f21 = some ⟨oc21, od21, .func (PySem.W.fnOf "poly_sum" "poly_sum" (defArgs s_poly_sum) (defBody s_poly_sum) (defScope s_poly_sum) .none kV21 dc21 pm21 an21 cd21 ct21), sl21⟩) (c21 : PySem.W.codeIn K cd21 "poly_sum" = true) (k21 : PySem.W.keepIn K (.ref f21) = true)
    {f22 : Addr} {oc22 kV22 dc22 pm22 cd22 ct22 : Value} {od22 an22 : Option Addr} {sl22 : Array (Option Value)} (a22 : PySem.W.nsIn K mainGlobals "common" = some (some (.ref f22)))
    (l22 : K.lookup f22 = some ⟨oc22, od22, .func (PySem.W.fnOf "common" "common" (defArgs s_common) (defBody s_common) (defScope s_common) .none kV22 dc22 pm22 an22 cd22 ct22), sl22⟩) (c22 : PySem.W.codeIn K cd22 "common" = true) (k22 : PySem.W.keepIn K (.ref f22) = true)
    {f23 : Addr} {oc23 kV23 dc23 pm23 cd23 ct23 : Value} {od23 an23 : Option Addr} {sl23 : Array (Option Value)} (a23 : PySem.W.nsIn K mainGlobals "bare" = some (some (.ref f23)))
    (l23 : K.lookup f23 = some ⟨oc23, od23, .func (PySem.W.fnOf "bare" "bare" (defArgs s_bare) (defBody s_bare) (defScope s_bare) .none kV23 dc23 pm23 an23 cd23 ct23), sl23⟩) (c23 : PySem.W.codeIn K cd23 "bare" = true) (k23 : PySem.W.keepIn K (.ref f23) = true)
    {f24 : Addr} {oc24 kV24 dc24 pm24 cd24 ct24 : Value} {od24 an24 : Option Addr} {sl24 : Array (Option Value)} (a24 : PySem.W.nsIn K mainGlobals "row_left" = some (some (.ref f24)))
    (l24 : K.lookup f24 = some ⟨oc24, od24, .func (PySem.W.fnOf "row_left" "row_left" (defArgs s_row_left) (defBody s_row_left) (defScope s_row_left) .none kV24 dc24 pm24 an24 cd24 ct24), sl24⟩) (c24 : PySem.W.codeIn K cd24 "row_left" = true) (k24 : PySem.W.keepIn K (.ref f24) = true)
    {f25 : Addr} {oc25 kV25 dc25 pm25 cd25 ct25 : Value} {od25 an25 : Option Addr} {sl25 : Array (Option Value)} (a25 : PySem.W.nsIn K mainGlobals "row_shared" = some (some (.ref f25)))
    (l25 : K.lookup f25 = some ⟨oc25, od25, .func (PySem.W.fnOf "row_shared" "row_shared" (defArgs s_row_shared) (defBody s_row_shared) (defScope s_row_shared) .none kV25 dc25 pm25 an25 cd25 ct25), sl25⟩) (c25 : PySem.W.codeIn K cd25 "row_shared" = true) (k25 : PySem.W.keepIn K (.ref f25) = true)
    {f26 : Addr} {oc26 kV26 dc26 pm26 cd26 ct26 : Value} {od26 an26 : Option Addr} {sl26 : Array (Option Value)} (a26 : PySem.W.nsIn K mainGlobals "row_over" = some (some (.ref f26)))
    (l26 : K.lookup f26 = some ⟨oc26, od26, .func (PySem.W.fnOf "row_over" "row_over" (defArgs s_row_over) (defBody s_row_over) (defScope s_row_over) .none kV26 dc26 pm26 an26 cd26 ct26), sl26⟩) (c26 : PySem.W.codeIn K cd26 "row_over" = true) (k26 : PySem.W.keepIn K (.ref f26) = true)
    {f27 : Addr} {oc27 kV27 dc27 pm27 cd27 ct27 : Value} {od27 an27 : Option Addr} {sl27 : Array (Option Value)} (a27 : PySem.W.nsIn K mainGlobals "row_by" = some (some (.ref f27)))
    (l27 : K.lookup f27 = some ⟨oc27, od27, .func (PySem.W.fnOf "row_by" "row_by" (defArgs s_row_by) (defBody s_row_by) (defScope s_row_by) .none kV27 dc27 pm27 an27 cd27 ct27), sl27⟩) (c27 : PySem.W.codeIn K cd27 "row_by" = true) (k27 : PySem.W.keepIn K (.ref f27) = true)
    {f28 : Addr} {oc28 kV28 dc28 pm28 cd28 ct28 : Value} {od28 an28 : Option Addr} {sl28 : Array (Option Value)} (a28 : PySem.W.nsIn K mainGlobals "told_share" = some (some (.ref f28)))
    (l28 : K.lookup f28 = some ⟨oc28, od28, .func (PySem.W.fnOf "told_share" "told_share" (defArgs s_told_share) (defBody s_told_share) (defScope s_told_share) .none kV28 dc28 pm28 an28 cd28 ct28), sl28⟩) (c28 : PySem.W.codeIn K cd28 "told_share" = true) (k28 : PySem.W.keepIn K (.ref f28) = true)
    {f29 : Addr} {oc29 kV29 dc29 pm29 cd29 ct29 : Value} {od29 an29 : Option Addr} {sl29 : Array (Option Value)} (a29 : PySem.W.nsIn K mainGlobals "degrees_of" = some (some (.ref f29)))
    (l29 : K.lookup f29 = some ⟨oc29, od29, .func (PySem.W.fnOf "degrees_of" "degrees_of" (defArgs s_degrees_of) (defBody s_degrees_of) (defScope s_degrees_of) .none kV29 dc29 pm29 an29 cd29 ct29), sl29⟩) (c29 : PySem.W.codeIn K cd29 "degrees_of" = true) (k29 : PySem.W.keepIn K (.ref f29) = true)
    {f30 : Addr} {oc30 kV30 dc30 pm30 cd30 ct30 : Value} {od30 an30 : Option Addr} {sl30 : Array (Option Value)} (a30 : PySem.W.nsIn K mainGlobals "poly_product" = some (some (.ref f30)))
    (l30 : K.lookup f30 = some ⟨oc30, od30, .func (PySem.W.fnOf "poly_product" "poly_product" (defArgs s_poly_product) (defBody s_poly_product) (defScope s_poly_product) .none kV30 dc30 pm30 an30 cd30 ct30), sl30⟩) (c30 : PySem.W.codeIn K cd30 "poly_product" = true) (k30 : PySem.W.keepIn K (.ref f30) = true)
    {f31 : Addr} {oc31 kV31 dc31 pm31 cd31 ct31 : Value} {od31 an31 : Option Addr} {sl31 : Array (Option Value)} (a31 : PySem.W.nsIn K mainGlobals "steps_row" = some (some (.ref f31)))
    (l31 : K.lookup f31 = some ⟨oc31, od31, .func (PySem.W.fnOf "steps_row" "steps_row" (defArgs s_steps_row) (defBody s_steps_row) (defScope s_steps_row) .none kV31 dc31 pm31 an31 cd31 ct31), sl31⟩) (c31 : PySem.W.codeIn K cd31 "steps_row" = true) (k31 : PySem.W.keepIn K (.ref f31) = true)
    {f32 : Addr} {oc32 kV32 dc32 pm32 cd32 ct32 : Value} {od32 an32 : Option Addr} {sl32 : Array (Option Value)} (a32 : PySem.W.nsIn K mainGlobals "share_of_growth" = some (some (.ref f32)))
    (l32 : K.lookup f32 = some ⟨oc32, od32, .func (PySem.W.fnOf "share_of_growth" "share_of_growth" (defArgs s_share_of_growth) (defBody s_share_of_growth) (defScope s_share_of_growth) .none kV32 dc32 pm32 an32 cd32 ct32), sl32⟩) (c32 : PySem.W.codeIn K cd32 "share_of_growth" = true) (k32 : PySem.W.keepIn K (.ref f32) = true)
    {f33 : Addr} {oc33 kV33 dc33 pm33 cd33 ct33 : Value} {od33 an33 : Option Addr} {sl33 : Array (Option Value)} (a33 : PySem.W.nsIn K mainGlobals "shared_times" = some (some (.ref f33)))
    (l33 : K.lookup f33 = some ⟨oc33, od33, .func (PySem.W.fnOf "shared_times" "shared_times" (defArgs s_shared_times) (defBody s_shared_times) (defScope s_shared_times) .none kV33 dc33 pm33 an33 cd33 ct33), sl33⟩) (c33 : PySem.W.codeIn K cd33 "shared_times" = true) (k33 : PySem.W.keepIn K (.ref f33) = true)
    {f34 : Addr} {oc34 kV34 dc34 pm34 cd34 ct34 : Value} {od34 an34 : Option Addr} {sl34 : Array (Option Value)} (a34 : PySem.W.nsIn K mainGlobals "is_polygon_in" = some (some (.ref f34)))
    (l34 : K.lookup f34 = some ⟨oc34, od34, .func (PySem.W.fnOf "is_polygon_in" "is_polygon_in" (defArgs s_is_polygon_in) (defBody s_is_polygon_in) (defScope s_is_polygon_in) .none kV34 dc34 pm34 an34 cd34 ct34), sl34⟩) (c34 : PySem.W.codeIn K cd34 "is_polygon_in" = true) (k34 : PySem.W.keepIn K (.ref f34) = true)
    {f35 : Addr} {oc35 kV35 dc35 pm35 cd35 ct35 : Value} {od35 an35 : Option Addr} {sl35 : Array (Option Value)} (a35 : PySem.W.nsIn K mainGlobals "sure_polygon" = some (some (.ref f35)))
    (l35 : K.lookup f35 = some ⟨oc35, od35, .func (PySem.W.fnOf "sure_polygon" "sure_polygon" (defArgs s_sure_polygon) (defBody s_sure_polygon) (defScope s_sure_polygon) .none kV35 dc35 pm35 an35 cd35 ct35), sl35⟩) (c35 : PySem.W.codeIn K cd35 "sure_polygon" = true) (k35 : PySem.W.keepIn K (.ref f35) = true)
    {f36 : Addr} {oc36 kV36 dc36 pm36 cd36 ct36 : Value} {od36 an36 : Option Addr} {sl36 : Array (Option Value)} (a36 : PySem.W.nsIn K mainGlobals "growth_share" = some (some (.ref f36)))
    (l36 : K.lookup f36 = some ⟨oc36, od36, .func (PySem.W.fnOf "growth_share" "growth_share" (defArgs s_growth_share) (defBody s_growth_share) (defScope s_growth_share) .none kV36 dc36 pm36 an36 cd36 ct36), sl36⟩) (c36 : PySem.W.codeIn K cd36 "growth_share" = true) (k36 : PySem.W.keepIn K (.ref f36) = true)
    {f37 : Addr} {oc37 kV37 dc37 pm37 cd37 ct37 : Value} {od37 an37 : Option Addr} {sl37 : Array (Option Value)} (a37 : PySem.W.nsIn K mainGlobals "polygon_size" = some (some (.ref f37)))
    (l37 : K.lookup f37 = some ⟨oc37, od37, .func (PySem.W.fnOf "polygon_size" "polygon_size" (defArgs s_polygon_size) (defBody s_polygon_size) (defScope s_polygon_size) .none kV37 dc37 pm37 an37 cd37 ct37), sl37⟩) (c37 : PySem.W.codeIn K cd37 "polygon_size" = true) (k37 : PySem.W.keepIn K (.ref f37) = true)
    {f38 : Addr} {oc38 kV38 dc38 pm38 cd38 ct38 : Value} {od38 an38 : Option Addr} {sl38 : Array (Option Value)} (a38 : PySem.W.nsIn K mainGlobals "worth_at_one" = some (some (.ref f38)))
    (l38 : K.lookup f38 = some ⟨oc38, od38, .func (PySem.W.fnOf "worth_at_one" "worth_at_one" (defArgs s_worth_at_one) (defBody s_worth_at_one) (defScope s_worth_at_one) .none kV38 dc38 pm38 an38 cd38 ct38), sl38⟩) (c38 : PySem.W.codeIn K cd38 "worth_at_one" = true) (k38 : PySem.W.keepIn K (.ref f38) = true)
    {f39 : Addr} {oc39 kV39 dc39 pm39 cd39 ct39 : Value} {od39 an39 : Option Addr} {sl39 : Array (Option Value)} (a39 : PySem.W.nsIn K mainGlobals "mirror_corners" = some (some (.ref f39)))
    (l39 : K.lookup f39 = some ⟨oc39, od39, .func (PySem.W.fnOf "mirror_corners" "mirror_corners" (defArgs s_mirror_corners) (defBody s_mirror_corners) (defScope s_mirror_corners) .none kV39 dc39 pm39 an39 cd39 ct39), sl39⟩) (c39 : PySem.W.codeIn K cd39 "mirror_corners" = true) (k39 : PySem.W.keepIn K (.ref f39) = true)
    {f40 : Addr} {oc40 kV40 dc40 pm40 cd40 ct40 : Value} {od40 an40 : Option Addr} {sl40 : Array (Option Value)} (a40 : PySem.W.nsIn K mainGlobals "series_of" = some (some (.ref f40)))
    (l40 : K.lookup f40 = some ⟨oc40, od40, .func (PySem.W.fnOf "series_of" "series_of" (defArgs s_series_of) (defBody s_series_of) (defScope s_series_of) .none kV40 dc40 pm40 an40 cd40 ct40), sl40⟩) (c40 : PySem.W.codeIn K cd40 "series_of" = true) (k40 : PySem.W.keepIn K (.ref f40) = true)
    {f41 : Addr} {oc41 kV41 dc41 pm41 cd41 ct41 : Value} {od41 an41 : Option Addr} {sl41 : Array (Option Value)} (a41 : PySem.W.nsIn K mainGlobals "is_within" = some (some (.ref f41)))
    (l41 : K.lookup f41 = some ⟨oc41, od41, .func (PySem.W.fnOf "is_within" "is_within" (defArgs s_is_within) (defBody s_is_within) (defScope s_is_within) .none kV41 dc41 pm41 an41 cd41 ct41), sl41⟩) (c41 : PySem.W.codeIn K cd41 "is_within" = true) (k41 : PySem.W.keepIn K (.ref f41) = true)
    {f42 : Addr} {oc42 kV42 dc42 pm42 cd42 ct42 : Value} {od42 an42 : Option Addr} {sl42 : Array (Option Value)} (a42 : PySem.W.nsIn K mainGlobals "sure_within" = some (some (.ref f42)))
    (l42 : K.lookup f42 = some ⟨oc42, od42, .func (PySem.W.fnOf "sure_within" "sure_within" (defArgs s_sure_within) (defBody s_sure_within) (defScope s_sure_within) .none kV42 dc42 pm42 an42 cd42 ct42), sl42⟩) (c42 : PySem.W.codeIn K cd42 "sure_within" = true) (k42 : PySem.W.keepIn K (.ref f42) = true)
    {f43 : Addr} {oc43 kV43 dc43 pm43 cd43 ct43 : Value} {od43 an43 : Option Addr} {sl43 : Array (Option Value)} (a43 : PySem.W.nsIn K mainGlobals "growth_numbers" = some (some (.ref f43)))
    (l43 : K.lookup f43 = some ⟨oc43, od43, .func (PySem.W.fnOf "growth_numbers" "growth_numbers" (defArgs s_growth_numbers) (defBody s_growth_numbers) (defScope s_growth_numbers) .none kV43 dc43 pm43 an43 cd43 ct43), sl43⟩) (c43 : PySem.W.codeIn K cd43 "growth_numbers" = true) (k43 : PySem.W.keepIn K (.ref f43) = true)
    {f44 : Addr} {oc44 kV44 dc44 pm44 cd44 ct44 : Value} {od44 an44 : Option Addr} {sl44 : Array (Option Value)} (a44 : PySem.W.nsIn K mainGlobals "spots_growth_numbers" = some (some (.ref f44)))
    (l44 : K.lookup f44 = some ⟨oc44, od44, .func (PySem.W.fnOf "spots_growth_numbers" "spots_growth_numbers" (defArgs s_spots_growth_numbers) (defBody s_spots_growth_numbers) (defScope s_spots_growth_numbers) .none kV44 dc44 pm44 an44 cd44 ct44), sl44⟩) (c44 : PySem.W.codeIn K cd44 "spots_growth_numbers" = true) (k44 : PySem.W.keepIn K (.ref f44) = true)
    {f45 : Addr} {oc45 kV45 dc45 pm45 cd45 ct45 : Value} {od45 an45 : Option Addr} {sl45 : Array (Option Value)} (a45 : PySem.W.nsIn K mainGlobals "map_points" = some (some (.ref f45)))
    (l45 : K.lookup f45 = some ⟨oc45, od45, .func (PySem.W.fnOf "map_points" "map_points" (defArgs s_map_points) (defBody s_map_points) (defScope s_map_points) .none kV45 dc45 pm45 an45 cd45 ct45), sl45⟩) (c45 : PySem.W.codeIn K cd45 "map_points" = true) (k45 : PySem.W.keepIn K (.ref f45) = true)
    {f46 : Addr} {oc46 kV46 dc46 pm46 cd46 ct46 : Value} {od46 an46 : Option Addr} {sl46 : Array (Option Value)} (a46 : PySem.W.nsIn K mainGlobals "map_faces" = some (some (.ref f46)))
    (l46 : K.lookup f46 = some ⟨oc46, od46, .func (PySem.W.fnOf "map_faces" "map_faces" (defArgs s_map_faces) (defBody s_map_faces) (defScope s_map_faces) .none kV46 dc46 pm46 an46 cd46 ct46), sl46⟩) (c46 : PySem.W.codeIn K cd46 "map_faces" = true) (k46 : PySem.W.keepIn K (.ref f46) = true)
    {f47 : Addr} {oc47 kV47 dc47 pm47 cd47 ct47 : Value} {od47 an47 : Option Addr} {sl47 : Array (Option Value)} (a47 : PySem.W.nsIn K mainGlobals "map_turns" = some (some (.ref f47)))
    (l47 : K.lookup f47 = some ⟨oc47, od47, .func (PySem.W.fnOf "map_turns" "map_turns" (defArgs s_map_turns) (defBody s_map_turns) (defScope s_map_turns) .none kV47 dc47 pm47 an47 cd47 ct47), sl47⟩) (c47 : PySem.W.codeIn K cd47 "map_turns" = true) (k47 : PySem.W.keepIn K (.ref f47) = true)
    {f48 : Addr} {oc48 kV48 dc48 pm48 cd48 ct48 : Value} {od48 an48 : Option Addr} {sl48 : Array (Option Value)} (a48 : PySem.W.nsIn K mainGlobals "named_from" = some (some (.ref f48)))
    (l48 : K.lookup f48 = some ⟨oc48, od48, .func (PySem.W.fnOf "named_from" "named_from" (defArgs s_named_from) (defBody s_named_from) (defScope s_named_from) .none kV48 dc48 pm48 an48 cd48 ct48), sl48⟩) (c48 : PySem.W.codeIn K cd48 "named_from" = true) (k48 : PySem.W.keepIn K (.ref f48) = true)
    {f49 : Addr} {oc49 kV49 dc49 pm49 cd49 ct49 : Value} {od49 an49 : Option Addr} {sl49 : Array (Option Value)} (a49 : PySem.W.nsIn K mainGlobals "least_map" = some (some (.ref f49)))
    (l49 : K.lookup f49 = some ⟨oc49, od49, .func (PySem.W.fnOf "least_map" "least_map" (defArgs s_least_map) (defBody s_least_map) (defScope s_least_map) .none kV49 dc49 pm49 an49 cd49 ct49), sl49⟩) (c49 : PySem.W.codeIn K cd49 "least_map" = true) (k49 : PySem.W.keepIn K (.ref f49) = true)
    {f50 : Addr} {oc50 kV50 dc50 pm50 cd50 ct50 : Value} {od50 an50 : Option Addr} {sl50 : Array (Option Value)} (a50 : PySem.W.nsIn K mainGlobals "undone" = some (some (.ref f50)))
    (l50 : K.lookup f50 = some ⟨oc50, od50, .func (PySem.W.fnOf "undone" "undone" (defArgs s_undone) (defBody s_undone) (defScope s_undone) .none kV50 dc50 pm50 an50 cd50 ct50), sl50⟩) (c50 : PySem.W.codeIn K cd50 "undone" = true) (k50 : PySem.W.keepIn K (.ref f50) = true)
    {f51 : Addr} {oc51 kV51 dc51 pm51 cd51 ct51 : Value} {od51 an51 : Option Addr} {sl51 : Array (Option Value)} (a51 : PySem.W.nsIn K mainGlobals "map_mirrored" = some (some (.ref f51)))
    (l51 : K.lookup f51 = some ⟨oc51, od51, .func (PySem.W.fnOf "map_mirrored" "map_mirrored" (defArgs s_map_mirrored) (defBody s_map_mirrored) (defScope s_map_mirrored) .none kV51 dc51 pm51 an51 cd51 ct51), sl51⟩) (c51 : PySem.W.codeIn K cd51 "map_mirrored" = true) (k51 : PySem.W.keepIn K (.ref f51) = true)
    {f52 : Addr} {oc52 kV52 dc52 pm52 cd52 ct52 : Value} {od52 an52 : Option Addr} {sl52 : Array (Option Value)} (a52 : PySem.W.nsIn K mainGlobals "map_sides" = some (some (.ref f52)))
    (l52 : K.lookup f52 = some ⟨oc52, od52, .func (PySem.W.fnOf "map_sides" "map_sides" (defArgs s_map_sides) (defBody s_map_sides) (defScope s_map_sides) .none kV52 dc52 pm52 an52 cd52 ct52), sl52⟩) (c52 : PySem.W.codeIn K cd52 "map_sides" = true) (k52 : PySem.W.keepIn K (.ref f52) = true)
    {f53 : Addr} {oc53 kV53 dc53 pm53 cd53 ct53 : Value} {od53 an53 : Option Addr} {sl53 : Array (Option Value)} (a53 : PySem.W.nsIn K mainGlobals "handles_in" = some (some (.ref f53)))
    (l53 : K.lookup f53 = some ⟨oc53, od53, .func (PySem.W.fnOf "handles_in" "handles_in" (defArgs s_handles_in) (defBody s_handles_in) (defScope s_handles_in) .none kV53 dc53 pm53 an53 cd53 ct53), sl53⟩) (c53 : PySem.W.codeIn K cd53 "handles_in" = true) (k53 : PySem.W.keepIn K (.ref f53) = true)
    {f54 : Addr} {oc54 kV54 dc54 pm54 cd54 ct54 : Value} {od54 an54 : Option Addr} {sl54 : Array (Option Value)} (a54 : PySem.W.nsIn K mainGlobals "map_handles" = some (some (.ref f54)))
    (l54 : K.lookup f54 = some ⟨oc54, od54, .func (PySem.W.fnOf "map_handles" "map_handles" (defArgs s_map_handles) (defBody s_map_handles) (defScope s_map_handles) .none kV54 dc54 pm54 an54 cd54 ct54), sl54⟩) (c54 : PySem.W.codeIn K cd54 "map_handles" = true) (k54 : PySem.W.keepIn K (.ref f54) = true)
    {f55 : Addr} {oc55 kV55 dc55 pm55 cd55 ct55 : Value} {od55 an55 : Option Addr} {sl55 : Array (Option Value)} (a55 : PySem.W.nsIn K mainGlobals "map_turned" = some (some (.ref f55)))
    (l55 : K.lookup f55 = some ⟨oc55, od55, .func (PySem.W.fnOf "map_turned" "map_turned" (defArgs s_map_turned) (defBody s_map_turned) (defScope s_map_turned) .none kV55 dc55 pm55 an55 cd55 ct55), sl55⟩) (c55 : PySem.W.codeIn K cd55 "map_turned" = true) (k55 : PySem.W.keepIn K (.ref f55) = true)
    {f56 : Addr} {oc56 kV56 dc56 pm56 cd56 ct56 : Value} {od56 an56 : Option Addr} {sl56 : Array (Option Value)} (a56 : PySem.W.nsIn K mainGlobals "is_even_map" = some (some (.ref f56)))
    (l56 : K.lookup f56 = some ⟨oc56, od56, .func (PySem.W.fnOf "is_even_map" "is_even_map" (defArgs s_is_even_map) (defBody s_is_even_map) (defScope s_is_even_map) .none kV56 dc56 pm56 an56 cd56 ct56), sl56⟩) (c56 : PySem.W.codeIn K cd56 "is_even_map" = true) (k56 : PySem.W.keepIn K (.ref f56) = true)
    {f57 : Addr} {oc57 kV57 dc57 pm57 cd57 ct57 : Value} {od57 an57 : Option Addr} {sl57 : Array (Option Value)} (a57 : PySem.W.nsIn K mainGlobals "is_mirror_alike" = some (some (.ref f57)))
    (l57 : K.lookup f57 = some ⟨oc57, od57, .func (PySem.W.fnOf "is_mirror_alike" "is_mirror_alike" (defArgs s_is_mirror_alike) (defBody s_is_mirror_alike) (defScope s_is_mirror_alike) .none kV57 dc57 pm57 an57 cd57 ct57), sl57⟩) (c57 : PySem.W.codeIn K cd57 "is_mirror_alike" = true) (k57 : PySem.W.keepIn K (.ref f57) = true)
    {f58 : Addr} {oc58 kV58 dc58 pm58 cd58 ct58 : Value} {od58 an58 : Option Addr} {sl58 : Array (Option Value)} (a58 : PySem.W.nsIn K mainGlobals "are_like_maps" = some (some (.ref f58)))
    (l58 : K.lookup f58 = some ⟨oc58, od58, .func (PySem.W.fnOf "are_like_maps" "are_like_maps" (defArgs s_are_like_maps) (defBody s_are_like_maps) (defScope s_are_like_maps) .none kV58 dc58 pm58 an58 cd58 ct58), sl58⟩) (c58 : PySem.W.codeIn K cd58 "are_like_maps" = true) (k58 : PySem.W.keepIn K (.ref f58) = true)
    {f59 : Addr} {oc59 kV59 dc59 pm59 cd59 ct59 : Value} {od59 an59 : Option Addr} {sl59 : Array (Option Value)} (a59 : PySem.W.nsIn K mainGlobals "_law_box" = some (some (.ref f59)))
    (l59 : K.lookup f59 = some ⟨oc59, od59, .func (PySem.W.fnOf "_law_box" "_law_box" (defArgs s__law_box) (defBody s__law_box) (defScope s__law_box) .none kV59 dc59 pm59 an59 cd59 ct59), sl59⟩) (c59 : PySem.W.codeIn K cd59 "_law_box" = true) (k59 : PySem.W.keepIn K (.ref f59) = true)
    {f60 : Addr} {oc60 kV60 dc60 pm60 cd60 ct60 : Value} {od60 an60 : Option Addr} {sl60 : Array (Option Value)} (a60 : PySem.W.nsIn K mainGlobals "_law_take" = some (some (.ref f60)))
    (l60 : K.lookup f60 = some ⟨oc60, od60, .func (PySem.W.fnOf "_law_take" "_law_take" (defArgs s__law_take) (defBody s__law_take) (defScope s__law_take) .none kV60 dc60 pm60 an60 cd60 ct60), sl60⟩) (c60 : PySem.W.codeIn K cd60 "_law_take" = true) (k60 : PySem.W.keepIn K (.ref f60) = true)
    {f61 : Addr} {oc61 kV61 dc61 pm61 cd61 ct61 : Value} {od61 an61 : Option Addr} {sl61 : Array (Option Value)} (a61 : PySem.W.nsIn K mainGlobals "_law_pick" = some (some (.ref f61)))
    (l61 : K.lookup f61 = some ⟨oc61, od61, .func (PySem.W.fnOf "_law_pick" "_law_pick" (defArgs s__law_pick) (defBody s__law_pick) (defScope s__law_pick) .none kV61 dc61 pm61 an61 cd61 ct61), sl61⟩) (c61 : PySem.W.codeIn K cd61 "_law_pick" = true) (k61 : PySem.W.keepIn K (.ref f61) = true)
    {f62 : Addr} {oc62 kV62 dc62 pm62 cd62 ct62 : Value} {od62 an62 : Option Addr} {sl62 : Array (Option Value)} (a62 : PySem.W.nsIn K mainGlobals "_law_cells" = some (some (.ref f62)))
    (l62 : K.lookup f62 = some ⟨oc62, od62, .func (PySem.W.fnOf "_law_cells" "_law_cells" (defArgs s__law_cells) (defBody s__law_cells) (defScope s__law_cells) .none kV62 dc62 pm62 an62 cd62 ct62), sl62⟩) (c62 : PySem.W.codeIn K cd62 "_law_cells" = true) (k62 : PySem.W.keepIn K (.ref f62) = true)
    {f63 : Addr} {oc63 kV63 dc63 pm63 cd63 ct63 : Value} {od63 an63 : Option Addr} {sl63 : Array (Option Value)} (a63 : PySem.W.nsIn K mainGlobals "is_map" = some (some (.ref f63)))
    (l63 : K.lookup f63 = some ⟨oc63, od63, .func (PySem.W.fnOf "is_map" "is_map" (defArgs s_is_map) (defBody s_is_map) (defScope s_is_map) .none kV63 dc63 pm63 an63 cd63 ct63), sl63⟩) (c63 : PySem.W.codeIn K cd63 "is_map" = true) (k63 : PySem.W.keepIn K (.ref f63) = true)
    {f64 : Addr} {oc64 kV64 dc64 pm64 cd64 ct64 : Value} {od64 an64 : Option Addr} {sl64 : Array (Option Value)} (a64 : PySem.W.nsIn K mainGlobals "_law_same" = some (some (.ref f64)))
    (l64 : K.lookup f64 = some ⟨oc64, od64, .func (PySem.W.fnOf "_law_same" "_law_same" (defArgs s__law_same) (defBody s__law_same) (defScope s__law_same) .none kV64 dc64 pm64 an64 cd64 ct64), sl64⟩) (c64 : PySem.W.codeIn K cd64 "_law_same" = true) (k64 : PySem.W.keepIn K (.ref f64) = true)
    {f65 : Addr} {oc65 kV65 dc65 pm65 cd65 ct65 : Value} {od65 an65 : Option Addr} {sl65 : Array (Option Value)} (a65 : PySem.W.nsIn K mainGlobals "_law_call" = some (some (.ref f65)))
    (l65 : K.lookup f65 = some ⟨oc65, od65, .func (PySem.W.fnOf "_law_call" "_law_call" (defArgs s__law_call) (defBody s__law_call) (defScope s__law_call) .none kV65 dc65 pm65 an65 cd65 ct65), sl65⟩) (c65 : PySem.W.codeIn K cd65 "_law_call" = true) (k65 : PySem.W.keepIn K (.ref f65) = true)
    {f66 : Addr} {oc66 kV66 dc66 pm66 cd66 ct66 : Value} {od66 an66 : Option Addr} {sl66 : Array (Option Value)} (a66 : PySem.W.nsIn K mainGlobals "_law_none_fits" = some (some (.ref f66)))
    (l66 : K.lookup f66 = some ⟨oc66, od66, .func (PySem.W.fnOf "_law_none_fits" "_law_none_fits" (defArgs s__law_none_fits) (defBody s__law_none_fits) (defScope s__law_none_fits) .none kV66 dc66 pm66 an66 cd66 ct66), sl66⟩) (c66 : PySem.W.codeIn K cd66 "_law_none_fits" = true) (k66 : PySem.W.keepIn K (.ref f66) = true)
    {f67 : Addr} {oc67 kV67 dc67 pm67 cd67 ct67 : Value} {od67 an67 : Option Addr} {sl67 : Array (Option Value)} (a67 : PySem.W.nsIn K mainGlobals "law" = some (some (.ref f67)))
    (l67 : K.lookup f67 = some ⟨oc67, od67, .func (PySem.W.fnOf "law" "law" (defArgs s_law) (defBody s_law) (defScope s_law) .none kV67 dc67 pm67 an67 cd67 ct67), sl67⟩) (c67 : PySem.W.codeIn K cd67 "law" = true) (k67 : PySem.W.keepIn K (.ref f67) = true)
    (z_ValueError : PySem.W.nsIn K mainGlobals "ValueError" = some none) (z_abs : PySem.W.nsIn K mainGlobals "abs" = some none) (z_all : PySem.W.nsIn K mainGlobals "all" = some none) (z_any : PySem.W.nsIn K mainGlobals "any" = some none) (z_bool : PySem.W.nsIn K mainGlobals "bool" = some none) (z_dict : PySem.W.nsIn K mainGlobals "dict" = some none) (z_enumerate : PySem.W.nsIn K mainGlobals "enumerate" = some none) (z_int : PySem.W.nsIn K mainGlobals "int" = some none) (z_isinstance : PySem.W.nsIn K mainGlobals "isinstance" = some none) (z_len : PySem.W.nsIn K mainGlobals "len" = some none) (z_list : PySem.W.nsIn K mainGlobals "list" = some none) (z_max : PySem.W.nsIn K mainGlobals "max" = some none) (z_min : PySem.W.nsIn K mainGlobals "min" = some none) (z_range : PySem.W.nsIn K mainGlobals "range" = some none) (z_set : PySem.W.nsIn K mainGlobals "set" = some none) (z_sorted : PySem.W.nsIn K mainGlobals "sorted" = some none) (z_str : PySem.W.nsIn K mainGlobals "str" = some none) (z_sum : PySem.W.nsIn K mainGlobals "sum" = some none) (z_tuple : PySem.W.nsIn K mainGlobals "tuple" = some none) (z_zip : PySem.W.nsIn K mainGlobals "zip" = some none) {t_MOST_DARTS : PySem.Tok} (y_MOST_DARTS : PySem.W.nsIn K mainGlobals "MOST_DARTS" = some (some (.int 60 t_MOST_DARTS))) {t_MOST_LONG : PySem.Tok} (y_MOST_LONG : PySem.W.nsIn K mainGlobals "MOST_LONG" = some (some (.int 200 t_MOST_LONG))) {t_MOST_MAKERS : PySem.Tok} (y_MOST_MAKERS : PySem.W.nsIn K mainGlobals "MOST_MAKERS" = some (some (.int 4 t_MOST_MAKERS))) {t_MOST_MANY : PySem.Tok} (y_MOST_MANY : PySem.W.nsIn K mainGlobals "MOST_MANY" = some (some (.int 7 t_MOST_MANY))) {t_MOST_ORDER : PySem.Tok} (y_MOST_ORDER : PySem.W.nsIn K mainGlobals "MOST_ORDER" = some (some (.int 12 t_MOST_ORDER))) {t_MOST_SHARED : PySem.Tok} (y_MOST_SHARED : PySem.W.nsIn K mainGlobals "MOST_SHARED" = some (some (.int 60 t_MOST_SHARED)))
    {C_CanNot : Addr} (gx_CanNot : PySem.W.nsIn K mainGlobals "CanNot" = some (some (.ref C_CanNot))) (xx_CanNot : PySem.W.excIn K C_CanNot [.type "ValueError", .type "Exception", .type "BaseException", .type "object"] "ValueError.__new__" = true) (kx_CanNot : PySem.W.keepIn K (.ref C_CanNot) = true) (bx_CanNot : PySem.W.subIn K (.ref C_CanNot) (.type "BaseException") = some true) (tx_CanNot : PySem.W.typeIn K (.ref C_CanNot) = some (.type "type")) (sx_CanNot : PySem.W.subIn K (.ref C_CanNot) (.ref C_CanNot) = some true)
    (h1_CanNot : PySem.W.findIn K (.ref C_CanNot) "__getattribute__" = some (some (.builtin "BaseException.__getattribute__"))) (h2_CanNot : PySem.W.findIn K (.ref C_CanNot) "__getattr__" = some none) (h4_CanNot : PySem.W.hasDictIn K C_CanNot = true) (h5_CanNot : PySem.W.findIn K (.ref C_CanNot) "__class__" = some (some (.builtin "object.__class__"))) (h6_CanNot : PySem.W.specialIn K (.builtin "object.__class__") "__get__" = some (some (.builtin "getset_descriptor.__get__"))) (h7_CanNot : PySem.W.takesIn K (.builtin "object.__class__") = some true) (h8_CanNot : PySem.W.mroIn K C_CanNot (.type "object") = some true)
    {C_TooMany : Addr} (gx_TooMany : PySem.W.nsIn K mainGlobals "TooMany" = some (some (.ref C_TooMany))) (xx_TooMany : PySem.W.excIn K C_TooMany [.type "ValueError", .type "Exception", .type "BaseException", .type "object"] "ValueError.__new__" = true) (kx_TooMany : PySem.W.keepIn K (.ref C_TooMany) = true) (bx_TooMany : PySem.W.subIn K (.ref C_TooMany) (.type "BaseException") = some true) (tx_TooMany : PySem.W.typeIn K (.ref C_TooMany) = some (.type "type")) (sx_TooMany : PySem.W.subIn K (.ref C_TooMany) (.ref C_TooMany) = some true)
    (h1_TooMany : PySem.W.findIn K (.ref C_TooMany) "__getattribute__" = some (some (.builtin "BaseException.__getattribute__"))) (h2_TooMany : PySem.W.findIn K (.ref C_TooMany) "__getattr__" = some none) (h4_TooMany : PySem.W.hasDictIn K C_TooMany = true) (h5_TooMany : PySem.W.findIn K (.ref C_TooMany) "__class__" = some (some (.builtin "object.__class__"))) (h6_TooMany : PySem.W.specialIn K (.builtin "object.__class__") "__get__" = some (some (.builtin "getset_descriptor.__get__"))) (h7_TooMany : PySem.W.takesIn K (.builtin "object.__class__") = some true) (h8_TooMany : PySem.W.mroIn K C_TooMany (.type "object") = some true)
    {C_Unfit : Addr} (gx_Unfit : PySem.W.nsIn K mainGlobals "Unfit" = some (some (.ref C_Unfit))) (xx_Unfit : PySem.W.excIn K C_Unfit [.type "ValueError", .type "Exception", .type "BaseException", .type "object"] "ValueError.__new__" = true) (kx_Unfit : PySem.W.keepIn K (.ref C_Unfit) = true) (bx_Unfit : PySem.W.subIn K (.ref C_Unfit) (.type "BaseException") = some true) (tx_Unfit : PySem.W.typeIn K (.ref C_Unfit) = some (.type "type")) (sx_Unfit : PySem.W.subIn K (.ref C_Unfit) (.ref C_Unfit) = some true)
    (h1_Unfit : PySem.W.findIn K (.ref C_Unfit) "__getattribute__" = some (some (.builtin "BaseException.__getattribute__"))) (h2_Unfit : PySem.W.findIn K (.ref C_Unfit) "__getattr__" = some none) (h4_Unfit : PySem.W.hasDictIn K C_Unfit = true) (h5_Unfit : PySem.W.findIn K (.ref C_Unfit) "__class__" = some (some (.builtin "object.__class__"))) (h6_Unfit : PySem.W.specialIn K (.builtin "object.__class__") "__get__" = some (some (.builtin "getset_descriptor.__get__"))) (h7_Unfit : PySem.W.takesIn K (.builtin "object.__class__") = some true) (h8_Unfit : PySem.W.mroIn K C_Unfit (.type "object") = some true)
    (kt_CanNot_Unfit : PySem.W.kitOne K (.ref C_CanNot) (.ref C_Unfit) = some false)
    (kt_TooMany_Unfit : PySem.W.kitOne K (.ref C_TooMany) (.ref C_Unfit) = some false)
    (kt_Unfit_ValueError : PySem.W.kitOne K (.ref C_Unfit) (.type "ValueError") = some true) :
    ∃ fd : FuncData, (∀ (s : Shared) (v : Value), BindsTo s fd ⟨[v], []⟩ [("script", v)]) ∧ ∀ base : Heap, K.In base → base.Ns mainGlobals mg → FnOk l.prog w K mg base (L2.CX l.prog w) 13 fa fd ["script"] (spT K) := by
  have e := hfa.symm.trans (PySem.W.mg_of X G a67)
  cases e
  have z : Gz mg := ⟨PySem.W.mg_none_of X G z_ValueError, PySem.W.mg_none_of X G z_abs, PySem.W.mg_none_of X G z_all, PySem.W.mg_none_of X G z_any, PySem.W.mg_none_of X G z_bool, PySem.W.mg_none_of X G z_dict, PySem.W.mg_none_of X G z_enumerate, PySem.W.mg_none_of X G z_int, PySem.W.mg_none_of X G z_isinstance, PySem.W.mg_none_of X G z_len, PySem.W.mg_none_of X G z_list, PySem.W.mg_none_of X G z_max, PySem.W.mg_none_of X G z_min, PySem.W.mg_none_of X G z_range, PySem.W.mg_none_of X G z_set, PySem.W.mg_none_of X G z_sorted, PySem.W.mg_none_of X G z_str, PySem.W.mg_none_of X G z_sum, PySem.W.mg_none_of X G z_tuple, PySem.W.mg_none_of X G z_zip, ⟨_, PySem.W.mg_of X G y_MOST_DARTS⟩, ⟨_, PySem.W.mg_of X G y_MOST_LONG⟩, ⟨_, PySem.W.mg_of X G y_MOST_MAKERS⟩, ⟨_, PySem.W.mg_of X G y_MOST_MANY⟩, ⟨_, PySem.W.mg_of X G y_MOST_ORDER⟩, ⟨_, PySem.W.mg_of X G y_MOST_SHARED⟩⟩
  have y : Gx K mg C_CanNot C_TooMany C_Unfit := ⟨⟨PySem.W.mg_of X G gx_CanNot, xx_CanNot, kx_CanNot, bx_CanNot, tx_CanNot, sx_CanNot, ⟨h1_CanNot, h2_CanNot, bx_CanNot, h4_CanNot, h5_CanNot, h6_CanNot, h7_CanNot, h8_CanNot⟩⟩, ⟨PySem.W.mg_of X G gx_TooMany, xx_TooMany, kx_TooMany, bx_TooMany, tx_TooMany, sx_TooMany, ⟨h1_TooMany, h2_TooMany, bx_TooMany, h4_TooMany, h5_TooMany, h6_TooMany, h7_TooMany, h8_TooMany⟩⟩, ⟨PySem.W.mg_of X G gx_Unfit, xx_Unfit, kx_Unfit, bx_Unfit, tx_Unfit, sx_Unfit, ⟨h1_Unfit, h2_Unfit, bx_Unfit, h4_Unfit, h5_Unfit, h6_Unfit, h7_Unfit, h8_Unfit⟩⟩, kt_CanNot_Unfit, kt_TooMany_Unfit, kt_Unfit_ValueError⟩
  have Fu0 := fun_mk (st := s_then) l0 c0 k0
  have Fu1 := fun_mk (st := s_made_from) l1 c1 k1
  have Fu2 := fun_mk (st := s_tupled) l2 c2 k2
  have Fu3 := fun_mk (st := s_is_long) l3 c3 k3
  have Fu4 := fun_mk (st := s_is_number) l4 c4 k4
  have Fu5 := fun_mk (st := s_are_numbers) l5 c5 k5
  have Fu6 := fun_mk (st := s_is_shuffle_of) l6 c6 k6
  have Fu7 := fun_mk (st := s_is_group_in) l7 c7 k7
  have Fu8 := fun_mk (st := s_turns_of) l8 c8 k8
  have Fu9 := fun_mk (st := s_map_of_shuffles) l9 c9 k9
  have Fu10 := fun_mk (st := s_comes_to_all) l10 c10 k10
  have Fu11 := fun_mk (st := s_is_map_in) l11 c11 k11
  have Fu12 := fun_mk (st := s_sure_map) l12 c12 k12
  have Fu13 := fun_mk (st := s_rounds_of) l13 c13 k13
  have Fu14 := fun_mk (st := s_faced) l14 c14 k14
  have Fu15 := fun_mk (st := s_map_type) l15 c15 k15
  have Fu16 := fun_mk (st := s_led_from) l16 c16 k16
  have Fu17 := fun_mk (st := s_leadings) l17 c17 k17
  have Fu18 := fun_mk (st := s_map_leading) l18 c18 k18
  have Fu19 := fun_mk (st := s_is_finite_polygon) l19 c19 k19
  have Fu20 := fun_mk (st := s_slim) l20 c20 k20
  have Fu21 := fun_mk (st := s_poly_sum) l21 c21 k21
  have Fu22 := fun_mk (st := s_common) l22 c22 k22
  have Fu23 := fun_mk (st := s_bare) l23 c23 k23
  have Fu24 := fun_mk (st := s_row_left) l24 c24 k24
  have Fu25 := fun_mk (st := s_row_shared) l25 c25 k25
  have Fu26 := fun_mk (st := s_row_over) l26 c26 k26
  have Fu27 := fun_mk (st := s_row_by) l27 c27 k27
  have Fu28 := fun_mk (st := s_told_share) l28 c28 k28
  have Fu29 := fun_mk (st := s_degrees_of) l29 c29 k29
  have Fu30 := fun_mk (st := s_poly_product) l30 c30 k30
  have Fu31 := fun_mk (st := s_steps_row) l31 c31 k31
  have Fu32 := fun_mk (st := s_share_of_growth) l32 c32 k32
  have Fu33 := fun_mk (st := s_shared_times) l33 c33 k33
  have Fu34 := fun_mk (st := s_is_polygon_in) l34 c34 k34
  have Fu35 := fun_mk (st := s_sure_polygon) l35 c35 k35
  have Fu36 := fun_mk (st := s_growth_share) l36 c36 k36
  have Fu37 := fun_mk (st := s_polygon_size) l37 c37 k37
  have Fu38 := fun_mk (st := s_worth_at_one) l38 c38 k38
  have Fu39 := fun_mk (st := s_mirror_corners) l39 c39 k39
  have Fu40 := fun_mk (st := s_series_of) l40 c40 k40
  have Fu41 := fun_mk (st := s_is_within) l41 c41 k41
  have Fu42 := fun_mk (st := s_sure_within) l42 c42 k42
  have Fu43 := fun_mk (st := s_growth_numbers) l43 c43 k43
  have Fu44 := fun_mk (st := s_spots_growth_numbers) l44 c44 k44
  have Fu45 := fun_mk (st := s_map_points) l45 c45 k45
  have Fu46 := fun_mk (st := s_map_faces) l46 c46 k46
  have Fu47 := fun_mk (st := s_map_turns) l47 c47 k47
  have Fu48 := fun_mk (st := s_named_from) l48 c48 k48
  have Fu49 := fun_mk (st := s_least_map) l49 c49 k49
  have Fu50 := fun_mk (st := s_undone) l50 c50 k50
  have Fu51 := fun_mk (st := s_map_mirrored) l51 c51 k51
  have Fu52 := fun_mk (st := s_map_sides) l52 c52 k52
  have Fu53 := fun_mk (st := s_handles_in) l53 c53 k53
  have Fu54 := fun_mk (st := s_map_handles) l54 c54 k54
  have Fu55 := fun_mk (st := s_map_turned) l55 c55 k55
  have Fu56 := fun_mk (st := s_is_even_map) l56 c56 k56
  have Fu57 := fun_mk (st := s_is_mirror_alike) l57 c57 k57
  have Fu58 := fun_mk (st := s_are_like_maps) l58 c58 k58
  have Fu59 := fun_mk (st := s__law_box) l59 c59 k59
  have Fu60 := fun_mk (st := s__law_take) l60 c60 k60
  have Fu61 := fun_mk (st := s__law_pick) l61 c61 k61
  have Fu62 := fun_mk (st := s__law_cells) l62 c62 k62
  have Fu63 := fun_mk (st := s_is_map) l63 c63 k63
  have Fu64 := fun_mk (st := s__law_same) l64 c64 k64
  have Fu65 := fun_mk (st := s__law_call) l65 c65 k65
  have Fu66 := fun_mk (st := s__law_none_fits) l66 c66 k66
  have Fu67 := fun_mk (st := s_law) l67 c67 k67
  refine ⟨PySem.W.fnOf "law" "law" (defArgs s_law) (defBody s_law) (defScope s_law) .none kV67 dc67 pm67 an67 cd67 ct67, fun s v => .of_eq rfl, fun base _ _ => ?_⟩
  have R_then : FnR ⟨K, mg, w⟩ l.prog w base "then" s_then 1 ["one", "other"] F_then := fnr_of Fu0 (PySem.W.mg_of X G a0) (ok_then (P := l.prog) (w := w) (base := base) z y  Fu0) bi_then
  have R_made_from : FnR ⟨K, mg, w⟩ l.prog w base "made_from" s_made_from 2 ["many", "makers", "most"] F_made_from := fnr_of Fu1 (PySem.W.mg_of X G a1) (ok_made_from (P := l.prog) (w := w) (base := base) z y R_then Fu1) bi_made_from
  have R_tupled := ok_tupled (P := l.prog) (w := w) (base := base) z y  Fu2 (PySem.W.mg_of X G a2) 8
  have R_is_long : FnR ⟨K, mg, w⟩ l.prog w base "is_long" s_is_long 1 ["thing", "length"] F_is_long := fnr_of Fu3 (PySem.W.mg_of X G a3) (ok_is_long (P := l.prog) (w := w) (base := base) z y  Fu3) bi_is_long
  have R_is_number : FnR ⟨K, mg, w⟩ l.prog w base "is_number" s_is_number 1 ["thing"] F_is_number := fnr_of Fu4 (PySem.W.mg_of X G a4) (ok_is_number (P := l.prog) (w := w) (base := base) z y  Fu4) bi_is_number
  have R_are_numbers : FnR ⟨K, mg, w⟩ l.prog w base "are_numbers" s_are_numbers 2 ["thing"] F_are_numbers := fnr_of Fu5 (PySem.W.mg_of X G a5) (ok_are_numbers (P := l.prog) (w := w) (base := base) z y R_is_number Fu5) bi_are_numbers
  have R_is_shuffle_of : FnR ⟨K, mg, w⟩ l.prog w base "is_shuffle_of" s_is_shuffle_of 3 ["many", "thing"] F_is_shuffle_of := fnr_of Fu6 (PySem.W.mg_of X G a6) (ok_is_shuffle_of (P := l.prog) (w := w) (base := base) z y R_is_long R_are_numbers Fu6) bi_is_shuffle_of
  have R_is_group_in : FnR ⟨K, mg, w⟩ l.prog w base "is_group_in" s_is_group_in 4 ["own"] F_is_group_in := fnr_of Fu7 (PySem.W.mg_of X G a7) (ok_is_group_in (P := l.prog) (w := w) (base := base) z y R_is_shuffle_of Fu7) bi_is_group_in
  have R_turns_of : FnR ⟨K, mg, w⟩ l.prog w base "turns_of" s_turns_of 2 ["shuffle"] F_turns_of := fnr_of Fu8 (PySem.W.mg_of X G a8) (ok_turns_of (P := l.prog) (w := w) (base := base) z y R_then Fu8) bi_turns_of
  have R_map_of_shuffles : FnR ⟨K, mg, w⟩ l.prog w base "map_of_shuffles" s_map_of_shuffles 9 ["one", "other"] F_map_of_shuffles := fnr_of Fu9 (PySem.W.mg_of X G a9) (ok_map_of_shuffles (P := l.prog) (w := w) (base := base) z y R_made_from R_tupled R_is_group_in R_turns_of R_then Fu9) bi_map_of_shuffles
  have R_comes_to_all : FnR ⟨K, mg, w⟩ l.prog w base "comes_to_all" s_comes_to_all 1 ["many", "way"] F_comes_to_all := fnr_of Fu10 (PySem.W.mg_of X G a10) (ok_comes_to_all (P := l.prog) (w := w) (base := base) z y  Fu10) bi_comes_to_all
  have R_is_map_in : FnR ⟨K, mg, w⟩ l.prog w base "is_map_in" s_is_map_in 4 ["thing"] F_is_map_in := fnr_of Fu11 (PySem.W.mg_of X G a11) (ok_is_map_in (P := l.prog) (w := w) (base := base) z y R_comes_to_all R_is_shuffle_of Fu11) bi_is_map_in
  have R_sure_map : FnR ⟨K, mg, w⟩ l.prog w base "sure_map" s_sure_map 9 ["value"] F_sure_map := fnr_of Fu12 (PySem.W.mg_of X G a12) (ok_sure_map (P := l.prog) (w := w) (base := base) z y R_tupled R_is_map_in Fu12) bi_sure_map
  have R_rounds_of : FnR ⟨K, mg, w⟩ l.prog w base "rounds_of" s_rounds_of 1 ["shuffle"] F_rounds_of := fnr_of Fu13 (PySem.W.mg_of X G a13) (ok_rounds_of (P := l.prog) (w := w) (base := base) z y  Fu13) bi_rounds_of
  have R_faced : FnR ⟨K, mg, w⟩ l.prog w base "faced" s_faced 2 ["own"] F_faced := fnr_of Fu14 (PySem.W.mg_of X G a14) (ok_faced (P := l.prog) (w := w) (base := base) z y R_then Fu14) bi_faced
  have R_map_type : FnR ⟨K, mg, w⟩ l.prog w base "map_type" s_map_type 10 ["map_of"] F_map_type := fnr_of Fu15 (PySem.W.mg_of X G a15) (ok_map_type (P := l.prog) (w := w) (base := base) z y R_sure_map R_rounds_of R_faced Fu15) bi_map_type
  have R_led_from : FnR ⟨K, mg, w⟩ l.prog w base "led_from" s_led_from 4 ["one", "other", "goal"] F_led_from := fnr_of Fu16 (PySem.W.mg_of X G a16) (ok_led_from (P := l.prog) (w := w) (base := base) z y R_is_shuffle_of Fu16) bi_led_from
  have R_leadings : FnR ⟨K, mg, w⟩ l.prog w base "leadings" s_leadings 5 ["one", "other"] F_leadings := fnr_of Fu17 (PySem.W.mg_of X G a17) (ok_leadings (P := l.prog) (w := w) (base := base) z y R_led_from Fu17) bi_leadings
  have R_map_leading : FnR ⟨K, mg, w⟩ l.prog w base "map_leading" s_map_leading 10 ["one", "other"] F_map_leading := fnr_of Fu18 (PySem.W.mg_of X G a18) (ok_map_leading (P := l.prog) (w := w) (base := base) z y R_sure_map R_leadings Fu18) bi_map_leading
  have R_is_finite_polygon : FnR ⟨K, mg, w⟩ l.prog w base "is_finite_polygon" s_is_finite_polygon 1 ["polygon"] F_is_finite_polygon := fnr_of Fu19 (PySem.W.mg_of X G a19) (ok_is_finite_polygon (P := l.prog) (w := w) (base := base) z y  Fu19) bi_is_finite_polygon
  have R_slim : FnR ⟨K, mg, w⟩ l.prog w base "slim" s_slim 1 ["row"] F_slim := fnr_of Fu20 (PySem.W.mg_of X G a20) (ok_slim (P := l.prog) (w := w) (base := base) z y  Fu20) bi_slim
  have R_poly_sum : FnR ⟨K, mg, w⟩ l.prog w base "poly_sum" s_poly_sum 2 ["one", "other"] F_poly_sum := fnr_of Fu21 (PySem.W.mg_of X G a21) (ok_poly_sum (P := l.prog) (w := w) (base := base) z y R_slim Fu21) bi_poly_sum
  have R_common : FnR ⟨K, mg, w⟩ l.prog w base "common" s_common 1 ["one", "other"] F_common := fnr_of Fu22 (PySem.W.mg_of X G a22) (ok_common (P := l.prog) (w := w) (base := base) z y  Fu22) bi_common
  have R_bare : FnR ⟨K, mg, w⟩ l.prog w base "bare" s_bare 2 ["row"] F_bare := fnr_of Fu23 (PySem.W.mg_of X G a23) (ok_bare (P := l.prog) (w := w) (base := base) z y R_common Fu23) bi_bare
  have R_row_left : FnR ⟨K, mg, w⟩ l.prog w base "row_left" s_row_left 3 ["one", "other"] F_row_left := fnr_of Fu24 (PySem.W.mg_of X G a24) (ok_row_left (P := l.prog) (w := w) (base := base) z y R_slim R_bare Fu24) bi_row_left
  have R_row_shared : FnR ⟨K, mg, w⟩ l.prog w base "row_shared" s_row_shared 4 ["one", "other"] F_row_shared := fnr_of Fu25 (PySem.W.mg_of X G a25) (ok_row_shared (P := l.prog) (w := w) (base := base) z y R_bare R_row_left Fu25) bi_row_shared
  have R_row_over : FnR ⟨K, mg, w⟩ l.prog w base "row_over" s_row_over 1 ["one", "other"] F_row_over := fnr_of Fu26 (PySem.W.mg_of X G a26) (ok_row_over (P := l.prog) (w := w) (base := base) z y  Fu26) bi_row_over
  have R_row_by : FnR ⟨K, mg, w⟩ l.prog w base "row_by" s_row_by 2 ["row", "number"] F_row_by := fnr_of Fu27 (PySem.W.mg_of X G a27) (ok_row_by (P := l.prog) (w := w) (base := base) z y R_slim Fu27) bi_row_by
  have R_told_share : FnR ⟨K, mg, w⟩ l.prog w base "told_share" s_told_share 5 ["over", "under"] F_told_share := fnr_of Fu28 (PySem.W.mg_of X G a28) (ok_told_share (P := l.prog) (w := w) (base := base) z y R_row_shared R_row_over R_row_by Fu28) bi_told_share
  have R_degrees_of : FnR ⟨K, mg, w⟩ l.prog w base "degrees_of" s_degrees_of 1 ["polygon"] F_degrees_of := fnr_of Fu29 (PySem.W.mg_of X G a29) (ok_degrees_of (P := l.prog) (w := w) (base := base) z y  Fu29) bi_degrees_of
  have R_poly_product : FnR ⟨K, mg, w⟩ l.prog w base "poly_product" s_poly_product 2 ["one", "other"] F_poly_product := fnr_of Fu30 (PySem.W.mg_of X G a30) (ok_poly_product (P := l.prog) (w := w) (base := base) z y R_slim Fu30) bi_poly_product
  have R_steps_row : FnR ⟨K, mg, w⟩ l.prog w base "steps_row" s_steps_row 1 ["many"] F_steps_row := fnr_of Fu31 (PySem.W.mg_of X G a31) (ok_steps_row (P := l.prog) (w := w) (base := base) z y  Fu31) bi_steps_row
  have R_share_of_growth : FnR ⟨K, mg, w⟩ l.prog w base "share_of_growth" s_share_of_growth 6 ["polygon"] F_share_of_growth := fnr_of Fu32 (PySem.W.mg_of X G a32) (ok_share_of_growth (P := l.prog) (w := w) (base := base) z y R_is_finite_polygon R_poly_sum R_told_share R_degrees_of R_poly_product R_row_by R_steps_row R_row_over Fu32) bi_share_of_growth
  have R_shared_times : FnR ⟨K, mg, w⟩ l.prog w base "shared_times" s_shared_times 2 ["orders"] F_shared_times := fnr_of Fu33 (PySem.W.mg_of X G a33) (ok_shared_times (P := l.prog) (w := w) (base := base) z y R_common Fu33) bi_shared_times
  have R_is_polygon_in : FnR ⟨K, mg, w⟩ l.prog w base "is_polygon_in" s_is_polygon_in 3 ["thing"] F_is_polygon_in := fnr_of Fu34 (PySem.W.mg_of X G a34) (ok_is_polygon_in (P := l.prog) (w := w) (base := base) z y R_are_numbers R_shared_times Fu34) bi_is_polygon_in
  have R_sure_polygon : FnR ⟨K, mg, w⟩ l.prog w base "sure_polygon" s_sure_polygon 9 ["value"] F_sure_polygon := fnr_of Fu35 (PySem.W.mg_of X G a35) (ok_sure_polygon (P := l.prog) (w := w) (base := base) z y R_tupled R_is_polygon_in Fu35) bi_sure_polygon
  have R_growth_share : FnR ⟨K, mg, w⟩ l.prog w base "growth_share" s_growth_share 10 ["polygon"] F_growth_share := fnr_of Fu36 (PySem.W.mg_of X G a36) (ok_growth_share (P := l.prog) (w := w) (base := base) z y R_share_of_growth R_sure_polygon Fu36) bi_growth_share
  have R_polygon_size : FnR ⟨K, mg, w⟩ l.prog w base "polygon_size" s_polygon_size 10 ["polygon"] F_polygon_size := fnr_of Fu37 (PySem.W.mg_of X G a37) (ok_polygon_size (P := l.prog) (w := w) (base := base) z y R_sure_polygon R_is_finite_polygon R_share_of_growth Fu37) bi_polygon_size
  have R_worth_at_one : FnR ⟨K, mg, w⟩ l.prog w base "worth_at_one" s_worth_at_one 10 ["polygon"] F_worth_at_one := fnr_of Fu38 (PySem.W.mg_of X G a38) (ok_worth_at_one (P := l.prog) (w := w) (base := base) z y R_share_of_growth R_common R_sure_polygon Fu38) bi_worth_at_one
  have R_mirror_corners : FnR ⟨K, mg, w⟩ l.prog w base "mirror_corners" s_mirror_corners 10 ["polygon"] F_mirror_corners := fnr_of Fu39 (PySem.W.mg_of X G a39) (ok_mirror_corners (P := l.prog) (w := w) (base := base) z y R_sure_polygon Fu39) bi_mirror_corners
  have R_series_of : FnR ⟨K, mg, w⟩ l.prog w base "series_of" s_series_of 1 ["over", "under", "many"] F_series_of := fnr_of Fu40 (PySem.W.mg_of X G a40) (ok_series_of (P := l.prog) (w := w) (base := base) z y  Fu40) bi_series_of
  have R_is_within : FnR ⟨K, mg, w⟩ l.prog w base "is_within" s_is_within 2 ["thing", "least", "most"] F_is_within := fnr_of Fu41 (PySem.W.mg_of X G a41) (ok_is_within (P := l.prog) (w := w) (base := base) z y R_is_number Fu41) bi_is_within
  have R_sure_within : FnR ⟨K, mg, w⟩ l.prog w base "sure_within" s_sure_within 3 ["thing", "least", "most"] F_sure_within := fnr_of Fu42 (PySem.W.mg_of X G a42) (ok_sure_within (P := l.prog) (w := w) (base := base) z y R_is_within Fu42) bi_sure_within
  have R_growth_numbers : FnR ⟨K, mg, w⟩ l.prog w base "growth_numbers" s_growth_numbers 10 ["polygon", "many"] F_growth_numbers := fnr_of Fu43 (PySem.W.mg_of X G a43) (ok_growth_numbers (P := l.prog) (w := w) (base := base) z y R_share_of_growth R_series_of R_sure_polygon R_sure_within Fu43) bi_growth_numbers
  have R_spots_growth_numbers : FnR ⟨K, mg, w⟩ l.prog w base "spots_growth_numbers" s_spots_growth_numbers 10 ["polygon", "many"] F_spots_growth_numbers := fnr_of Fu44 (PySem.W.mg_of X G a44) (ok_spots_growth_numbers (P := l.prog) (w := w) (base := base) z y R_share_of_growth R_sure_polygon R_series_of R_sure_within Fu44) bi_spots_growth_numbers
  have R_map_points : FnR ⟨K, mg, w⟩ l.prog w base "map_points" s_map_points 10 ["map_of"] F_map_points := fnr_of Fu45 (PySem.W.mg_of X G a45) (ok_map_points (P := l.prog) (w := w) (base := base) z y R_rounds_of R_sure_map Fu45) bi_map_points
  have R_map_faces : FnR ⟨K, mg, w⟩ l.prog w base "map_faces" s_map_faces 10 ["map_of"] F_map_faces := fnr_of Fu46 (PySem.W.mg_of X G a46) (ok_map_faces (P := l.prog) (w := w) (base := base) z y R_rounds_of R_faced R_sure_map Fu46) bi_map_faces
  have R_map_turns : FnR ⟨K, mg, w⟩ l.prog w base "map_turns" s_map_turns 10 ["map_of"] F_map_turns := fnr_of Fu47 (PySem.W.mg_of X G a47) (ok_map_turns (P := l.prog) (w := w) (base := base) z y R_sure_map R_leadings Fu47) bi_map_turns
  have R_named_from : FnR ⟨K, mg, w⟩ l.prog w base "named_from" s_named_from 1 ["own", "start"] F_named_from := fnr_of Fu48 (PySem.W.mg_of X G a48) (ok_named_from (P := l.prog) (w := w) (base := base) z y  Fu48) bi_named_from
  have R_least_map : FnR ⟨K, mg, w⟩ l.prog w base "least_map" s_least_map 10 ["map_of"] F_least_map := fnr_of Fu49 (PySem.W.mg_of X G a49) (ok_least_map (P := l.prog) (w := w) (base := base) z y R_sure_map R_named_from Fu49) bi_least_map
  have R_undone : FnR ⟨K, mg, w⟩ l.prog w base "undone" s_undone 1 ["shuffle"] F_undone := fnr_of Fu50 (PySem.W.mg_of X G a50) (ok_undone (P := l.prog) (w := w) (base := base) z y  Fu50) bi_undone
  have R_map_mirrored : FnR ⟨K, mg, w⟩ l.prog w base "map_mirrored" s_map_mirrored 10 ["map_of"] F_map_mirrored := fnr_of Fu51 (PySem.W.mg_of X G a51) (ok_map_mirrored (P := l.prog) (w := w) (base := base) z y R_sure_map R_undone Fu51) bi_map_mirrored
  have R_map_sides : FnR ⟨K, mg, w⟩ l.prog w base "map_sides" s_map_sides 10 ["map_of"] F_map_sides := fnr_of Fu52 (PySem.W.mg_of X G a52) (ok_map_sides (P := l.prog) (w := w) (base := base) z y R_rounds_of R_sure_map Fu52) bi_map_sides
  have R_handles_in : FnR ⟨K, mg, w⟩ l.prog w base "handles_in" s_handles_in 3 ["own"] F_handles_in := fnr_of Fu53 (PySem.W.mg_of X G a53) (ok_handles_in (P := l.prog) (w := w) (base := base) z y R_rounds_of R_faced Fu53) bi_handles_in
  have R_map_handles : FnR ⟨K, mg, w⟩ l.prog w base "map_handles" s_map_handles 10 ["map_of"] F_map_handles := fnr_of Fu54 (PySem.W.mg_of X G a54) (ok_map_handles (P := l.prog) (w := w) (base := base) z y R_handles_in R_sure_map Fu54) bi_map_handles
  have R_map_turned : FnR ⟨K, mg, w⟩ l.prog w base "map_turned" s_map_turned 10 ["map_of"] F_map_turned := fnr_of Fu55 (PySem.W.mg_of X G a55) (ok_map_turned (P := l.prog) (w := w) (base := base) z y R_sure_map R_faced Fu55) bi_map_turned
  have R_is_even_map : FnR ⟨K, mg, w⟩ l.prog w base "is_even_map" s_is_even_map 10 ["map_of"] F_is_even_map := fnr_of Fu56 (PySem.W.mg_of X G a56) (ok_is_even_map (P := l.prog) (w := w) (base := base) z y R_sure_map R_leadings Fu56) bi_is_even_map
  have R_is_mirror_alike : FnR ⟨K, mg, w⟩ l.prog w base "is_mirror_alike" s_is_mirror_alike 10 ["map_of"] F_is_mirror_alike := fnr_of Fu57 (PySem.W.mg_of X G a57) (ok_is_mirror_alike (P := l.prog) (w := w) (base := base) z y R_sure_map R_leadings R_undone Fu57) bi_is_mirror_alike
  have R_are_like_maps : FnR ⟨K, mg, w⟩ l.prog w base "are_like_maps" s_are_like_maps 10 ["one", "other"] F_are_like_maps := fnr_of Fu58 (PySem.W.mg_of X G a58) (ok_are_like_maps (P := l.prog) (w := w) (base := base) z y R_sure_map R_leadings Fu58) bi_are_like_maps
  have R__law_box : FnR ⟨K, mg, w⟩ l.prog w base "_law_box" s__law_box 1 ["script", "k"] F__law_box := fnr_of Fu59 (PySem.W.mg_of X G a59) (ok__law_box (P := l.prog) (w := w) (base := base) z y  Fu59) bi__law_box
  have R__law_take : FnR ⟨K, mg, w⟩ l.prog w base "_law_take" s__law_take 1 ["tin", "below_so"] F__law_take := fnr_of Fu60 (PySem.W.mg_of X G a60) (ok__law_take (P := l.prog) (w := w) (base := base) z y  Fu60) bi__law_take
  have R__law_pick : FnR ⟨K, mg, w⟩ l.prog w base "_law_pick" s__law_pick 2 ["tin", "goods_so", "count_so"] F__law_pick := fnr_of Fu61 (PySem.W.mg_of X G a61) (ok__law_pick (P := l.prog) (w := w) (base := base) z y R__law_take Fu61) bi__law_pick
  have R__law_cells : FnR ⟨K, mg, w⟩ l.prog w base "_law_cells" s__law_cells 1 ["script", "most_so"] F__law_cells := fnr_of Fu62 (PySem.W.mg_of X G a62) (ok__law_cells (P := l.prog) (w := w) (base := base) z y  Fu62) bi__law_cells
  have R_is_map : FnR ⟨K, mg, w⟩ l.prog w base "is_map" s_is_map 5 ["thing"] F_is_map := fnr_of Fu63 (PySem.W.mg_of X G a63) (ok_is_map (P := l.prog) (w := w) (base := base) z y R_is_map_in Fu63) bi_is_map
  have R__law_same := ok__law_same (P := l.prog) (w := w) (base := base) z y  Fu64 (PySem.W.mg_of X G a64) 8
  have R__law_call : FnR ⟨K, mg, w⟩ l.prog w base "_law_call" s__law_call 11 ["door", "goods_so"] F__law_call := fnr_of Fu65 (PySem.W.mg_of X G a65) (ok__law_call (P := l.prog) (w := w) (base := base) z y R_map_of_shuffles R_map_type R_map_leading R_growth_share R_polygon_size R_worth_at_one R_mirror_corners R_growth_numbers R_spots_growth_numbers R_map_points R_map_sides R_map_faces R_map_handles R_map_turned R_map_mirrored R_map_turns R_is_even_map R_is_mirror_alike R_least_map R_are_like_maps Fu65) bi__law_call
  have R__law_none_fits : FnR ⟨K, mg, w⟩ l.prog w base "_law_none_fits" s__law_none_fits 12 ["door", "goods_so", "bads_so"] F__law_none_fits := fnr_of Fu66 (PySem.W.mg_of X G a66) (ok__law_none_fits (P := l.prog) (w := w) (base := base) z y R__law_call Fu66) bi__law_none_fits
  exact law_ok (ok_law (P := l.prog) (w := w) (base := base) z y R_map_of_shuffles R_map_type R_map_leading R_growth_share R_polygon_size R_worth_at_one R_mirror_corners R_growth_numbers R_spots_growth_numbers R_map_points R_map_faces R_map_turns R_least_map R_map_mirrored R_map_sides R_map_handles R_map_turned R_is_even_map R_is_mirror_alike R_are_like_maps R__law_box R__law_pick R__law_cells R_is_map R__law_same R__law_none_fits R__law_call Fu67) hlaw
end L44
namespace L44
open PySem PySem.Spec PyProof.Rows L2 DS
/-- the drawing's box -/
def Bx (n : Nat) (hp : List Ob) : Prop := ∃ a b c : Int, hp = [.lst [.int a, .int b, .int c]] ∧ 0 ≤ c ∧ c ≤ n
theorem Bx.mono {m n : Nat} {hp : List Ob} (h : Bx m hp) (l : m ≤ n) : Bx n hp := by
  obtain ⟨a, b, c, e, h1, h2⟩ := h
  exact ⟨a, b, c, e, h1, by omega⟩
theorem atI0 {α : Type} (x : α) (l : List α) : L2.atI (x :: l) 0 = some x := L2.atI_nat (j := 0) rfl
theorem atI1 {α : Type} (x y : α) (l : List α) : L2.atI (x :: y :: l) 1 = some y := L2.atI_nat (j := 1) rfl
theorem atI2 {α : Type} (x y z : α) (l : List α) : L2.atI (x :: y :: z :: l) 2 = some z := L2.atI_nat (j := 2) rfl
theorem ix30 : L2.ixN 3 0 = some 0 := by decide
theorem ix32 : L2.ixN 3 2 = some 2 := by decide
theorem sm_lit (i : Int) (h : i.natAbs < 18446744073709551616) : DS.small64 i = true := decide_eq_true h
theorem take_ok {n : Nat} {hp : List Ob} (h : Bx n hp) (hn : n < 5000) (m : Int) (hm : 0 < m) (hm2 : m < 1000) : ∃ r hp', F__law_take [.ref 0, .int m] hp = .ok (.int r) hp' ∧ Bx (n + 1) hp' ∧ 0 ≤ r ∧ r < m := by
  obtain ⟨a, b, c, rfl, h1, h2⟩ := h
  have hm0 : m ≠ 0 := by omega
  have hb : m.natAbs < 1073741824 := by omega
  have hs : DS.small64 (39373 + (c + 1)) = true := sm_lit _ (by omega)
  have hs2 : DS.small64 48271 = true := by decide
  have hs3 : ∀ x : Int, DS.small64 (x.fmod 40009 + 7) = true := fun x => sm_lit _ (by
    have h1 := Int.fmod_nonneg_of_pos x (show (0:Int) < 40009 by decide)
    have h2 := Int.fmod_lt_of_pos x (show (0:Int) < 40009 by decide)
    omega)
  unfold F__law_take B__law_take
  by_cases ha : 0 < a
  · refine ⟨a.fmod m, _, fn_rt (sq_rt (if_tt (by simp (config := { failIfUnchanged := false }) only [DS.nxS, DS.bkS, DS.ctS, DS.badS, DS.retS, DS.retN, DS.exprS, DS.setS, DS.setL, DS.asgS, DS.gN, DS.gT, DS.gsN, DS.gsC, DS.op1, DS.op2, DS.op1L, DS.op2L, DS.oV, DS.oS, DS.var, DS.cst, DS.deref, DS.derefD, DS.ofL, DS.lstE, DS.evA, DS.tupE, DS.asB, DS.truT, DS.andT, DS.orT, DS.notT, DS.andE, DS.orE, DS.notE, DS.ifE, DS.chn, DS.sl, DS.slL, DS.part, DS.lcE, DS.lcL, DS.itA, DS.itE, DS.itZ, DS.par2, DS.evP, DS.setIx, DS.mutE, DS.lstTok, DS.updTok, DS.shr, DS.callE, DS.callKE, DS.runFn, DS.orL, DS.yesT, DS.noOwn, DS.addD, DS.subD, DS.mulD, DS.divD, DS.modD, DS.powD, DS.negD, DS.ltD, DS.leD, DS.gtD, DS.geD, DS.isN, DS.isntN, DS.notD, DS.ixD, DS.slD, DS.slLs, DS.lenD, DS.absD, DS.intD, DS.tupleD, DS.listL, DS.allD, DS.anyD, DS.sumD, DS.minD, DS.maxD, DS.sortedL, DS.truD, DS.isiD, DS.tyD, DS.gId, DS.wipeE, DS.restE, DS.R.bind_ok, DS.R.bind_exc, DS.R.bind_bad, DS.R.map_ok, DS.R.of_some, DS.R.of_none, Option.bind_some, Option.bind_none, Option.map_some, Option.map_none, List.getElem?_cons_zero, List.getElem?_cons_succ, List.getElem?_nil, List.set_cons_zero, List.set_cons_succ, List.length_cons, List.length_nil, List.map_cons, List.map_nil, Option.getD_some, Option.getD_none, List.cons_append, List.nil_append, List.replicate_succ, List.replicate_zero, Nat.reduceAdd, Nat.reduceSub, decide_eq_true_eq, Bool.and_eq_true, Bool.or_eq_true, if_true, if_false, Bool.not_eq_true', Bool.false_eq_true, reduceIte, DS.eqD_int, DS.neD_int, DS.eqD_bl, DS.neD_bl, ne_eq, not_false_eq_true, not_true_eq_false, true_and, and_true, true_or, or_true, false_or, or_false, and_self, Int.reduceEq, Int.reduceAbs, Nat.reduceLT, Int.reduceLT, Int.reduceLE, Int.reduceNeg, Nat.reduceEqDiff, decide_true, decide_false, Bool.not_true, Bool.not_false, atI0, atI1, atI2, ix30, ix32, ha] <;> rfl) (sq_nx (by simp (config := { failIfUnchanged := false }) only [DS.nxS, DS.bkS, DS.ctS, DS.badS, DS.retS, DS.retN, DS.exprS, DS.setS, DS.setL, DS.asgS, DS.gN, DS.gT, DS.gsN, DS.gsC, DS.op1, DS.op2, DS.op1L, DS.op2L, DS.oV, DS.oS, DS.var, DS.cst, DS.deref, DS.derefD, DS.ofL, DS.lstE, DS.evA, DS.tupE, DS.asB, DS.truT, DS.andT, DS.orT, DS.notT, DS.andE, DS.orE, DS.notE, DS.ifE, DS.chn, DS.sl, DS.slL, DS.part, DS.lcE, DS.lcL, DS.itA, DS.itE, DS.itZ, DS.par2, DS.evP, DS.setIx, DS.mutE, DS.lstTok, DS.updTok, DS.shr, DS.callE, DS.callKE, DS.runFn, DS.orL, DS.yesT, DS.noOwn, DS.addD, DS.subD, DS.mulD, DS.divD, DS.modD, DS.powD, DS.negD, DS.ltD, DS.leD, DS.gtD, DS.geD, DS.isN, DS.isntN, DS.notD, DS.ixD, DS.slD, DS.slLs, DS.lenD, DS.absD, DS.intD, DS.tupleD, DS.listL, DS.allD, DS.anyD, DS.sumD, DS.minD, DS.maxD, DS.sortedL, DS.truD, DS.isiD, DS.tyD, DS.gId, DS.wipeE, DS.restE, DS.R.bind_ok, DS.R.bind_exc, DS.R.bind_bad, DS.R.map_ok, DS.R.of_some, DS.R.of_none, Option.bind_some, Option.bind_none, Option.map_some, Option.map_none, List.getElem?_cons_zero, List.getElem?_cons_succ, List.getElem?_nil, List.set_cons_zero, List.set_cons_succ, List.length_cons, List.length_nil, List.map_cons, List.map_nil, Option.getD_some, Option.getD_none, List.cons_append, List.nil_append, List.replicate_succ, List.replicate_zero, Nat.reduceAdd, Nat.reduceSub, decide_eq_true_eq, Bool.and_eq_true, Bool.or_eq_true, if_true, if_false, Bool.not_eq_true', Bool.false_eq_true, reduceIte, DS.eqD_int, DS.neD_int, DS.eqD_bl, DS.neD_bl, ne_eq, not_false_eq_true, not_true_eq_false, true_and, and_true, true_or, or_true, false_or, or_false, and_self, Int.reduceEq, Int.reduceAbs, Nat.reduceLT, Int.reduceLT, Int.reduceLE, Int.reduceNeg, Nat.reduceEqDiff, decide_true, decide_false, Bool.not_true, Bool.not_false, atI0, ix30, hm0] <;> rfl) (sq_nx (by simp (config := { failIfUnchanged := false }) only [DS.nxS, DS.bkS, DS.ctS, DS.badS, DS.retS, DS.retN, DS.exprS, DS.setS, DS.setL, DS.asgS, DS.gN, DS.gT, DS.gsN, DS.gsC, DS.op1, DS.op2, DS.op1L, DS.op2L, DS.oV, DS.oS, DS.var, DS.cst, DS.deref, DS.derefD, DS.ofL, DS.lstE, DS.evA, DS.tupE, DS.asB, DS.truT, DS.andT, DS.orT, DS.notT, DS.andE, DS.orE, DS.notE, DS.ifE, DS.chn, DS.sl, DS.slL, DS.part, DS.lcE, DS.lcL, DS.itA, DS.itE, DS.itZ, DS.par2, DS.evP, DS.setIx, DS.mutE, DS.lstTok, DS.updTok, DS.shr, DS.callE, DS.callKE, DS.runFn, DS.orL, DS.yesT, DS.noOwn, DS.addD, DS.subD, DS.mulD, DS.divD, DS.modD, DS.powD, DS.negD, DS.ltD, DS.leD, DS.gtD, DS.geD, DS.isN, DS.isntN, DS.notD, DS.ixD, DS.slD, DS.slLs, DS.lenD, DS.absD, DS.intD, DS.tupleD, DS.listL, DS.allD, DS.anyD, DS.sumD, DS.minD, DS.maxD, DS.sortedL, DS.truD, DS.isiD, DS.tyD, DS.gId, DS.wipeE, DS.restE, DS.R.bind_ok, DS.R.bind_exc, DS.R.bind_bad, DS.R.map_ok, DS.R.of_some, DS.R.of_none, Option.bind_some, Option.bind_none, Option.map_some, Option.map_none, List.getElem?_cons_zero, List.getElem?_cons_succ, List.getElem?_nil, List.set_cons_zero, List.set_cons_succ, List.length_cons, List.length_nil, List.map_cons, List.map_nil, Option.getD_some, Option.getD_none, List.cons_append, List.nil_append, List.replicate_succ, List.replicate_zero, Nat.reduceAdd, Nat.reduceSub, decide_eq_true_eq, Bool.and_eq_true, Bool.or_eq_true, if_true, if_false, Bool.not_eq_true', Bool.false_eq_true, reduceIte, DS.eqD_int, DS.neD_int, DS.eqD_bl, DS.neD_bl, ne_eq, not_false_eq_true, not_true_eq_false, true_and, and_true, true_or, or_true, false_or, or_false, and_self, Int.reduceEq, Int.reduceAbs, Nat.reduceLT, Int.reduceLT, Int.reduceLE, Int.reduceNeg, Nat.reduceEqDiff, decide_true, decide_false, Bool.not_true, Bool.not_false, atI0, ix30, hm0, hb] <;> rfl) (rt_of (by simp (config := { failIfUnchanged := false }) only [DS.nxS, DS.bkS, DS.ctS, DS.badS, DS.retS, DS.retN, DS.exprS, DS.setS, DS.setL, DS.asgS, DS.gN, DS.gT, DS.gsN, DS.gsC, DS.op1, DS.op2, DS.op1L, DS.op2L, DS.oV, DS.oS, DS.var, DS.cst, DS.deref, DS.derefD, DS.ofL, DS.lstE, DS.evA, DS.tupE, DS.asB, DS.truT, DS.andT, DS.orT, DS.notT, DS.andE, DS.orE, DS.notE, DS.ifE, DS.chn, DS.sl, DS.slL, DS.part, DS.lcE, DS.lcL, DS.itA, DS.itE, DS.itZ, DS.par2, DS.evP, DS.setIx, DS.mutE, DS.lstTok, DS.updTok, DS.shr, DS.callE, DS.callKE, DS.runFn, DS.orL, DS.yesT, DS.noOwn, DS.addD, DS.subD, DS.mulD, DS.divD, DS.modD, DS.powD, DS.negD, DS.ltD, DS.leD, DS.gtD, DS.geD, DS.isN, DS.isntN, DS.notD, DS.ixD, DS.slD, DS.slLs, DS.lenD, DS.absD, DS.intD, DS.tupleD, DS.listL, DS.allD, DS.anyD, DS.sumD, DS.minD, DS.maxD, DS.sortedL, DS.truD, DS.isiD, DS.tyD, DS.gId, DS.wipeE, DS.restE, DS.R.bind_ok, DS.R.bind_exc, DS.R.bind_bad, DS.R.map_ok, DS.R.of_some, DS.R.of_none, Option.bind_some, Option.bind_none, Option.map_some, Option.map_none, List.getElem?_cons_zero, List.getElem?_cons_succ, List.getElem?_nil, List.set_cons_zero, List.set_cons_succ, List.length_cons, List.length_nil, List.map_cons, List.map_nil, Option.getD_some, Option.getD_none, List.cons_append, List.nil_append, List.replicate_succ, List.replicate_zero, Nat.reduceAdd, Nat.reduceSub, decide_eq_true_eq, Bool.and_eq_true, Bool.or_eq_true, if_true, if_false, Bool.not_eq_true', Bool.false_eq_true, reduceIte, DS.eqD_int, DS.neD_int, DS.eqD_bl, DS.neD_bl, ne_eq, not_false_eq_true, not_true_eq_false, true_and, and_true, true_or, or_true, false_or, or_false, and_self, Int.reduceEq, Int.reduceAbs, Nat.reduceLT, Int.reduceLT, Int.reduceLE, Int.reduceNeg, Nat.reduceEqDiff, decide_true, decide_false, Bool.not_true, Bool.not_false] <;> rfl)))))), ⟨a.fdiv m, b, c, rfl, h1, by omega⟩, Int.fmod_nonneg_of_pos _ hm, Int.fmod_lt_of_pos _ hm⟩
  · refine ⟨_, _, fn_rt (sq_nx (if_ff (by simp (config := { failIfUnchanged := false }) only [DS.nxS, DS.bkS, DS.ctS, DS.badS, DS.retS, DS.retN, DS.exprS, DS.setS, DS.setL, DS.asgS, DS.gN, DS.gT, DS.gsN, DS.gsC, DS.op1, DS.op2, DS.op1L, DS.op2L, DS.oV, DS.oS, DS.var, DS.cst, DS.deref, DS.derefD, DS.ofL, DS.lstE, DS.evA, DS.tupE, DS.asB, DS.truT, DS.andT, DS.orT, DS.notT, DS.andE, DS.orE, DS.notE, DS.ifE, DS.chn, DS.sl, DS.slL, DS.part, DS.lcE, DS.lcL, DS.itA, DS.itE, DS.itZ, DS.par2, DS.evP, DS.setIx, DS.mutE, DS.lstTok, DS.updTok, DS.shr, DS.callE, DS.callKE, DS.runFn, DS.orL, DS.yesT, DS.noOwn, DS.addD, DS.subD, DS.mulD, DS.divD, DS.modD, DS.powD, DS.negD, DS.ltD, DS.leD, DS.gtD, DS.geD, DS.isN, DS.isntN, DS.notD, DS.ixD, DS.slD, DS.slLs, DS.lenD, DS.absD, DS.intD, DS.tupleD, DS.listL, DS.allD, DS.anyD, DS.sumD, DS.minD, DS.maxD, DS.sortedL, DS.truD, DS.isiD, DS.tyD, DS.gId, DS.wipeE, DS.restE, DS.R.bind_ok, DS.R.bind_exc, DS.R.bind_bad, DS.R.map_ok, DS.R.of_some, DS.R.of_none, Option.bind_some, Option.bind_none, Option.map_some, Option.map_none, List.getElem?_cons_zero, List.getElem?_cons_succ, List.getElem?_nil, List.set_cons_zero, List.set_cons_succ, List.length_cons, List.length_nil, List.map_cons, List.map_nil, Option.getD_some, Option.getD_none, List.cons_append, List.nil_append, List.replicate_succ, List.replicate_zero, Nat.reduceAdd, Nat.reduceSub, decide_eq_true_eq, Bool.and_eq_true, Bool.or_eq_true, if_true, if_false, Bool.not_eq_true', Bool.false_eq_true, reduceIte, DS.eqD_int, DS.neD_int, DS.eqD_bl, DS.neD_bl, ne_eq, not_false_eq_true, not_true_eq_false, true_and, and_true, true_or, or_true, false_or, or_false, and_self, Int.reduceEq, Int.reduceAbs, Nat.reduceLT, Int.reduceLT, Int.reduceLE, Int.reduceNeg, Nat.reduceEqDiff, decide_true, decide_false, Bool.not_true, Bool.not_false, atI0, atI1, atI2, ix30, ix32, ha] <;> rfl) (by simp (config := { failIfUnchanged := false }) only [DS.nxS, DS.bkS, DS.ctS, DS.badS, DS.retS, DS.retN, DS.exprS, DS.setS, DS.setL, DS.asgS, DS.gN, DS.gT, DS.gsN, DS.gsC, DS.op1, DS.op2, DS.op1L, DS.op2L, DS.oV, DS.oS, DS.var, DS.cst, DS.deref, DS.derefD, DS.ofL, DS.lstE, DS.evA, DS.tupE, DS.asB, DS.truT, DS.andT, DS.orT, DS.notT, DS.andE, DS.orE, DS.notE, DS.ifE, DS.chn, DS.sl, DS.slL, DS.part, DS.lcE, DS.lcL, DS.itA, DS.itE, DS.itZ, DS.par2, DS.evP, DS.setIx, DS.mutE, DS.lstTok, DS.updTok, DS.shr, DS.callE, DS.callKE, DS.runFn, DS.orL, DS.yesT, DS.noOwn, DS.addD, DS.subD, DS.mulD, DS.divD, DS.modD, DS.powD, DS.negD, DS.ltD, DS.leD, DS.gtD, DS.geD, DS.isN, DS.isntN, DS.notD, DS.ixD, DS.slD, DS.slLs, DS.lenD, DS.absD, DS.intD, DS.tupleD, DS.listL, DS.allD, DS.anyD, DS.sumD, DS.minD, DS.maxD, DS.sortedL, DS.truD, DS.isiD, DS.tyD, DS.gId, DS.wipeE, DS.restE, DS.R.bind_ok, DS.R.bind_exc, DS.R.bind_bad, DS.R.map_ok, DS.R.of_some, DS.R.of_none, Option.bind_some, Option.bind_none, Option.map_some, Option.map_none, List.getElem?_cons_zero, List.getElem?_cons_succ, List.getElem?_nil, List.set_cons_zero, List.set_cons_succ, List.length_cons, List.length_nil, List.map_cons, List.map_nil, Option.getD_some, Option.getD_none, List.cons_append, List.nil_append, List.replicate_succ, List.replicate_zero, Nat.reduceAdd, Nat.reduceSub, decide_eq_true_eq, Bool.and_eq_true, Bool.or_eq_true, if_true, if_false, Bool.not_eq_true', Bool.false_eq_true, reduceIte, DS.eqD_int, DS.neD_int, DS.eqD_bl, DS.neD_bl, ne_eq, not_false_eq_true, not_true_eq_false, true_and, and_true, true_or, or_true, false_or, or_false, and_self, Int.reduceEq, Int.reduceAbs, Nat.reduceLT, Int.reduceLT, Int.reduceLE, Int.reduceNeg, Nat.reduceEqDiff, decide_true, decide_false, Bool.not_true, Bool.not_false] <;> rfl)) (sq_nx (by simp (config := { failIfUnchanged := false }) only [DS.nxS, DS.bkS, DS.ctS, DS.badS, DS.retS, DS.retN, DS.exprS, DS.setS, DS.setL, DS.asgS, DS.gN, DS.gT, DS.gsN, DS.gsC, DS.op1, DS.op2, DS.op1L, DS.op2L, DS.oV, DS.oS, DS.var, DS.cst, DS.deref, DS.derefD, DS.ofL, DS.lstE, DS.evA, DS.tupE, DS.asB, DS.truT, DS.andT, DS.orT, DS.notT, DS.andE, DS.orE, DS.notE, DS.ifE, DS.chn, DS.sl, DS.slL, DS.part, DS.lcE, DS.lcL, DS.itA, DS.itE, DS.itZ, DS.par2, DS.evP, DS.setIx, DS.mutE, DS.lstTok, DS.updTok, DS.shr, DS.callE, DS.callKE, DS.runFn, DS.orL, DS.yesT, DS.noOwn, DS.addD, DS.subD, DS.mulD, DS.divD, DS.modD, DS.powD, DS.negD, DS.ltD, DS.leD, DS.gtD, DS.geD, DS.isN, DS.isntN, DS.notD, DS.ixD, DS.slD, DS.slLs, DS.lenD, DS.absD, DS.intD, DS.tupleD, DS.listL, DS.allD, DS.anyD, DS.sumD, DS.minD, DS.maxD, DS.sortedL, DS.truD, DS.isiD, DS.tyD, DS.gId, DS.wipeE, DS.restE, DS.R.bind_ok, DS.R.bind_exc, DS.R.bind_bad, DS.R.map_ok, DS.R.of_some, DS.R.of_none, Option.bind_some, Option.bind_none, Option.map_some, Option.map_none, List.getElem?_cons_zero, List.getElem?_cons_succ, List.getElem?_nil, List.set_cons_zero, List.set_cons_succ, List.length_cons, List.length_nil, List.map_cons, List.map_nil, Option.getD_some, Option.getD_none, List.cons_append, List.nil_append, List.replicate_succ, List.replicate_zero, Nat.reduceAdd, Nat.reduceSub, decide_eq_true_eq, Bool.and_eq_true, Bool.or_eq_true, if_true, if_false, Bool.not_eq_true', Bool.false_eq_true, reduceIte, DS.eqD_int, DS.neD_int, DS.eqD_bl, DS.neD_bl, ne_eq, not_false_eq_true, not_true_eq_false, true_and, and_true, true_or, or_true, false_or, or_false, and_self, Int.reduceEq, Int.reduceAbs, Nat.reduceLT, Int.reduceLT, Int.reduceLE, Int.reduceNeg, Nat.reduceEqDiff, decide_true, decide_false, Bool.not_true, Bool.not_false, atI2, ix32] <;> rfl) (sq_nx (by simp (config := { failIfUnchanged := false }) only [DS.nxS, DS.bkS, DS.ctS, DS.badS, DS.retS, DS.retN, DS.exprS, DS.setS, DS.setL, DS.asgS, DS.gN, DS.gT, DS.gsN, DS.gsC, DS.op1, DS.op2, DS.op1L, DS.op2L, DS.oV, DS.oS, DS.var, DS.cst, DS.deref, DS.derefD, DS.ofL, DS.lstE, DS.evA, DS.tupE, DS.asB, DS.truT, DS.andT, DS.orT, DS.notT, DS.andE, DS.orE, DS.notE, DS.ifE, DS.chn, DS.sl, DS.slL, DS.part, DS.lcE, DS.lcL, DS.itA, DS.itE, DS.itZ, DS.par2, DS.evP, DS.setIx, DS.mutE, DS.lstTok, DS.updTok, DS.shr, DS.callE, DS.callKE, DS.runFn, DS.orL, DS.yesT, DS.noOwn, DS.addD, DS.subD, DS.mulD, DS.divD, DS.modD, DS.powD, DS.negD, DS.ltD, DS.leD, DS.gtD, DS.geD, DS.isN, DS.isntN, DS.notD, DS.ixD, DS.slD, DS.slLs, DS.lenD, DS.absD, DS.intD, DS.tupleD, DS.listL, DS.allD, DS.anyD, DS.sumD, DS.minD, DS.maxD, DS.sortedL, DS.truD, DS.isiD, DS.tyD, DS.gId, DS.wipeE, DS.restE, DS.R.bind_ok, DS.R.bind_exc, DS.R.bind_bad, DS.R.map_ok, DS.R.of_some, DS.R.of_none, Option.bind_some, Option.bind_none, Option.map_some, Option.map_none, List.getElem?_cons_zero, List.getElem?_cons_succ, List.getElem?_nil, List.set_cons_zero, List.set_cons_succ, List.length_cons, List.length_nil, List.map_cons, List.map_nil, Option.getD_some, Option.getD_none, List.cons_append, List.nil_append, List.replicate_succ, List.replicate_zero, Nat.reduceAdd, Nat.reduceSub, decide_eq_true_eq, Bool.and_eq_true, Bool.or_eq_true, if_true, if_false, Bool.not_eq_true', Bool.false_eq_true, reduceIte, DS.eqD_int, DS.neD_int, DS.eqD_bl, DS.neD_bl, ne_eq, not_false_eq_true, not_true_eq_false, true_and, and_true, true_or, or_true, false_or, or_false, and_self, Int.reduceEq, Int.reduceAbs, Nat.reduceLT, Int.reduceLT, Int.reduceLE, Int.reduceNeg, Nat.reduceEqDiff, decide_true, decide_false, Bool.not_true, Bool.not_false, atI1, atI2, hs, hs2] <;> rfl)
      (sq_nx (by simp (config := { failIfUnchanged := false }) only [DS.nxS, DS.bkS, DS.ctS, DS.badS, DS.retS, DS.retN, DS.exprS, DS.setS, DS.setL, DS.asgS, DS.gN, DS.gT, DS.gsN, DS.gsC, DS.op1, DS.op2, DS.op1L, DS.op2L, DS.oV, DS.oS, DS.var, DS.cst, DS.deref, DS.derefD, DS.ofL, DS.lstE, DS.evA, DS.tupE, DS.asB, DS.truT, DS.andT, DS.orT, DS.notT, DS.andE, DS.orE, DS.notE, DS.ifE, DS.chn, DS.sl, DS.slL, DS.part, DS.lcE, DS.lcL, DS.itA, DS.itE, DS.itZ, DS.par2, DS.evP, DS.setIx, DS.mutE, DS.lstTok, DS.updTok, DS.shr, DS.callE, DS.callKE, DS.runFn, DS.orL, DS.yesT, DS.noOwn, DS.addD, DS.subD, DS.mulD, DS.divD, DS.modD, DS.powD, DS.negD, DS.ltD, DS.leD, DS.gtD, DS.geD, DS.isN, DS.isntN, DS.notD, DS.ixD, DS.slD, DS.slLs, DS.lenD, DS.absD, DS.intD, DS.tupleD, DS.listL, DS.allD, DS.anyD, DS.sumD, DS.minD, DS.maxD, DS.sortedL, DS.truD, DS.isiD, DS.tyD, DS.gId, DS.wipeE, DS.restE, DS.R.bind_ok, DS.R.bind_exc, DS.R.bind_bad, DS.R.map_ok, DS.R.of_some, DS.R.of_none, Option.bind_some, Option.bind_none, Option.map_some, Option.map_none, List.getElem?_cons_zero, List.getElem?_cons_succ, List.getElem?_nil, List.set_cons_zero, List.set_cons_succ, List.length_cons, List.length_nil, List.map_cons, List.map_nil, Option.getD_some, Option.getD_none, List.cons_append, List.nil_append, List.replicate_succ, List.replicate_zero, Nat.reduceAdd, Nat.reduceSub, decide_eq_true_eq, Bool.and_eq_true, Bool.or_eq_true, if_true, if_false, Bool.not_eq_true', Bool.false_eq_true, reduceIte, DS.eqD_int, DS.neD_int, DS.eqD_bl, DS.neD_bl, ne_eq, not_false_eq_true, not_true_eq_false, true_and, and_true, true_or, or_true, false_or, or_false, and_self, Int.reduceEq, Int.reduceAbs, Nat.reduceLT, Int.reduceLT, Int.reduceLE, Int.reduceNeg, Nat.reduceEqDiff, decide_true, decide_false, Bool.not_true, Bool.not_false] <;> rfl) (sq_nx (by simp (config := { failIfUnchanged := false }) only [DS.nxS, DS.bkS, DS.ctS, DS.badS, DS.retS, DS.retN, DS.exprS, DS.setS, DS.setL, DS.asgS, DS.gN, DS.gT, DS.gsN, DS.gsC, DS.op1, DS.op2, DS.op1L, DS.op2L, DS.oV, DS.oS, DS.var, DS.cst, DS.deref, DS.derefD, DS.ofL, DS.lstE, DS.evA, DS.tupE, DS.asB, DS.truT, DS.andT, DS.orT, DS.notT, DS.andE, DS.orE, DS.notE, DS.ifE, DS.chn, DS.sl, DS.slL, DS.part, DS.lcE, DS.lcL, DS.itA, DS.itE, DS.itZ, DS.par2, DS.evP, DS.setIx, DS.mutE, DS.lstTok, DS.updTok, DS.shr, DS.callE, DS.callKE, DS.runFn, DS.orL, DS.yesT, DS.noOwn, DS.addD, DS.subD, DS.mulD, DS.divD, DS.modD, DS.powD, DS.negD, DS.ltD, DS.leD, DS.gtD, DS.geD, DS.isN, DS.isntN, DS.notD, DS.ixD, DS.slD, DS.slLs, DS.lenD, DS.absD, DS.intD, DS.tupleD, DS.listL, DS.allD, DS.anyD, DS.sumD, DS.minD, DS.maxD, DS.sortedL, DS.truD, DS.isiD, DS.tyD, DS.gId, DS.wipeE, DS.restE, DS.R.bind_ok, DS.R.bind_exc, DS.R.bind_bad, DS.R.map_ok, DS.R.of_some, DS.R.of_none, Option.bind_some, Option.bind_none, Option.map_some, Option.map_none, List.getElem?_cons_zero, List.getElem?_cons_succ, List.getElem?_nil, List.set_cons_zero, List.set_cons_succ, List.length_cons, List.length_nil, List.map_cons, List.map_nil, Option.getD_some, Option.getD_none, List.cons_append, List.nil_append, List.replicate_succ, List.replicate_zero, Nat.reduceAdd, Nat.reduceSub, decide_eq_true_eq, Bool.and_eq_true, Bool.or_eq_true, if_true, if_false, Bool.not_eq_true', Bool.false_eq_true, reduceIte, DS.eqD_int, DS.neD_int, DS.eqD_bl, DS.neD_bl, ne_eq, not_false_eq_true, not_true_eq_false, true_and, and_true, true_or, or_true, false_or, or_false, and_self, Int.reduceEq, Int.reduceAbs, Nat.reduceLT, Int.reduceLT, Int.reduceLE, Int.reduceNeg, Nat.reduceEqDiff, decide_true, decide_false, Bool.not_true, Bool.not_false, atI1, atI2, hs3] <;> rfl) (rt_of (by simp (config := { failIfUnchanged := false }) only [DS.nxS, DS.bkS, DS.ctS, DS.badS, DS.retS, DS.retN, DS.exprS, DS.setS, DS.setL, DS.asgS, DS.gN, DS.gT, DS.gsN, DS.gsC, DS.op1, DS.op2, DS.op1L, DS.op2L, DS.oV, DS.oS, DS.var, DS.cst, DS.deref, DS.derefD, DS.ofL, DS.lstE, DS.evA, DS.tupE, DS.asB, DS.truT, DS.andT, DS.orT, DS.notT, DS.andE, DS.orE, DS.notE, DS.ifE, DS.chn, DS.sl, DS.slL, DS.part, DS.lcE, DS.lcL, DS.itA, DS.itE, DS.itZ, DS.par2, DS.evP, DS.setIx, DS.mutE, DS.lstTok, DS.updTok, DS.shr, DS.callE, DS.callKE, DS.runFn, DS.orL, DS.yesT, DS.noOwn, DS.addD, DS.subD, DS.mulD, DS.divD, DS.modD, DS.powD, DS.negD, DS.ltD, DS.leD, DS.gtD, DS.geD, DS.isN, DS.isntN, DS.notD, DS.ixD, DS.slD, DS.slLs, DS.lenD, DS.absD, DS.intD, DS.tupleD, DS.listL, DS.allD, DS.anyD, DS.sumD, DS.minD, DS.maxD, DS.sortedL, DS.truD, DS.isiD, DS.tyD, DS.gId, DS.wipeE, DS.restE, DS.R.bind_ok, DS.R.bind_exc, DS.R.bind_bad, DS.R.map_ok, DS.R.of_some, DS.R.of_none, Option.bind_some, Option.bind_none, Option.map_some, Option.map_none, List.getElem?_cons_zero, List.getElem?_cons_succ, List.getElem?_nil, List.set_cons_zero, List.set_cons_succ, List.length_cons, List.length_nil, List.map_cons, List.map_nil, Option.getD_some, Option.getD_none, List.cons_append, List.nil_append, List.replicate_succ, List.replicate_zero, Nat.reduceAdd, Nat.reduceSub, decide_eq_true_eq, Bool.and_eq_true, Bool.or_eq_true, if_true, if_false, Bool.not_eq_true', Bool.false_eq_true, reduceIte, DS.eqD_int, DS.neD_int, DS.eqD_bl, DS.neD_bl, ne_eq, not_false_eq_true, not_true_eq_false, true_and, and_true, true_or, or_true, false_or, or_false, and_self, Int.reduceEq, Int.reduceAbs, Nat.reduceLT, Int.reduceLT, Int.reduceLE, Int.reduceNeg, Nat.reduceEqDiff, decide_true, decide_false, Bool.not_true, Bool.not_false, hs2, hm0] <;> rfl))))))), ⟨a, b, c + 1, rfl, by omega, by omega⟩, Int.fmod_nonneg_of_pos _ hm, Int.fmod_lt_of_pos _ hm⟩
/-! ### the cells, the box -/
theorem cells_loop (a b : Slot) (hp : List Ob) : ∀ (ns : List Int) (k : Nat) (x : Int) (e3 e4 e5 : Slot), k + ns.length ≤ 1000 → ∃ x' e3' e4' e5',
    forL (gT 2 (gsC (gN 3) (gsC (gN 4) gsN))) (sqS (setS 5 (op2 modD (oV (op1 intD (oS 3))) (oS 1))) (setIx (op2 addD (oV (op2 ixD (oS 2) (oS 5))) (oV (op2 mulD (oS 4) (oV (op2 addD (oS 3) (oV (cst (.int 2)))))))) (oS 2) (var 5))) (enumL k (ns.map .int)) ⟨[a, .v (.int 1), .ol [.int x], e3, e4, e5], hp⟩ =
      .ok .nx ⟨[a, .v (.int 1), .ol [.int x'], e3', e4', e5'], hp⟩
  | [], k, x, e3, e4, e5, _ => ⟨x, e3, e4, e5, rfl⟩
  | n :: ns, k, x, e3, e4, e5, h => by
    have hk : k + 1 + ns.length ≤ 1000 := by simp only [List.length_cons] at h; omega
    obtain ⟨x', e3', e4', e5', ih⟩ := cells_loop a b hp ns (k + 1) (x + n * ((k : Int) + 2)) (.v (.int k)) (.v (.int n)) (.v (.int 0)) hk
    refine ⟨x', e3', e4', e5', ?_⟩
    have hs : DS.small64 ((k : Int) + 2) = true := sm_lit _ (by omega)
    have hm : (k : Int).fmod 1 = 0 := by rw [Int.fmod_eq_emod_of_nonneg _ (by decide)]; omega
    have i0 : L2.ixN 1 0 = some 0 := by decide
    rw [List.map_cons, enumL, forL_cons (s2 := ⟨[a, .v (.int 1), .ol [.int (x + n * ((k : Int) + 2))], .v (.int k), .v (.int n), .v (.int 0)], hp⟩) (by simp (config := { failIfUnchanged := false }) only [DS.nxS, DS.bkS, DS.ctS, DS.badS, DS.retS, DS.retN, DS.exprS, DS.setS, DS.setL, DS.asgS, DS.gN, DS.gT, DS.gsN, DS.gsC, DS.op1, DS.op2, DS.op1L, DS.op2L, DS.oV, DS.oS, DS.var, DS.cst, DS.deref, DS.derefD, DS.ofL, DS.lstE, DS.evA, DS.tupE, DS.asB, DS.truT, DS.andT, DS.orT, DS.notT, DS.andE, DS.orE, DS.notE, DS.ifE, DS.chn, DS.sl, DS.slL, DS.part, DS.lcE, DS.lcL, DS.itA, DS.itE, DS.itZ, DS.par2, DS.evP, DS.setIx, DS.mutE, DS.lstTok, DS.updTok, DS.shr, DS.callE, DS.callKE, DS.runFn, DS.orL, DS.yesT, DS.noOwn, DS.addD, DS.subD, DS.mulD, DS.divD, DS.modD, DS.powD, DS.negD, DS.ltD, DS.leD, DS.gtD, DS.geD, DS.isN, DS.isntN, DS.notD, DS.ixD, DS.slD, DS.slLs, DS.lenD, DS.absD, DS.intD, DS.tupleD, DS.listL, DS.allD, DS.anyD, DS.sumD, DS.minD, DS.maxD, DS.sortedL, DS.truD, DS.isiD, DS.tyD, DS.gId, DS.wipeE, DS.restE, DS.R.bind_ok, DS.R.bind_exc, DS.R.bind_bad, DS.R.map_ok, DS.R.of_some, DS.R.of_none, Option.bind_some, Option.bind_none, Option.map_some, Option.map_none, List.getElem?_cons_zero, List.getElem?_cons_succ, List.getElem?_nil, List.set_cons_zero, List.set_cons_succ, List.length_cons, List.length_nil, List.map_cons, List.map_nil, Option.getD_some, Option.getD_none, List.cons_append, List.nil_append, List.replicate_succ, List.replicate_zero, Nat.reduceAdd, Nat.reduceSub, decide_eq_true_eq, Bool.and_eq_true, Bool.or_eq_true, if_true, if_false, Bool.not_eq_true', Bool.false_eq_true, reduceIte, DS.eqD_int, DS.neD_int, DS.eqD_bl, DS.neD_bl, ne_eq, not_false_eq_true, not_true_eq_false, true_and, and_true, true_or, or_true, false_or, or_false, and_self, Int.reduceEq, Int.reduceAbs, Nat.reduceLT, Int.reduceLT, Int.reduceLE, Int.reduceNeg, Nat.reduceEqDiff, decide_true, decide_false, Bool.not_true, Bool.not_false] <;> rfl)]
    · exact ih
    · exact sq_nx (by simp (config := { failIfUnchanged := false }) only [DS.nxS, DS.bkS, DS.ctS, DS.badS, DS.retS, DS.retN, DS.exprS, DS.setS, DS.setL, DS.asgS, DS.gN, DS.gT, DS.gsN, DS.gsC, DS.op1, DS.op2, DS.op1L, DS.op2L, DS.oV, DS.oS, DS.var, DS.cst, DS.deref, DS.derefD, DS.ofL, DS.lstE, DS.evA, DS.tupE, DS.asB, DS.truT, DS.andT, DS.orT, DS.notT, DS.andE, DS.orE, DS.notE, DS.ifE, DS.chn, DS.sl, DS.slL, DS.part, DS.lcE, DS.lcL, DS.itA, DS.itE, DS.itZ, DS.par2, DS.evP, DS.setIx, DS.mutE, DS.lstTok, DS.updTok, DS.shr, DS.callE, DS.callKE, DS.runFn, DS.orL, DS.yesT, DS.noOwn, DS.addD, DS.subD, DS.mulD, DS.divD, DS.modD, DS.powD, DS.negD, DS.ltD, DS.leD, DS.gtD, DS.geD, DS.isN, DS.isntN, DS.notD, DS.ixD, DS.slD, DS.slLs, DS.lenD, DS.absD, DS.intD, DS.tupleD, DS.listL, DS.allD, DS.anyD, DS.sumD, DS.minD, DS.maxD, DS.sortedL, DS.truD, DS.isiD, DS.tyD, DS.gId, DS.wipeE, DS.restE, DS.R.bind_ok, DS.R.bind_exc, DS.R.bind_bad, DS.R.map_ok, DS.R.of_some, DS.R.of_none, Option.bind_some, Option.bind_none, Option.map_some, Option.map_none, List.getElem?_cons_zero, List.getElem?_cons_succ, List.getElem?_nil, List.set_cons_zero, List.set_cons_succ, List.length_cons, List.length_nil, List.map_cons, List.map_nil, Option.getD_some, Option.getD_none, List.cons_append, List.nil_append, List.replicate_succ, List.replicate_zero, Nat.reduceAdd, Nat.reduceSub, decide_eq_true_eq, Bool.and_eq_true, Bool.or_eq_true, if_true, if_false, Bool.not_eq_true', Bool.false_eq_true, reduceIte, DS.eqD_int, DS.neD_int, DS.eqD_bl, DS.neD_bl, ne_eq, not_false_eq_true, not_true_eq_false, true_and, and_true, true_or, or_true, false_or, or_false, and_self, Int.reduceEq, Int.reduceAbs, Nat.reduceLT, Int.reduceLT, Int.reduceLE, Int.reduceNeg, Nat.reduceEqDiff, decide_true, decide_false, Bool.not_true, Bool.not_false, hm] <;> rfl) (by simp (config := { failIfUnchanged := false }) only [DS.nxS, DS.bkS, DS.ctS, DS.badS, DS.retS, DS.retN, DS.exprS, DS.setS, DS.setL, DS.asgS, DS.gN, DS.gT, DS.gsN, DS.gsC, DS.op1, DS.op2, DS.op1L, DS.op2L, DS.oV, DS.oS, DS.var, DS.cst, DS.deref, DS.derefD, DS.ofL, DS.lstE, DS.evA, DS.tupE, DS.asB, DS.truT, DS.andT, DS.orT, DS.notT, DS.andE, DS.orE, DS.notE, DS.ifE, DS.chn, DS.sl, DS.slL, DS.part, DS.lcE, DS.lcL, DS.itA, DS.itE, DS.itZ, DS.par2, DS.evP, DS.setIx, DS.mutE, DS.lstTok, DS.updTok, DS.shr, DS.callE, DS.callKE, DS.runFn, DS.orL, DS.yesT, DS.noOwn, DS.addD, DS.subD, DS.mulD, DS.divD, DS.modD, DS.powD, DS.negD, DS.ltD, DS.leD, DS.gtD, DS.geD, DS.isN, DS.isntN, DS.notD, DS.ixD, DS.slD, DS.slLs, DS.lenD, DS.absD, DS.intD, DS.tupleD, DS.listL, DS.allD, DS.anyD, DS.sumD, DS.minD, DS.maxD, DS.sortedL, DS.truD, DS.isiD, DS.tyD, DS.gId, DS.wipeE, DS.restE, DS.R.bind_ok, DS.R.bind_exc, DS.R.bind_bad, DS.R.map_ok, DS.R.of_some, DS.R.of_none, Option.bind_some, Option.bind_none, Option.map_some, Option.map_none, List.getElem?_cons_zero, List.getElem?_cons_succ, List.getElem?_nil, List.set_cons_zero, List.set_cons_succ, List.length_cons, List.length_nil, List.map_cons, List.map_nil, Option.getD_some, Option.getD_none, List.cons_append, List.nil_append, List.replicate_succ, List.replicate_zero, Nat.reduceAdd, Nat.reduceSub, decide_eq_true_eq, Bool.and_eq_true, Bool.or_eq_true, if_true, if_false, Bool.not_eq_true', Bool.false_eq_true, reduceIte, DS.eqD_int, DS.neD_int, DS.eqD_bl, DS.neD_bl, ne_eq, not_false_eq_true, not_true_eq_false, true_and, and_true, true_or, or_true, false_or, or_false, and_self, Int.reduceEq, Int.reduceAbs, Nat.reduceLT, Int.reduceLT, Int.reduceLE, Int.reduceNeg, Nat.reduceEqDiff, decide_true, decide_false, Bool.not_true, Bool.not_false, atI0, i0, hs] <;> rfl)
theorem F__law_cells_ok (ns : List Int) (hl : ns.length ≤ 63) (hp : List Ob) : ∃ x, F__law_cells [.scr (ns.map .int), .int 1] hp = .ok (.lst [.int x]) hp := by
  have key : ∀ (x : Int) (rest : List Int), rest.length ≤ 63 → (cutL (ns.map D.int) (some 1) (some 63)) = rest.map .int → (orL (op1L listL (oV (sl (oS 0) none (some (var 1))))) (lstE [(cst (.int 0))])) ⟨[.v (.scr (ns.map .int)), .v (.int 1), .un, .un, .un, .un], hp⟩ = .ok [.int x] ⟨[.v (.scr (ns.map .int)), .v (.int 1), .un, .un, .un, .un], hp⟩ →
      ∃ x, F__law_cells [.scr (ns.map .int), .int 1] hp = .ok (.lst [.int x]) hp := fun x rest h1 h2 h3 => by
    obtain ⟨x', e3, e4, e5, h⟩ := cells_loop (.v (.scr (ns.map .int))) .un hp rest 0 x .un .un .un (by omega)
    refine ⟨x', ?_⟩
    unfold F__law_cells B__law_cells
    refine fn_rt (sq_nx (s1 := ⟨[.v (.scr (ns.map .int)), .v (.int 1), .ol [.int x], .un, .un, .un], hp⟩) ?_ (sq_nx (for_of (ds := enumL 0 (rest.map .int)) (s1 := ⟨[.v (.scr (ns.map .int)), .v (.int 1), .ol [.int x], .un, .un, .un], hp⟩) ?_ h) (rt_of (by simp (config := { failIfUnchanged := false }) only [DS.nxS, DS.bkS, DS.ctS, DS.badS, DS.retS, DS.retN, DS.exprS, DS.setS, DS.setL, DS.asgS, DS.gN, DS.gT, DS.gsN, DS.gsC, DS.op1, DS.op2, DS.op1L, DS.op2L, DS.oV, DS.oS, DS.var, DS.cst, DS.deref, DS.derefD, DS.ofL, DS.lstE, DS.evA, DS.tupE, DS.asB, DS.truT, DS.andT, DS.orT, DS.notT, DS.andE, DS.orE, DS.notE, DS.ifE, DS.chn, DS.sl, DS.slL, DS.part, DS.lcE, DS.lcL, DS.itA, DS.itE, DS.itZ, DS.par2, DS.evP, DS.setIx, DS.mutE, DS.lstTok, DS.updTok, DS.shr, DS.callE, DS.callKE, DS.runFn, DS.orL, DS.yesT, DS.noOwn, DS.addD, DS.subD, DS.mulD, DS.divD, DS.modD, DS.powD, DS.negD, DS.ltD, DS.leD, DS.gtD, DS.geD, DS.isN, DS.isntN, DS.notD, DS.ixD, DS.slD, DS.slLs, DS.lenD, DS.absD, DS.intD, DS.tupleD, DS.listL, DS.allD, DS.anyD, DS.sumD, DS.minD, DS.maxD, DS.sortedL, DS.truD, DS.isiD, DS.tyD, DS.gId, DS.wipeE, DS.restE, DS.R.bind_ok, DS.R.bind_exc, DS.R.bind_bad, DS.R.map_ok, DS.R.of_some, DS.R.of_none, Option.bind_some, Option.bind_none, Option.map_some, Option.map_none, List.getElem?_cons_zero, List.getElem?_cons_succ, List.getElem?_nil, List.set_cons_zero, List.set_cons_succ, List.length_cons, List.length_nil, List.map_cons, List.map_nil, Option.getD_some, Option.getD_none, List.cons_append, List.nil_append, List.replicate_succ, List.replicate_zero, Nat.reduceAdd, Nat.reduceSub, decide_eq_true_eq, Bool.and_eq_true, Bool.or_eq_true, if_true, if_false, Bool.not_eq_true', Bool.false_eq_true, reduceIte, DS.eqD_int, DS.neD_int, DS.eqD_bl, DS.neD_bl, ne_eq, not_false_eq_true, not_true_eq_false, true_and, and_true, true_or, or_true, false_or, or_false, and_self, Int.reduceEq, Int.reduceAbs, Nat.reduceLT, Int.reduceLT, Int.reduceLE, Int.reduceNeg, Nat.reduceEqDiff, decide_true, decide_false, Bool.not_true, Bool.not_false] <;> rfl))))
    · show (orL (op1L listL (oV (sl (oS 0) none (some (var 1))))) (lstE [(cst (.int 0))]) ⟨[.v (.scr (ns.map .int)), .v (.int 1), .un, .un, .un, .un], hp⟩).bind _ = _
      rw [h3]
      rfl
    · simp (config := { failIfUnchanged := false }) only [DS.nxS, DS.bkS, DS.ctS, DS.badS, DS.retS, DS.retN, DS.exprS, DS.setS, DS.setL, DS.asgS, DS.gN, DS.gT, DS.gsN, DS.gsC, DS.op1, DS.op2, DS.op1L, DS.op2L, DS.oV, DS.oS, DS.var, DS.cst, DS.deref, DS.derefD, DS.ofL, DS.lstE, DS.evA, DS.tupE, DS.asB, DS.truT, DS.andT, DS.orT, DS.notT, DS.andE, DS.orE, DS.notE, DS.ifE, DS.chn, DS.sl, DS.slL, DS.part, DS.lcE, DS.lcL, DS.itA, DS.itE, DS.itZ, DS.par2, DS.evP, DS.setIx, DS.mutE, DS.lstTok, DS.updTok, DS.shr, DS.callE, DS.callKE, DS.runFn, DS.orL, DS.yesT, DS.noOwn, DS.addD, DS.subD, DS.mulD, DS.divD, DS.modD, DS.powD, DS.negD, DS.ltD, DS.leD, DS.gtD, DS.geD, DS.isN, DS.isntN, DS.notD, DS.ixD, DS.slD, DS.slLs, DS.lenD, DS.absD, DS.intD, DS.tupleD, DS.listL, DS.allD, DS.anyD, DS.sumD, DS.minD, DS.maxD, DS.sortedL, DS.truD, DS.isiD, DS.tyD, DS.gId, DS.wipeE, DS.restE, DS.R.bind_ok, DS.R.bind_exc, DS.R.bind_bad, DS.R.map_ok, DS.R.of_some, DS.R.of_none, Option.bind_some, Option.bind_none, Option.map_some, Option.map_none, List.getElem?_cons_zero, List.getElem?_cons_succ, List.getElem?_nil, List.set_cons_zero, List.set_cons_succ, List.length_cons, List.length_nil, List.map_cons, List.map_nil, Option.getD_some, Option.getD_none, List.cons_append, List.nil_append, List.replicate_succ, List.replicate_zero, Nat.reduceAdd, Nat.reduceSub, decide_eq_true_eq, Bool.and_eq_true, Bool.or_eq_true, if_true, if_false, Bool.not_eq_true', Bool.false_eq_true, reduceIte, DS.eqD_int, DS.neD_int, DS.eqD_bl, DS.neD_bl, ne_eq, not_false_eq_true, not_true_eq_false, true_and, and_true, true_or, or_true, false_or, or_false, and_self, Int.reduceEq, Int.reduceAbs, Nat.reduceLT, Int.reduceLT, Int.reduceLE, Int.reduceNeg, Nat.reduceEqDiff, decide_true, decide_false, Bool.not_true, Bool.not_false, h2]
  cases ns with
  | nil => exact key 0 [] (by simp) (by simp [cutL]) (by simp (config := { failIfUnchanged := false }) only [DS.nxS, DS.bkS, DS.ctS, DS.badS, DS.retS, DS.retN, DS.exprS, DS.setS, DS.setL, DS.asgS, DS.gN, DS.gT, DS.gsN, DS.gsC, DS.op1, DS.op2, DS.op1L, DS.op2L, DS.oV, DS.oS, DS.var, DS.cst, DS.deref, DS.derefD, DS.ofL, DS.lstE, DS.evA, DS.tupE, DS.asB, DS.truT, DS.andT, DS.orT, DS.notT, DS.andE, DS.orE, DS.notE, DS.ifE, DS.chn, DS.sl, DS.slL, DS.part, DS.lcE, DS.lcL, DS.itA, DS.itE, DS.itZ, DS.par2, DS.evP, DS.setIx, DS.mutE, DS.lstTok, DS.updTok, DS.shr, DS.callE, DS.callKE, DS.runFn, DS.orL, DS.yesT, DS.noOwn, DS.addD, DS.subD, DS.mulD, DS.divD, DS.modD, DS.powD, DS.negD, DS.ltD, DS.leD, DS.gtD, DS.geD, DS.isN, DS.isntN, DS.notD, DS.ixD, DS.slD, DS.slLs, DS.lenD, DS.absD, DS.intD, DS.tupleD, DS.listL, DS.allD, DS.anyD, DS.sumD, DS.minD, DS.maxD, DS.sortedL, DS.truD, DS.isiD, DS.tyD, DS.gId, DS.wipeE, DS.restE, DS.R.bind_ok, DS.R.bind_exc, DS.R.bind_bad, DS.R.map_ok, DS.R.of_some, DS.R.of_none, Option.bind_some, Option.bind_none, Option.map_some, Option.map_none, List.getElem?_cons_zero, List.getElem?_cons_succ, List.getElem?_nil, List.set_cons_zero, List.set_cons_succ, List.length_cons, List.length_nil, List.map_cons, List.map_nil, Option.getD_some, Option.getD_none, List.cons_append, List.nil_append, List.replicate_succ, List.replicate_zero, Nat.reduceAdd, Nat.reduceSub, decide_eq_true_eq, Bool.and_eq_true, Bool.or_eq_true, if_true, if_false, Bool.not_eq_true', Bool.false_eq_true, reduceIte, DS.eqD_int, DS.neD_int, DS.eqD_bl, DS.neD_bl, ne_eq, not_false_eq_true, not_true_eq_false, true_and, and_true, true_or, or_true, false_or, or_false, and_self, Int.reduceEq, Int.reduceAbs, Nat.reduceLT, Int.reduceLT, Int.reduceLE, Int.reduceNeg, Nat.reduceEqDiff, decide_true, decide_false, Bool.not_true, Bool.not_false] <;> rfl)
  | cons n r =>
    refine key n r (by simp only [List.length_cons] at hl; omega) ?_ ?_
    · have := cutL_ft ((n :: r).map D.int) 1 63
      rw [show ((1 : Nat) : Int) = 1 from rfl, show ((63 : Nat) : Int) = 63 from rfl] at this
      rw [this, List.map_cons, List.drop_succ_cons, List.drop_zero, List.take_of_length_le]
      simp only [List.length_map]
      simp only [List.length_cons] at hl
      omega
    · have := cutL_to ((n :: r).map D.int) 1
      rw [show ((1 : Nat) : Int) = 1 from rfl, List.map_cons, List.take_succ_cons, List.take_zero] at this
      simp (config := { failIfUnchanged := false }) only [DS.nxS, DS.bkS, DS.ctS, DS.badS, DS.retS, DS.retN, DS.exprS, DS.setS, DS.setL, DS.asgS, DS.gN, DS.gT, DS.gsN, DS.gsC, DS.op1, DS.op2, DS.op1L, DS.op2L, DS.oV, DS.oS, DS.var, DS.cst, DS.deref, DS.derefD, DS.ofL, DS.lstE, DS.evA, DS.tupE, DS.asB, DS.truT, DS.andT, DS.orT, DS.notT, DS.andE, DS.orE, DS.notE, DS.ifE, DS.chn, DS.sl, DS.slL, DS.part, DS.lcE, DS.lcL, DS.itA, DS.itE, DS.itZ, DS.par2, DS.evP, DS.setIx, DS.mutE, DS.lstTok, DS.updTok, DS.shr, DS.callE, DS.callKE, DS.runFn, DS.orL, DS.yesT, DS.noOwn, DS.addD, DS.subD, DS.mulD, DS.divD, DS.modD, DS.powD, DS.negD, DS.ltD, DS.leD, DS.gtD, DS.geD, DS.isN, DS.isntN, DS.notD, DS.ixD, DS.slD, DS.slLs, DS.lenD, DS.absD, DS.intD, DS.tupleD, DS.listL, DS.allD, DS.anyD, DS.sumD, DS.minD, DS.maxD, DS.sortedL, DS.truD, DS.isiD, DS.tyD, DS.gId, DS.wipeE, DS.restE, DS.R.bind_ok, DS.R.bind_exc, DS.R.bind_bad, DS.R.map_ok, DS.R.of_some, DS.R.of_none, Option.bind_some, Option.bind_none, Option.map_some, Option.map_none, List.getElem?_cons_zero, List.getElem?_cons_succ, List.getElem?_nil, List.set_cons_zero, List.set_cons_succ, List.length_cons, List.length_nil, List.map_cons, List.map_nil, Option.getD_some, Option.getD_none, List.cons_append, List.nil_append, List.replicate_succ, List.replicate_zero, Nat.reduceAdd, Nat.reduceSub, decide_eq_true_eq, Bool.and_eq_true, Bool.or_eq_true, if_true, if_false, Bool.not_eq_true', Bool.false_eq_true, reduceIte, DS.eqD_int, DS.neD_int, DS.eqD_bl, DS.neD_bl, ne_eq, not_false_eq_true, not_true_eq_false, true_and, and_true, true_or, or_true, false_or, or_false, and_self, Int.reduceEq, Int.reduceAbs, Nat.reduceLT, Int.reduceLT, Int.reduceLE, Int.reduceNeg, Nat.reduceEqDiff, decide_true, decide_false, Bool.not_true, Bool.not_false, this]
      rfl
theorem F__law_box_ok (x : Int) : ∃ hp, F__law_box [.lst [.int x], .int 0] [] = .ok (.ref 0) hp ∧ Bx 0 hp := by
  have hs2 : DS.small64 10 = true := by decide
  have hs : ∀ p : Prop, ∀ [Decidable p], DS.small64 (if p then 1 else 0) = true := fun p _ => by split <;> decide
  have hs3 : DS.small64 39373 = true := by decide
  unfold F__law_box B__law_box
  refine ⟨_, fn_rt (sq_nx (by simp (config := { failIfUnchanged := false }) only [DS.nxS, DS.bkS, DS.ctS, DS.badS, DS.retS, DS.retN, DS.exprS, DS.setS, DS.setL, DS.asgS, DS.gN, DS.gT, DS.gsN, DS.gsC, DS.op1, DS.op2, DS.op1L, DS.op2L, DS.oV, DS.oS, DS.var, DS.cst, DS.deref, DS.derefD, DS.ofL, DS.lstE, DS.evA, DS.tupE, DS.asB, DS.truT, DS.andT, DS.orT, DS.notT, DS.andE, DS.orE, DS.notE, DS.ifE, DS.chn, DS.sl, DS.slL, DS.part, DS.lcE, DS.lcL, DS.itA, DS.itE, DS.itZ, DS.par2, DS.evP, DS.setIx, DS.mutE, DS.lstTok, DS.updTok, DS.shr, DS.callE, DS.callKE, DS.runFn, DS.orL, DS.yesT, DS.noOwn, DS.addD, DS.subD, DS.mulD, DS.divD, DS.modD, DS.powD, DS.negD, DS.ltD, DS.leD, DS.gtD, DS.geD, DS.isN, DS.isntN, DS.notD, DS.ixD, DS.slD, DS.slLs, DS.lenD, DS.absD, DS.intD, DS.tupleD, DS.listL, DS.allD, DS.anyD, DS.sumD, DS.minD, DS.maxD, DS.sortedL, DS.truD, DS.isiD, DS.tyD, DS.gId, DS.wipeE, DS.restE, DS.R.bind_ok, DS.R.bind_exc, DS.R.bind_bad, DS.R.map_ok, DS.R.of_some, DS.R.of_none, Option.bind_some, Option.bind_none, Option.map_some, Option.map_none, List.getElem?_cons_zero, List.getElem?_cons_succ, List.getElem?_nil, List.set_cons_zero, List.set_cons_succ, List.length_cons, List.length_nil, List.map_cons, List.map_nil, Option.getD_some, Option.getD_none, List.cons_append, List.nil_append, List.replicate_succ, List.replicate_zero, Nat.reduceAdd, Nat.reduceSub, decide_eq_true_eq, Bool.and_eq_true, Bool.or_eq_true, if_true, if_false, Bool.not_eq_true', Bool.false_eq_true, reduceIte, DS.eqD_int, DS.neD_int, DS.eqD_bl, DS.neD_bl, ne_eq, not_false_eq_true, not_true_eq_false, true_and, and_true, true_or, or_true, false_or, or_false, and_self, Int.reduceEq, Int.reduceAbs, Nat.reduceLT, Int.reduceLT, Int.reduceLE, Int.reduceNeg, Nat.reduceEqDiff, decide_true, decide_false, Bool.not_true, Bool.not_false, atI0] <;> rfl) (rt_of (by simp (config := { failIfUnchanged := false }) only [DS.nxS, DS.bkS, DS.ctS, DS.badS, DS.retS, DS.retN, DS.exprS, DS.setS, DS.setL, DS.asgS, DS.gN, DS.gT, DS.gsN, DS.gsC, DS.op1, DS.op2, DS.op1L, DS.op2L, DS.oV, DS.oS, DS.var, DS.cst, DS.deref, DS.derefD, DS.ofL, DS.lstE, DS.evA, DS.tupE, DS.asB, DS.truT, DS.andT, DS.orT, DS.notT, DS.andE, DS.orE, DS.notE, DS.ifE, DS.chn, DS.sl, DS.slL, DS.part, DS.lcE, DS.lcL, DS.itA, DS.itE, DS.itZ, DS.par2, DS.evP, DS.setIx, DS.mutE, DS.lstTok, DS.updTok, DS.shr, DS.callE, DS.callKE, DS.runFn, DS.orL, DS.yesT, DS.noOwn, DS.addD, DS.subD, DS.mulD, DS.divD, DS.modD, DS.powD, DS.negD, DS.ltD, DS.leD, DS.gtD, DS.geD, DS.isN, DS.isntN, DS.notD, DS.ixD, DS.slD, DS.slLs, DS.lenD, DS.absD, DS.intD, DS.tupleD, DS.listL, DS.allD, DS.anyD, DS.sumD, DS.minD, DS.maxD, DS.sortedL, DS.truD, DS.isiD, DS.tyD, DS.gId, DS.wipeE, DS.restE, DS.R.bind_ok, DS.R.bind_exc, DS.R.bind_bad, DS.R.map_ok, DS.R.of_some, DS.R.of_none, Option.bind_some, Option.bind_none, Option.map_some, Option.map_none, List.getElem?_cons_zero, List.getElem?_cons_succ, List.getElem?_nil, List.set_cons_zero, List.set_cons_succ, List.length_cons, List.length_nil, List.map_cons, List.map_nil, Option.getD_some, Option.getD_none, List.cons_append, List.nil_append, List.replicate_succ, List.replicate_zero, Nat.reduceAdd, Nat.reduceSub, decide_eq_true_eq, Bool.and_eq_true, Bool.or_eq_true, if_true, if_false, Bool.not_eq_true', Bool.false_eq_true, reduceIte, DS.eqD_int, DS.neD_int, DS.eqD_bl, DS.neD_bl, ne_eq, not_false_eq_true, not_true_eq_false, true_and, and_true, true_or, or_true, false_or, or_false, and_self, Int.reduceEq, Int.reduceAbs, Nat.reduceLT, Int.reduceLT, Int.reduceLE, Int.reduceNeg, Nat.reduceEqDiff, decide_true, decide_false, Bool.not_true, Bool.not_false, hs, hs2, hs3] <;> rfl))), _, _, 0, rfl, by omega, by omega⟩
theorem pick_loop (goods : D) (cnt : Int) (ds : List D) : ∀ (pool found : List D) (n : Nat) (hp : List Ob) (e3 : DS.Slot), Bx n hp → n + ds.length < 4000 → ds.length ≤ pool.length → pool.length < 900 → found.length + ds.length < 900 → ∃ (out pool' : List D) (hp' : List Ob) (e3' : DS.Slot),
    forL (gN 3) (exprS (mutE (oS 5) [(mutE (oS 4) [(callE F__law_take [(var 0), (op1 lenD (oS 4))])] popAtF)] appF)) ds ⟨[.v (.ref 0), .v goods, .v (.int cnt), e3, .ol pool, .ol found], hp⟩ =
      .ok .nx ⟨[.v (.ref 0), .v goods, .v (.int cnt), e3', .ol pool', .ol (found ++ out)], hp'⟩ ∧ Bx (n + ds.length) hp' ∧ (∀ x ∈ out, x ∈ pool) ∧ out.length = ds.length := by
  induction ds with
  | nil =>
    intro pool found n hp e3 h _ hl _ _
    exact ⟨[], pool, hp, e3, by rw [List.append_nil]; rfl, h, (fun x hx => by cases hx), rfl⟩
  | cons d ds ih =>
    intro pool found n hp e3 h hn hl hz hf
    simp only [List.length_cons] at hn hl hf
    obtain ⟨r, hp1, e, b, h0, h1⟩ := take_ok h (by omega) pool.length (by omega) (by omega)
    have hj : r.toNat < pool.length := by omega
    have gj : pool[r.toNat]? = some pool[r.toNat] := List.getElem?_eq_getElem hj
    have gm : pool[r.toNat] ∈ pool := List.getElem_mem hj
    generalize pool[r.toNat] = x at gj gm
    obtain ⟨out, pool', hp2, e3', ih, b2, p, q⟩ := ih (pool.eraseIdx r.toNat) (found ++ [x]) (n + 1) hp1 (.v d) b (by omega) (by rw [List.length_eraseIdx_of_lt hj]; omega) (by rw [List.length_eraseIdx_of_lt hj]; omega) (by rw [List.length_append, List.length_singleton]; omega)
    rw [List.append_assoc] at ih
    refine ⟨x :: out, pool', hp2, e3', ?_, ?_, (fun y hy => ?_), by rw [List.length_cons, List.length_cons, q]⟩
    · refine Eq.trans (forL_cons (s1 := ⟨[.v (.ref 0), .v goods, .v (.int cnt), .v d, .ol pool, .ol found], hp⟩) (s2 := ⟨[.v (.ref 0), .v goods, .v (.int cnt), .v d, .ol (pool.eraseIdx r.toNat), .ol (found ++ [x])], hp1⟩) (by simp (config := { failIfUnchanged := false }) only [DS.nxS, DS.bkS, DS.ctS, DS.badS, DS.retS, DS.retN, DS.exprS, DS.setS, DS.setL, DS.asgS, DS.gN, DS.gT, DS.gsN, DS.gsC, DS.op1, DS.op2, DS.op1L, DS.op2L, DS.oV, DS.oS, DS.var, DS.cst, DS.deref, DS.derefD, DS.ofL, DS.lstE, DS.evA, DS.tupE, DS.asB, DS.truT, DS.andT, DS.orT, DS.notT, DS.andE, DS.orE, DS.notE, DS.ifE, DS.chn, DS.sl, DS.slL, DS.part, DS.lcE, DS.lcL, DS.itA, DS.itE, DS.itZ, DS.par2, DS.evP, DS.setIx, DS.mutE, DS.lstTok, DS.updTok, DS.shr, DS.callE, DS.callKE, DS.runFn, DS.orL, DS.yesT, DS.noOwn, DS.addD, DS.subD, DS.mulD, DS.divD, DS.modD, DS.powD, DS.negD, DS.ltD, DS.leD, DS.gtD, DS.geD, DS.isN, DS.isntN, DS.notD, DS.ixD, DS.slD, DS.slLs, DS.lenD, DS.absD, DS.intD, DS.tupleD, DS.listL, DS.allD, DS.anyD, DS.sumD, DS.minD, DS.maxD, DS.sortedL, DS.truD, DS.isiD, DS.tyD, DS.gId, DS.wipeE, DS.restE, DS.R.bind_ok, DS.R.bind_exc, DS.R.bind_bad, DS.R.map_ok, DS.R.of_some, DS.R.of_none, Option.bind_some, Option.bind_none, Option.map_some, Option.map_none, List.getElem?_cons_zero, List.getElem?_cons_succ, List.getElem?_nil, List.set_cons_zero, List.set_cons_succ, List.length_cons, List.length_nil, List.map_cons, List.map_nil, Option.getD_some, Option.getD_none, List.cons_append, List.nil_append, List.replicate_succ, List.replicate_zero, Nat.reduceAdd, Nat.reduceSub, decide_eq_true_eq, Bool.and_eq_true, Bool.or_eq_true, if_true, if_false, Bool.not_eq_true', Bool.false_eq_true, reduceIte, DS.eqD_int, DS.neD_int, DS.eqD_bl, DS.neD_bl, ne_eq, not_false_eq_true, not_true_eq_false, true_and, and_true, true_or, or_true, false_or, or_false, and_self, Int.reduceEq, Int.reduceAbs, Nat.reduceLT, Int.reduceLT, Int.reduceLE, Int.reduceNeg, Nat.reduceEqDiff, decide_true, decide_false, Bool.not_true, Bool.not_false] <;> rfl) ?_) ih
      have q7 : popAtF pool [.int r] = some (x, pool.eraseIdx r.toNat) := popAt_ok h0 h1 (by omega) gj rfl
      have q8 : appF found [x] = some (.non, found ++ [x]) := by
        show (if found.length < LIM then _ else _) = _
        rw [if_pos (by unfold LIM; omega)]
      simp (config := { failIfUnchanged := false }) only [DS.nxS, DS.bkS, DS.ctS, DS.badS, DS.retS, DS.retN, DS.exprS, DS.setS, DS.setL, DS.asgS, DS.gN, DS.gT, DS.gsN, DS.gsC, DS.op1, DS.op2, DS.op1L, DS.op2L, DS.oV, DS.oS, DS.var, DS.cst, DS.deref, DS.derefD, DS.ofL, DS.lstE, DS.evA, DS.tupE, DS.asB, DS.truT, DS.andT, DS.orT, DS.notT, DS.andE, DS.orE, DS.notE, DS.ifE, DS.chn, DS.sl, DS.slL, DS.part, DS.lcE, DS.lcL, DS.itA, DS.itE, DS.itZ, DS.par2, DS.evP, DS.setIx, DS.mutE, DS.lstTok, DS.updTok, DS.shr, DS.callE, DS.callKE, DS.runFn, DS.orL, DS.yesT, DS.noOwn, DS.addD, DS.subD, DS.mulD, DS.divD, DS.modD, DS.powD, DS.negD, DS.ltD, DS.leD, DS.gtD, DS.geD, DS.isN, DS.isntN, DS.notD, DS.ixD, DS.slD, DS.slLs, DS.lenD, DS.absD, DS.intD, DS.tupleD, DS.listL, DS.allD, DS.anyD, DS.sumD, DS.minD, DS.maxD, DS.sortedL, DS.truD, DS.isiD, DS.tyD, DS.gId, DS.wipeE, DS.restE, DS.R.bind_ok, DS.R.bind_exc, DS.R.bind_bad, DS.R.map_ok, DS.R.of_some, DS.R.of_none, Option.bind_some, Option.bind_none, Option.map_some, Option.map_none, List.getElem?_cons_zero, List.getElem?_cons_succ, List.getElem?_nil, List.set_cons_zero, List.set_cons_succ, List.length_cons, List.length_nil, List.map_cons, List.map_nil, Option.getD_some, Option.getD_none, List.cons_append, List.nil_append, List.replicate_succ, List.replicate_zero, Nat.reduceAdd, Nat.reduceSub, decide_eq_true_eq, Bool.and_eq_true, Bool.or_eq_true, if_true, if_false, Bool.not_eq_true', Bool.false_eq_true, reduceIte, DS.eqD_int, DS.neD_int, DS.eqD_bl, DS.neD_bl, ne_eq, not_false_eq_true, not_true_eq_false, true_and, and_true, true_or, or_true, false_or, or_false, and_self, Int.reduceEq, Int.reduceAbs, Nat.reduceLT, Int.reduceLT, Int.reduceLE, Int.reduceNeg, Nat.reduceEqDiff, decide_true, decide_false, Bool.not_true, Bool.not_false, e, q7, q8]
    · rw [List.length_cons, show n + (ds.length + 1) = n + 1 + ds.length by omega]
      exact b2
    · rcases List.mem_cons.mp hy with rfl | hy
      · exact gm
      · exact List.mem_of_mem_eraseIdx (p y hy)
theorem pick_ok {n : Nat} {hp : List Ob} (h : Bx n hp) (goods : List D) (k : Nat) (hk : k ≤ goods.length) (hn : n + k < 4000) (hl : goods.length < 900) : ∃ (out : List D) (hp' : List Ob), F__law_pick [.ref 0, .lst goods, .int k] hp = .ok (.lst out) hp' ∧ Bx (n + k) hp' ∧ (∀ x ∈ out, x ∈ goods) ∧ out.length = k := by
  obtain ⟨out, pool', hp', e3, e, b, p, q⟩ := pick_loop (.lst goods) k (upTo 0 k) goods [] n hp .un h (by rw [upTo_len]; exact hn) (by rw [upTo_len]; exact hk) hl (by rw [upTo_len]; simp; omega)
  rw [upTo_len] at b q
  refine ⟨out, hp', ?_, b, p, q⟩
  unfold F__law_pick B__law_pick
  have c1 : -(2 ^ 62) ≤ (k : Int) := by omega
  have c2 : (k : Int) < 2 ^ 62 := by omega
  have c3 : ¬ ((goods.length : Int) < k) := by omega
  refine fn_rt (sq_nx (s1 := ⟨[.v (.ref 0), .v (.lst goods), .v (.int k), .un, .ol goods, .ol []], hp⟩) (by simp (config := { failIfUnchanged := false }) only [DS.nxS, DS.bkS, DS.ctS, DS.badS, DS.retS, DS.retN, DS.exprS, DS.setS, DS.setL, DS.asgS, DS.gN, DS.gT, DS.gsN, DS.gsC, DS.op1, DS.op2, DS.op1L, DS.op2L, DS.oV, DS.oS, DS.var, DS.cst, DS.deref, DS.derefD, DS.ofL, DS.lstE, DS.evA, DS.tupE, DS.asB, DS.truT, DS.andT, DS.orT, DS.notT, DS.andE, DS.orE, DS.notE, DS.ifE, DS.chn, DS.sl, DS.slL, DS.part, DS.lcE, DS.lcL, DS.itA, DS.itE, DS.itZ, DS.par2, DS.evP, DS.setIx, DS.mutE, DS.lstTok, DS.updTok, DS.shr, DS.callE, DS.callKE, DS.runFn, DS.orL, DS.yesT, DS.noOwn, DS.addD, DS.subD, DS.mulD, DS.divD, DS.modD, DS.powD, DS.negD, DS.ltD, DS.leD, DS.gtD, DS.geD, DS.isN, DS.isntN, DS.notD, DS.ixD, DS.slD, DS.slLs, DS.lenD, DS.absD, DS.intD, DS.tupleD, DS.listL, DS.allD, DS.anyD, DS.sumD, DS.minD, DS.maxD, DS.sortedL, DS.truD, DS.isiD, DS.tyD, DS.gId, DS.wipeE, DS.restE, DS.R.bind_ok, DS.R.bind_exc, DS.R.bind_bad, DS.R.map_ok, DS.R.of_some, DS.R.of_none, Option.bind_some, Option.bind_none, Option.map_some, Option.map_none, List.getElem?_cons_zero, List.getElem?_cons_succ, List.getElem?_nil, List.set_cons_zero, List.set_cons_succ, List.length_cons, List.length_nil, List.map_cons, List.map_nil, Option.getD_some, Option.getD_none, List.cons_append, List.nil_append, List.replicate_succ, List.replicate_zero, Nat.reduceAdd, Nat.reduceSub, decide_eq_true_eq, Bool.and_eq_true, Bool.or_eq_true, if_true, if_false, Bool.not_eq_true', Bool.false_eq_true, reduceIte, DS.eqD_int, DS.neD_int, DS.eqD_bl, DS.neD_bl, ne_eq, not_false_eq_true, not_true_eq_false, true_and, and_true, true_or, or_true, false_or, or_false, and_self, Int.reduceEq, Int.reduceAbs, Nat.reduceLT, Int.reduceLT, Int.reduceLE, Int.reduceNeg, Nat.reduceEqDiff, decide_true, decide_false, Bool.not_true, Bool.not_false] <;> rfl) (sq_nx (for_of (ds := upTo 0 k) (s1 := ⟨[.v (.ref 0), .v (.lst goods), .v (.int k), .un, .ol goods, .ol []], hp⟩) (itR1_ok (j := (k : Int)) (by simp (config := { failIfUnchanged := false }) only [DS.nxS, DS.bkS, DS.ctS, DS.badS, DS.retS, DS.retN, DS.exprS, DS.setS, DS.setL, DS.asgS, DS.gN, DS.gT, DS.gsN, DS.gsC, DS.op1, DS.op2, DS.op1L, DS.op2L, DS.oV, DS.oS, DS.var, DS.cst, DS.deref, DS.derefD, DS.ofL, DS.lstE, DS.evA, DS.tupE, DS.asB, DS.truT, DS.andT, DS.orT, DS.notT, DS.andE, DS.orE, DS.notE, DS.ifE, DS.chn, DS.sl, DS.slL, DS.part, DS.lcE, DS.lcL, DS.itA, DS.itE, DS.itZ, DS.par2, DS.evP, DS.setIx, DS.mutE, DS.lstTok, DS.updTok, DS.shr, DS.callE, DS.callKE, DS.runFn, DS.orL, DS.yesT, DS.noOwn, DS.addD, DS.subD, DS.mulD, DS.divD, DS.modD, DS.powD, DS.negD, DS.ltD, DS.leD, DS.gtD, DS.geD, DS.isN, DS.isntN, DS.notD, DS.ixD, DS.slD, DS.slLs, DS.lenD, DS.absD, DS.intD, DS.tupleD, DS.listL, DS.allD, DS.anyD, DS.sumD, DS.minD, DS.maxD, DS.sortedL, DS.truD, DS.isiD, DS.tyD, DS.gId, DS.wipeE, DS.restE, DS.R.bind_ok, DS.R.bind_exc, DS.R.bind_bad, DS.R.map_ok, DS.R.of_some, DS.R.of_none, Option.bind_some, Option.bind_none, Option.map_some, Option.map_none, List.getElem?_cons_zero, List.getElem?_cons_succ, List.getElem?_nil, List.set_cons_zero, List.set_cons_succ, List.length_cons, List.length_nil, List.map_cons, List.map_nil, Option.getD_some, Option.getD_none, List.cons_append, List.nil_append, List.replicate_succ, List.replicate_zero, Nat.reduceAdd, Nat.reduceSub, decide_eq_true_eq, Bool.and_eq_true, Bool.or_eq_true, if_true, if_false, Bool.not_eq_true', Bool.false_eq_true, reduceIte, DS.eqD_int, DS.neD_int, DS.eqD_bl, DS.neD_bl, ne_eq, not_false_eq_true, not_true_eq_false, true_and, and_true, true_or, or_true, false_or, or_false, and_self, Int.reduceEq, Int.reduceAbs, Nat.reduceLT, Int.reduceLT, Int.reduceLE, Int.reduceNeg, Nat.reduceEqDiff, decide_true, decide_false, Bool.not_true, Bool.not_false, c3] <;> rfl) c1 c2 (Int.toNat_natCast _)) e) (rt_of (by simp (config := { failIfUnchanged := false }) only [DS.nxS, DS.bkS, DS.ctS, DS.badS, DS.retS, DS.retN, DS.exprS, DS.setS, DS.setL, DS.asgS, DS.gN, DS.gT, DS.gsN, DS.gsC, DS.op1, DS.op2, DS.op1L, DS.op2L, DS.oV, DS.oS, DS.var, DS.cst, DS.deref, DS.derefD, DS.ofL, DS.lstE, DS.evA, DS.tupE, DS.asB, DS.truT, DS.andT, DS.orT, DS.notT, DS.andE, DS.orE, DS.notE, DS.ifE, DS.chn, DS.sl, DS.slL, DS.part, DS.lcE, DS.lcL, DS.itA, DS.itE, DS.itZ, DS.par2, DS.evP, DS.setIx, DS.mutE, DS.lstTok, DS.updTok, DS.shr, DS.callE, DS.callKE, DS.runFn, DS.orL, DS.yesT, DS.noOwn, DS.addD, DS.subD, DS.mulD, DS.divD, DS.modD, DS.powD, DS.negD, DS.ltD, DS.leD, DS.gtD, DS.geD, DS.isN, DS.isntN, DS.notD, DS.ixD, DS.slD, DS.slLs, DS.lenD, DS.absD, DS.intD, DS.tupleD, DS.listL, DS.allD, DS.anyD, DS.sumD, DS.minD, DS.maxD, DS.sortedL, DS.truD, DS.isiD, DS.tyD, DS.gId, DS.wipeE, DS.restE, DS.R.bind_ok, DS.R.bind_exc, DS.R.bind_bad, DS.R.map_ok, DS.R.of_some, DS.R.of_none, Option.bind_some, Option.bind_none, Option.map_some, Option.map_none, List.getElem?_cons_zero, List.getElem?_cons_succ, List.getElem?_nil, List.set_cons_zero, List.set_cons_succ, List.length_cons, List.length_nil, List.map_cons, List.map_nil, Option.getD_some, Option.getD_none, List.cons_append, List.nil_append, List.replicate_succ, List.replicate_zero, Nat.reduceAdd, Nat.reduceSub, decide_eq_true_eq, Bool.and_eq_true, Bool.or_eq_true, if_true, if_false, Bool.not_eq_true', Bool.false_eq_true, reduceIte, DS.eqD_int, DS.neD_int, DS.eqD_bl, DS.neD_bl, ne_eq, not_false_eq_true, not_true_eq_false, true_and, and_true, true_or, or_true, false_or, or_false, and_self, Int.reduceEq, Int.reduceAbs, Nat.reduceLT, Int.reduceLT, Int.reduceLE, Int.reduceNeg, Nat.reduceEqDiff, decide_true, decide_false, Bool.not_true, Bool.not_false, List.nil_append] <;> rfl))))
end L44
namespace L44
open PySem PySem.Spec PyProof.Rows L2 DS
def ringD : D := (.tup [(.tup [(.int 1), (.int 2), (.int 3), (.int 0)]), (.tup [(.int 2), (.int 3), (.int 0), (.int 1)])])
def pathD : D := (.tup [(.tup [(.int 0), (.int 2), (.int 1), (.int 3)]), (.tup [(.int 1), (.int 0), (.int 3), (.int 2)])])
def longD : D := (.tup [(.int 1), (.int 0), (.int 3), (.int 2), (.int 5), (.int 4), (.int 7), (.int 6), (.int 9), (.int 8), (.int 11), (.int 10), (.int 13), (.int 12), (.int 15), (.int 14), (.int 17), (.int 16), (.int 19), (.int 18), (.int 21), (.int 20), (.int 23), (.int 22), (.int 25), (.int 24), (.int 27), (.int 26), (.int 29), (.int 28), (.int 31), (.int 30), (.int 33), (.int 32), (.int 35), (.int 34), (.int 37), (.int 36), (.int 39), (.int 38), (.int 41), (.int 40), (.int 43), (.int 42), (.int 45), (.int 44), (.int 47), (.int 46), (.int 49), (.int 48), (.int 51), (.int 50), (.int 53), (.int 52), (.int 55), (.int 54), (.int 57), (.int 56), (.int 59), (.int 58), (.int 61), (.int 60)])
def polysD : D := (.lst [.non, (.int 3), (.tup []), (.tup [(.int 2), (.int 3)]), (.tup [(.int 2), (.int 2), (.int 2), (.int 2), (.int 2), (.int 2), (.int 2)]), (.tup [(.int 2), (.int 3), (.int 1)]), (.tup [(.int 2), (.int 3), (.int 13)]), (.tup [(.int 2), (.int 3), (.int (-2))]), (.tup [(.int 7), (.int 5), (.int 2)]), (.tup [(.bl true), (.int 2), (.int 3)]), (.tup [(.int 2), (.int 3), (.str "4")]), (.tup [(.int 8), (.int 9), (.int 2)])])
def mapsD : D := (.lst [.non, (.int 0), (.tup []), (.tup [(.tup [(.int 1), (.int 2), (.int 3), (.int 0)])]), (.tup [(.tup [(.int 1), (.int 2), (.int 3), (.int 0)]), (.tup [(.int 2), (.int 3), (.int 0), (.int 1)]), (.tup [(.int 1), (.int 2), (.int 3), (.int 0)])]), (.tup [(.tup [(.int 0)]), (.tup [(.int 0)])]), (.tup [(.tup [(.int 0), (.int 1)]), (.tup [(.int 0), (.int 1)])]), (.tup [(.tup [(.int 1), (.int 2), (.int 3), (.int 0)]), (.tup [(.int 0), (.int 1), (.int 2), (.int 3)])]), (.tup [(.tup [(.int 0), (.int 1), (.int 2), (.int 3)]), (.tup [(.int 1), (.int 0), (.int 3), (.int 2)])]), (.tup [(.tup [(.int 1), (.int 0)]), (.tup [(.int 1), (.int 0), (.int 2)])]), (.tup [(.tup [(.bl true), (.int 0)]), (.tup [(.int 1), (.int 0)])]), (.tup [(.tup [(.int 1), (.int 2), (.int 3), (.int 4), (.int 5), (.int 6), (.int 7), (.int 8), (.int 9), (.int 10), (.int 11), (.int 12), (.int 13), (.int 14), (.int 15), (.int 16), (.int 17), (.int 18), (.int 19), (.int 20), (.int 21), (.int 22), (.int 23), (.int 24), (.int 25), (.int 26), (.int 27), (.int 28), (.int 29), (.int 30), (.int 31), (.int 32), (.int 33), (.int 34), (.int 35), (.int 36), (.int 37), (.int 38), (.int 39), (.int 40), (.int 41), (.int 42), (.int 43), (.int 44), (.int 45), (.int 46), (.int 47), (.int 48), (.int 49), (.int 50), (.int 51), (.int 52), (.int 53), (.int 54), (.int 55), (.int 56), (.int 57), (.int 58), (.int 59), (.int 60), (.int 61), (.int 0)]), longD]), (.tup [(.tup [(.int 1), (.int 2), (.int 0)]), (.tup [(.int 1), (.int 2), (.int 0)])])])
def row0 : D := (.tup [(.fn "growth_share"), (.tup [(.tup [(.int 2), (.int 3), (.int 7)])]), (.lst [polysD])])
def row1 : D := (.tup [(.fn "polygon_size"), (.tup [(.tup [(.int 2), (.int 3), (.int 7)])]), (.lst [polysD])])
def row2 : D := (.tup [(.fn "worth_at_one"), (.tup [(.tup [(.int 2), (.int 3), (.int 7)])]), (.lst [polysD])])
def row3 : D := (.tup [(.fn "mirror_corners"), (.tup [(.tup [(.int 2), (.int 3), (.int 7)])]), (.lst [polysD])])
def row4 : D := (.tup [(.fn "growth_numbers"), (.tup [(.tup [(.int 2), (.int 3), (.int 7)]), (.int 200)]), (.lst [polysD, (.lst [(.int (-1)), (.int 201), (.bl true), .non])])])
def row5 : D := (.tup [(.fn "spots_growth_numbers"), (.tup [(.tup [(.int 2), (.int 3), (.int 7)]), (.int 100)]), (.lst [polysD, (.lst [(.int (-1)), (.int 101), (.bl true), .non])])])
def row6 : D := (.tup [(.fn "map_points"), (.tup [ringD]), (.lst [mapsD])])
def row7 : D := (.tup [(.fn "map_sides"), (.tup [ringD]), (.lst [mapsD])])
def row8 : D := (.tup [(.fn "map_faces"), (.tup [ringD]), (.lst [mapsD])])
def row9 : D := (.tup [(.fn "map_handles"), (.tup [ringD]), (.lst [mapsD])])
def row10 : D := (.tup [(.fn "map_type"), (.tup [ringD]), (.lst [mapsD])])
def row11 : D := (.tup [(.fn "map_turned"), (.tup [ringD]), (.lst [mapsD])])
def row12 : D := (.tup [(.fn "map_mirrored"), (.tup [ringD]), (.lst [mapsD])])
def row13 : D := (.tup [(.fn "map_turns"), (.tup [ringD]), (.lst [mapsD])])
def row14 : D := (.tup [(.fn "is_even_map"), (.tup [ringD]), (.lst [mapsD])])
def row15 : D := (.tup [(.fn "is_mirror_alike"), (.tup [ringD]), (.lst [mapsD])])
def row16 : D := (.tup [(.fn "least_map"), (.tup [ringD]), (.lst [mapsD])])
def row17 : D := (.tup [(.fn "are_like_maps"), (.tup [ringD, ringD]), (.lst [mapsD, mapsD])])
def row18 : D := (.tup [(.fn "map_leading"), (.tup [ringD, ringD]), (.lst [mapsD, mapsD])])
def row19 : D := (.tup [(.fn "map_of_shuffles"), (.tup [(.tup [(.int 1), (.int 2), (.int 0)]), (.tup [(.int 1), (.int 0), (.int 2)])]), (.lst [(.lst [.non, (.tup []), (.tup [(.int 0), (.int 0)]), (.tup [(.int 0), (.int 1), (.int 3)]), (.tup [(.bl true), (.int 0)]), (.int 4), (.tup [(.int 0), (.int 1), (.int 2), (.int 3), (.int 4), (.int 5), (.int 6), (.int 7)]), (.tup [(.int 1), (.int 0)])]), (.lst [.non, (.tup []), (.tup [(.int 0), (.int 0)]), (.tup [(.int 0), (.int 1), (.int 3)]), (.tup [(.bl true), (.int 0)]), (.int 4), (.tup [(.int 0), (.int 1), (.int 2), (.int 3), (.int 4), (.int 5), (.int 6), (.int 7)]), (.tup [(.int 1), (.int 0)])])])])
def rowsD : List D := [row0, row1, row2, row3, row4, row5, row6, row7, row8, row9, row10, row11, row12, row13, row14, row15, row16, row17, row18, row19]
theorem fit0 (hp : List Ob) : F__law_none_fits [(.fn "growth_share"), (.tup [(.tup [(.int 2), (.int 3), (.int 7)])]), (.lst [polysD])] hp = .ok (.bl true) hp := by kernel_rfl
theorem fit1 (hp : List Ob) : F__law_none_fits [(.fn "polygon_size"), (.tup [(.tup [(.int 2), (.int 3), (.int 7)])]), (.lst [polysD])] hp = .ok (.bl true) hp := by kernel_rfl
theorem fit2 (hp : List Ob) : F__law_none_fits [(.fn "worth_at_one"), (.tup [(.tup [(.int 2), (.int 3), (.int 7)])]), (.lst [polysD])] hp = .ok (.bl true) hp := by kernel_rfl
theorem fit3 (hp : List Ob) : F__law_none_fits [(.fn "mirror_corners"), (.tup [(.tup [(.int 2), (.int 3), (.int 7)])]), (.lst [polysD])] hp = .ok (.bl true) hp := by kernel_rfl
theorem fit4 (hp : List Ob) : F__law_none_fits [(.fn "growth_numbers"), (.tup [(.tup [(.int 2), (.int 3), (.int 7)]), (.int 200)]), (.lst [polysD, (.lst [(.int (-1)), (.int 201), (.bl true), .non])])] hp = .ok (.bl true) hp := by kernel_rfl
theorem fit5 (hp : List Ob) : F__law_none_fits [(.fn "spots_growth_numbers"), (.tup [(.tup [(.int 2), (.int 3), (.int 7)]), (.int 100)]), (.lst [polysD, (.lst [(.int (-1)), (.int 101), (.bl true), .non])])] hp = .ok (.bl true) hp := by kernel_rfl
theorem fit6 (hp : List Ob) : F__law_none_fits [(.fn "map_points"), (.tup [ringD]), (.lst [mapsD])] hp = .ok (.bl true) hp := by kernel_rfl
theorem fit7 (hp : List Ob) : F__law_none_fits [(.fn "map_sides"), (.tup [ringD]), (.lst [mapsD])] hp = .ok (.bl true) hp := by kernel_rfl
theorem fit8 (hp : List Ob) : F__law_none_fits [(.fn "map_faces"), (.tup [ringD]), (.lst [mapsD])] hp = .ok (.bl true) hp := by kernel_rfl
theorem fit9 (hp : List Ob) : F__law_none_fits [(.fn "map_handles"), (.tup [ringD]), (.lst [mapsD])] hp = .ok (.bl true) hp := by kernel_rfl
theorem fit10 (hp : List Ob) : F__law_none_fits [(.fn "map_type"), (.tup [ringD]), (.lst [mapsD])] hp = .ok (.bl true) hp := by kernel_rfl
theorem fit11 (hp : List Ob) : F__law_none_fits [(.fn "map_turned"), (.tup [ringD]), (.lst [mapsD])] hp = .ok (.bl true) hp := by kernel_rfl
theorem fit12 (hp : List Ob) : F__law_none_fits [(.fn "map_mirrored"), (.tup [ringD]), (.lst [mapsD])] hp = .ok (.bl true) hp := by kernel_rfl
theorem fit13 (hp : List Ob) : F__law_none_fits [(.fn "map_turns"), (.tup [ringD]), (.lst [mapsD])] hp = .ok (.bl true) hp := by kernel_rfl
theorem fit14 (hp : List Ob) : F__law_none_fits [(.fn "is_even_map"), (.tup [ringD]), (.lst [mapsD])] hp = .ok (.bl true) hp := by kernel_rfl
theorem fit15 (hp : List Ob) : F__law_none_fits [(.fn "is_mirror_alike"), (.tup [ringD]), (.lst [mapsD])] hp = .ok (.bl true) hp := by kernel_rfl
theorem fit16 (hp : List Ob) : F__law_none_fits [(.fn "least_map"), (.tup [ringD]), (.lst [mapsD])] hp = .ok (.bl true) hp := by kernel_rfl
theorem fit17 (hp : List Ob) : F__law_none_fits [(.fn "are_like_maps"), (.tup [ringD, ringD]), (.lst [mapsD, mapsD])] hp = .ok (.bl true) hp := by kernel_rfl
theorem fit18 (hp : List Ob) : F__law_none_fits [(.fn "map_leading"), (.tup [ringD, ringD]), (.lst [mapsD, mapsD])] hp = .ok (.bl true) hp := by kernel_rfl
theorem fit19 (hp : List Ob) : F__law_none_fits [(.fn "map_of_shuffles"), (.tup [(.tup [(.int 1), (.int 2), (.int 0)]), (.tup [(.int 1), (.int 0), (.int 2)])]), (.lst [(.lst [.non, (.tup []), (.tup [(.int 0), (.int 0)]), (.tup [(.int 0), (.int 1), (.int 3)]), (.tup [(.bl true), (.int 0)]), (.int 4), (.tup [(.int 0), (.int 1), (.int 2), (.int 3), (.int 4), (.int 5), (.int 6), (.int 7)]), (.tup [(.int 1), (.int 0)])]), (.lst [.non, (.tup []), (.tup [(.int 0), (.int 0)]), (.tup [(.int 0), (.int 1), (.int 3)]), (.tup [(.bl true), (.int 0)]), (.int 4), (.tup [(.int 0), (.int 1), (.int 2), (.int 3), (.int 4), (.int 5), (.int 6), (.int 7)]), (.tup [(.int 1), (.int 0)])])])] hp = .ok (.bl true) hp := by kernel_rfl
theorem rows_fit : ∀ d ∈ rowsD, ∃ a b c, d = .tup [a, b, c] ∧ ∀ hp : List Ob, F__law_none_fits [a, b, c] hp = .ok (.bl true) hp := by
  intro d hd
  unfold rowsD at hd
  simp only [List.mem_cons, List.not_mem_nil, or_false] at hd
  rcases hd with rfl | rfl | rfl | rfl | rfl | rfl | rfl | rfl | rfl | rfl | rfl | rfl | rfl | rfl | rfl | rfl | rfl | rfl | rfl | rfl
  · exact ⟨_, _, _, rfl, fit0⟩
  · exact ⟨_, _, _, rfl, fit1⟩
  · exact ⟨_, _, _, rfl, fit2⟩
  · exact ⟨_, _, _, rfl, fit3⟩
  · exact ⟨_, _, _, rfl, fit4⟩
  · exact ⟨_, _, _, rfl, fit5⟩
  · exact ⟨_, _, _, rfl, fit6⟩
  · exact ⟨_, _, _, rfl, fit7⟩
  · exact ⟨_, _, _, rfl, fit8⟩
  · exact ⟨_, _, _, rfl, fit9⟩
  · exact ⟨_, _, _, rfl, fit10⟩
  · exact ⟨_, _, _, rfl, fit11⟩
  · exact ⟨_, _, _, rfl, fit12⟩
  · exact ⟨_, _, _, rfl, fit13⟩
  · exact ⟨_, _, _, rfl, fit14⟩
  · exact ⟨_, _, _, rfl, fit15⟩
  · exact ⟨_, _, _, rfl, fit16⟩
  · exact ⟨_, _, _, rfl, fit17⟩
  · exact ⟨_, _, _, rfl, fit18⟩
  · exact ⟨_, _, _, rfl, fit19⟩
end L44
namespace L44
open PySem PySem.Spec PyProof.Rows L2 DS
variable {x0 x1 x2 x3 x4 x5 x6 x7 x8 x9 x10 x11 x12 x13 x14 x15 x16 x17 x18 : DS.Slot} {hp : List Ob}
noncomputable def PRE : Sm := (sqS (setS 2 (ofL (lstE [(cst .non), (cst (.int 3)), (tupE []), (tupE [(cst (.int 2)), (cst (.int 3))]), (op2 mulU (oV (tupE [(cst (.int 2))])) (oV (cst (.int 7)))), (tupE [(cst (.int 2)), (cst (.int 3)), (cst (.int 1))]), (tupE [(cst (.int 2)), (cst (.int 3)), (cst (.int 13))]), (tupE [(cst (.int 2)), (cst (.int 3)), (op1 negD (oV (cst (.int 2))))]), (tupE [(cst (.int 7)), (cst (.int 5)), (cst (.int 2))]), (tupE [(cst (.bl true)), (cst (.int 2)), (cst (.int 3))]), (tupE [(cst (.int 2)), (cst (.int 3)), (cst (.str "4"))]), (tupE [(cst (.int 8)), (cst (.int 9)), (cst (.int 2))])]))) (sqS (asgS (tupE [(tupE [(tupE [(cst (.int 1)), (cst (.int 2)), (cst (.int 3)), (cst (.int 0))]), (tupE [(cst (.int 2)), (cst (.int 3)), (cst (.int 0)), (cst (.int 1))])]), (tupE [(tupE [(cst (.int 0)), (cst (.int 2)), (cst (.int 1)), (cst (.int 3))]), (tupE [(cst (.int 1)), (cst (.int 0)), (cst (.int 3)), (cst (.int 2))])])]) (gT 2 (gsC (gN 10) (gsC (gN 11) gsN)))) (sqS (setS 3 (op1 tupleD (oV (ofL (lcE (itR1 (cst (.int 62))) (gN 18) [18] yesT (op2 subD (oV (op2 addD (oS 18) (oV (cst (.int 1))))) (oV (op2 mulD (oV (cst (.int 2))) (oV (op2 modD (oS 18) (oV (cst (.int 2))))))))))))) (sqS (setS 4 (ofL (lstE [(cst .non), (cst (.int 0)), (tupE []), (sl (oS 10) none (some (cst (.int 1)))), (op2 addD (oS 10) (oV (sl (oS 10) none (some (cst (.int 1)))))), (tupE [(tupE [(cst (.int 0))]), (tupE [(cst (.int 0))])]), (tupE [(tupE [(cst (.int 0)), (cst (.int 1))]), (tupE [(cst (.int 0)), (cst (.int 1))])]), (tupE [(tupE [(cst (.int 1)), (cst (.int 2)), (cst (.int 3)), (cst (.int 0))]), (tupE [(cst (.int 0)), (cst (.int 1)), (cst (.int 2)), (cst (.int 3))])]), (tupE [(tupE [(cst (.int 0)), (cst (.int 1)), (cst (.int 2)), (cst (.int 3))]), (tupE [(cst (.int 1)), (cst (.int 0)), (cst (.int 3)), (cst (.int 2))])]), (tupE [(tupE [(cst (.int 1)), (cst (.int 0))]), (tupE [(cst (.int 1)), (cst (.int 0)), (cst (.int 2))])]), (tupE [(tupE [(cst (.bl true)), (cst (.int 0))]), (tupE [(cst (.int 1)), (cst (.int 0))])]), (tupE [(op2 addD (oV (tupR2 (cst (.int 1)) (cst (.int 62)))) (oV (tupE [(cst (.int 0))]))), (var 3)]), (tupE [(tupE [(cst (.int 1)), (cst (.int 2)), (cst (.int 0))]), (tupE [(cst (.int 1)), (cst (.int 2)), (cst (.int 0))])])]))) (sqS (setL 5 (lcE (itA (tupE [(cst (.fn "growth_share")), (cst (.fn "polygon_size")), (cst (.fn "worth_at_one")), (cst (.fn "mirror_corners"))])) (gN 17) [17] yesT (tupE [(var 17), (tupE [(tupE [(cst (.int 2)), (cst (.int 3)), (cst (.int 7))])]), (ofL (lstE [(var 2)]))]))) (sqS (setL 5 (op2L addL (oS 5) (oV (ofL (lstE [(tupE [(cst (.fn "growth_numbers")), (tupE [(tupE [(cst (.int 2)), (cst (.int 3)), (cst (.int 7))]), (cst (.int 200))]), (ofL (lstE [(var 2), (ofL (lstE [(op1 negD (oV (cst (.int 1)))), (cst (.int 201)), (cst (.bl true)), (cst .non)]))]))]), (tupE [(cst (.fn "spots_growth_numbers")), (tupE [(tupE [(cst (.int 2)), (cst (.int 3)), (cst (.int 7))]), (cst (.int 100))]), (ofL (lstE [(var 2), (ofL (lstE [(op1 negD (oV (cst (.int 1)))), (cst (.int 101)), (cst (.bl true)), (cst .non)]))]))])]))))) (sqS (setL 5 (op2L addL (oS 5) (oV (ofL (lcE (itA (tupE [(cst (.fn "map_points")), (cst (.fn "map_sides")), (cst (.fn "map_faces")), (cst (.fn "map_handles")), (cst (.fn "map_type")), (cst (.fn "map_turned")), (cst (.fn "map_mirrored")), (cst (.fn "map_turns")), (cst (.fn "is_even_map")), (cst (.fn "is_mirror_alike")), (cst (.fn "least_map"))])) (gN 17) [17] yesT (tupE [(var 17), (tupE [(var 10)]), (ofL (lstE [(var 4)]))])))))) (sqS (setL 5 (op2L addL (oS 5) (oV (ofL (lcE (itA (tupE [(cst (.fn "are_like_maps")), (cst (.fn "map_leading"))])) (gN 17) [17] yesT (tupE [(var 17), (tupE [(var 10), (var 10)]), (ofL (lstE [(var 4), (var 4)]))])))))) (sqS (setS 6 (ofL (lstE [(cst .non), (tupE []), (tupE [(cst (.int 0)), (cst (.int 0))]), (tupE [(cst (.int 0)), (cst (.int 1)), (cst (.int 3))]), (tupE [(cst (.bl true)), (cst (.int 0))]), (cst (.int 4)), (tupR1 (cst (.int 8)))]))) (exprS (mutE (oS 5) [(tupE [(cst (.fn "map_of_shuffles")), (tupE [(tupE [(cst (.int 1)), (cst (.int 2)), (cst (.int 0))]), (tupE [(cst (.int 1)), (cst (.int 0)), (cst (.int 2))])]), (ofL (lstE [(op2 addD (oS 6) (oV (ofL (lstE [(tupE [(cst (.int 1)), (cst (.int 0))])])))), (op2 addD (oS 6) (oV (ofL (lstE [(tupE [(cst (.int 1)), (cst (.int 0))])]))))]))])] appF)))))))))))
theorem pre_ok : PRE ⟨[x0, x1, .un, .un, .un, .un, .un, .un, .un, .un, .un, .un, .un, .un, .un, .un, .un, .un, .un], hp⟩ = .ok .nx ⟨[x0, x1, .v polysD, .v longD, .v mapsD, .ol rowsD, .v (.lst [.non, (.tup []), (.tup [(.int 0), (.int 0)]), (.tup [(.int 0), (.int 1), (.int 3)]), (.tup [(.bl true), (.int 0)]), (.int 4), (.tup [(.int 0), (.int 1), (.int 2), (.int 3), (.int 4), (.int 5), (.int 6), (.int 7)])]), .un, .un, .un, .v ringD, .v pathD, .un, .un, .un, .un, .un, .un, .un], hp⟩ := by kernel_rfl
noncomputable def TAIL : Sm := (sqS (setL 7 (lstE [])) (sqS (forS (itA (tupE [(tupE [(cst (.fn "map_type")), (tupE [(var 11)])]), (tupE [(cst (.fn "map_leading")), (tupE [(var 10), (var 11)])]), (tupE [(cst (.fn "map_leading")), (tupE [(var 11), (tupE [(tupE [(cst (.int 0)), (cst (.int 1))]), (tupE [(cst (.int 1)), (cst (.int 0))])])])]), (tupE [(cst (.fn "map_of_shuffles")), (tupE [(tupE [(cst (.int 1)), (cst (.int 2)), (cst (.int 0))]), (tupE [(cst (.int 1)), (cst (.int 2)), (cst (.int 0))])])]), (tupE [(cst (.fn "map_of_shuffles")), (tupE [(tupE [(cst (.int 1)), (cst (.int 0))]), (tupE [(cst (.int 0)), (cst (.int 1))])])]), (tupE [(cst (.fn "map_of_shuffles")), (tupE [(tupE [(cst (.int 1)), (cst (.int 2)), (cst (.int 3)), (cst (.int 4)), (cst (.int 0))]), (tupE [(cst (.int 1)), (cst (.int 2)), (cst (.int 3)), (cst (.int 4)), (cst (.int 0))])])])])) (gT 2 (gsC (gN 12) (gsC (gN 13) gsN))) (tryP "CanNot" 15 7 true (exprS (callE F__law_call [(var 12), (var 13)])))) (sqS (tryP "TooMany" 16 7 true (exprS (callE F_map_of_shuffles [(tupE [(cst (.int 1)), (cst (.int 2)), (cst (.int 3)), (cst (.int 4)), (cst (.int 0))]), (tupE [(cst (.int 1)), (cst (.int 0)), (cst (.int 2)), (cst (.int 3)), (cst (.int 4))])]))) (sqS (setS 8 (ofL (lstE [(callE F_is_map [(tupE [(op2 addD (oV (tupR2 (cst (.int 1)) (cst (.int 62)))) (oV (tupE [(cst (.int 0))]))), (var 3)])]), (callE F_is_map [(var 10)]), (callE F_is_map [(ofL (op1L listL (oS 10)))]), (callE F_is_map [(tupE [(tupE [(cst (.int 1)), (cst (.int 0))]), (tupE [(cst (.int 1)), (cst (.int 0))])])])]))) (sqS (setS 8 (op2 addD (oS 8) (oV (ofL (lstE [(callE F_growth_share [(tupE [(cst (.int 0)), (cst (.int 0)), (cst (.int 0))])]), (callE F_growth_share [(tupE [(cst (.int 2)), (cst (.int 2)), (cst (.int 2)), (cst (.int 2))])]), (callE F_polygon_size [(tupE [(cst (.int 2)), (cst (.int 3)), (cst (.int 5))])]), (callE F_polygon_size [(tupE [(cst (.int 2)), (cst (.int 3)), (cst (.int 6))])]), (callE F_polygon_size [(tupE [(cst (.int 12)), (cst (.int 2)), (cst (.int 2))])]), (callE F_worth_at_one [(tupE [(cst (.int 2)), (cst (.int 3)), (cst (.int 7))])]), (callE F_worth_at_one [(tupE [(cst (.int 0)), (cst (.int 0)), (cst (.int 0)), (cst (.int 0)), (cst (.int 0)), (cst (.int 0))])]), (callE F_mirror_corners [(tupE [(cst (.int 2)), (cst (.int 0)), (cst (.int 3))])])]))))) (sqS (setS 9 (ofL (lstE [(cst (.bl true)), (cst (.bl true)), (cst (.bl false)), (cst (.bl true)), (tupE [(tupE [(cst (.int 1)), (cst (.int 1))]), (tupE [(cst (.int 1)), (op1 negD (oV (cst (.int 2))))])]), (tupE [(tupE [(cst (.int 1)), (cst (.int 2)), (cst (.int 1))]), (tupE [(cst (.int 1)), (op1 negD (oV (cst (.int 2)))), (cst (.int 1))])]), (cst (.int 120)), (cst .non), (cst (.int 48)), (tupE [(op1 negD (oV (cst (.int 1)))), (cst (.int 84))]), (tupE [(op1 negD (oV (cst (.int 2)))), (cst (.int 1))]), (ofL (lstE [(tupE []), (tupE [(cst (.int 1))]), (tupE [(cst (.int 1)), (cst (.int 2))]), (tupE [(cst (.int 1)), (cst (.int 3))]), (tupE [(cst (.int 2))]), (tupE [(cst (.int 3))])]))]))) (sqS (setS 8 (op2 addD (oS 8) (oV (ofL (lstE [(callE F_map_points [(var 11)]), (callE F_map_faces [(var 11)]), (callE F_map_type [(var 10)]), (callE F_map_turns [(var 11)]), (callE F_least_map [(var 11)]), (callE F_map_mirrored [(var 10)]), (callE F_map_of_shuffles [(tupE [(cst (.int 1)), (cst (.int 2)), (cst (.int 0))]), (tupE [(cst (.int 1)), (cst (.int 0)), (cst (.int 2))])])]))))) (sqS (setS 9 (op2 addD (oS 9) (oV (ofL (lstE [(ofL (lstE [(tupE [(cst (.int 0))]), (tupE [(cst (.int 1)), (cst (.int 2))]), (tupE [(cst (.int 3))])])), (ofL (lstE [(tupE [(cst (.int 0)), (cst (.int 1)), (cst (.int 3)), (cst (.int 2))])])), (tupE [(cst (.int 4)), (cst (.int 4))]), (ofL (lstE [(tupE [(cst (.int 0)), (cst (.int 1)), (cst (.int 2)), (cst (.int 3))]), (tupE [(cst (.int 3)), (cst (.int 2)), (cst (.int 1)), (cst (.int 0))])])), (var 11), (tupE [(tupE [(cst (.int 3)), (cst (.int 0)), (cst (.int 1)), (cst (.int 2))]), (tupE [(cst (.int 2)), (cst (.int 3)), (cst (.int 0)), (cst (.int 1))])]), (tupE [(tupE [(cst (.int 3)), (cst (.int 2)), (cst (.int 5)), (cst (.int 4)), (cst (.int 0)), (cst (.int 1))]), (tupE [(cst (.int 2)), (cst (.int 3)), (cst (.int 0)), (cst (.int 1)), (cst (.int 5)), (cst (.int 4))])])]))))) (retS (andE (op2 eqD (oS 7) (oV (ofL (op2L mulL (oV (ofL (lstE [(cst (.bl true))]))) (oV (cst (.int 7))))))) (callE (F__law_same 8) [(var 8), (var 9)])))))))))))
def isTT : R Fl → Bool | .ok (.rt (.bl true)) _ => true | _ => false
theorem tail_b : isTT (TAIL ⟨[x0, x1, x2, .v longD, x4, x5, x6, x7, x8, x9, .v ringD, .v pathD, x12, x13, x14, .un, .un, x17, x18], hp⟩) = true := by kernel_rfl
theorem tail_ok : ∃ s1, TAIL ⟨[x0, x1, x2, .v longD, x4, x5, x6, x7, x8, x9, .v ringD, .v pathD, x12, x13, x14, .un, .un, x17, x18], hp⟩ = .ok (.rt (.bl true)) s1 := by
  have h : isTT (TAIL ⟨[x0, x1, x2, .v longD, x4, x5, x6, x7, x8, x9, .v ringD, .v pathD, x12, x13, x14, .un, .un, x17, x18], hp⟩) = true := tail_b
  generalize TAIL ⟨[x0, x1, x2, .v longD, x4, x5, x6, x7, x8, x9, .v ringD, .v pathD, x12, x13, x14, .un, .un, x17, x18], hp⟩ = r at h ⊢
  unfold isTT at h
  split at h
  · exact ⟨_, rfl⟩
  · cases h
end L44
namespace L44
open PySem PySem.Spec PyProof.Rows L2 DS
theorem sq_assoc (a b c : Sm) : sqS (sqS a b) c = sqS a (sqS b c) := by
  funext s
  unfold sqS
  cases a s with
  | bad => rfl
  | exc x s1 => rfl
  | ok fl s1 => cases fl <;> rfl
noncomputable def LB : Sm := (ifS (notT (truT (oV (callE F__law_none_fits [(var 12), (var 13), (var 14)])))) (retS (cst (.bl false))) nxS)
theorem lb_ok {x0 x1 x2 x3 x4 x5 x6 x7 x8 x9 x10 x11 x15 x16 x17 x18 : DS.Slot} {a b c : D} {hp : List Ob} (h : F__law_none_fits [a, b, c] hp = .ok (.bl true) hp) : LB ⟨[x0, x1, x2, x3, x4, x5, x6, x7, x8, x9, x10, x11, .v a, .v b, .v c, x15, x16, x17, x18], hp⟩ = .ok .nx ⟨[x0, x1, x2, x3, x4, x5, x6, x7, x8, x9, x10, x11, .v a, .v b, .v c, x15, x16, x17, x18], hp⟩ := by
  unfold LB
  exact if_ff (by simp (config := { failIfUnchanged := false }) only [DS.nxS, DS.bkS, DS.ctS, DS.badS, DS.retS, DS.retN, DS.exprS, DS.setS, DS.setL, DS.asgS, DS.gN, DS.gT, DS.gsN, DS.gsC, DS.op1, DS.op2, DS.op1L, DS.op2L, DS.oV, DS.oS, DS.var, DS.cst, DS.deref, DS.derefD, DS.ofL, DS.lstE, DS.evA, DS.tupE, DS.asB, DS.truT, DS.andT, DS.orT, DS.notT, DS.andE, DS.orE, DS.notE, DS.ifE, DS.chn, DS.sl, DS.slL, DS.part, DS.lcE, DS.lcL, DS.itA, DS.itE, DS.itZ, DS.par2, DS.evP, DS.setIx, DS.mutE, DS.lstTok, DS.updTok, DS.shr, DS.callE, DS.callKE, DS.runFn, DS.orL, DS.yesT, DS.noOwn, DS.addD, DS.subD, DS.mulD, DS.divD, DS.modD, DS.powD, DS.negD, DS.ltD, DS.leD, DS.gtD, DS.geD, DS.isN, DS.isntN, DS.notD, DS.ixD, DS.slD, DS.slLs, DS.lenD, DS.absD, DS.intD, DS.tupleD, DS.listL, DS.allD, DS.anyD, DS.sumD, DS.minD, DS.maxD, DS.sortedL, DS.truD, DS.isiD, DS.tyD, DS.gId, DS.wipeE, DS.restE, DS.R.bind_ok, DS.R.bind_exc, DS.R.bind_bad, DS.R.map_ok, DS.R.of_some, DS.R.of_none, Option.bind_some, Option.bind_none, Option.map_some, Option.map_none, List.getElem?_cons_zero, List.getElem?_cons_succ, List.getElem?_nil, List.set_cons_zero, List.set_cons_succ, List.length_cons, List.length_nil, List.map_cons, List.map_nil, Option.getD_some, Option.getD_none, List.cons_append, List.nil_append, List.replicate_succ, List.replicate_zero, Nat.reduceAdd, Nat.reduceSub, decide_eq_true_eq, Bool.and_eq_true, Bool.or_eq_true, if_true, if_false, Bool.not_eq_true', Bool.false_eq_true, reduceIte, DS.eqD_int, DS.neD_int, DS.eqD_bl, DS.neD_bl, ne_eq, not_false_eq_true, not_true_eq_false, true_and, and_true, true_or, or_true, false_or, or_false, and_self, Int.reduceEq, Int.reduceAbs, Nat.reduceLT, Int.reduceLT, Int.reduceLE, Int.reduceNeg, Nat.reduceEqDiff, decide_true, decide_false, Bool.not_true, Bool.not_false, h] <;> rfl) (by rfl)
theorem loop_ok {x0 x1 x2 x3 x4 x5 x6 x7 x8 x9 x10 x11 x15 x16 x17 x18 : DS.Slot} {hp : List Ob} : ∀ (ds : List D) (x12 x13 x14 : DS.Slot), (∀ d ∈ ds, d ∈ rowsD) → ∃ y12 y13 y14, forL (gT 3 (gsC (gN 12) (gsC (gN 13) (gsC (gN 14) gsN)))) LB ds ⟨[x0, x1, x2, x3, x4, x5, x6, x7, x8, x9, x10, x11, x12, x13, x14, x15, x16, x17, x18], hp⟩ = .ok .nx ⟨[x0, x1, x2, x3, x4, x5, x6, x7, x8, x9, x10, x11, y12, y13, y14, x15, x16, x17, x18], hp⟩
  | [], x12, x13, x14, _ => ⟨x12, x13, x14, rfl⟩
  | d :: ds, x12, x13, x14, h => by
    obtain ⟨a, b, c, rfl, e⟩ := rows_fit d (h d List.mem_cons_self)
    obtain ⟨y12, y13, y14, ih⟩ := loop_ok ds (.v a) (.v b) (.v c) fun x hx => h x (List.mem_cons_of_mem _ hx)
    exact ⟨y12, y13, y14, Eq.trans (forL_cons (s1 := ⟨[x0, x1, x2, x3, x4, x5, x6, x7, x8, x9, x10, x11, .v a, .v b, .v c, x15, x16, x17, x18], hp⟩) (by rfl) (lb_ok (e hp))) ih⟩
noncomputable def LOOP : Sm := (forS (itA (callE F__law_pick [(var 1), (var 5), (op1 lenD (oS 5))])) (gT 3 (gsC (gN 12) (gsC (gN 13) (gsC (gN 14) gsN)))) LB)
noncomputable def T0 : Sm := (setS 1 (callE F__law_box [(callE F__law_cells [(var 0), (cst (.int 1))]), (cst (.int 0))]))
theorem B_law_is : B_law = sqS T0 (sqS PRE (sqS LOOP TAIL)) := by
  unfold PRE
  rw [sq_assoc, sq_assoc, sq_assoc, sq_assoc, sq_assoc, sq_assoc, sq_assoc, sq_assoc, sq_assoc]
  rfl
theorem law_true : ∀ ns : List Int, ns.length ≤ 63 → ∃ hp, F_law [.scr (ns.map .int)] [] = .ok (.bl true) hp := by
  intro ns hl
  obtain ⟨x, hx⟩ := F__law_cells_ok ns hl []
  obtain ⟨hp1, hb, b1⟩ := F__law_box_ok x
  obtain ⟨out, hp2, e2, b2, m2, l2⟩ := pick_ok b1 rowsD 20 (by decide) (by decide) (by decide)
  have e1 := pre_ok (x0 := .v (.scr (ns.map .int))) (x1 := .v (.ref 0)) (hp := hp1)
  obtain ⟨y12, y13, y14, e3⟩ := loop_ok (x0 := .v (.scr (ns.map .int))) (x1 := .v (.ref 0)) (x2 := .v polysD) (x3 := .v longD) (x4 := .v mapsD) (x5 := .v (.lst rowsD)) (x6 := .v (.lst [.non, (.tup []), (.tup [(.int 0), (.int 0)]), (.tup [(.int 0), (.int 1), (.int 3)]), (.tup [(.bl true), (.int 0)]), (.int 4), (.tup [(.int 0), (.int 1), (.int 2), (.int 3), (.int 4), (.int 5), (.int 6), (.int 7)])])) (x7 := .un) (x8 := .un) (x9 := .un) (x10 := .v ringD) (x11 := .v pathD) (x15 := .un) (x16 := .un) (x17 := .un) (x18 := .un) (hp := hp2) out .un .un .un m2
  obtain ⟨s4, e4⟩ := tail_ok (x0 := .v (.scr (ns.map .int))) (x1 := .v (.ref 0)) (x2 := .v polysD) (x4 := .v mapsD) (x5 := .v (.lst rowsD)) (x6 := .v (.lst [.non, (.tup []), (.tup [(.int 0), (.int 0)]), (.tup [(.int 0), (.int 1), (.int 3)]), (.tup [(.bl true), (.int 0)]), (.int 4), (.tup [(.int 0), (.int 1), (.int 2), (.int 3), (.int 4), (.int 5), (.int 6), (.int 7)])])) (x7 := .un) (x8 := .un) (x9 := .un) (x12 := y12) (x13 := y13) (x14 := y14) (x17 := .un) (x18 := .un) (hp := hp2)
  have e2 : F__law_pick [.ref 0, .lst rowsD, .int ((20 : Nat) : Int)] hp1 = .ok (.lst out) hp2 := e2
  refine ⟨s4.hp, ?_⟩
  unfold F_law
  rw [B_law_is]
  refine fn_rt (sq_nx (s1 := ⟨[.v (.scr (ns.map .int)), .v (.ref 0), .un, .un, .un, .un, .un, .un, .un, .un, .un, .un, .un, .un, .un, .un, .un, .un, .un], hp1⟩) ?_ (sq_nx e1 (sq_nx ?_ e4)))
  · unfold T0
    simp (config := { failIfUnchanged := false }) only [DS.nxS, DS.bkS, DS.ctS, DS.badS, DS.retS, DS.retN, DS.exprS, DS.setS, DS.setL, DS.asgS, DS.gN, DS.gT, DS.gsN, DS.gsC, DS.op1, DS.op2, DS.op1L, DS.op2L, DS.oV, DS.oS, DS.var, DS.cst, DS.deref, DS.derefD, DS.ofL, DS.lstE, DS.evA, DS.tupE, DS.asB, DS.truT, DS.andT, DS.orT, DS.notT, DS.andE, DS.orE, DS.notE, DS.ifE, DS.chn, DS.sl, DS.slL, DS.part, DS.lcE, DS.lcL, DS.itA, DS.itE, DS.itZ, DS.par2, DS.evP, DS.setIx, DS.mutE, DS.lstTok, DS.updTok, DS.shr, DS.callE, DS.callKE, DS.runFn, DS.orL, DS.yesT, DS.noOwn, DS.addD, DS.subD, DS.mulD, DS.divD, DS.modD, DS.powD, DS.negD, DS.ltD, DS.leD, DS.gtD, DS.geD, DS.isN, DS.isntN, DS.notD, DS.ixD, DS.slD, DS.slLs, DS.lenD, DS.absD, DS.intD, DS.tupleD, DS.listL, DS.allD, DS.anyD, DS.sumD, DS.minD, DS.maxD, DS.sortedL, DS.truD, DS.isiD, DS.tyD, DS.gId, DS.wipeE, DS.restE, DS.R.bind_ok, DS.R.bind_exc, DS.R.bind_bad, DS.R.map_ok, DS.R.of_some, DS.R.of_none, Option.bind_some, Option.bind_none, Option.map_some, Option.map_none, List.getElem?_cons_zero, List.getElem?_cons_succ, List.getElem?_nil, List.set_cons_zero, List.set_cons_succ, List.length_cons, List.length_nil, List.map_cons, List.map_nil, Option.getD_some, Option.getD_none, List.cons_append, List.nil_append, List.replicate_succ, List.replicate_zero, Nat.reduceAdd, Nat.reduceSub, decide_eq_true_eq, Bool.and_eq_true, Bool.or_eq_true, if_true, if_false, Bool.not_eq_true', Bool.false_eq_true, reduceIte, DS.eqD_int, DS.neD_int, DS.eqD_bl, DS.neD_bl, ne_eq, not_false_eq_true, not_true_eq_false, true_and, and_true, true_or, or_true, false_or, or_false, and_self, Int.reduceEq, Int.reduceAbs, Nat.reduceLT, Int.reduceLT, Int.reduceLE, Int.reduceNeg, Nat.reduceEqDiff, decide_true, decide_false, Bool.not_true, Bool.not_false, hx, hb] <;> rfl
  · unfold LOOP
    refine for_of (ds := out) (s1 := ⟨[.v (.scr (ns.map .int)), .v (.ref 0), .v polysD, .v longD, .v mapsD, .v (.lst rowsD), .v (.lst [.non, (.tup []), (.tup [(.int 0), (.int 0)]), (.tup [(.int 0), (.int 1), (.int 3)]), (.tup [(.bl true), (.int 0)]), (.int 4), (.tup [(.int 0), (.int 1), (.int 2), (.int 3), (.int 4), (.int 5), (.int 6), (.int 7)])]), .un, .un, .un, .v ringD, .v pathD, .un, .un, .un, .un, .un, .un, .un], hp2⟩) ?_ e3
    have ix : rowsD.length = 20 := by rfl
    simp (config := { failIfUnchanged := false }) only [DS.nxS, DS.bkS, DS.ctS, DS.badS, DS.retS, DS.retN, DS.exprS, DS.setS, DS.setL, DS.asgS, DS.gN, DS.gT, DS.gsN, DS.gsC, DS.op1, DS.op2, DS.op1L, DS.op2L, DS.oV, DS.oS, DS.var, DS.cst, DS.deref, DS.derefD, DS.ofL, DS.lstE, DS.evA, DS.tupE, DS.asB, DS.truT, DS.andT, DS.orT, DS.notT, DS.andE, DS.orE, DS.notE, DS.ifE, DS.chn, DS.sl, DS.slL, DS.part, DS.lcE, DS.lcL, DS.itA, DS.itE, DS.itZ, DS.par2, DS.evP, DS.setIx, DS.mutE, DS.lstTok, DS.updTok, DS.shr, DS.callE, DS.callKE, DS.runFn, DS.orL, DS.yesT, DS.noOwn, DS.addD, DS.subD, DS.mulD, DS.divD, DS.modD, DS.powD, DS.negD, DS.ltD, DS.leD, DS.gtD, DS.geD, DS.isN, DS.isntN, DS.notD, DS.ixD, DS.slD, DS.slLs, DS.lenD, DS.absD, DS.intD, DS.tupleD, DS.listL, DS.allD, DS.anyD, DS.sumD, DS.minD, DS.maxD, DS.sortedL, DS.truD, DS.isiD, DS.tyD, DS.gId, DS.wipeE, DS.restE, DS.R.bind_ok, DS.R.bind_exc, DS.R.bind_bad, DS.R.map_ok, DS.R.of_some, DS.R.of_none, Option.bind_some, Option.bind_none, Option.map_some, Option.map_none, List.getElem?_cons_zero, List.getElem?_cons_succ, List.getElem?_nil, List.set_cons_zero, List.set_cons_succ, List.length_cons, List.length_nil, List.map_cons, List.map_nil, Option.getD_some, Option.getD_none, List.cons_append, List.nil_append, List.replicate_succ, List.replicate_zero, Nat.reduceAdd, Nat.reduceSub, decide_eq_true_eq, Bool.and_eq_true, Bool.or_eq_true, if_true, if_false, Bool.not_eq_true', Bool.false_eq_true, reduceIte, DS.eqD_int, DS.neD_int, DS.eqD_bl, DS.neD_bl, ne_eq, not_false_eq_true, not_true_eq_false, true_and, and_true, true_or, or_true, false_or, or_false, and_self, Int.reduceEq, Int.reduceAbs, Nat.reduceLT, Int.reduceLT, Int.reduceLE, Int.reduceNeg, Nat.reduceEqDiff, decide_true, decide_false, Bool.not_true, Bool.not_false, e2, ix] <;> rfl
end L44
open PySem PySem.W PyProof.Rows
set_option maxHeartbeats 0 in
theorem PySem.Challenge.cw_spottedsheets_k44_all_growths_and_maps_r_holds : PySem.Challenge.rw_spottedsheets_k44_all_growths_and_maps_r.Holds := by
  w_on; o_law; k_head; (case hw => w_witness2)
  k_fill
  refine L2.walk_of (l := PySem.Challenge.rw_spottedsheets_k44_all_growths_and_maps_r) (n := 63) (k := 13) (x := "script") (CX := fun w => L2.CX PySem.Challenge.rw_spottedsheets_k44_all_growths_and_maps_r.prog w) (sp := fun w => DS.spT _) rfl (by decide) rfl ⟨rfl, by decide, by decide⟩ (fun w h Y => PySem.W.kIn_of Y) ?F (fun _ _ a ns hl hO hS => ⟨a, ns, rfl, hS, hl, hO, fun _ => rfl⟩) (fun w H s e s' h => by
    obtain ⟨_, _, _, _, _, _, _, _, _, _, _, _, z⟩ := h
    exact z.elim)
  case F =>
    intro w mg fa h KX G hmg
    refine' L44.all_mk L44.law_true KX G hmg ?a0 ?l0 ?c0 ?k0 ?a1 ?l1 ?c1 ?k1 ?a2 ?l2 ?c2 ?k2 ?a3 ?l3 ?c3 ?k3 ?a4 ?l4 ?c4 ?k4 ?a5 ?l5 ?c5 ?k5 ?a6 ?l6 ?c6 ?k6 ?a7 ?l7 ?c7 ?k7 ?a8 ?l8 ?c8 ?k8 ?a9 ?l9 ?c9 ?k9 ?a10 ?l10 ?c10 ?k10 ?a11 ?l11 ?c11 ?k11 ?a12 ?l12 ?c12 ?k12 ?a13 ?l13 ?c13 ?k13 ?a14 ?l14 ?c14 ?k14 ?a15 ?l15 ?c15 ?k15 ?a16 ?l16 ?c16 ?k16 ?a17 ?l17 ?c17 ?k17 ?a18 ?l18 ?c18 ?k18 ?a19 ?l19 ?c19 ?k19 ?a20 ?l20 ?c20 ?k20 ?a21 ?l21 ?c21 ?k21 ?a22 ?l22 ?c22 ?k22 ?a23 ?l23 ?c23 ?k23 ?a24 ?l24 ?c24 ?k24 ?a25 ?l25 ?c25 ?k25 ?a26 ?l26 ?c26 ?k26 ?a27 ?l27 ?c27 ?k27 ?a28 ?l28 ?c28 ?k28 ?a29 ?l29 ?c29 ?k29 ?a30 ?l30 ?c30 ?k30 ?a31 ?l31 ?c31 ?k31 ?a32 ?l32 ?c32 ?k32 ?a33 ?l33 ?c33 ?k33 ?a34 ?l34 ?c34 ?k34 ?a35 ?l35 ?c35 ?k35 ?a36 ?l36 ?c36 ?k36 ?a37 ?l37 ?c37 ?k37 ?a38 ?l38 ?c38 ?k38 ?a39 ?l39 ?c39 ?k39 ?a40 ?l40 ?c40 ?k40 ?a41 ?l41 ?c41 ?k41 ?a42 ?l42 ?c42 ?k42 ?a43 ?l43 ?c43 ?k43 ?a44 ?l44 ?c44 ?k44 ?a45 ?l45 ?c45 ?k45 ?a46 ?l46 ?c46 ?k46 ?a47 ?l47 ?c47 ?k47 ?a48 ?l48 ?c48 ?k48 ?a49 ?l49 ?c49 ?k49 ?a50 ?l50 ?c50 ?k50 ?a51 ?l51 ?c51 ?k51 ?a52 ?l52 ?c52 ?k52 ?a53 ?l53 ?c53 ?k53 ?a54 ?l54 ?c54 ?k54 ?a55 ?l55 ?c55 ?k55 ?a56 ?l56 ?c56 ?k56 ?a57 ?l57 ?c57 ?k57 ?a58 ?l58 ?c58 ?k58 ?a59 ?l59 ?c59 ?k59 ?a60 ?l60 ?c60 ?k60 ?a61 ?l61 ?c61 ?k61 ?a62 ?l62 ?c62 ?k62 ?a63 ?l63 ?c63 ?k63 ?a64 ?l64 ?c64 ?k64 ?a65 ?l65 ?c65 ?k65 ?a66 ?l66 ?c66 ?k66 ?a67 ?l67 ?c67 ?k67 ?z_ValueError ?z_abs ?z_all ?z_any ?z_bool ?z_dict ?z_enumerate ?z_int ?z_isinstance ?z_len ?z_list ?z_max ?z_min ?z_range ?z_set ?z_sorted ?z_str ?z_sum ?z_tuple ?z_zip ?y_MOST_DARTS ?y_MOST_LONG ?y_MOST_MAKERS ?y_MOST_MANY ?y_MOST_ORDER ?y_MOST_SHARED ?gx_CanNot ?xx_CanNot ?kx_CanNot ?bx_CanNot ?tx_CanNot ?sx_CanNot ?h1_CanNot ?h2_CanNot ?h4_CanNot ?h5_CanNot ?h6_CanNot ?h7_CanNot ?h8_CanNot ?gx_TooMany ?xx_TooMany ?kx_TooMany ?bx_TooMany ?tx_TooMany ?sx_TooMany ?h1_TooMany ?h2_TooMany ?h4_TooMany ?h5_TooMany ?h6_TooMany ?h7_TooMany ?h8_TooMany ?gx_Unfit ?xx_Unfit ?kx_Unfit ?bx_Unfit ?tx_Unfit ?sx_Unfit ?h1_Unfit ?h2_Unfit ?h4_Unfit ?h5_Unfit ?h6_Unfit ?h7_Unfit ?h8_Unfit ?kt_CanNot_Unfit ?kt_TooMany_Unfit ?kt_Unfit_ValueError
    (case a0 => k_is); (case l0 => k_is); (case c0 => k_is); (case k0 => k_is); (case a1 => k_is); (case l1 => k_is); (case c1 => k_is); (case k1 => k_is); (case a2 => k_is); (case l2 => k_is); (case c2 => k_is); (case k2 => k_is); (case a3 => k_is); (case l3 => k_is); (case c3 => k_is); (case k3 => k_is); (case a4 => k_is); (case l4 => k_is); (case c4 => k_is); (case k4 => k_is); (case a5 => k_is); (case l5 => k_is); (case c5 => k_is); (case k5 => k_is); (case a6 => k_is); (case l6 => k_is); (case c6 => k_is); (case k6 => k_is); (case a7 => k_is); (case l7 => k_is); (case c7 => k_is); (case k7 => k_is); (case a8 => k_is); (case l8 => k_is); (case c8 => k_is); (case k8 => k_is); (case a9 => k_is); (case l9 => k_is); (case c9 => k_is); (case k9 => k_is); (case a10 => k_is); (case l10 => k_is); (case c10 => k_is); (case k10 => k_is); (case a11 => k_is); (case l11 => k_is); (case c11 => k_is); (case k11 => k_is); (case a12 => k_is); (case l12 => k_is); (case c12 => k_is); (case k12 => k_is); (case a13 => k_is); (case l13 => k_is); (case c13 => k_is); (case k13 => k_is); (case a14 => k_is); (case l14 => k_is); (case c14 => k_is); (case k14 => k_is); (case a15 => k_is); (case l15 => k_is); (case c15 => k_is); (case k15 => k_is); (case a16 => k_is); (case l16 => k_is); (case c16 => k_is); (case k16 => k_is); (case a17 => k_is); (case l17 => k_is); (case c17 => k_is); (case k17 => k_is); (case a18 => k_is); (case l18 => k_is); (case c18 => k_is); (case k18 => k_is); (case a19 => k_is); (case l19 => k_is); (case c19 => k_is); (case k19 => k_is); (case a20 => k_is); (case l20 => k_is); (case c20 => k_is); (case k20 => k_is); (case a21 => k_is); (case l21 => k_is); (case c21 => k_is); (case k21 => k_is); (case a22 => k_is); (case l22 => k_is); (case c22 => k_is); (case k22 => k_is); (case a23 => k_is); (case l23 => k_is); (case c23 => k_is); (case k23 => k_is); (case a24 => k_is); (case l24 => k_is); (case c24 => k_is); (case k24 => k_is); (case a25 => k_is); (case l25 => k_is); (case c25 => k_is); (case k25 => k_is); (case a26 => k_is); (case l26 => k_is); (case c26 => k_is); (case k26 => k_is); (case a27 => k_is); (case l27 => k_is); (case c27 => k_is); (case k27 => k_is); (case a28 => k_is); (case l28 => k_is); (case c28 => k_is); (case k28 => k_is); (case a29 => k_is); (case l29 => k_is); (case c29 => k_is); (case k29 => k_is); (case a30 => k_is); (case l30 => k_is); (case c30 => k_is); (case k30 => k_is); (case a31 => k_is); (case l31 => k_is); (case c31 => k_is); (case k31 => k_is); (case a32 => k_is); (case l32 => k_is); (case c32 => k_is); (case k32 => k_is); (case a33 => k_is); (case l33 => k_is); (case c33 => k_is); (case k33 => k_is); (case a34 => k_is); (case l34 => k_is); (case c34 => k_is); (case k34 => k_is); (case a35 => k_is); (case l35 => k_is); (case c35 => k_is); (case k35 => k_is); (case a36 => k_is); (case l36 => k_is); (case c36 => k_is); (case k36 => k_is); (case a37 => k_is); (case l37 => k_is); (case c37 => k_is); (case k37 => k_is); (case a38 => k_is); (case l38 => k_is); (case c38 => k_is); (case k38 => k_is); (case a39 => k_is); (case l39 => k_is); (case c39 => k_is); (case k39 => k_is); (case a40 => k_is); (case l40 => k_is); (case c40 => k_is); (case k40 => k_is); (case a41 => k_is); (case l41 => k_is); (case c41 => k_is); (case k41 => k_is); (case a42 => k_is); (case l42 => k_is); (case c42 => k_is); (case k42 => k_is); (case a43 => k_is); (case l43 => k_is); (case c43 => k_is); (case k43 => k_is); (case a44 => k_is); (case l44 => k_is); (case c44 => k_is); (case k44 => k_is); (case a45 => k_is); (case l45 => k_is); (case c45 => k_is); (case k45 => k_is); (case a46 => k_is); (case l46 => k_is); (case c46 => k_is); (case k46 => k_is); (case a47 => k_is); (case l47 => k_is); (case c47 => k_is); (case k47 => k_is); (case a48 => k_is); (case l48 => k_is); (case c48 => k_is); (case k48 => k_is); (case a49 => k_is); (case l49 => k_is); (case c49 => k_is); (case k49 => k_is); (case a50 => k_is); (case l50 => k_is); (case c50 => k_is); (case k50 => k_is); (case a51 => k_is); (case l51 => k_is); (case c51 => k_is); (case k51 => k_is); (case a52 => k_is); (case l52 => k_is); (case c52 => k_is); (case k52 => k_is); (case a53 => k_is); (case l53 => k_is); (case c53 => k_is); (case k53 => k_is); (case a54 => k_is); (case l54 => k_is); (case c54 => k_is); (case k54 => k_is); (case a55 => k_is); (case l55 => k_is); (case c55 => k_is); (case k55 => k_is); (case a56 => k_is); (case l56 => k_is); (case c56 => k_is); (case k56 => k_is); (case a57 => k_is); (case l57 => k_is); (case c57 => k_is); (case k57 => k_is); (case a58 => k_is); (case l58 => k_is); (case c58 => k_is); (case k58 => k_is); (case a59 => k_is); (case l59 => k_is); (case c59 => k_is); (case k59 => k_is); (case a60 => k_is); (case l60 => k_is); (case c60 => k_is); (case k60 => k_is); (case a61 => k_is); (case l61 => k_is); (case c61 => k_is); (case k61 => k_is); (case a62 => k_is); (case l62 => k_is); (case c62 => k_is); (case k62 => k_is); (case a63 => k_is); (case l63 => k_is); (case c63 => k_is); (case k63 => k_is); (case a64 => k_is); (case l64 => k_is); (case c64 => k_is); (case k64 => k_is); (case a65 => k_is); (case l65 => k_is); (case c65 => k_is); (case k65 => k_is); (case a66 => k_is); (case l66 => k_is); (case c66 => k_is); (case k66 => k_is); (case a67 => k_is); (case l67 => k_is); (case c67 => k_is); (case k67 => k_is); (case z_ValueError => k_is); (case z_abs => k_is); (case z_all => k_is); (case z_any => k_is); (case z_bool => k_is); (case z_dict => k_is); (case z_enumerate => k_is); (case z_int => k_is); (case z_isinstance => k_is); (case z_len => k_is); (case z_list => k_is); (case z_max => k_is); (case z_min => k_is); (case z_range => k_is); (case z_set => k_is); (case z_sorted => k_is); (case z_str => k_is); (case z_sum => k_is); (case z_tuple => k_is); (case z_zip => k_is); (case y_MOST_DARTS => k_is); (case y_MOST_LONG => k_is); (case y_MOST_MAKERS => k_is); (case y_MOST_MANY => k_is); (case y_MOST_ORDER => k_is); (case y_MOST_SHARED => k_is); (case gx_CanNot => k_is); (case xx_CanNot => k_exc); (case kx_CanNot => k_is); (case bx_CanNot => k_is); (case tx_CanNot => k_is); (case sx_CanNot => k_is); (case h1_CanNot => k_is); (case h2_CanNot => k_is); (case h4_CanNot => k_is); (case h5_CanNot => k_is); (case h6_CanNot => k_is); (case h7_CanNot => k_is); (case h8_CanNot => k_is); (case gx_TooMany => k_is); (case xx_TooMany => k_exc); (case kx_TooMany => k_is); (case bx_TooMany => k_is); (case tx_TooMany => k_is); (case sx_TooMany => k_is); (case h1_TooMany => k_is); (case h2_TooMany => k_is); (case h4_TooMany => k_is); (case h5_TooMany => k_is); (case h6_TooMany => k_is); (case h7_TooMany => k_is); (case h8_TooMany => k_is); (case gx_Unfit => k_is); (case xx_Unfit => k_exc); (case kx_Unfit => k_is); (case bx_Unfit => k_is); (case tx_Unfit => k_is); (case sx_Unfit => k_is); (case h1_Unfit => k_is); (case h2_Unfit => k_is); (case h4_Unfit => k_is); (case h5_Unfit => k_is); (case h6_Unfit => k_is); (case h7_Unfit => k_is); (case h8_Unfit => k_is); (case kt_CanNot_Unfit => kit_is); (case kt_TooMany_Unfit => kit_is); (case kt_Unfit_ValueError => kit_is)
