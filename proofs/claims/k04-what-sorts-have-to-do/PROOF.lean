import PyProof.Rows.All
import Wide.All
import OpenK.AllK
import Wide.FinOn
import HandS.ForMost
import HandS.Deep
import HandS.Wide
import KE.SortData
import KE.KDictKeyed
import HandS.TupAny
import HandS.TupLe
import HandS.IsInst
import HandS.Style
import HandS.Walk
import HandS.Lambda
import HandS.Zip
import HandS.Iter
import KE.GoesEnum
import HandS.TupMul
import HandS.Defaults
import HandS.TupLen
import KE.KDictCopyH
import KE.KDictSum
import KE.KDictExact
import KE.DataMinMax
import PyProof.Transfer
import PyProof.SumWalkG
import KE.KDictPairs
import HandS.TupSets
import HandS.SetFor
import HandS.Strs
import KE.KDictZip
import HandS.Zip0
import HandS.Keys
import KE.SortKeyHeap
import HandS.SortKw
import HandS.HeadEnd
import HandS.Head0
import HandS.Head1
import HandS.Head2
import HandS.HeadHook1
import HandS.HeadHook2
import HandS.HeadHook3
import HandS.HeadHook4
import HandS.HeadWalk
import PySem.Challenge.RW_slyscales_k04_whole_what_sorts_have_to_d
section
set_option Elab.async false
set_option linter.all false
set_option maxRecDepth 100000
namespace Co
open PySem PySem.Spec L2

abbrev D := PyData
/-- what is known of a value handed on: standing for good; new and unlocked; an owned thing looked at -/
inductive Fl where
  | pf | fr | ln
  deriving DecidableEq
abbrev R := Fl × D

/-! ### values that stand for good: tuples and locked lists -/
mutual
inductive PF (K : PySem.W.Frag) (H : Hp) : V → D → Prop
  | non : PF K H .non .none
  | bl (b : Bool) : PF K H (.bl b) (.bool b)
  | int (i : Int) : PF K H (.int i) (.int i)
  | str (x : Str) : PyData.strOk x = true → PF K H (.str x) (.str x)
  | lst {a : Addr} {o : Obj} {xs : List V} {ds : List D} : H a = some (.frz o (.lst xs)) → PFs K H xs ds → PF K H (.ref a) (.list ds)
  | tup {a : Addr} {xs : List V} {ds : List D} : SqT K H a xs → PFs K H xs ds → PF K H (.ref a) (.tuple ds)
inductive PFs (K : PySem.W.Frag) (H : Hp) : List V → List D → Prop
  | nil : PFs K H [] []
  | cons {v : V} {vs : List V} {d : D} {ds : List D} : PF K H v d → PFs K H vs ds → PFs K H (v :: vs) (d :: ds)
end

/-- tuples and locked things stay -/
structure Pers (H H' : Hp) : Prop where
  tups : ∀ b xs, H b = some (.tup xs) → H' b = some (.tup xs)
  frzs : ∀ b o u, H b = some (.frz o u) → H' b = some (.frz o u)
theorem Pers.refl (H : Hp) : Pers H H := ⟨fun _ _ h => h, fun _ _ _ h => h⟩
theorem Pers.trans {H H1 H2 : Hp} (a : Pers H H1) (b : Pers H1 H2) : Pers H H2 := ⟨fun c x h => b.tups c x (a.tups c x h), fun c o x h => b.frzs c o x (a.frzs c o x h)⟩
theorem Pers.of {H H' : Hp} (s : Same H H') : Pers H H' := ⟨fun b _ h => s b _ h, fun b _ _ h => s b _ h⟩
theorem Pers.sqT {K : PySem.W.Frag} {H H' : Hp} {a : Addr} {xs : List V} (p : Pers H H') (h : SqT K H a xs) : SqT K H' a xs := by
  rcases h with (h | ⟨o, h⟩) | h
  · exact .inl (.inl (p.tups _ _ h))
  · exact .inl (.inr ⟨o, p.frzs _ _ _ h⟩)
  · exact .inr h
mutual
theorem PF.pers {K : PySem.W.Frag} {H H' : Hp} (p : Pers H H') : ∀ (d : D) (v : V), PF K H v d → PF K H' v d
  | .none, _, h => by cases h; exact .non
  | .bool b, _, h => by cases h; exact .bl b
  | .int i, _, h => by cases h; exact .int i
  | .str x, _, h => by
    cases h with
    | str _ k => exact .str x k
  | .list ds, _, h => by
    cases h with
    | lst e q => exact .lst (p.frzs _ _ _ e) (PFs.pers p ds _ q)
  | .tuple ds, _, h => by
    cases h with
    | tup e q => exact .tup (p.sqT e) (PFs.pers p ds _ q)
  | .dict kvs, _, h => by cases h
theorem PFs.pers {K : PySem.W.Frag} {H H' : Hp} (p : Pers H H') : ∀ (ds : List D) (vs : List V), PFs K H vs ds → PFs K H' vs ds
  | [], _, h => by cases h; exact .nil
  | d :: ds, _, h => by
    cases h with
    | cons a b => exact .cons (PF.pers p d _ a) (PFs.pers p ds _ b)
end
mutual
theorem PF.dp {K : PySem.W.Frag} {H : Hp} : ∀ (d : D) (v : V), PF K H v d → Dp K H v d
  | .none, _, h => by cases h; exact .non
  | .bool b, _, h => by cases h; exact .bl b
  | .int i, _, h => by cases h; exact .int i
  | .str x, _, h => by cases h; exact .str x
  | .list ds, _, h => by
    cases h with
    | lst e q => exact .lst (.inl (.inr ⟨_, e⟩)) (PFs.dp ds _ q)
  | .tuple ds, _, h => by
    cases h with
    | tup e q => exact .tup e (PFs.dp ds _ q)
  | .dict kvs, _, h => by cases h
theorem PFs.dp {K : PySem.W.Frag} {H : Hp} : ∀ (ds : List D) (vs : List V), PFs K H vs ds → DpAll K H vs ds
  | [], _, h => by cases h; exact .nil
  | d :: ds, _, h => by
    cases h with
    | cons a b => exact .cons (PF.dp d _ a) (PFs.dp ds _ b)
end
mutual
theorem PF.lay {K : PySem.W.Frag} {H : Hp} : ∀ (d : D) (v : V), PF K H v d → d.canLay0 = true
  | .none, _, h => rfl
  | .bool b, _, h => rfl
  | .int i, _, h => rfl
  | .str x, _, h => by
    cases h with
    | str _ k => rw [PyData.canLay0]; exact k
  | .list ds, _, h => by
    cases h with
    | lst e q => rw [PyData.canLay0]; exact PFs.lay ds _ q
  | .tuple ds, _, h => by
    cases h with
    | tup e q => rw [PyData.canLay0]; exact PFs.lay ds _ q
  | .dict kvs, _, h => by cases h
theorem PFs.lay {K : PySem.W.Frag} {H : Hp} : ∀ (ds : List D) (vs : List V), PFs K H vs ds → PyData.canLayAll0 ds = true
  | [], _, h => rfl
  | d :: ds, _, h => by
    cases h with
    | cons a b => rw [PyData.canLayAll0, PF.lay d _ a, PFs.lay ds _ b]; rfl
end
theorem PFs.length {K : PySem.W.Frag} {H : Hp} : ∀ {ds : List D} {vs : List V}, PFs K H vs ds → vs.length = ds.length
  | [], _, h => by cases h; rfl
  | d :: ds, _, h => by
    cases h with
    | cons a b => simp [PFs.length b]
theorem PFs.get {K : PySem.W.Frag} {H : Hp} : ∀ {ds : List D} {vs : List V} {i : Nat} {d : D}, PFs K H vs ds → ds[i]? = some d → ∃ v, vs[i]? = some v ∧ PF K H v d
  | [], _, _, _, h, e => by simp at e
  | d :: ds, _, 0, _, h, e => by
    cases h with
    | cons a b => simp at e; subst e; exact ⟨_, rfl, a⟩
  | d :: ds, _, i + 1, _, h, e => by
    cases h with
    | cons a b =>
      obtain ⟨v, h1, h2⟩ := PFs.get (i := i) b (by simpa using e)
      exact ⟨v, by simpa using h1, h2⟩
theorem PFs.getV {K : PySem.W.Frag} {H : Hp} {ds : List D} {vs : List V} {i : Nat} {v : V} (h : PFs K H vs ds) (e : vs[i]? = some v) : ∃ d, ds[i]? = some d ∧ PF K H v d := by
  have hi : i < ds.length := by rw [← h.length]; exact (List.getElem?_eq_some_iff.mp e).1
  obtain ⟨v', h1, h2⟩ := h.get (List.getElem?_eq_getElem hi)
  rw [e] at h1; cases h1
  exact ⟨_, List.getElem?_eq_getElem hi, h2⟩
theorem PFs.append {K : PySem.W.Frag} {H : Hp} : ∀ {ds es : List D} {vs ws : List V}, PFs K H vs ds → PFs K H ws es → PFs K H (vs ++ ws) (ds ++ es)
  | [], _, _, _, h, h' => by cases h; exact h'
  | d :: ds, _, _, _, h, h' => by
    cases h with
    | cons a b => exact .cons a (PFs.append b h')
theorem PFs.drop {K : PySem.W.Frag} {H : Hp} : ∀ {ds : List D} {vs : List V} (n : Nat), PFs K H vs ds → PFs K H (vs.drop n) (ds.drop n)
  | _, _, 0, h => h
  | [], _, n + 1, h => by cases h; exact .nil
  | d :: ds, _, n + 1, h => by
    cases h with
    | cons a b => exact PFs.drop n b
theorem PFs.take {K : PySem.W.Frag} {H : Hp} : ∀ {ds : List D} {vs : List V} (n : Nat), PFs K H vs ds → PFs K H (vs.take n) (ds.take n)
  | _, _, 0, h => .nil
  | [], _, n + 1, h => by cases h; exact .nil
  | d :: ds, _, n + 1, h => by
    cases h with
    | cons a b => exact .cons a (PFs.take n b)
theorem PFs.set {K : PySem.W.Frag} {H : Hp} {v : V} {d : D} (p : PF K H v d) : ∀ {ds : List D} {vs : List V} (n : Nat), PFs K H vs ds → PFs K H (vs.set n v) (ds.set n d)
  | [], _, n, h => by cases h; exact .nil
  | _ :: _, _, 0, h => by
    cases h with
    | cons a b => exact .cons p b
  | e :: ds, _, n + 1, h => by
    cases h with
    | cons a b => exact .cons a (PFs.set p n b)
theorem PFs.reverse {K : PySem.W.Frag} {H : Hp} : ∀ {ds : List D} {vs : List V}, PFs K H vs ds → PFs K H vs.reverse ds.reverse
  | [], _, h => by cases h; exact .nil
  | d :: ds, _, h => by
    cases h with
    | cons a b => rw [List.reverse_cons, List.reverse_cons]; exact PFs.append (PFs.reverse b) (.cons a .nil)
theorem PFs.flat {K : PySem.W.Frag} {H : Hp} {ds : List D} {vs : List V} (h : PFs K H vs ds) : ∀ n : Nat, PFs K H (List.replicate n vs).flatten (List.replicate n ds).flatten
  | 0 => .nil
  | n + 1 => by rw [List.replicate_succ, List.replicate_succ, List.flatten_cons, List.flatten_cons]; exact h.append (PFs.flat h n)

/-! ### unlocked things -/
/-- keys that are ints and texts -/
def sKey : D → Option Key
  | .int i => some (.inl i)
  | .str x => some (.inr x)
  | _ => none
/-! keys that are tuples -/
mutual
def nk : D → Option NestedKey
  | .none => some .none
  | .int i => some (.num i)
  | .str x => some (.text x)
  | .tuple ds => (nks ds).map .tup
  | _ => none
def nks : List D → Option (List NestedKey)
  | [] => some []
  | d :: ds => (nk d).bind fun k => (nks ds).map fun ks => k :: ks
end
def KVs (K : PySem.W.Frag) (H : Hp) (kvs : List (D × D)) (xs : List (Key × V)) : Prop := Paired (fun (p : D × D) (q : Key × V) => (sKey p.1 = some q.1 ∧ PF K H (kV q.1) p.1) ∧ PF K H q.2 p.2) kvs xs
/-- an object known by itself -/
def pinO (a : Addr) (o : Obj) : HO := .ext fun h => h.get? a = some o
structure DTup (P : Program) (w : World) (K : PySem.W.Frag) (H : Hp) (a : Addr) (kvs : List (D × D)) : Prop where
  nsys : (a == sysModules) = false
  few : kvs.length ≤ sizeLine
  ne : kvs ≠ []
  at_ : ∃ (o : Obj) (es : Array DictEntry) (ep : Nat) (xs : List (NestedKey × Addr × Value)), H a = some (pinO a o) ∧ o.ExactDict ∧ o.data = .dict es ep ∧ es.toList = xs.map (entryOfKey (nestedKind P w)) ∧ (xs.map (·.1)).Nodup ∧
    Paired (fun (p : D × D) (q : NestedKey × Addr × Value) => nk p.1 = some q.1 ∧ q.1.depth ≤ 8 ∧ PF K H (.ref q.2.1) p.1 ∧ ∃ v, RelV v q.2.2 ∧ PF K H v p.2) kvs xs
theorem paired_imp {α β : Type} {F G : α → β → Prop} : ∀ {l₁ : List α} {l₂ : List β}, Paired F l₁ l₂ → (∀ a b, F a b → G a b) → Paired G l₁ l₂
  | _, _, .nil, _ => .nil
  | _, _, .cons r t, f => .cons (f _ _ r) (paired_imp t f)
/-- the program, the world, the written part -/
structure Wd where
  P : Program
  w : World
  K : PySem.W.Frag
abbrev wd (X : Cx) : Wd := ⟨X.prog, X.w, X.K⟩
/-- an unlocked list or dict of standing things -/
def Ob (W : Wd) (H : Hp) (a : Addr) : D → Prop
  | .list ds => ∃ vs, H a = some (.lst vs) ∧ PFs W.K H vs ds
  | .dict kvs => (∃ xs, H a = some (.dK xs) ∧ KVs W.K H kvs xs) ∨ DTup W.P W.w W.K H a kvs
  | _ => False
theorem Ob.pers {W : Wd} {H H' : Hp} {a : Addr} {d : D} (o : Ob W H a d) (p : Pers H H') (e : H' a = H a) : Ob W H' a d := by
  cases d with
  | list ds =>
    obtain ⟨vs, h, q⟩ := o
    exact ⟨vs, e.trans h, PFs.pers p _ _ q⟩
  | dict kvs =>
    rcases o with ⟨xs, h, q⟩ | o
    · exact .inl ⟨xs, e.trans h, paired_imp q fun _ _ z => ⟨⟨z.1.1, PF.pers p _ _ z.1.2⟩, PF.pers p _ _ z.2⟩⟩
    · refine .inr ⟨o.nsys, o.few, o.ne, ?_⟩
      obtain ⟨ob, es, ep, xs, h, q1, q2, q3, q4, q5⟩ := o.at_
      refine ⟨ob, es, ep, xs, e.trans h, q1, q2, q3, q4, paired_imp q5 fun _ _ z => ⟨z.1, z.2.1, PF.pers p _ _ z.2.2.1, ?_⟩⟩
      obtain ⟨v, r, f⟩ := z.2.2.2
      exact ⟨v, r, PF.pers p _ _ f⟩
  | _ => exact False.elim o
theorem Ob.some {W : Wd} {H : Hp} {a : Addr} {d : D} (o : Ob W H a d) : ∃ u, H a = some u ∧ Mut (some u) := by
  cases d with
  | list ds =>
    obtain ⟨vs, h, q⟩ := o
    exact ⟨_, h, trivial⟩
  | dict kvs =>
    rcases o with ⟨xs, h, q⟩ | o
    · exact ⟨_, h, trivial⟩
    · obtain ⟨ob, es, ep, xs, h, _⟩ := o.at_
      exact ⟨_, h, trivial⟩
  | _ => exact False.elim o
/-- what may be looked at as d -/
def PO (W : Wd) (H : Hp) (v : V) (d : D) : Prop := PF W.K H v d ∨ ∃ a, v = .ref a ∧ Ob W H a d
section
variable {W : Wd} {H : Hp} {v : V}
theorem PO.non (h : PO W H v .none) : v = .non := by
  rcases h with h | ⟨a, _, h⟩
  · cases h; rfl
  · exact False.elim h
theorem PO.bl {b : Bool} (h : PO W H v (.bool b)) : v = .bl b := by
  rcases h with h | ⟨a, _, h⟩
  · cases h; rfl
  · exact False.elim h
theorem PO.int {i : Int} (h : PO W H v (.int i)) : v = .int i := by
  rcases h with h | ⟨a, _, h⟩
  · cases h; rfl
  · exact False.elim h
theorem PO.str {x : Str} (h : PO W H v (.str x)) : v = .str x ∧ PyData.strOk x = true := by
  rcases h with h | ⟨a, _, h⟩
  · cases h with
    | str _ k => exact ⟨rfl, k⟩
  · exact False.elim h
theorem PO.list {ds : List D} (h : PO W H v (.list ds)) : ∃ a vs, v = .ref a ∧ Rd H a (.lst vs) ∧ PFs W.K H vs ds := by
  rcases h with h | ⟨a, e, vs, h, q⟩
  · cases h with
    | lst e q => exact ⟨_, _, rfl, .inr ⟨_, e⟩, q⟩
  · exact ⟨a, vs, e, .inl h, q⟩
theorem PO.tup {ds : List D} (h : PO W H v (.tuple ds)) : ∃ a vs, v = .ref a ∧ SqT W.K H a vs ∧ PFs W.K H vs ds := by
  rcases h with h | ⟨a, _, h⟩
  · cases h with
    | tup e q => exact ⟨_, _, rfl, e, q⟩
  · exact False.elim h
theorem PO.dict {kvs : List (D × D)} (h : PO W H v (.dict kvs)) : ∃ a, v = .ref a ∧ Ob W H a (.dict kvs) := by
  rcases h with h | ⟨a, e, h⟩
  · cases h
  · exact ⟨a, e, h⟩
/-- data without a dict -/
theorem PO.dp {d : D} (h : PO W H v d) (hd : ∀ kvs, d ≠ .dict kvs) : Dp W.K H v d := by
  rcases h with h | ⟨a, rfl, h⟩
  · exact PF.dp _ _ h
  · cases d with
    | list ds =>
      obtain ⟨vs, h, q⟩ := h
      exact .lst (.inl (.inl h)) (PFs.dp _ _ q)
    | dict kvs => exact absurd rfl (hd kvs)
    | _ => exact False.elim h
end
/-- what an operation on values gives: the heap only grows -/
def Rs (W : Wd) (H H' : Hp) (r : R) (v : V) : Prop := match r.1 with
  | .pf => PF W.K H' v r.2
  | .fr => ∃ a, v = .ref a ∧ H a = none ∧ Ob W H' a r.2
  | .ln => False
theorem same_new {H : Hp} {p : Addr} {o : HO} (h : H p = none) : Same H (upd H p o) := fun b x e => by
  rw [upd_ne (ne_of_none e h)]
  exact e
/-- a new list, a new tuple of standing things -/
theorem Rs.lst {W : Wd} {H : Hp} {p : Addr} {vs : List V} {ds : List D} (hp : H p = none) (q : PFs W.K H vs ds) : Rs W H (upd H p (.lst vs)) (.fr, .list ds) (.ref p) :=
  ⟨p, rfl, hp, vs, upd_same, PFs.pers (.of (same_new hp)) _ _ q⟩
theorem Rs.tup {W : Wd} {H : Hp} {p : Addr} {vs : List V} {ds : List D} (hp : H p = none) (q : PFs W.K H vs ds) : Rs W H (upd H p (.tup vs)) (.pf, .tuple ds) (.ref p) :=
  PF.tup (.inl (.inl upd_same)) (PFs.pers (.of (same_new hp)) _ _ q)
/-- two-place, one-place and many-place operations on data -/
def r2 (W : Wd) (p : D → D → Option R) : R2 := fun x y H Q => ∃ d e r, PO W H x d ∧ PO W H y e ∧ p d e = some r ∧ ∀ v H', Same H H' → Rs W H H' r v → Q v H'
def rN (W : Wd) (p : List D → Option R) : List V → Hp → VK → Prop := fun xs H Q => ∃ ds r, Paired (PO W H) xs ds ∧ p ds = some r ∧ ∀ v H', Same H H' → Rs W H H' r v → Q v H'
end Co
end

section
set_option Elab.async false
set_option linter.all false
set_option maxRecDepth 100000
namespace Co
open PySem PySem.Spec L2
section
variable {X : Cx} {pins : List (Addr × Obj)} {σ : St} {H : Hp} {s : Shared}
theorem rd_lst {a : Addr} {vs : List V} (I : Inv X pins σ H s) (h : Rd H a (.lst vs)) : vs.length ≤ sizeLine ∧ ∃ (its : List Value) (n : Nat), Vals vs its ∧ s.heap.get? a = some { cls := .type "list", data := .seq its.toArray n } := by
  obtain ⟨z, its, n, r, e⟩ := h.ok I.hok
  exact ⟨z, its, n, r, e⟩
theorem OpR.imp {f : Value → Value → Sem Value} {r r' : R2} (h : OpR X f r) (i : ∀ x y H Q, r' x y H Q → r x y H Q) : OpR X f r' :=
  fun pins s σ H x y v u Q I rx ry q => h pins s σ H x y v u Q I rx ry (i x y H Q q)
theorem CallR.imp {f : Value} {r r' : List V → Hp → VK → Prop} (h : CallR X f r) (i : ∀ xs H Q, r' xs H Q → r xs H Q) : CallR X f r' :=
  fun pins s σ H xs us Q I rx q => h pins s σ H xs us Q I rx (i xs H Q q)
end

/-! ### arithmetic on data -/
theorem rep_heap {prog : Program} {w : World} {A : Around} {E : Value → Shared → Prop} {s : Shared} {Q : Value → Shared → Prop} {l : Addr} {its : List Value} {n : Nat} {k : Int} {t : Tok}
    (e : s.heap.get? l = some { cls := .type "list", data := .seq its.toArray n }) (h1 : -(2 ^ 63) ≤ k) (h2 : k < 2 ^ 63) (hz : its.length * k.toNat ≤ sizeLine)
    (h : Q (.ref s.heap.objs.size) { s with heap := s.heap.push { cls := .type "list", data := .seq (List.replicate k.toNat its).flatten.toArray } }) : wpAny (model prog w) A (binaryOp .Mult (.ref l) (.int k t)) Q E s := by
  have z1 : its.toArray.size * k.toNat ≤ sizeLine := by simpa using hz
  have z2 : (sizeLine : Nat) ≤ (2 ^ 63 - 1) / 8 := by decide
  have c1 : ¬ its.toArray.size * k.toNat > (2 ^ 63 - 1) / 8 := by omega
  have c2 : ¬ (!Builtin.List.listFitsIndex k) = true := by
    rw [PySem.fitsIndex_both h1 h2]; decide
  have c3 : ¬ Builtin.List.listTooLong (its.toArray.size * k.toNat) = true := by
    rw [notLongL z1]; decide
  have fl : ∀ m : Nat, List.foldl (fun x1 x2 => x1 ++ x2) #[] (List.replicate m its.toArray) = (List.replicate m its).flatten.toArray := fun m => by
    simpa using foldl_rep its m []
  have nw : List.foldl (fun x1 x2 => x1 ++ x2) #[] (List.replicate (if its.toArray.isEmpty = true then 0 else k.toNat) its.toArray) = (List.replicate k.toNat its).flatten.toArray := by
    rw [fl]
    cases its with
    | nil => simp
    | cons x r => rw [if_neg (by simp)]
  have hl : s.TypeIs (.ref l) "list" := ⟨_, e, rfl⟩
  have inner := call_meets (prog := prog) (w := w) (A := A) (E := E) F.slot_list_mul hl F.entry_list_mul (F.args_list_mul_2 _ _) (PySem.AutoListH.list___mul___list_int_3 l its.toArray n k t c2 c1 c3) ⟨e, by rw [nw]; exact h⟩
  refine wpAny_binaryOp_repeat_ref (T := "list") (U := "int") (by decide) hl (fun s' => typeIs_int s' k t) noFill_list_mul F.fills_int_mul F.slot_int_rmul repeat_list F.slot_int_index.lookup ?_
  exact call_meets F.slot_int_rmul (typeIs_int s k t) F.entry_int_rmul (F.args_int_rmul_2 _ _) (int___rmul___int_list k t l its.toArray n) ⟨e, rfl, hl, inner⟩

def cmulB (i j : Int) : Bool := decide (-(2 ^ 64) < i ∧ i < 2 ^ 64) || decide (-(2 ^ 64) < j ∧ j < 2 ^ 64)
theorem cmulB_ok {i j : Int} (h : cmulB i j = true) : CMul i j := by
  unfold cmulB at h
  rw [Bool.or_eq_true, decide_eq_true_eq, decide_eq_true_eq] at h
  exact h
def addD : D → D → Option R
  | .int i, .int j => some (.pf, .int (i + j))
  | .str x, .str y => if x.length + y.length ≤ sizeLine then some (.pf, .str (x ++ y)) else none
  | .list a, .list b => if a.length + b.length ≤ sizeLine then some (.fr, .list (a ++ b)) else none
  | .tuple a, .tuple b => if a.length + b.length ≤ sizeLine then some (.pf, .tuple (a ++ b)) else none
  | _, _ => none
def subD : D → D → Option R
  | .int i, .int j => some (.pf, .int (i - j))
  | _, _ => none
def mulD : D → D → Option R
  | .int i, .int j => if cmulB i j then some (.pf, .int (i * j)) else none
  | .list a, .int k => if -(2 ^ 63) ≤ k ∧ k < 2 ^ 63 ∧ a.length * k.toNat ≤ sizeLine then some (.fr, .list (List.replicate k.toNat a).flatten) else none
  | _, _ => none
def fdivD : D → D → Option R
  | .int i, .int j => if 0 < j ∧ j < 1073741824 then some (.pf, .int (i / j)) else none
  | _, _ => none
def modD : D → D → Option R
  | .int i, .int j => if 0 < j then some (.pf, .int (i % j)) else none
  | _, _ => none
def powD : D → D → Option R
  | .int i, .int j => if 0 ≤ j ∧ j ≤ 1000000 ∧ i.natAbs < 2 ^ 64 then some (.pf, .int (i ^ j.toNat)) else none
  | _, _ => none
theorem strOk_append {x y : Str} (hx : PyData.strOk x = true) (hy : PyData.strOk y = true) : PyData.strOk (x ++ y) = true := by
  have e : (x ++ y).cps = x.cps ++ y.cps := rfl
  unfold PyData.strOk at *
  rw [e, Array.all_append, hx, hy]; rfl
section
variable {X : Cx}
theorem op_addD : OpR X (binaryOp .Add) (r2 (wd X) addD) := by
  intro pins s σ H x y v u Q I rx ry h
  obtain ⟨d, e, r, hx, hy, hr, q⟩ := h
  unfold addD at hr
  split at hr
  · cases hr
    have e1 := hx.int; have e2 := hy.int
    subst e1; subst e2
    exact op_add pins s σ H _ _ v u Q I rx ry ⟨_, _, rfl, rfl, q _ H (.refl H) (.int _)⟩
  · rename_i a b
    split at hr
    · rename_i hz
      cases hr
      obtain ⟨rfl, k1⟩ := hx.str
      obtain ⟨rfl, k2⟩ := hy.str
      exact op_add_str pins s σ H _ _ v u Q I rx ry ⟨_, _, rfl, rfl, hz, q _ H (.refl H) (.str _ (strOk_append k1 k2))⟩
    · cases hr
  · rename_i a b
    split at hr
    · rename_i hz
      cases hr
      obtain ⟨l, vs, rfl, h1, q1⟩ := hx.list
      obtain ⟨m, ws, rfl, h2, q2⟩ := hy.list
      cases rx
      cases ry
      obtain ⟨z, its, n, r1, e1⟩ := rd_lst I h1
      obtain ⟨z2, its2, n2, r2, e2⟩ := rd_lst I h2
      have l1 := r1.length
      have l2 := r2.length
      have m1 := q1.length
      have m2 := q2.length
      refine PySem.P.add_list e1 e2 ?_ (by rw [List.size_toArray, List.size_toArray]; omega)
      have ea : its.toArray ++ its2.toArray = (its ++ its2).toArray := by simp
      rw [ea]
      exact ⟨.ref _, _, I.lnew (t' := s.toks) (r1.append r2) (by rw [List.length_append]; omega), rfl, q _ _ (same_new I.fresh) (Rs.lst I.fresh (q1.append q2))⟩
    · cases hr
  · rename_i a b
    split at hr
    · rename_i hz
      cases hr
      obtain ⟨l, vs, rfl, h1, q1⟩ := hx.tup
      obtain ⟨m, ws, rfl, h2, q2⟩ := hy.tup
      have m1 := q1.length
      have m2 := q2.length
      refine op_catA pins s σ H _ _ v u Q I rx ry ⟨l, m, vs, ws, rfl, rfl, h1, h2, by omega, fun z => ?_, fun _ z => ?_, fun _ _ p hp => ?_⟩
      · subst z
        cases q1
        exact q _ H (.refl H) (PF.tup h2 q2)
      · subst z
        cases q2
        exact q _ H (.refl H) (by rw [List.append_nil]; exact PF.tup h1 q1)
      · exact q _ _ (same_new hp) (Rs.tup hp (q1.append q2))
    · cases hr
  · cases hr
theorem op_subD : OpR X (binaryOp .Sub) (r2 (wd X) subD) := by
  intro pins s σ H x y v u Q I rx ry h
  obtain ⟨d, e, r, hx, hy, hr, q⟩ := h
  unfold subD at hr
  split at hr
  · cases hr
    have e1 := hx.int; have e2 := hy.int
    subst e1; subst e2
    exact op_sub pins s σ H _ _ v u Q I rx ry ⟨_, _, rfl, rfl, q _ H (.refl H) (.int _)⟩
  · cases hr
theorem op_mulD : OpR X (binaryOp .Mult) (r2 (wd X) mulD) := by
  intro pins s σ H x y v u Q I rx ry h
  obtain ⟨d, e, r, hx, hy, hr, q⟩ := h
  unfold mulD at hr
  split at hr
  · split at hr
    · rename_i hz
      cases hr
      have e1 := hx.int; have e2 := hy.int
      subst e1; subst e2
      exact op_mul pins s σ H _ _ v u Q I rx ry ⟨_, _, rfl, rfl, cmulB_ok hz, q _ H (.refl H) (.int _)⟩
    · cases hr
  · split at hr
    · rename_i a k hz
      cases hr
      obtain ⟨l, vs, rfl, h1, q1⟩ := hx.list
      have e2 := hy.int
      subst e2
      have m1 := q1.length
      cases rx
      obtain ⟨t, rfl⟩ := ry
      obtain ⟨z, its, n, r1, e1⟩ := rd_lst I h1
      have l1 := r1.length
      refine rep_heap e1 hz.1 hz.2.1 (by rw [← l1, m1]; exact hz.2.2) ?_
      exact ⟨.ref _, _, I.lnew (t' := s.toks) (r1.rep k.toNat) (by rw [PyProof.Rows.lm_len_rep_flat, Nat.mul_comm, m1]; exact hz.2.2), rfl, q _ _ (same_new I.fresh) (Rs.lst I.fresh (q1.flat _))⟩
    · cases hr
  · cases hr
theorem op_fdivD : OpR X (binaryOp .FloorDiv) (r2 (wd X) fdivD) := by
  intro pins s σ H x y v u Q I rx ry h
  obtain ⟨d, e, r, hx, hy, hr, q⟩ := h
  unfold fdivD at hr
  split at hr
  · split at hr
    · rename_i hz
      cases hr
      have e1 := hx.int; have e2 := hy.int
      subst e1; subst e2
      exact op_fdiv pins s σ H _ _ v u Q I rx ry ⟨_, _, rfl, rfl, hz, q _ H (.refl H) (.int _)⟩
    · cases hr
  · cases hr
theorem op_modD : OpR X (binaryOp .Mod) (r2 (wd X) modD) := by
  intro pins s σ H x y v u Q I rx ry h
  obtain ⟨d, e, r, hx, hy, hr, q⟩ := h
  unfold modD at hr
  split at hr
  · split at hr
    · rename_i hz
      cases hr
      have e1 := hx.int; have e2 := hy.int
      subst e1; subst e2
      exact op_mod pins s σ H _ _ v u Q I rx ry ⟨_, _, rfl, rfl, hz, q _ H (.refl H) (.int _)⟩
    · cases hr
  · cases hr
theorem op_powD : OpR X (binaryOp .Pow) (r2 (wd X) powD) := by
  intro pins s σ H x y v u Q I rx ry h
  obtain ⟨d, e, r, hx, hy, hr, q⟩ := h
  unfold powD at hr
  split at hr
  · split at hr
    · rename_i hz
      cases hr
      have e1 := hx.int; have e2 := hy.int
      subst e1; subst e2
      exact op_pow pins s σ H _ _ v u Q I rx ry ⟨_, _, rfl, rfl, hz, q _ H (.refl H) (.int _)⟩
    · cases hr
  · cases hr
end

/-! ### comparisons of data -/
def isDict : D → Bool
  | .dict _ => true
  | _ => false
def isNon : D → Bool
  | .none => true
  | _ => false
theorem isDict_ne {d : D} (h : isDict d = false) : ∀ kvs, d ≠ .dict kvs := fun kvs e => by subst e; cases h
def eqD (d e : D) : Option R := if isDict d = false ∧ isDict e = false ∧ min d.depth e.depth ≤ 100 then some (.pf, .bool (PyData.eqv d e)) else none
def neD (d e : D) : Option R := if isDict d = false ∧ isDict e = false ∧ min d.depth e.depth ≤ 100 then some (.pf, .bool (!PyData.eqv d e)) else none
def ltD : D → D → Option R
  | .int i, .int j => some (.pf, .bool (decide (i < j)))
  | d, e => if PySem.W.alike d e = true ∧ isNon d = false ∧ min d.depth e.depth ≤ 100 then some (.pf, .bool (PySem.W.dataLt d e)) else none
def leD : D → D → Option R
  | .int i, .int j => some (.pf, .bool (decide (i ≤ j)))
  | _, _ => none
def gtD : D → D → Option R
  | .int i, .int j => some (.pf, .bool (decide (j < i)))
  | _, _ => none
def geD : D → D → Option R
  | .int i, .int j => some (.pf, .bool (decide (j ≤ i)))
  | _, _ => none
def isD : D → D → Option R
  | d, .none => some (.pf, .bool (isNon d))
  | .bool a, .bool b => some (.pf, .bool (a == b))
  | _, _ => none
def isnotD : D → D → Option R
  | d, .none => some (.pf, .bool (!isNon d))
  | .bool a, .bool b => some (.pf, .bool (!(a == b)))
  | _, _ => none
def inD : D → D → Option R
  | .str x, .str y => match x.cps.toList with
    | [c] => some (.pf, .bool (decide (c ∈ y.cps.toList)))
    | _ => none
  | d, .list ds => if isDict d = false ∧ min (PyData.depthAll ds) d.depth ≤ 100 then some (.pf, .bool (ds.any fun y => PyData.eqv y d)) else none
  | d, .tuple ds => if isDict d = false ∧ min (PyData.depthAll ds) d.depth ≤ 100 then some (.pf, .bool (ds.any fun y => PyData.eqv y d)) else none
  | _, _ => none
def notR : Option R → Option R
  | some (f, .bool b) => some (f, .bool !b)
  | _ => none
def notinD (d e : D) : Option R := notR (inD d e)

theorem PO.lay {W : Wd} {H : Hp} {v : V} {d : D} (h : PO W H v d) (hd : isDict d = false) : d.canLay0 = true := by
  rcases h with h | ⟨a, rfl, h⟩
  · exact PF.lay _ _ h
  · cases d with
    | list ds =>
      obtain ⟨vs, h, q⟩ := h
      rw [PyData.canLay0]
      exact PFs.lay _ _ q
    | dict kvs => cases hd
    | _ => exact False.elim h
theorem PO.reads {X : Cx} {pins : List (Addr × Obj)} {σ : L2.St} {H : Hp} {s : Shared} {v : V} {u : Value} {d : D} (I : Inv X pins σ H s) (h : PO (wd X) H v d) (hd : isDict d = false) (r : RelV v u) : ∃ as, Reads s.heap u d as :=
  Dp.reads I d v u (h.dp (isDict_ne hd)) r
section
variable {X : Cx} {k : Nat}
theorem room_min (hr : Room k X.A) {m : Nat} (h : m ≤ 100) : X.A.units + m < cLine := by have := hr.un; omega
theorem op_eqDD (hr : Room k X.A) : OpR X (compareOp .Eq) (r2 (wd X) eqD) := by
  intro pins s σ H x y v u Q I rx ry h
  obtain ⟨d, e, r, hx, hy, h, q⟩ := h
  unfold eqD at h
  split at h
  · rename_i c
    cases h
    obtain ⟨as, r1⟩ := hx.reads I c.1 rx
    obtain ⟨bs, r2⟩ := hy.reads I c.2.1 ry
    exact SeqAt.compareEq_reads r1 r2 (hx.lay c.1) (hy.lay c.2.1) (room_min hr c.2.2) ⟨.bl _, H, I, rfl, q _ H (.refl H) (.bl _)⟩
  · cases h
theorem op_neDD (hr : Room k X.A) : OpR X (compareOp .NotEq) (r2 (wd X) neD) := by
  intro pins s σ H x y v u Q I rx ry h
  obtain ⟨d, e, r, hx, hy, h, q⟩ := h
  unfold neD at h
  split at h
  · rename_i c
    cases h
    obtain ⟨as, r1⟩ := hx.reads I c.1 rx
    obtain ⟨bs, r2⟩ := hy.reads I c.2.1 ry
    exact SeqAt.compareNe_reads r1 r2 (hx.lay c.1) (hy.lay c.2.1) (room_min hr c.2.2) ⟨.bl _, H, I, rfl, q _ H (.refl H) (.bl _)⟩
  · cases h
theorem alike_nodict {d e : D} (h : PySem.W.alike d e = true) : isDict d = false ∧ isDict e = false := by
  cases d <;> cases e <;> first | exact ⟨rfl, rfl⟩ | cases h
theorem op_ltDD (hr : Room k X.A) : OpR X (compareOp .Lt) (r2 (wd X) ltD) := by
  intro pins s σ H x y v u Q I rx ry h
  obtain ⟨d, e, r, hx, hy, h, q⟩ := h
  unfold ltD at h
  split at h
  · cases h
    have e1 := hx.int; have e2 := hy.int
    subst e1; subst e2
    exact op_lt pins s σ H _ _ v u Q I rx ry ⟨_, _, rfl, rfl, q _ H (.refl H) (.bl _)⟩
  · split at h
    · rename_i c
      cases h
      obtain ⟨n1, n2⟩ := alike_nodict c.1
      obtain ⟨as, r1⟩ := hx.reads I n1 rx
      obtain ⟨bs, r2⟩ := hy.reads I n2 ry
      exact PySem.W.rcLt_alike _ _ X.A s v u as bs r1 r2 c.1 (fun z => by have := c.2.1; rw [z] at this; cases this) (room_min hr c.2.2) X.prog X.w X.xe _ ⟨.bl _, H, I, rfl, q _ H (.refl H) (.bl _)⟩
    · cases h
theorem op_leDD : OpR X (compareOp .LtE) (r2 (wd X) leD) := by
  intro pins s σ H x y v u Q I rx ry h
  obtain ⟨d, e, r, hx, hy, h, q⟩ := h
  unfold leD at h
  split at h
  · cases h
    have e1 := hx.int; have e2 := hy.int
    subst e1; subst e2
    exact op_le pins s σ H _ _ v u Q I rx ry ⟨_, _, rfl, rfl, q _ H (.refl H) (.bl _)⟩
  · cases h
theorem op_gtDD : OpR X (compareOp .Gt) (r2 (wd X) gtD) := by
  intro pins s σ H x y v u Q I rx ry h
  obtain ⟨d, e, r, hx, hy, h, q⟩ := h
  unfold gtD at h
  split at h
  · cases h
    have e1 := hx.int; have e2 := hy.int
    subst e1; subst e2
    exact op_gt pins s σ H _ _ v u Q I rx ry ⟨_, _, rfl, rfl, q _ H (.refl H) (.bl _)⟩
  · cases h
theorem op_geDD : OpR X (compareOp .GtE) (r2 (wd X) geD) := by
  intro pins s σ H x y v u Q I rx ry h
  obtain ⟨d, e, r, hx, hy, h, q⟩ := h
  unfold geD at h
  split at h
  · cases h
    have e1 := hx.int; have e2 := hy.int
    subst e1; subst e2
    exact op_ge pins s σ H _ _ v u Q I rx ry ⟨_, _, rfl, rfl, q _ H (.refl H) (.bl _)⟩
  · cases h
theorem PO.isN {W : Wd} {H : Hp} {v : V} {d : D} (h : PO W H v d) : decide (v = .non) = isNon d := by
  cases d with
  | none => rw [h.non]; rfl
  | bool b => rw [h.bl]; rfl
  | int i => rw [h.int]; rfl
  | str x => rw [h.str.1]; rfl
  | list ds => obtain ⟨a, vs, rfl, _⟩ := h.list; rfl
  | tuple ds => obtain ⟨a, vs, rfl, _⟩ := h.tup; rfl
  | dict kvs => obtain ⟨a, rfl, _⟩ := h.dict; rfl
theorem op_isDD : OpR X (compareOp .Is) (r2 (wd X) isD) := by
  intro pins s σ H x y v u Q I rx ry h
  obtain ⟨d, e, r, hx, hy, h, q⟩ := h
  unfold isD at h
  split at h
  · cases h
    have e2 := hy.non
    subst e2
    refine op_isN pins s σ H _ _ v u Q I rx ry ⟨rfl, ?_⟩
    rw [hx.isN]
    exact q _ H (.refl H) (.bl _)
  · cases h
    have e1 := hx.bl; have e2 := hy.bl
    subst e1; subst e2
    refine op_is_bl pins s σ H _ _ v u Q I rx ry ⟨_, _, rfl, rfl, ?_⟩
    rw [← Bool.beq_eq_decide_eq]
    exact q _ H (.refl H) (.bl _)
  · cases h
theorem op_isnotDD : OpR X (compareOp .IsNot) (r2 (wd X) isnotD) := by
  intro pins s σ H x y v u Q I rx ry h
  obtain ⟨d, e, r, hx, hy, h, q⟩ := h
  unfold isnotD at h
  split at h
  · cases h
    have e2 := hy.non
    subst e2
    refine op_notN pins s σ H _ _ v u Q I rx ry ⟨rfl, ?_⟩
    rw [hx.isN]
    exact q _ H (.refl H) (.bl _)
  · cases h
    have e1 := hx.bl; have e2 := hy.bl
    subst e1; subst e2
    refine op_isnot_bl pins s σ H _ _ v u Q I rx ry ⟨_, _, rfl, rfl, ?_⟩
    rw [← Bool.beq_eq_decide_eq]
    exact q _ H (.refl H) (.bl _)
  · cases h
theorem one_sign {x : Str} {c : Nat} (h : x.cps.toList = [c]) : x = ⟨#[c]⟩ := by
  cases x
  simp only [Str.mk.injEq]
  exact Array.toList_inj.mp (by simpa using h)
theorem op_inDD (hr : Room k X.A) : OpR X (compareOp .In) (r2 (wd X) inD) := by
  intro pins s σ H x y v u Q I rx ry h
  obtain ⟨d, e, r, hx, hy, h, q⟩ := h
  unfold inD at h
  split at h
  · split at h
    · rename_i c hc
      cases h
      obtain ⟨rfl, k1⟩ := hx.str
      obtain ⟨rfl, k2⟩ := hy.str
      have e := one_sign hc
      subst e
      exact op_in_sign pins s σ H _ _ v u Q I rx ry ⟨_, _, rfl, rfl, q _ H (.refl H) (.bl _)⟩
    · cases h
  · split at h
    · rename_i c
      cases h
      obtain ⟨as, r1⟩ := hx.reads I c.1 rx
      obtain ⟨bs, r2⟩ := hy.reads I rfl ry
      have l2 := hy.lay rfl
      rw [PyData.canLay0] at l2
      exact SeqAt.in_list_reads r2 r1 l2 (hx.lay c.1) (by have := room_min hr (m := 100) (by omega); have := hr.un; omega) ⟨.bl _, H, I, rfl, q _ H (.refl H) (.bl _)⟩
    · cases h
  · split at h
    · rename_i c
      cases h
      obtain ⟨as, r1⟩ := hx.reads I c.1 rx
      obtain ⟨bs, r2⟩ := hy.reads I rfl ry
      have l2 := hy.lay rfl
      rw [PyData.canLay0] at l2
      exact SeqAt.in_tuple_reads r2 r1 l2 (hx.lay c.1) (by have := room_min hr (m := 100) (by omega); have := hr.un; omega) ⟨.bl _, H, I, rfl, q _ H (.refl H) (.bl _)⟩
    · cases h
  · cases h
theorem op_notinDD (hr : Room k X.A) : OpR X (compareOp .NotIn) (r2 (wd X) notinD) := by
  intro pins s σ H x y v u Q I rx ry h
  obtain ⟨d, e, r, hx, hy, h, q⟩ := h
  unfold notinD inD at h
  split at h
  · split at h
    · rename_i c hc
      cases h
      obtain ⟨rfl, k1⟩ := hx.str
      obtain ⟨rfl, k2⟩ := hy.str
      have e := one_sign hc
      subst e
      exact op_notIn_sign pins s σ H _ _ v u Q I rx ry ⟨_, _, rfl, rfl, q _ H (.refl H) (.bl _)⟩
    · cases h
  · split at h
    · rename_i c
      cases h
      obtain ⟨as, r1⟩ := hx.reads I c.1 rx
      obtain ⟨bs, r2⟩ := hy.reads I rfl ry
      have l2 := hy.lay rfl
      rw [PyData.canLay0] at l2
      exact SeqAt.notIn_list_reads r2 r1 l2 (hx.lay c.1) (by have := room_min hr (m := 100) (by omega); have := hr.un; omega) ⟨.bl _, H, I, rfl, q _ H (.refl H) (.bl _)⟩
    · cases h
  · split at h
    · rename_i c
      cases h
      obtain ⟨as, r1⟩ := hx.reads I c.1 rx
      obtain ⟨bs, r2⟩ := hy.reads I rfl ry
      have l2 := hy.lay rfl
      rw [PyData.canLay0] at l2
      exact SeqAt.notIn_tuple_reads r2 r1 l2 (hx.lay c.1) (by have := room_min hr (m := 100) (by omega); have := hr.un; omega) ⟨.bl _, H, I, rfl, q _ H (.refl H) (.bl _)⟩
    · cases h
  · cases h
end
end Co
end

section
set_option Elab.async false
set_option linter.all false
set_option maxRecDepth 100000
namespace Co
open PySem PySem.Spec L2

/-! ### subscripts and slices of data -/
def idxD : D → D → Option R
  | .list ds, .int i => (atI ds i).map fun d => (.pf, d)
  | .tuple ds, .int i => (atI ds i).map fun d => (.pf, d)
  | .str x, .int i => if x.length ≤ sizeLine then (atI x.cps.toList i).map fun c => (.pf, .str ⟨#[c]⟩) else none
  | _, _ => none
def cut {α : Type} (xs : List α) (lo hi : Option Int) : List α := (xs.drop (HT.sIx xs.length 0 lo)).take (HT.sIx xs.length xs.length hi - HT.sIx xs.length 0 lo)
theorem atI_pf {K : PySem.W.Frag} {H : Hp} {vs : List V} {ds : List D} {i : Int} {d : D} (q : PFs K H vs ds) (h : atI ds i = some d) : ∃ v, atI vs i = some v ∧ PF K H v d := by
  unfold atI at *
  rw [q.length]
  cases e : ixN ds.length i with
  | none => rw [e] at h; cases h
  | some j =>
    rw [e] at h
    exact q.get (i := j) h
theorem strOk_one {x : Str} {c : Nat} (k : PyData.strOk x = true) (h : c ∈ x.cps.toList) : PyData.strOk ⟨#[c]⟩ = true := by
  unfold PyData.strOk at *
  rw [Array.all_eq_true'] at k
  have := k c (Array.mem_toList_iff.mp h)
  simpa using this
theorem atI_mem {α : Type} {xs : List α} {i : Int} {x : α} (h : atI xs i = some x) : x ∈ xs := by
  unfold atI at h
  cases e : ixN xs.length i with
  | none => rw [e] at h; cases h
  | some j => rw [e] at h; exact List.mem_of_getElem? h
section
variable {X : Cx}
theorem ix_D : IxR X (r2 (wd X) idxD) := by
  intro value slice pins s σ H x y v u Q I rx ry h hs
  obtain ⟨d, e, r, hx, hy, h, q⟩ := h
  unfold idxD at h
  split at h
  · rename_i ds i
    cases e : atI ds i with
    | none => rw [e] at h; cases h
    | some d =>
      rw [e] at h
      cases h
      obtain ⟨l, vs, rfl, h1, q1⟩ := hx.list
      have e2 := hy.int
      subst e2
      obtain ⟨w, hw, pw⟩ := atI_pf q1 e
      exact ix_list value slice pins s σ H _ _ v u Q I rx ry ⟨l, vs, i, w, rfl, rfl, .inl h1, hw, q _ H (.refl H) pw⟩ hs
  · rename_i ds i
    cases e : atI ds i with
    | none => rw [e] at h; cases h
    | some d =>
      rw [e] at h
      cases h
      obtain ⟨l, vs, rfl, h1, q1⟩ := hx.tup
      have e2 := hy.int
      subst e2
      obtain ⟨w, hw, pw⟩ := atI_pf q1 e
      exact ix_tup value slice pins s σ H _ _ v u Q I rx ry ⟨l, vs, i, w, rfl, rfl, h1, hw, q _ H (.refl H) pw⟩ hs
  · rename_i z i
    split at h
    · rename_i hz
      cases e : atI z.cps.toList i with
      | none => rw [e] at h; cases h
      | some c =>
        rw [e] at h
        cases h
        obtain ⟨rfl, k1⟩ := hx.str
        have e2 := hy.int
        subst e2
        exact ix_str value slice pins s σ H _ _ v u Q I rx ry ⟨z, i, c, rfl, rfl, hz, e, q _ H (.refl H) (.str _ (strOk_one k1 (atI_mem e)))⟩ hs
    · cases h
  · cases h
end
theorem cutV_pf {K : PySem.W.Frag} {H : Hp} {vs : List V} {ds : List D} {lo hi : Option Int} (q : PFs K H vs ds) : PFs K H (cutV vs lo hi) (cut ds lo hi) := by
  unfold cutV cut
  rw [q.length]
  exact (q.drop _).take _
def sliceD (d : D) (lo hi : Option Int) : Option R := match d with
  | .list ds => some (.fr, .list (cut ds lo hi))
  | .tuple ds => some (.pf, .tuple (cut ds lo hi))
  | .str x => if x.length ≤ sizeLine then some (.pf, .str (cutS x lo hi)) else none
  | _ => none
def rSl (W : Wd) : V → Option Int → Option Int → Hp → VK → Prop := fun x lo hi H Q => ∃ d r, PO W H x d ∧ sliceD d lo hi = some r ∧ ∀ v H', Same H H' → Rs W H H' r v → Q v H'
theorem cut_mem {α : Type} {xs : List α} {lo hi : Option Int} {x : α} (h : x ∈ cut xs lo hi) : x ∈ xs := List.mem_of_mem_drop (List.mem_of_mem_take h)
theorem strOk_sub {x y : Str} (k : PyData.strOk x = true) (h : ∀ c, c ∈ y.cps.toList → c ∈ x.cps.toList) : PyData.strOk y = true := by
  unfold PyData.strOk at *
  rw [Array.all_eq_true'] at *
  intro c hc
  exact k c (Array.mem_toList_iff.mp (h c (Array.mem_toList_iff.mpr hc)))
section
variable {X : Cx}
theorem sl_D : SlR X (rSl (wd X)) := by
  intro pins s σ H x v vl vu lo hi sl Q I rx hs pl pu h
  obtain ⟨d, r, hx, h, q⟩ := h
  unfold sliceD at h
  split at h
  · cases h
    obtain ⟨l, vs, rfl, h1, q1⟩ := hx.list
    exact sl_list pins s σ H _ v vl vu lo hi sl Q I rx hs pl pu ⟨l, vs, rfl, .inl h1, fun p hp => q _ _ (same_new hp) (Rs.lst hp (cutV_pf q1))⟩
  · cases h
    rename_i ds
    obtain ⟨l, vs, rfl, h1, q1⟩ := hx.tup
    refine sl_tupA pins s σ H _ v vl vu lo hi sl Q I rx hs pl pu ⟨l, vs, rfl, h1, fun hw => ?_, fun _ p hp => q _ _ (same_new hp) (Rs.tup hp (cutV_pf q1))⟩
    refine q _ H (.refl H) (PF.tup h1 ?_)
    have e : cut ds lo hi = ds := by
      unfold cut
      rw [← q1.length, hw.1, hw.2, q1.length]
      simp
    rw [e]
    exact q1
  · split at h
    · cases h
      rename_i x hz
      obtain ⟨rfl, k1⟩ := hx.str
      refine sl_str pins s σ H _ v vl vu lo hi sl Q I rx hs pl pu ⟨_, rfl, hz, ?_⟩
      refine q _ H (.refl H) (.str _ (strOk_sub k1 fun c hc => ?_))
      exact List.mem_of_mem_drop (List.mem_of_mem_take (by simpa [cutS] using hc))
    · cases h
  · cases h
end

/-! ### calls of built-ins -/
def listD : List D → Option R
  | [.list ds] => some (.fr, .list ds)
  | [.tuple ds] => some (.fr, .list ds)
  | _ => none
def tupleD : List D → Option R
  | [.list ds] => some (.pf, .tuple ds)
  | [.tuple ds] => some (.pf, .tuple ds)
  | _ => none
def absD : List D → Option R
  | [.int i] => some (.pf, .int (if i < 0 then -i else i))
  | _ => none
def intD : List D → Option R
  | [.int i] => some (.pf, .int i)
  | [.bool b] => some (.pf, .int (if b then 1 else 0))
  | _ => none
def max2D : List D → Option R
  | [.int i, .int j] => some (.pf, .int (if j > i then j else i))
  | _ => none
def min2D : List D → Option R
  | [.int i, .int j] => some (.pf, .int (if j < i then j else i))
  | _ => none
def ints? : List D → Option (List Int)
  | [] => some []
  | .int i :: r => (ints? r).map (i :: ·)
  | _ => none
def bls? : List D → Option (List Bool)
  | [] => some []
  | .bool i :: r => (bls? r).map (i :: ·)
  | _ => none
def sumD : List D → Option R
  | [.list ds] => (ints? ds).map fun ns => (.pf, .int ns.sum)
  | _ => none
def allD : List D → Option R
  | [.list ds] => (bls? ds).map fun bs => (.pf, .bool (bs.all id))
  | _ => none
def anyD : List D → Option R
  | [.list ds] => (bls? ds).map fun bs => (.pf, .bool (bs.any id))
  | _ => none
theorem ints_vals {K : PySem.W.Frag} {H : Hp} : ∀ {vs : List V} {ds : List D} {ns : List Int}, PFs K H vs ds → ints? ds = some ns → vs = ns.map V.int
  | _, [], _, h, e => by cases h; cases e; rfl
  | _, .int i :: r, _, h, e => by
    cases h with
    | cons a b =>
      unfold ints? at e
      cases e2 : ints? r with
      | none => rw [e2] at e; cases e
      | some ms =>
        rw [e2] at e
        cases e
        cases a
        rw [ints_vals b e2]
        rfl
  | _, .none :: _, _, _, e => by cases e
  | _, .bool _ :: _, _, _, e => by cases e
  | _, .str _ :: _, _, _, e => by cases e
  | _, .list _ :: _, _, _, e => by cases e
  | _, .tuple _ :: _, _, _, e => by cases e
  | _, .dict _ :: _, _, _, e => by cases e
theorem bls_vals {K : PySem.W.Frag} {H : Hp} : ∀ {vs : List V} {ds : List D} {ns : List Bool}, PFs K H vs ds → bls? ds = some ns → vs = ns.map V.bl
  | _, [], _, h, e => by cases h; cases e; rfl
  | _, .bool i :: r, _, h, e => by
    cases h with
    | cons a b =>
      unfold bls? at e
      cases e2 : bls? r with
      | none => rw [e2] at e; cases e
      | some ms =>
        rw [e2] at e
        cases e
        cases a
        rw [bls_vals b e2]
        rfl
  | _, .none :: _, _, _, e => by cases e
  | _, .int _ :: _, _, _, e => by cases e
  | _, .str _ :: _, _, _, e => by cases e
  | _, .list _ :: _, _, _, e => by cases e
  | _, .tuple _ :: _, _, _, e => by cases e
  | _, .dict _ :: _, _, _, e => by cases e
theorem pair1 {α β : Type} {F : α → β → Prop} {xs : List α} {b : β} (h : Paired F xs [b]) : ∃ a, xs = [a] ∧ F a b := by
  cases h with
  | cons r t => cases t; exact ⟨_, rfl, r⟩
theorem pair2 {α β : Type} {F : α → β → Prop} {xs : List α} {b c : β} (h : Paired F xs [b, c]) : ∃ a a', xs = [a, a'] ∧ F a b ∧ F a' c := by
  cases h with
  | cons r t =>
    obtain ⟨a', rfl, q⟩ := pair1 t
    exact ⟨_, _, rfl, r, q⟩
section
variable {X : Cx}
theorem b_list : CallR X (.type "list") (rN (wd X) listD) := by
  intro pins s σ H xs us Q I rx h
  obtain ⟨ds, r, hx, h, q⟩ := h
  unfold listD at h
  split at h
  · cases h
    obtain ⟨a, rfl, hx1⟩ := pair1 hx
    obtain ⟨l, vs, rfl, h1, q1⟩ := hx1.list
    exact call_list_of pins s σ H _ us Q I rx ⟨l, vs, rfl, .inl (.inl h1), fun p hp => q _ _ (same_new hp) (Rs.lst hp q1)⟩
  · cases h
    obtain ⟨a, rfl, hx1⟩ := pair1 hx
    obtain ⟨l, vs, rfl, h1, q1⟩ := hx1.tup
    exact call_list_of pins s σ H _ us Q I rx ⟨l, vs, rfl, .inr h1, fun p hp => q _ _ (same_new hp) (Rs.lst hp q1)⟩
  · cases h
theorem b_tuple : CallR X (.type "tuple") (rN (wd X) tupleD) := by
  intro pins s σ H xs us Q I rx h
  obtain ⟨ds, r, hx, h, q⟩ := h
  unfold tupleD at h
  split at h
  · cases h
    obtain ⟨a, rfl, hx1⟩ := pair1 hx
    obtain ⟨l, vs, rfl, h1, q1⟩ := hx1.list
    exact call_tuple_of pins s σ H _ us Q I rx ⟨l, vs, rfl, .inl ⟨.inl h1, fun p hp => q _ _ (same_new hp) (Rs.tup hp q1)⟩⟩
  · cases h
    obtain ⟨a, rfl, hx1⟩ := pair1 hx
    obtain ⟨l, vs, rfl, h1, q1⟩ := hx1.tup
    exact call_tuple_of pins s σ H _ us Q I rx ⟨l, vs, rfl, .inr ⟨h1, q _ H (.refl H) (PF.tup h1 q1)⟩⟩
  · cases h
theorem b_abs : CallR X (.builtin "abs") (rN (wd X) absD) := by
  intro pins s σ H xs us Q I rx h
  obtain ⟨ds, r, hx, h, q⟩ := h
  unfold absD at h
  split at h
  · cases h
    obtain ⟨a, rfl, hx1⟩ := pair1 hx
    have e := hx1.int
    subst e
    exact call_abs pins s σ H _ us Q I rx ⟨_, rfl, q _ H (.refl H) (.int _)⟩
  · cases h
theorem b_int : CallR X (.type "int") (rN (wd X) intD) := by
  intro pins s σ H xs us Q I rx h
  obtain ⟨ds, r, hx, h, q⟩ := h
  unfold intD at h
  split at h
  · cases h
    obtain ⟨a, rfl, hx1⟩ := pair1 hx
    have e := hx1.int
    subst e
    exact call_int1 pins s σ H _ us Q I rx (.inl ⟨_, rfl, q _ H (.refl H) (.int _)⟩)
  · cases h
    obtain ⟨a, rfl, hx1⟩ := pair1 hx
    have e := hx1.bl
    subst e
    exact call_int1 pins s σ H _ us Q I rx (.inr ⟨_, rfl, q _ H (.refl H) (.int _)⟩)
  · cases h
theorem b_max2 (hc : X.calm = true) : CallR X (.builtin "max") (rN (wd X) max2D) := by
  intro pins s σ H xs us Q I rx h
  obtain ⟨ds, r, hx, h, q⟩ := h
  unfold max2D at h
  split at h
  · cases h
    obtain ⟨a, b, rfl, hx1, hy⟩ := pair2 hx
    have e := hx1.int
    have e' := hy.int
    subst e; subst e'
    exact call_max2 hc pins s σ H _ us Q I rx ⟨_, _, rfl, q _ H (.refl H) (.int _)⟩
  · cases h
theorem b_min2 (hc : X.calm = true) : CallR X (.builtin "min") (rN (wd X) min2D) := by
  intro pins s σ H xs us Q I rx h
  obtain ⟨ds, r, hx, h, q⟩ := h
  unfold min2D at h
  split at h
  · cases h
    obtain ⟨a, b, rfl, hx1, hy⟩ := pair2 hx
    have e := hx1.int
    have e' := hy.int
    subst e; subst e'
    exact call_min2 hc pins s σ H _ us Q I rx ⟨_, _, rfl, q _ H (.refl H) (.int _)⟩
  · cases h
theorem b_sum (hc : X.calm = true) : CallR X (.builtin "sum") (rN (wd X) sumD) := by
  intro pins s σ H xs us Q I rx h
  obtain ⟨ds, r, hx, h, q⟩ := h
  unfold sumD at h
  split at h
  · rename_i ds
    cases e : ints? ds with
    | none => rw [e] at h; cases h
    | some ns =>
      rw [e] at h
      cases h
      obtain ⟨a, rfl, hx1⟩ := pair1 hx
      obtain ⟨l, vs, rfl, h1, q1⟩ := hx1.list
      have ev := ints_vals q1 e
      subst ev
      exact cr_sum hc pins s σ H _ us Q I rx ⟨l, ns, rfl, .inl h1, q _ H (.refl H) (.int _)⟩
  · cases h
theorem b_all (hc : X.calm = true) : CallR X (.builtin "all") (rN (wd X) allD) := by
  intro pins s σ H xs us Q I rx h
  obtain ⟨ds, r, hx, h, q⟩ := h
  unfold allD at h
  split at h
  · rename_i ds
    cases e : bls? ds with
    | none => rw [e] at h; cases h
    | some ns =>
      rw [e] at h
      cases h
      obtain ⟨a, rfl, hx1⟩ := pair1 hx
      obtain ⟨l, vs, rfl, h1, q1⟩ := hx1.list
      have ev := bls_vals q1 e
      subst ev
      exact cr_all hc pins s σ H _ us Q I rx ⟨l, ns, rfl, .inl h1, q _ H (.refl H) (.bl _)⟩
  · cases h
theorem b_any (hc : X.calm = true) : CallR X (.builtin "any") (rN (wd X) anyD) := by
  intro pins s σ H xs us Q I rx h
  obtain ⟨ds, r, hx, h, q⟩ := h
  unfold anyD at h
  split at h
  · rename_i ds
    cases e : bls? ds with
    | none => rw [e] at h; cases h
    | some ns =>
      rw [e] at h
      cases h
      obtain ⟨a, rfl, hx1⟩ := pair1 hx
      obtain ⟨l, vs, rfl, h1, q1⟩ := hx1.list
      have ev := bls_vals q1 e
      subst ev
      exact cr_any hc pins s σ H _ us Q I rx ⟨l, ns, rfl, .inl h1, q _ H (.refl H) (.bl _)⟩
  · cases h
end
/-! ### sorted -/
def alikeB (ds : List D) : Bool := ds.all fun x => ds.all fun y => PySem.W.alike x y
def tupB : D → Bool
  | .tuple (_ :: _) => true
  | _ => false
def flatB : D → Bool
  | .none => false
  | .tuple _ => false
  | _ => true
def sortableB (ds : List D) : Bool := ds.all tupB || ds.all flatB
theorem alikeB_ok {ds : List D} (h : alikeB ds = true) : PySem.W.AllAlike ds := by
  unfold alikeB at h
  rw [List.all_eq_true] at h
  intro d hd e he
  have := h d hd
  rw [List.all_eq_true] at this
  exact this e he
theorem sortableB_ok {ds : List D} (h : sortableB ds = true) : PySem.W.Sortable ds := by
  unfold sortableB at h
  rw [Bool.or_eq_true, List.all_eq_true, List.all_eq_true] at h
  rcases h with h | h
  · refine .inl fun d hd => ?_
    have := h d hd
    cases d with
    | tuple xs =>
      cases xs with
      | nil => cases this
      | cons x r => exact ⟨x, r, rfl⟩
    | _ => cases this
  · refine .inr fun d hd => ?_
    have := h d hd
    refine ⟨fun z => ?_, fun xs z => ?_⟩
    · subst z; cases this
    · subst z; cases this
def srt (ds : List D) : List D := ds.mergeSort (PySem.W.dataLe false fun d => d)
def sortL (ds : List D) : Option R := if alikeB ds = true ∧ sortableB ds = true ∧ PyData.depthAll ds ≤ 100 then some (.fr, .list (srt ds)) else none
def sortedD : List D → Option R
  | [.list ds] => sortL ds
  | _ => none
theorem depth_mem : ∀ {ds : List D} {d : D}, d ∈ ds → d.depth ≤ PyData.depthAll ds
  | d :: r, e, h => by
    rw [PyData.depthAll]
    cases h with
    | head => exact Nat.le_max_left _ _
    | tail _ h => exact Nat.le_trans (depth_mem h) (Nat.le_max_right _ _)
theorem each_of {K : PySem.W.Frag} {H : Hp} : ∀ {vs : List V} {ds : List D} {its : List Value}, PFs K H vs ds → Vals vs its → PySem.W.EachIs (fun u d => ∃ v, RelV v u ∧ PF K H v d) its ds
  | _, _, _, .nil, r => by cases r; exact .nil
  | _, _, _, .cons p q, r => by
    cases r with
    | cons a b => exact .cons ⟨_, a, p⟩ (each_of q b)
theorem of_each {K : PySem.W.Frag} {H : Hp} : ∀ {ds : List D} {its : List Value}, PySem.W.EachIs (fun u d => ∃ v, RelV v u ∧ PF K H v d) its ds → ∃ vs, Vals vs its ∧ PFs K H vs ds
  | _, _, .nil => ⟨[], .nil, .nil⟩
  | _, _, .cons ⟨v, r, p⟩ t => by
    obtain ⟨vs, a, b⟩ := of_each t
    exact ⟨v :: vs, .cons r a, .cons p b⟩
theorem each_imp {α β : Type} {F G : α → β → Prop} : ∀ {as : List α} {bs : List β}, PySem.W.EachIs F as bs → (∀ a b, F a b → G a b) → PySem.W.EachIs G as bs
  | _, _, .nil, _ => .nil
  | _, _, .cons r t, f => .cons (f _ _ r) (each_imp t f)
section
variable {X : Cx} {k : Nat}
theorem b_sorted (hr : Room k X.A) : CallR X (.builtin "sorted") (rN (wd X) sortedD) := by
  intro pins s σ H xs us Q I rx h
  obtain ⟨ds, r, hx, h, q⟩ := h
  unfold sortedD at h
  split at h
  · rename_i ds
    unfold sortL at h
    split at h
    · rename_i c
      cases h
      obtain ⟨a, rfl, hx1⟩ := pair1 hx
      obtain ⟨l, vs, rfl, h1, q1⟩ := hx1.list
      obtain ⟨its, rv, hl, z⟩ := I.list (.inl h1)
      rw [Vals.ref1 rx]
      have ei := each_of q1 rv
      have m1 := q1.length
      have eid : ds.map (fun d : D => d) = ds := List.map_id _
      refine PySem.W.sorted_data (enc := fun d => d) hl.isList ei (each_imp ei fun u d ⟨v, r1, p⟩ => Dp.reads I d v u (PF.dp _ _ p) r1) (by rw [eid]; exact alikeB_ok c.1) (by rw [eid]; exact sortableB_ok c.2.1) (by omega)
        (fun d hd => by have := depth_mem hd; have := hr.un; have := c.2.2; omega) fun out hlen ho => ?_
      obtain ⟨ws, r2, p2⟩ := of_each ho
      have p2 : PFs X.K H ws (srt ds) := p2
      obtain ⟨ep, he'⟩ := PyProof.Rows.sortedAll_at s.heap its out.toArray
      have fr : H (s.heap.objs.size + 1) = none := I.hok.fresh (Nat.le_succ _)
      have lw := r2.length
      exact ⟨.ref _, upd H (s.heap.objs.size + 1) (.lst ws), I.laid (t' := s.toks) (fun _ _ => PyProof.Rows.sortedAll_old) (Nat.le_succ _) ⟨by omega, out, ep, r2, by simpa using he'⟩, rfl, q _ _ (same_new fr) (Rs.lst fr p2)⟩
    · cases h
  · cases h
end
end Co
end

section
set_option Elab.async false
set_option linter.all false
set_option maxRecDepth 100000
set_option autoImplicit false
namespace Co
open PySem PySem.Spec L2

/-! ### the one thing that may change beside a def's own: a bag of draws, a planner -/
inductive Cel where
  | no
  | bag (b : Addr)
  | pl (C x dx kd : Addr)
  | scr (a : Addr)
  | scl (a : Addr)
def Cel.f0 : Cel → List Addr
  | .no => []
  | .bag b => [b]
  | .pl _ _ _ kd => [kd]
  | .scr _ => []
  | .scl a => [a]
/-- the tables of code objects that may grow: each with the name that its code objects bear -/
class Tbs where
  T : List (Addr × Str)
variable [Tbs]
def tbA : List Addr := Tbs.T.map (·.1)
def Cel.fp (c : Cel) : List Addr := c.f0 ++ tbA
theorem not_fp {c : Cel} {a : Addr} (h : a ∉ c.fp) : a ∉ c.f0 ∧ a ∉ tbA := ⟨fun z => h (List.mem_append_left _ z), fun z => h (List.mem_append_right _ z)⟩
def Cel.v : Cel → V
  | .no => .non
  | .bag b => .ref b
  | .pl _ x _ _ => .ref x
  | .scr a => .ref a
  | .scl a => .ref a
/-- a list that stands for good: locked, or of the written part -/
def FzL (K : PySem.W.Frag) (H : Hp) (a : Addr) (xs : List V) : Prop := (∃ o, H a = some (.frz o (.lst xs))) ∨
  ∃ (o : Obj) (its : Array Value) (n : Nat), K.lookup a = some o ∧ o.cls = .type "list" ∧ o.dict = none ∧ o.data = .seq its n ∧ its.size ≤ sizeLine ∧ Vals xs its.toList
theorem FzL.pers {K : PySem.W.Frag} {H H' : Hp} {a : Addr} {xs : List V} (h : FzL K H a xs) (p : Pers H H') : FzL K H' a xs := by
  rcases h with ⟨o, h⟩ | h
  · exact .inl ⟨o, p.frzs _ _ _ h⟩
  · exact .inr h
theorem FzL.sq {K : PySem.W.Frag} {H : Hp} {a : Addr} {xs : List V} (h : FzL K H a xs) : SqL K H a xs := by
  rcases h with ⟨o, h⟩ | h
  · exact .inl (.inr ⟨o, h⟩)
  · exact .inr h
theorem pin_ne {a : Addr} {o : Obj} {es : Array DictEntry} {ep : Nat} (hd : o.data = .dict es ep) {q : Str} : pinO a o ≠ LamX.CodeO a q := fun z => by
  unfold pinO LamX.CodeO at z
  injection z with z
  have ga : ({ objs := Array.replicate (a + 1) o } : Heap).get? a = some o := by
    unfold Heap.get?
    simp
    obtain ⟨c, d, da, sl⟩ := o
    cases hd
    rfl
  obtain ⟨oc, vs, t, e1, e2, _⟩ := (congrFun z { objs := Array.replicate (a + 1) o }).mp ga
  rw [ga] at e1
  cases e1
  rw [hd] at e2
  cases e2
/-- what is changed beside the tables and their code objects -/
def Other (H : Hp) (D : Addr) : Prop := (∃ vs, H D = some (.lst vs)) ∨ H D = none ∨ ∃ f, H D = some (.dK f) ∨ ∃ o es ep, H D = some (pinO D o) ∧ o.data = .dict es ep
theorem tabs_upd {H H' : Hp} {D : Addr} (h : LamX.Tabs Tbs.T H) (e : ∀ b, b ≠ D → H' b = H b) (mu : Other H D) : LamX.Tabs Tbs.T H' := fun p hp => by
  obtain ⟨ps, h1, h2, h3⟩ := h p hp
  refine ⟨ps, ?_, h2, fun pos cv hc => ?_⟩
  · rw [e p.1 fun w => ?_]
    · exact h1
    · subst w
      rcases mu with ⟨vs, z⟩ | z | ⟨f, z | ⟨o, es, ep, z, _⟩⟩ <;> (rw [h1] at z; cases z)
  · obtain ⟨c, e1, e2⟩ := h3 pos cv hc
    refine ⟨c, e1, ?_⟩
    rw [e c fun w => ?_]
    · exact e2
    · subst w
      rcases mu with ⟨vs, z⟩ | z | ⟨f, z | ⟨o, es, ep, z, hd⟩⟩
      · rw [e2] at z; cases z
      · rw [e2] at z; cases z
      · rw [e2] at z; cases z
      · rw [e2] at z
        exact pin_ne hd (Option.some.inj z).symm
def CelOk (W : Wd) (c : Cel) (s : D) (H : Hp) : Prop := LamX.Tabs Tbs.T H ∧ match c with
  | .no => True
  | .bag b => (∃ ds, s = .list ds) ∧ Ob W H b s
  | .pl C x dx kd => ∃ h m w kvs vh vm vw, s = .tuple [h, m, w, .dict kvs] ∧ H x = some (.ins C dx [("house", vh), ("menu", vm), ("wish", vw), ("kept", .ref kd)]) ∧
      PF W.K H vh h ∧ PF W.K H vm m ∧ PF W.K H vw w ∧ Ob W H kd (.dict kvs)
  | .scr a => ∃ ns : List Int, s = .tuple [.list (ns.map .int)] ∧ FzL W.K H a (ns.map V.int)
  | .scl a => ∃ ns : List Int, s = .tuple [.list (ns.map .int)] ∧ H a = some (.lst (ns.map V.int))
theorem CelOk.dom {W : Wd} {c : Cel} {s : D} {H : Hp} (h : CelOk W c s H) : ∀ b ∈ c.fp, ∃ u, H b = some u := by
  intro b hb
  rcases List.mem_append.mp hb with hb | hb
  · obtain ⟨_, h⟩ := h
    cases c with
    | no => cases hb
    | bag a =>
      have e : b = a := by simpa [Cel.f0] using hb
      subst e
      obtain ⟨u, e, _⟩ := h.2.some
      exact ⟨u, e⟩
    | pl C x dx kd =>
      have e : b = kd := by simpa [Cel.f0] using hb
      subst e
      obtain ⟨_, _, _, _, _, _, _, _, _, _, _, _, o⟩ := h
      obtain ⟨u, e, _⟩ := o.some
      exact ⟨u, e⟩
    | scr a => cases hb
    | scl a =>
      have e : b = a := by simpa [Cel.f0] using hb
      subst e
      obtain ⟨ns, _, hl⟩ := h
      exact ⟨_, hl⟩
  · obtain ⟨p, hp, rfl⟩ := List.mem_map.mp hb
    obtain ⟨ps, e, _⟩ := h.1 p hp
    exact ⟨_, e⟩
theorem CelOk.not_fp {W : Wd} {c : Cel} {s : D} {H : Hp} (h : CelOk W c s H) {a : Addr} (n : H a = none) : a ∉ c.fp := fun hb => by
  obtain ⟨u, e⟩ := h.dom a hb
  rw [n] at e; cases e

/-- all stays but what stands at fp -/
structure Ext (fp : List Addr) (H H' : Hp) : Prop where
  keep : ∀ b o, H b = some o → b ∉ fp → H' b = some o
  pers : Pers H H'
theorem Ext.refl (fp : List Addr) (H : Hp) : Ext fp H H := ⟨fun _ _ h _ => h, .refl H⟩
theorem Ext.trans {fp : List Addr} {H H1 H2 : Hp} (a : Ext fp H H1) (b : Ext fp H1 H2) : Ext fp H H2 := ⟨fun c o h n => b.keep c o (a.keep c o h n) n, a.pers.trans b.pers⟩
theorem Ext.of {fp : List Addr} {H H' : Hp} (s : Same H H') : Ext fp H H' := ⟨fun b o h _ => s b o h, .of s⟩
theorem Ext.nil {fp : List Addr} {H H' : Hp} (e : Ext [] H H') : Ext fp H H' := ⟨fun b o h _ => e.keep b o h (by simp), e.pers⟩
theorem CelOk.same {W : Wd} {c : Cel} {s : D} {H H' : Hp} (h : CelOk W c s H) (e : Same H H') : CelOk W c s H' := by
  obtain ⟨ht, h⟩ := h
  refine ⟨ht.ext e, ?_⟩
  cases c with
  | no => trivial
  | bag a =>
    obtain ⟨u, hu, _⟩ := h.2.some
    exact ⟨h.1, h.2.pers (.of e) ((e _ _ hu).trans hu.symm)⟩
  | pl C x dx kd =>
    obtain ⟨hh, m, w, kvs, vh, vm, vw, rfl, hx, p1, p2, p3, o⟩ := h
    obtain ⟨u, hu, _⟩ := o.some
    exact ⟨hh, m, w, kvs, vh, vm, vw, rfl, e _ _ hx, PF.pers (.of e) _ _ p1, PF.pers (.of e) _ _ p2, PF.pers (.of e) _ _ p3, o.pers (.of e) ((e _ _ hu).trans hu.symm)⟩
  | scr a =>
    obtain ⟨ns, rfl, fz⟩ := h
    exact ⟨ns, rfl, fz.pers (.of e)⟩
  | scl a =>
    obtain ⟨ns, rfl, fz⟩ := h
    exact ⟨ns, rfl, e _ _ fz⟩
theorem CelOk.ext0 {W : Wd} {c : Cel} {s : D} {H H' : Hp} (h : CelOk W c s H) (e : Ext [] H H') : CelOk W c s H' := h.same fun b o q => e.keep b o q (by simp)

/-- what an expression gives -/
def Res (W : Wd) (c : Cel) (H H' : Hp) (r : R) (v : V) : Prop := match r.1 with
  | .pf => PF W.K H' v r.2
  | .fr => ∃ a, v = .ref a ∧ H a = none ∧ a ∉ c.fp ∧ Ob W H' a r.2
  | .ln => ∃ a, v = .ref a ∧ a ∉ c.fp ∧ Ob W H' a r.2
theorem Ob.ext {W : Wd} {H H' : Hp} {a : Addr} {d : D} {fp : List Addr} (o : Ob W H a d) (e : Ext fp H H') (n : a ∉ fp) : Ob W H' a d := by
  obtain ⟨u, hu, _⟩ := o.some
  exact o.pers e.pers ((e.keep _ _ hu n).trans hu.symm)
theorem Res.po {W : Wd} {c : Cel} {H H' : Hp} {r : R} {v : V} (h : Res W c H H' r v) : PO W H' v r.2 := by
  obtain ⟨f, d⟩ := r
  cases f with
  | pf => exact .inl h
  | fr => obtain ⟨a, e, _, _, o⟩ := h; exact .inr ⟨a, e, o⟩
  | ln => obtain ⟨a, e, _, o⟩ := h; exact .inr ⟨a, e, o⟩
theorem Res.po_ext {W : Wd} {c : Cel} {H H' H2 : Hp} {r : R} {v : V} (h : Res W c H H' r v) (e : Ext c.fp H' H2) : PO W H2 v r.2 := by
  obtain ⟨f, d⟩ := r
  cases f with
  | pf => exact .inl (PF.pers e.pers _ _ h)
  | fr => obtain ⟨a, q, _, n, o⟩ := h; exact .inr ⟨a, q, o.ext e n⟩
  | ln => obtain ⟨a, q, n, o⟩ := h; exact .inr ⟨a, q, o.ext e n⟩
/-- an operation's result, behind what came ahead of it -/
theorem Rs.res {W : Wd} {c : Cel} {s : D} {H H1 H' : Hp} {r : R} {v : V} (h : Rs W H1 H' r v) (e : Ext c.fp H H1) (k : CelOk W c s H1) : Res W c H H' r v := by
  obtain ⟨f, d⟩ := r
  cases f with
  | pf => exact h
  | fr =>
    obtain ⟨a, q, n, o⟩ := h
    have nf := k.not_fp n
    refine ⟨a, q, ?_, nf, o⟩
    cases z : H a with
    | none => rfl
    | some u => have := e.keep a u z nf; rw [n] at this; cases this
  | ln => exact False.elim h

/-! ### the def's names -/
inductive Ent where
  | val (d : D)
  | own (d : D)
  | cell
abbrev Rho := List (Option Ent)
def EntOk (W : Wd) (c : Cel) (H : Hp) (e : Ent) (v : V) : Prop := match e with
  | .val d => PF W.K H v d
  | .own d => ∃ a, v = .ref a ∧ a ∉ c.fp ∧ Ob W H a d
  | .cell => v = c.v ∧ v ≠ .non
structure Est (W : Wd) (c : Cel) (ρ : Rho) (s : D) (σ : L2.St) (H : Hp) : Prop where
  slot : ∀ (i : Nat) (e : Ent), ρ[i]? = some (some e) → ∃ v, σ[i]? = some (some v) ∧ EntOk W c H e v
  apart : ∀ (i j : Nat) (d e : D) (a : Addr), ρ[i]? = some (some (.own d)) → ρ[j]? = some (some (.own e)) → σ[i]? = some (some (.ref a)) → σ[j]? = some (some (.ref a)) → i = j
  cell : CelOk W c s H
  len : ρ.length = σ.length
theorem EntOk.ext {W : Wd} {c : Cel} {H H' : Hp} {e : Ent} {v : V} (h : EntOk W c H e v) (x : Ext c.fp H H') : EntOk W c H' e v := by
  cases e with
  | val d => exact PF.pers x.pers _ _ h
  | own d => obtain ⟨a, q, n, o⟩ := h; exact ⟨a, q, n, o.ext x n⟩
  | cell => exact h
theorem Est.ext {W : Wd} {c : Cel} {ρ : Rho} {s s' : D} {σ : L2.St} {H H' : Hp} (h : Est W c ρ s σ H) (x : Ext c.fp H H') (k : CelOk W c s' H') : Est W c ρ s' σ H' :=
  ⟨fun i e q => let ⟨v, a, b⟩ := h.slot i e q; ⟨v, a, b.ext x⟩, h.apart, k, h.len⟩

/-! ### what an expression, a test, an argument list is worth -/
abbrev Den (α : Type) := Rho → D → Option (α × D)
def tD (W : Wd) (c : Cel) (f : Den R) : TE := fun σ H Q => ∃ ρ s r s', Est W c ρ s σ H ∧ f ρ s = some (r, s') ∧ ∀ v H', Ext c.fp H H' → CelOk W c s' H' → Res W c H H' r v → Q v H'
def tDT (W : Wd) (c : Cel) (f : Den Bool) : TT := fun σ H Q => ∃ ρ s r s', Est W c ρ s σ H ∧ f ρ s = some (r, s') ∧ ∀ H', Ext c.fp H H' → CelOk W c s' H' → Q r H'
/-- what stands for good, or was just made: then it is locked -/
def tDA (W : Wd) (c : Cel) (f : Den (List R)) : TA := fun σ H Q => ∃ ρ s rs s', Est W c ρ s σ H ∧ f ρ s = some (rs, s') ∧ ∀ vs H', Ext c.fp H H' → CelOk W c s' H' → Paired (fun v (r : R) => PO W H' v r.2 ∧ (r.1 = .pf → PF W.K H' v r.2)) vs rs → Q vs H'
theorem _root_.L2.PE.imp {X : Cx} {e : Expr} {t t' : TE} (h : PE X e t) (i : ∀ σ H Q, t' σ H Q → t σ H Q) : PE X e t' := ⟨fun pins s σ H Q I q => h.run pins s σ H Q I (i σ H Q q)⟩
theorem _root_.L2.PT.imp {X : Cx} {e : Expr} {t t' : TT} (h : PT X e t) (i : ∀ σ H Q, t' σ H Q → t σ H Q) : PT X e t' := ⟨fun pins s σ H Q I q => h.run pins s σ H Q I (i σ H Q q)⟩
theorem _root_.L2.PA.imp {X : Cx} {e : List Expr} {t t' : TA} (h : PA X e t) (i : ∀ σ H Q, t' σ H Q → t σ H Q) : PA X e t' := ⟨fun pos pins s σ H Q I q => h.run pos pins s σ H Q I (i σ H Q q)⟩
theorem _root_.L2.PW.imp {X : Cx} {e : Expr} {t t' : TT} (h : PW X e t) (i : ∀ σ H Q, t' σ H Q → t σ H Q) : PW X e t' := ⟨fun wh pins s σ H Q I q => h.run wh pins s σ H Q I (i σ H Q q)⟩
theorem _root_.L2.PS.imp {X : Cx} {e : Stmt} {t t' : TS} (h : PS X e t) (i : ∀ D σ H, t' D σ H → t D σ H) : PS X e t' := ⟨fun pins s σ H D I q => h.run pins s σ H D I (i D σ H q)⟩
theorem _root_.L2.PSs.imp {X : Cx} {e : List Stmt} {t t' : TS} (h : PSs X e t) (i : ∀ D σ H, t' D σ H → t D σ H) : PSs X e t' := ⟨fun pins s σ H D I q => h.run pins s σ H D I (i D σ H q)⟩

/-! ### the pieces -/
def dVar (i : Nat) : Den R := fun ρ s => match ρ[i]? with
  | some (some (.val d)) => some ((.pf, d), s)
  | some (some (.own d)) => some ((.ln, d), s)
  | _ => none
def dC (d : D) : Den R := fun _ s => some ((.pf, d), s)
def d2 (p : D → D → Option R) (f g : Den R) : Den R := fun ρ s => do
  let (a, s1) ← f ρ s
  let (b, s2) ← g ρ s1
  let r ← p a.2 b.2
  some (r, s2)
def dT (f : Den R) : Den Bool := fun ρ s => match f ρ s with
  | some ((_, .bool b), s') => some (b, s')
  | _ => none
def dNot (f : Den Bool) : Den Bool := fun ρ s => (f ρ s).map fun x => (!x.1, x.2)
def dAnd (f g : Den Bool) : Den Bool := fun ρ s => do
  let (a, s1) ← f ρ s
  if a then g ρ s1 else some (false, s1)
def dOr (f g : Den Bool) : Den Bool := fun ρ s => do
  let (a, s1) ← f ρ s
  if a then some (true, s1) else g ρ s1
def dB (f : Den Bool) : Den R := fun ρ s => (f ρ s).map fun x => ((.pf, .bool x.1), x.2)
def dIf {α : Type} (c : Den Bool) (f g : Den α) : Den α := fun ρ s => do
  let (a, s1) ← c ρ s
  if a then f ρ s1 else g ρ s1
def dFrz (f : Den R) : Den R := fun ρ s => match f ρ s with
  | some ((.pf, d), s') => some ((.pf, d), s')
  | some ((.fr, .list ds), s') => some ((.pf, .list ds), s')
  | _ => none
def dNil : Den (List R) := fun _ s => some ([], s)
def dCons (f : Den R) (g : Den (List R)) : Den (List R) := fun ρ s => do
  let (a, s1) ← f ρ s
  let (b, s2) ← g ρ s1
  some (a :: b, s2)
def pfs? : List R → Option (List D)
  | [] => some []
  | (.pf, d) :: r => (pfs? r).map (d :: ·)
  | _ => none
def dTup (f : Den (List R)) : Den R := fun ρ s => do
  let (a, s1) ← f ρ s
  let ds ← pfs? a
  if ds.length ≤ sizeLine then some ((.pf, .tuple ds), s1) else none
def dLst (f : Den (List R)) : Den R := fun ρ s => do
  let (a, s1) ← f ρ s
  let ds ← pfs? a
  if ds.length ≤ sizeLine then some ((.fr, .list ds), s1) else none
def dCall (p : List D → Option R) (f : Den (List R)) : Den R := fun ρ s => do
  let (a, s1) ← f ρ s
  let r ← p (a.map (·.2))
  some (r, s1)
theorem bind_some {α β : Type} {o : Option α} {f : α → Option β} {b : β} (h : (o >>= f) = some b) : ∃ a, o = some a ∧ f a = some b := by
  cases o with
  | none => cases h
  | some a => exact ⟨a, rfl, h⟩
section
variable {X : Cx} {c : Cel} {a b : Expr} {f g : Den R} {pos : Pos}
theorem ce_var {i : Nat} {x : Str} (hN : X.N[i]? = some x) (hv : Vis X.env.scope x) (hd : (x == ("__debug__" : Str)) = false) (hcd : (x == ("__classdict__" : Str)) = false) : PE X (.Name x pos) (tD (wd X) c (dVar i)) := by
  refine (pe_var hN hv hd hcd).imp fun σ H Q h => ?_
  obtain ⟨ρ, s, r, s', E, hf, q⟩ := h
  unfold dVar at hf
  split at hf
  · rename_i d e
    cases hf
    obtain ⟨v, ev, ok⟩ := E.slot i _ e
    exact ⟨v, ev, q v H (.refl _ H) E.cell ok⟩
  · rename_i d e
    cases hf
    obtain ⟨v, ev, ok⟩ := E.slot i _ e
    exact ⟨v, ev, q v H (.refl _ H) E.cell ok⟩
  · cases hf
theorem tC_imp {d : D} {v : V} (h : ∀ H, PF (wd X).K H v d) (σ : L2.St) (H : Hp) (Q : VK) (t : tD (wd X) c (dC d) σ H Q) : tC v σ H Q := by
  obtain ⟨ρ, s, r, s', E, hf, q⟩ := t
  cases hf
  exact q v H (.refl _ H) E.cell (h H)
theorem ce_int {i : Int} {j} : PE X (.Constant (.int i) j pos) (tD (wd X) c (dC (.int i))) := pe_int.imp (tC_imp fun _ => .int i)
theorem ce_bl {i : Bool} {j} : PE X (.Constant (.bool i) j pos) (tD (wd X) c (dC (.bool i))) := pe_bl.imp (tC_imp fun _ => .bl i)
theorem ce_non {j} : PE X (.Constant .none j pos) (tD (wd X) c (dC .none)) := pe_non.imp (tC_imp fun _ => .non)
theorem ce_str {x : Str} {j} (k : PyData.strOk x = true) : PE X (.Constant (.str x) j pos) (tD (wd X) c (dC (.str x))) := pe_str.imp (tC_imp fun _ => .str x k)
/-- two operands in a row -/
theorem t2_imp {p : D → D → Option R} (σ : L2.St) (H : Hp) (Q : VK) (t : tD (wd X) c (d2 p f g) σ H Q) : tOp (r2 (wd X) p) (tD (wd X) c f) (tD (wd X) c g) σ H Q := by
  obtain ⟨ρ, s, r, s', E, hf, q⟩ := t
  obtain ⟨⟨ra, s1⟩, h1, hf⟩ := bind_some hf
  obtain ⟨⟨rb, s2⟩, h2, hf⟩ := bind_some hf
  obtain ⟨r', h3, hf⟩ := bind_some hf
  cases hf
  refine ⟨ρ, s, ra, s1, E, h1, fun x H1 e1 k1 x1 => ?_⟩
  refine ⟨ρ, s1, rb, _, E.ext e1 k1, h2, fun y H2 e2 k2 y2 => ?_⟩
  refine ⟨ra.2, rb.2, _, x1.po_ext e2, y2.po, h3, fun v H' sm rs => ?_⟩
  exact q v H' ((e1.trans e2).trans (.of sm)) (k2.same sm) (rs.res (e1.trans e2) k2)
theorem ce_bin {op : Operator} {p : D → D → Option R} (ho : OpR X (binaryOp op) (r2 (wd X) p)) (ha : PE X a (tD (wd X) c f)) (hb : PE X b (tD (wd X) c g)) : PE X (.BinOp a op b pos) (tD (wd X) c (d2 p f g)) := (pe_op ho ha hb).imp t2_imp
theorem ce_cmp {op : CmpOp} {p : D → D → Option R} (ho : OpR X (compareOp op) (r2 (wd X) p)) (ha : PE X a (tD (wd X) c f)) (hb : PE X b (tD (wd X) c g)) (hm : behindInMarks op b = false) : PE X (.Compare a [op] [b] pos) (tD (wd X) c (d2 p f g)) := (pe_cmpR ho ha hb hm).imp t2_imp
theorem tT_imp {t : TE} {f : Den R} (i : ∀ σ H Q, tD (wd X) c f σ H Q → t σ H Q) (σ : L2.St) (H : Hp) (Q : Bool → Hp → Prop) (h : tDT (wd X) c (dT f) σ H Q) : tTest t σ H Q := by
  obtain ⟨ρ, s, r, s', E, hf, q⟩ := h
  unfold dT at hf
  split at hf
  · rename_i fl b s1 h1
    cases hf
    refine i σ H _ ⟨ρ, s, _, _, E, h1, fun v H' e k rs => ⟨r, ?_, q H' e k⟩⟩
    exact rs.po.bl
  · cases hf
theorem ct_cmp {op : CmpOp} {p : D → D → Option R} (ho : OpR X (compareOp op) (r2 (wd X) p)) (ha : PE X a (tD (wd X) c f)) (hb : PE X b (tD (wd X) c g)) (hm : behindInMarks op b = false) : PT X (.Compare a [op] [b] pos) (tDT (wd X) c (dT (d2 p f g))) := (pt_cmpR ho ha hb hm).imp (tT_imp t2_imp)
theorem ct_val (ha : PE X a (tD (wd X) c f)) (he : ∀ whole, isTrue a X.env whole = (do let v ← whole; standAt a.pos; holding [v] (truthy v))) : PT X a (tDT (wd X) c (dT f)) := (pt_val ha he).imp fun σ H Q h => tT_imp (t := tD (wd X) c f) (fun _ _ _ z => z) σ H Q h
theorem ce_ix {p : D → D → Option R} (ho : IxR X (r2 (wd X) p)) (ha : PE X a (tD (wd X) c f)) (hb : PE X b (tD (wd X) c g)) (hs : PlainIx b) : PE X (.Subscript a b pos) (tD (wd X) c (d2 p f g)) := (pe_ix ho ha hb hs).imp t2_imp
end
end Co
end

section
set_option Elab.async false
set_option linter.all false
set_option maxRecDepth 100000
set_option autoImplicit false
namespace Co
open PySem PySem.Spec L2
variable [Tbs]

section
variable {X : Cx} {c : Cel} {a b : Expr} {pos : Pos} {rest : List Expr}
/-! ### tests -/
theorem cw_and1 {f : Den Bool} (ha : PT X a (tDT (wd X) c f)) : PW X (.BoolOp .And [a] pos) (tDT (wd X) c f) := pw_and1 ha
theorem cw_or1 {f : Den Bool} (ha : PT X a (tDT (wd X) c f)) : PW X (.BoolOp .Or [a] pos) (tDT (wd X) c f) := pw_or1 ha
theorem cw_and {f g : Den Bool} (ha : PT X a (tDT (wd X) c f)) (hb : PW X (.BoolOp .And (b :: rest) pos) (tDT (wd X) c g)) : PW X (.BoolOp .And (a :: b :: rest) pos) (tDT (wd X) c (dAnd f g)) := by
  refine (pw_and ha hb).imp fun σ H Q h => ?_
  obtain ⟨ρ, s, r, s', E, hf, q⟩ := h
  obtain ⟨⟨k, s1⟩, h1, hf⟩ := bind_some hf
  refine ⟨ρ, s, k, s1, E, h1, fun H1 e1 k1 => ?_⟩
  cases k with
  | true =>
    rw [if_pos rfl]
    exact ⟨ρ, s1, r, s', E.ext e1 k1, hf, fun H2 e2 k2 => q H2 (e1.trans e2) k2⟩
  | false =>
    rw [if_neg (by decide)]
    cases hf
    exact q H1 e1 k1
theorem cw_or {f g : Den Bool} (ha : PT X a (tDT (wd X) c f)) (hb : PW X (.BoolOp .Or (b :: rest) pos) (tDT (wd X) c g)) : PW X (.BoolOp .Or (a :: b :: rest) pos) (tDT (wd X) c (dOr f g)) := by
  refine (pw_or ha hb).imp fun σ H Q h => ?_
  obtain ⟨ρ, s, r, s', E, hf, q⟩ := h
  obtain ⟨⟨k, s1⟩, h1, hf⟩ := bind_some hf
  refine ⟨ρ, s, k, s1, E, h1, fun H1 e1 k1 => ?_⟩
  cases k with
  | false =>
    rw [if_neg (by decide)]
    exact ⟨ρ, s1, r, s', E.ext e1 k1, hf, fun H2 e2 k2 => q H2 (e1.trans e2) k2⟩
  | true =>
    rw [if_pos rfl]
    cases hf
    exact q H1 e1 k1
theorem ct_not {f : Den Bool} (ha : PT X a (tDT (wd X) c f)) : PT X (.UnaryOp .Not a pos) (tDT (wd X) c (dNot f)) := by
  refine (pt_not ha).imp fun σ H Q h => ?_
  obtain ⟨ρ, s, r, s', E, hf, q⟩ := h
  unfold dNot at hf
  cases h1 : f ρ s with
  | none => rw [h1] at hf; cases hf
  | some x =>
    rw [h1] at hf
    cases hf
    exact ⟨ρ, s, x.1, x.2, E, h1, fun H1 e1 k1 => q H1 e1 k1⟩
/-! ### the same as values -/
theorem ce_not {f : Den R} (ha : PE X a (tD (wd X) c f)) : PE X (.UnaryOp .Not a pos) (tD (wd X) c (dB (dNot (dT f)))) := by
  refine (pe_not ha).imp fun σ H Q h => ?_
  obtain ⟨ρ, s, r, s', E, hf, q⟩ := h
  unfold dB dNot dT at hf
  split at hf
  · rename_i fl b s1 h1
    cases hf
    exact ⟨ρ, s, _, _, E, h1, fun v H1 e1 k1 rs => ⟨b, rs.po.bl, q _ H1 e1 k1 (.bl _)⟩⟩
  · cases hf
theorem ce_one {f : Den R} {op : BoolOp} (ha : PE X a (tD (wd X) c f)) : PE X (.BoolOp op [a] pos) (tD (wd X) c (dB (dT f))) := by
  refine (pe_one ha).imp fun σ H Q h => ?_
  obtain ⟨ρ, s, r, s', E, hf, q⟩ := h
  unfold dB dT at hf
  split at hf
  · rename_i fl b s1 h1
    cases hf
    refine ⟨ρ, s, _, _, E, h1, fun v H1 e1 k1 rs => q _ H1 e1 k1 ?_⟩
    rw [rs.po.bl]
    exact .bl _
  · cases hf
theorem ce_and {f : Den R} {g : Den Bool} (ha : PE X a (tD (wd X) c f)) (hb : PE X (.BoolOp .And (b :: rest) pos) (tD (wd X) c (dB g))) : PE X (.BoolOp .And (a :: b :: rest) pos) (tD (wd X) c (dB (dAnd (dT f) g))) := by
  refine (pe_and ha hb).imp fun σ H Q h => ?_
  obtain ⟨ρ, s, r, s', E, hf, q⟩ := h
  unfold dB dAnd at hf
  cases h0 : dT f ρ s with
  | none => rw [h0] at hf; cases hf
  | some x =>
    obtain ⟨k, s1⟩ := x
    rw [h0] at hf
    unfold dT at h0
    split at h0
    · rename_i fl b s2 h1
      cases h0
      refine ⟨ρ, s, _, _, E, h1, fun v H1 e1 k1 rs => ⟨k, rs.po.bl, ?_⟩⟩
      cases k with
      | true =>
        rw [if_pos rfl]
        exact ⟨ρ, s1, r, s', E.ext e1 k1, hf, fun v2 H2 e2 k2 r2 => q v2 H2 (e1.trans e2) k2 (by
          obtain ⟨fl2, d2⟩ := r
          have z : fl2 = .pf := by
            have hf : Option.map (fun x : Bool × D => (((Fl.pf, PyData.bool x.1) : R), x.2)) (g ρ s1) = some ((fl2, d2), s') := hf
            cases hg : g ρ s1 with
            | none => rw [hg] at hf; cases hf
            | some y => rw [hg] at hf; cases hf; rfl
          subst z
          exact r2)⟩
      | false =>
        rw [if_neg (by decide)]
        cases hf
        exact q _ H1 e1 k1 (.bl _)
    · cases h0
theorem ce_or {f : Den R} {g : Den Bool} (ha : PE X a (tD (wd X) c f)) (hb : PE X (.BoolOp .Or (b :: rest) pos) (tD (wd X) c (dB g))) : PE X (.BoolOp .Or (a :: b :: rest) pos) (tD (wd X) c (dB (dOr (dT f) g))) := by
  refine (pe_or ha hb).imp fun σ H Q h => ?_
  obtain ⟨ρ, s, r, s', E, hf, q⟩ := h
  unfold dB dOr at hf
  cases h0 : dT f ρ s with
  | none => rw [h0] at hf; cases hf
  | some x =>
    obtain ⟨k, s1⟩ := x
    rw [h0] at hf
    unfold dT at h0
    split at h0
    · rename_i fl b s2 h1
      cases h0
      refine ⟨ρ, s, _, _, E, h1, fun v H1 e1 k1 rs => ⟨k, rs.po.bl, ?_⟩⟩
      cases k with
      | false =>
        rw [if_neg (by decide)]
        exact ⟨ρ, s1, r, s', E.ext e1 k1, hf, fun v2 H2 e2 k2 r2 => q v2 H2 (e1.trans e2) k2 (by
          obtain ⟨fl2, d2⟩ := r
          have z : fl2 = .pf := by
            have hf : Option.map (fun x : Bool × D => (((Fl.pf, PyData.bool x.1) : R), x.2)) (g ρ s1) = some ((fl2, d2), s') := hf
            cases hg : g ρ s1 with
            | none => rw [hg] at hf; cases hf
            | some y => rw [hg] at hf; cases hf; rfl
          subst z
          exact r2)⟩
      | true =>
        rw [if_pos rfl]
        cases hf
        exact q _ H1 e1 k1 (.bl _)
    · cases h0
/-- a result is none the worse for a heap ahead of it -/
theorem Res.ahead {W : Wd} {c : Cel} {H H1 H2 : Hp} {r : R} {v : V} (h : Res W c H1 H2 r v) (e : Ext c.fp H H1) : Res W c H H2 r v := by
  obtain ⟨f, d⟩ := r
  cases f with
  | pf => exact h
  | fr =>
    obtain ⟨a, q, n, nf, o⟩ := h
    refine ⟨a, q, ?_, nf, o⟩
    cases z : H a with
    | none => rfl
    | some u => have := e.keep a u z nf; rw [n] at this; cases this
  | ln => exact h
theorem ce_if {t : Expr} {k : Den Bool} {f g : Den R} (ht : PT X t (tDT (wd X) c k)) (ha : PE X a (tD (wd X) c f)) (hb : PE X b (tD (wd X) c g)) : PE X (.IfExp t a b pos) (tD (wd X) c (dIf k f g)) := by
  refine (pe_ifExp ht ha hb).imp fun σ H Q h => ?_
  obtain ⟨ρ, s, r, s', E, hf, q⟩ := h
  obtain ⟨⟨z, s1⟩, h1, hf⟩ := bind_some hf
  refine ⟨ρ, s, z, s1, E, h1, fun H1 e1 k1 => ?_⟩
  cases z with
  | true =>
    rw [if_pos rfl]
    exact ⟨ρ, s1, r, s', E.ext e1 k1, hf, fun v H2 e2 k2 r2 => q v H2 (e1.trans e2) k2 (r2.ahead e1)⟩
  | false =>
    rw [if_neg (by decide)]
    exact ⟨ρ, s1, r, s', E.ext e1 k1, hf, fun v H2 e2 k2 r2 => q v H2 (e1.trans e2) k2 (r2.ahead e1)⟩
/-! ### locking what was just made -/
theorem ce_frz {f : Den R} (ha : PE X a (tD (wd X) c f)) : PE X a (tD (wd X) c (dFrz f)) := by
  refine ⟨fun pins st σ H Q I h => ?_⟩
  obtain ⟨ρ, s, r, s', E, hf, q⟩ := h
  unfold dFrz at hf
  split at hf
  · rename_i d s1 h1
    cases hf
    exact ha.run pins st σ H Q I ⟨ρ, s, _, _, E, h1, q⟩
  · rename_i ds s1 h1
    cases hf
    refine thn (ha.run pins st σ H (fun v H1 => Ext c.fp H H1 ∧ CelOk (wd X) c s' H1 ∧ Res (wd X) c H H1 (.fr, .list ds) v) I ⟨ρ, s, _, _, E, h1, fun v H1 e k rs => ⟨e, k, rs⟩⟩) fun u st1 ⟨v, H1, I1, rv, e1, k1, a, ev, n, nf, vs, hl, pf⟩ => ?_
    obtain ⟨o, I2⟩ := I1.lock hl trivial
    have pe : Pers H1 (upd H1 a (.frz o (.lst vs))) := ⟨fun b xs z => by rw [upd_ne (fun w => by rw [w, hl] at z; cases z)]; exact z, fun b o' u' z => by rw [upd_ne (fun w => by rw [w, hl] at z; cases z)]; exact z⟩
    refine ⟨v, _, I2, rv, q v _ ⟨fun b o' z nb => ?_, e1.pers.trans pe⟩ ?_ ?_⟩
    · rw [upd_ne (ne_of_none z n)]
      exact e1.keep b o' z nb
    · have cs : ∀ b u', H1 b = some u' → b ≠ a → (upd H1 a (.frz o (.lst vs))) b = some u' := fun b u' z w => by rw [upd_ne w]; exact z
      obtain ⟨kt, k1⟩ := k1
      refine ⟨tabs_upd kt (D := a) (fun b hb => by rw [upd_ne hb]) (.inl ⟨_, hl⟩), ?_⟩
      cases c with
      | no => trivial
      | bag bb =>
        have nb : bb ≠ a := fun w => nf (by rw [← w]; simp [Cel.fp, Cel.f0])
        obtain ⟨u', hu, _⟩ := k1.2.some
        exact ⟨k1.1, k1.2.pers pe ((cs _ _ hu nb).trans hu.symm)⟩
      | pl C x dx kd =>
        obtain ⟨hh, m, w, kvs, vh, vm, vw, rfl, hx, p1, p2, p3, ob⟩ := k1
        have nb : kd ≠ a := fun w => nf (by rw [← w]; simp [Cel.fp, Cel.f0])
        obtain ⟨u', hu, _⟩ := ob.some
        exact ⟨hh, m, w, kvs, vh, vm, vw, rfl, cs _ _ hx (fun w => by rw [w, hl] at hx; cases hx), PF.pers pe _ _ p1, PF.pers pe _ _ p2, PF.pers pe _ _ p3, ob.pers pe ((cs _ _ hu nb).trans hu.symm)⟩
      | scr sa =>
        obtain ⟨ns, rfl, fz⟩ := k1
        exact ⟨ns, rfl, fz.pers pe⟩
      | scl sa =>
        obtain ⟨ns, rfl, fz⟩ := k1
        have nb : sa ≠ a := fun w => nf (by rw [← w]; simp [Cel.fp, Cel.f0])
        exact ⟨ns, rfl, cs _ _ fz nb⟩
    · rw [ev]
      exact PF.lst upd_same (PFs.pers pe _ _ pf)
  · cases hf
/-! ### several in a row -/
def AOk (W : Wd) (H : Hp) : List V → List R → Prop := Paired fun v (r : R) => PO W H v r.2 ∧ (r.1 = .pf → PF W.K H v r.2)
theorem ca_nil : PA X [] (tDA (wd X) c dNil) := by
  refine pa_nil.imp fun σ H Q h => ?_
  obtain ⟨ρ, s, r, s', E, hf, q⟩ := h
  cases hf
  exact q [] H (.refl _ H) E.cell .nil
theorem AOk.ext {W : Wd} {c : Cel} {H H1 H2 : Hp} {v : V} {r : R} (h : Res W c H H1 r v) (e : Ext c.fp H1 H2) : PO W H2 v r.2 ∧ (r.1 = .pf → PF W.K H2 v r.2) := by
  refine ⟨h.po_ext e, fun z => ?_⟩
  obtain ⟨f, d⟩ := r
  cases z
  exact PF.pers e.pers _ _ h
theorem ca_cons {f : Den R} {g : Den (List R)} {es : List Expr} (ha : PE X a (tD (wd X) c f)) (hr : PA X es (tDA (wd X) c g)) (hs : starEach (a :: es) X.env = (false, eval a X.env) :: starEach es X.env) : PA X (a :: es) (tDA (wd X) c (dCons f g)) := by
  refine (pa_cons ha hr hs).imp fun σ H Q h => ?_
  obtain ⟨ρ, s, r, s', E, hf, q⟩ := h
  obtain ⟨⟨ra, s1⟩, h1, hf⟩ := bind_some hf
  obtain ⟨⟨rs, s2⟩, h2, hf⟩ := bind_some hf
  cases hf
  refine ⟨ρ, s, ra, s1, E, h1, fun x H1 e1 k1 x1 => ?_⟩
  exact ⟨ρ, s1, rs, _, E.ext e1 k1, h2, fun ys H2 e2 k2 y2 => q (x :: ys) H2 (e1.trans e2) k2 (.cons (AOk.ext x1 e2) y2)⟩
theorem pfs_of {W : Wd} {H : Hp} : ∀ {vs : List V} {rs : List R} {ds : List D}, AOk W H vs rs → pfs? rs = some ds → PFs W.K H vs ds
  | _, [], _, h, e => by cases h; cases e; exact .nil
  | _, (.pf, d) :: r, _, h, e => by
    unfold pfs? at e
    cases h with
    | cons p t =>
      cases e2 : pfs? r with
      | none => rw [e2] at e; cases e
      | some es =>
        rw [e2] at e
        cases e
        exact .cons (p.2 rfl) (pfs_of t e2)
  | _, (.fr, d) :: r, _, h, e => by cases e
  | _, (.ln, d) :: r, _, h, e => by cases e
theorem ce_tup {es : List Expr} {k : Nat} {f : Den (List R)} (h : PA X es (tDA (wd X) c f)) : PE X (.Tuple es k pos) (tD (wd X) c (dTup f)) := by
  refine (pe_tup h).imp fun σ H Q h => ?_
  obtain ⟨ρ, s, r, s', E, hf, q⟩ := h
  obtain ⟨⟨rs, s1⟩, h1, hf⟩ := bind_some hf
  obtain ⟨ds, h2, hf⟩ := bind_some hf
  split at hf
  · rename_i hz
    cases hf
    refine ⟨ρ, s, rs, _, E, h1, fun vs H1 e1 k1 ok => ?_⟩
    have pf := pfs_of ok h2
    exact ⟨by rw [pf.length]; exact hz, fun p hp => q _ _ (e1.trans (.of (same_new hp))) (k1.same (same_new hp)) ((Rs.tup hp pf).res e1 k1)⟩
  · cases hf
theorem ce_lst {es : List Expr} {f : Den (List R)} (h : PA X es (tDA (wd X) c f)) : PE X (.List es pos) (tD (wd X) c (dLst f)) := by
  refine (pe_lst h).imp fun σ H Q h => ?_
  obtain ⟨ρ, s, r, s', E, hf, q⟩ := h
  obtain ⟨⟨rs, s1⟩, h1, hf⟩ := bind_some hf
  obtain ⟨ds, h2, hf⟩ := bind_some hf
  split at hf
  · rename_i hz
    cases hf
    refine ⟨ρ, s, rs, _, E, h1, fun vs H1 e1 k1 ok => ?_⟩
    have pf := pfs_of ok h2
    exact ⟨by rw [pf.length]; exact hz, fun p hp => q _ _ (e1.trans (.of (same_new hp))) (k1.same (same_new hp)) ((Rs.lst hp pf).res e1 k1)⟩
  · cases hf
theorem aok_map {W : Wd} {H : Hp} : ∀ {vs : List V} {rs : List R}, AOk W H vs rs → Paired (PO W H) vs (rs.map (·.2))
  | _, _, .nil => .nil
  | _, _, .cons p t => .cons p.1 (aok_map t)
theorem tcb_imp {p : List D → Option R} {f : Den (List R)} {t : TA} (ht : t = tDA (wd X) c f) (σ : L2.St) (H : Hp) (Q : VK) (h : tD (wd X) c (dCall p f) σ H Q) : tCB (rN (wd X) p) t σ H Q := by
  subst ht
  obtain ⟨ρ, s, r, s', E, hf, q⟩ := h
  obtain ⟨⟨rs, s1⟩, h1, hf⟩ := bind_some hf
  obtain ⟨r', h2, hf⟩ := bind_some hf
  cases hf
  refine ⟨ρ, s, rs, _, E, h1, fun vs H1 e1 k1 ok => ⟨_, _, aok_map ok, h2, fun v H' sm r1 => ?_⟩⟩
  exact q v H' (e1.trans (.of sm)) (k1.same sm) (r1.res e1 k1)
theorem back_any {es : List Expr} {env : Env} (h : (starEach es env).any (·.1) = false) (pos : Pos) : (backTo pos (starEach es env)).any (·.1) = false := by
  unfold backTo
  rw [List.any_map]
  exact h
theorem ce_callB {p : List D → Option R} {f : Den (List R)} {x : Str} {id : String} {es : List Expr} {p1 : Pos} (hc : CallR X (.builtin id) (rN (wd X) p)) (hg : Gl X x) (hm : X.mg x = none) (hv : bootBuiltins x = some (.builtin id)) (hn : x ≠ "__name__") (hd : (x == ("__debug__" : Str)) = false)
    (ha : PA X (a :: es) (tDA (wd X) c f)) (hs : starEach (a :: es) X.env = (false, eval a X.env) :: starEach es X.env) (hs2 : (starEach es X.env).any (·.1) = false) : PE X (.Call (.Name x p1) (a :: es) [] pos) (tD (wd X) c (dCall p f)) :=
  (pe_callB hc hg hm hv ha hn hd hs (back_any hs2 pos)).imp (tcb_imp rfl)
theorem ce_callTy {p : List D → Option R} {f : Den (List R)} {x : Str} {id : String} {es : List Expr} {p1 : Pos} (hc : CallR X (.type id) (rN (wd X) p)) (hg : Gl X x) (hm : X.mg x = none) (hv : bootBuiltins x = some (.type id)) (hn : x ≠ "__name__") (hd : (x == ("__debug__" : Str)) = false)
    (ha : PA X (a :: es) (tDA (wd X) c f)) (hs : starEach (a :: es) X.env = (false, eval a X.env) :: starEach es X.env) (hs2 : (starEach es X.env).any (·.1) = false) : PE X (.Call (.Name x p1) (a :: es) [] pos) (tD (wd X) c (dCall p f)) :=
  (pe_callTy hc hg hm hv ha hn hd hs (back_any hs2 pos)).imp (tcb_imp rfl)
end
end Co
end

section
set_option Elab.async false
set_option linter.all false
set_option maxRecDepth 100000
set_option autoImplicit false
namespace Co
open PySem PySem.Spec L2
variable [Tbs]

/-! ### slices, chains, signs -/
def dPart : Option (Den R) → Den (Option Int)
  | none => fun _ s => some (none, s)
  | some f => fun ρ s => match f ρ s with
    | some ((_, .int i), s') => some (some i, s')
    | _ => none
def dSl (f : Den R) (lo hi : Option (Den R)) : Den R := fun ρ s => do
  let (a, s1) ← f ρ s
  let (l, s2) ← dPart lo ρ s1
  let (h, s3) ← dPart hi ρ s2
  let r ← sliceD a.2 l h
  some (r, s3)
def tDP (W : Wd) (c : Cel) (f : Den (Option Int)) : TO := fun σ H Q => ∃ ρ s r s', Est W c ρ s σ H ∧ f ρ s = some (r, s') ∧ ∀ H', Ext c.fp H H' → CelOk W c s' H' → Q r H'
theorem _root_.L2.PO.imp {X : Cx} {e : Option Expr} {t t' : TO} (h : L2.PO X e t) (i : ∀ σ H Q, t' σ H Q → t σ H Q) : L2.PO X e t' := ⟨fun pins s σ H Q I q => h.run pins s σ H Q I (i σ H Q q)⟩
def dNeg (f : Den R) : Den R := fun ρ s => match f ρ s with
  | some ((_, .int i), s') => some ((.pf, .int (-i)), s')
  | _ => none
def dChain (p p' : D → D → Option R) (f g k : Den R) : Den Bool := fun ρ s => do
  let (a, s1) ← f ρ s
  let (b, s2) ← g ρ s1
  let r ← p a.2 b.2
  match r with
  | (_, .bool true) => do
    let (e, s3) ← k ρ s2
    match p' b.2 e.2 with
    | some (_, .bool t) => some (t, s3)
    | _ => none
  | (_, .bool false) => some (false, s2)
  | _ => none
section
variable {X : Cx} {c : Cel} {a b e : Expr} {pos p2 : Pos}
theorem co_none : L2.PO X none (tDP (wd X) c (dPart none)) := po_none.imp fun σ H Q h => by
  obtain ⟨ρ, s, r, s', E, hf, q⟩ := h
  cases hf
  exact q H (.refl _ H) E.cell
theorem co_some {f : Den R} (h : PE X a (tD (wd X) c f)) : L2.PO X (some a) (tDP (wd X) c (dPart (some f))) := (po_some h).imp fun σ H Q h => by
  obtain ⟨ρ, s, r, s', E, hf, q⟩ := h
  unfold dPart at hf
  dsimp only at hf
  split at hf
  · rename_i fl i s1 h1
    cases hf
    exact ⟨ρ, s, _, _, E, h1, fun v H1 e1 k1 rs => ⟨i, rs.po.int, q H1 e1 k1⟩⟩
  · cases hf
theorem ce_slice {f : Den R} {lo hi : Option (Den R)} {el eh : Option Expr} (ha : PE X a (tD (wd X) c f)) (hl : L2.PO X el (tDP (wd X) c (dPart lo))) (hh : L2.PO X eh (tDP (wd X) c (dPart hi))) :
    PE X (.Subscript a (.Slice el eh none p2) pos) (tD (wd X) c (dSl f lo hi)) := by
  refine (pe_slice sl_D ha hl hh).imp fun σ H Q h => ?_
  obtain ⟨ρ, s, r, s', E, hf, q⟩ := h
  obtain ⟨⟨ra, s1⟩, h1, hf⟩ := bind_some hf
  obtain ⟨⟨l, s2⟩, h2, hf⟩ := bind_some hf
  obtain ⟨⟨u, s3⟩, h3, hf⟩ := bind_some hf
  obtain ⟨r', h4, hf⟩ := bind_some hf
  cases hf
  refine ⟨ρ, s, ra, s1, E, h1, fun x H1 e1 k1 x1 => ?_⟩
  refine ⟨ρ, s1, l, s2, E.ext e1 k1, h2, fun H2 e2 k2 => ?_⟩
  refine ⟨ρ, s2, u, _, (E.ext e1 k1).ext e2 k2, h3, fun H3 e3 k3 => ?_⟩
  refine ⟨ra.2, _, x1.po_ext (e2.trans e3), h4, fun v H' sm rs => ?_⟩
  exact q v H' (((e1.trans e2).trans e3).trans (.of sm)) (k3.same sm) (rs.res ((e1.trans e2).trans e3) k3)
theorem ce_neg {f : Den R} (ha : PE X a (tD (wd X) c f)) : PE X (.UnaryOp .USub a pos) (tD (wd X) c (dNeg f)) := by
  refine (pe_un un_neg ha).imp fun σ H Q h => ?_
  obtain ⟨ρ, s, r, s', E, hf, q⟩ := h
  unfold dNeg at hf
  split at hf
  · rename_i fl i s1 h1
    cases hf
    exact ⟨ρ, s, _, _, E, h1, fun v H1 e1 k1 rs => ⟨i, rs.po.int, q _ H1 e1 k1 (.int _)⟩⟩
  · cases hf
theorem chain_imp {p p' : D → D → Option R} {f g k : Den R} {σ : L2.St} {H : Hp} {Q : Bool → Hp → Prop} (hpf : ∀ d e r, p d e = some r → r.1 = .pf) (hpf' : ∀ d e r, p' d e = some r → r.1 = .pf)
    (h : tDT (wd X) c (dChain p p' f g k) σ H Q) : tChain (r2 (wd X) p) (r2 (wd X) p') (tD (wd X) c f) (tD (wd X) c g) (tD (wd X) c k) σ H (fun v H1 => ∃ b, v = .bl b ∧ Q b H1) := by
  obtain ⟨ρ, s, r, s', E, hf, q⟩ := h
  obtain ⟨⟨ra, s1⟩, h1, hf⟩ := bind_some hf
  obtain ⟨⟨rb, s2⟩, h2, hf⟩ := bind_some hf
  obtain ⟨r', h3, hf⟩ := bind_some hf
  refine ⟨ρ, s, ra, s1, E, h1, fun x H1 e1 k1 x1 => ?_⟩
  refine ⟨ρ, s1, rb, _, E.ext e1 k1, h2, fun y H2 e2 k2 y2 => ?_⟩
  refine ⟨ra.2, rb.2, _, x1.po_ext e2, y2.po, h3, fun v H' sm rs => ?_⟩
  have z := hpf _ _ _ h3
  obtain ⟨fl, d⟩ := r'
  cases z
  dsimp only at hf
  split at hf
  · rename_i fl' hd
    cases hd
    cases rs
    refine ⟨true, rfl, ?_⟩
    rw [if_pos rfl]
    obtain ⟨⟨re, s3⟩, h4, hf⟩ := bind_some hf
    dsimp only at hf
    split at hf
    · rename_i fl2 t h5
      cases hf
      refine ⟨ρ, s2, re, _, ((E.ext e1 k1).ext e2 k2).ext (.of sm) (k2.same sm), h4, fun w H3 e3 k3 w3 => ?_⟩
      refine ⟨rb.2, re.2, _, y2.po_ext ((Ext.of sm).trans e3), w3.po, h5, fun v' H4 sm4 rs4 => ?_⟩
      have z' := hpf' _ _ _ h5
      cases z'
      cases rs4
      exact ⟨_, rfl, q H4 ((((e1.trans e2).trans (.of sm)).trans e3).trans (.of sm4)) (k3.same sm4)⟩
    · cases hf
  · rename_i fl' hd
    cases hd
    cases rs
    cases hf
    refine ⟨false, rfl, ?_⟩
    rw [if_neg (by decide)]
    exact ⟨_, rfl, q H' ((e1.trans e2).trans (.of sm)) (k2.same sm)⟩
  · cases hf
end
end Co
end

section
set_option Elab.async false
set_option linter.all false
set_option maxRecDepth 100000
set_option autoImplicit false
/-! enumerate over a tuple -/
namespace L2
open PySem PySem.Spec PyProof.Rows
set_option maxHeartbeats 1000000 in
theorem meets_enum1 {v : Value} {o : Obj} {H : Heap → Prop} (B : Begins v o H) :
    Meets (Builtin.«enumerate.__new__» ⟨[.type "enumerate", v], []⟩) (fun _ R s => H s.heap ∧
      R (.ok (.ret (.ref (s.heap.push o).objs.size))) { s with heap := (s.heap.push o).push { cls := .type "enumerate", data := .fields #[.none, .bool false, .ref s.heap.objs.size, rawInt 0, .none, .none] } }) :=
  .of_wp fun prog w A R s h => by
    obtain ⟨hp, g, d, tk, os⟩ := s; obtain ⟨h1, h⟩ := h
    have hsub := sub_enumerate
    have q1 : ∀ {A' : Around} {E : Value → Shared → Prop} {Q : Value → Shared → Prop}, Q (.ref hp.objs.size) ⟨hp.push o, g, d, tk, os⟩ → wpAny (model prog w) A' (pyIter v) Q E ⟨hp, g, d, tk, os⟩ :=
      fun q => B.iter prog w _ _ ⟨hp, g, d, tk, os⟩ _ h1 q
    wp_walk using q1
    refine wpAny_stack_any fun st => wpAny_pure ?_
    split
    · rename_i c _ _ _ _ _
      cases (c == Value.type "enumerate")
      · wp_walk using q1
        exact ⟨_, rfl, h⟩
      · wp_walk using q1
        exact ⟨_, rfl, h⟩
    · wp_walk using q1
      exact ⟨_, rfl, h⟩
section
variable {prog : Program} {w : World} {A : Around} {E : Value → Shared → Prop} {s : Shared}
theorem call_enum1 {v : Value} {o : Obj} {H : Heap → Prop} {Q : Value → Shared → Prop} (B : Begins v o H) (h1 : H s.heap)
    (h : ∀ h', IsEnum h' (s.heap.objs.size + 1) s.heap.objs.size 0 .none → h'.get? s.heap.objs.size = some o → h'.objs.size = s.heap.objs.size + 2 →
      (∀ b o, s.heap.get? b = some o → h'.get? b = some o) → Q (.ref (s.heap.objs.size + 1)) { s with heap := h' }) :
    wpAny (model prog w) A (call (.type "enumerate") [v]) Q E s := by
  refine callType_new F.called_enumerate (by decide) (F.typeCall_enumerate_1 _) (F.newCall_enumerate_1 _) (fun obj => F.args_object_init_2 obj _) F.entry_enumerate_new (meets_enum1 B) ⟨h1, ?_⟩
  have hz : (s.heap.push o).objs.size = s.heap.objs.size + 1 := Heap.size_push ..
  show _ ∧ _
  rw [hz]
  have he : IsEnum ((s.heap.push o).push { cls := .type "enumerate", data := .fields #[.none, .bool false, .ref s.heap.objs.size, rawInt 0, .none, .none] }) (s.heap.objs.size + 1) s.heap.objs.size 0 .none := by
    have := Heap.get?_push_size (s.heap.push o) (o := { cls := .type "enumerate", data := .fields #[.none, .bool false, .ref s.heap.objs.size, rawInt 0, .none, .none] }) rfl
    rw [hz] at this; exact this
  refine ⟨⟨_, he, rfl⟩, h _ he (Heap.get?_push_of_some _ (Heap.get?_push_size _ B.free)) (by rw [Heap.size_push, hz]) fun b o x => Heap.get?_push_of_some _ (Heap.get?_push_of_some _ x)⟩
end
theorem drawsEnd {prog : Program} {w : World} {A : Around} (hh : A.handled = none) (it t : Addr) (items : Array Value) {i : Nat} (hi : items.size ≤ i) :
    Draws prog w A it [it, t] i (fun _ _ => True) (fun j h => j = i ∧ h.IsTupleIter it t j ∧ h.IsTuple t items) where
  live := fun _ _ st => let ⟨o, ho, _⟩ := st.2.1; ⟨o, ho⟩
  frame := fun _ _ _ st hk => ⟨st.1, st.2.1.at fun o e => hk it (by simp) o e, st.2.2.at fun o e => hk t (by simp) o e⟩
  item := fun j s Q E hj st hQ => absurd st.1 (Nat.ne_of_lt hj)
  done := fun s Q E st hE => wpAny_nextOf_tuple_end hh st.2.1 st.2.2 (by simp [hi]) hE
def Itet (K : PySem.W.Frag) (a : Addr) : It :=
  ⟨fun i H => ∃ (xs : List V) (x : V), SqT K H a xs ∧ xs[i]? = some x, fun i H v H' => ∃ T x, v = .ref T ∧ H T = none ∧ H' = upd H T (.tup [.int (i : Nat), x]) ∧ ∀ xs, SqT K H a xs → xs[i]? = some x, fun i H => ∃ xs : List V, SqT K H a xs ∧ xs.length ≤ i⟩
theorem walk_enumT {K : PySem.W.Frag} {a : Addr} {xs : List V} : Walk (Itet K a) xs.length (fun H => SqT K H a xs) (YPair (fun i => some (.int (i : Nat))) (fun i => xs[i]?)) := by
  refine ⟨fun i _ hi q => ⟨xs, xs[i], q, by simp [hi]⟩, fun _ q => ⟨xs, q, Nat.le_refl _⟩, fun i H v H' _ q y => ?_⟩
  obtain ⟨T, x, h1, h2, h3, h4⟩ := y
  exact ⟨T, .int (i : Nat), x, h1, h2, h3, rfl, h4 xs q⟩
theorem turn_enumT {P : Program} {w : World} {K : PySem.W.Frag} {elts : List Expr} {kk : Nat} {tpos : Pos} (a e it : Addr) :
    Turn P w K (.Tuple elts kk tpos) (Itet K a) [e, it] e (fun i h => (∃ old, IsEnum h e it ((i : Nat) : Int) old) ∧ h.IsTupleIter it a i ∧ e ≠ it ∧ a ≠ it ∧ a ≠ e) where
  mem := by simp
  obj := fun i h st b hb => by
    obtain ⟨⟨old, he⟩, ⟨o, ho, hc, hd⟩, _⟩ := st
    have e' : b = e ∨ b = it := by simpa using hb
    rcases e' with z | z
    · rw [z]; exact ⟨_, he, fun v q => nomatch q⟩
    · rw [z]; exact ⟨o, ho, fun v q => by rw [hd] at q; cases q⟩
  keep := fun i h h' st k => let ⟨⟨old, he⟩, hi, hne⟩ := st; ⟨⟨old, k e (by simp) _ he⟩, hi.at fun o q => k it (by simp) o q, hne⟩
  item := by
    intro X hP hw hK hc i pins s σ H E I hf st hg
    subst hP hw hK
    obtain ⟨⟨old, he⟩, hit, hne, hai, hae⟩ := st
    obtain ⟨xs, x, hq, hx⟩ := hg
    obtain ⟨its, rv, p, hz⟩ := I.tuple hq
    have p : s.heap.IsTuple a its.toArray := p
    obtain ⟨u, hu, ru⟩ := rv.get hx
    have hel : e < s.heap.objs.size := Heap.lt_size he
    have hil : it < s.heap.objs.size := by obtain ⟨_, q, _⟩ := hit; exact Heap.lt_size q
    have hi : i < its.toArray.size := by rw [List.size_toArray]; exact (List.getElem?_eq_some_iff.mp hu).1
    refine wpAny_pyNext_enum_itemD (Draws.tuple (by simp [I.ok.hd hc]) it a hai its.toArray) he ⟨hit, p⟩ hi hne (by simp [hne, Ne.symm hae]) fun y h' tk hy ho hst' hT hsz hk => ?_
    have ey : y = u := by
      have hy : its[i]? = some y := by simpa using hy
      rw [hu] at hy
      cases hy
      rfl
    subst ey
    refine ⟨_, rfl, wpAny_letOwnedTupleGo_enum (s := { s with heap := h', toks := tk + 1 }) ho fun h'' he' sb => ?_⟩
    have hT2 : h''.get? s.heap.objs.size = some { cls := .type "tuple", data := .seq #[.int i tk, y] } := (sb.2 _ (Nat.ne_of_gt hel)).trans hT
    have new : ObjOk X.prog X.w (upd H s.heap.objs.size (.tup [.int (i : Nat), x])) h'' s.heap.objs.size (.tup [.int (i : Nat), x]) :=
      ⟨by show 2 ≤ sizeLine; decide, [.int i tk, y], .cons ⟨_, rfl⟩ (.cons ru .nil), ⟨_, hT2, rfl, _, rfl⟩⟩
    have I1 : Inv X pins σ (upd H s.heap.objs.size (.tup [.int (i : Nat), x])) { s with heap := h'', toks := tk + 1 } :=
      I.turnedNew (ch := [e, it]) (fun b ob hb q => (sb.2 b (fun z => hb (by simp [z]))).trans (hk b ob (fun z => hb (by simp [z])) (fun z => hb (by simp [z])) q)) hf (Nat.le_refl _) new
    refine ⟨.ref s.heap.objs.size, _, I1, rfl, ⟨_, x, rfl, I.hok.fresh (Nat.le_refl _), rfl, fun ys hy => by rw [I.tuple_inj hy hq]; exact hx⟩, ⟨⟨y, ?_⟩, hst'.1.at fun o q => (sb.2 it (Ne.symm hne)).trans q, hne, hai, hae⟩, fun b hb => ?_⟩
    · have e1 : ((i + 1 : Nat) : Int) = (i : Int) + 1 := by omega
      rw [e1]; exact he'
    · have hb' : b < s.heap.objs.size := by
        have e' : b = e ∨ b = it := by simpa using hb
        rcases e' with z | z
        · rw [z]; exact hel
        · rw [z]; exact hil
      rw [upd_ne (Nat.ne_of_lt hb')]
      exact (hf b hb).1
  done := by
    intro X hP hw hK hc i pins s σ H E I hf st hg
    subst hP hw hK
    obtain ⟨⟨old, he⟩, hit, hne, hai, hae⟩ := st
    obtain ⟨xs, hq, hx⟩ := hg
    obtain ⟨its, rv, p, hz⟩ := I.tuple hq
    have p : s.heap.IsTuple a its.toArray := p
    obtain ⟨f0, f1, f2, f3, f4, f5⟩ := hf it (by simp)
    have hl := rv.length
    exact wpAny_pyNext_enum_endD (n := i) (drawsEnd (by simp [I.ok.hd hc]) it a its.toArray (by rw [List.size_toArray]; omega)) he ⟨rfl, hit, p⟩ fun h' eb => ⟨rfl, I.turned (t' := s.toks) (fun b o hb q => eb b o hb q) f0 f1 f3 f4 f5⟩
  self := fun A i s Q E st h => let ⟨⟨_, he⟩, _⟩ := st; wpAny_pyIter_enum he h
def iEnumT (K : PySem.W.Frag) (ta : TA) : TI := fun σ H R => ta σ H fun vs H1 => ∃ a xs, vs = [.ref a] ∧ SqT K H1 a xs ∧ R (Itet K a) H1
theorem pi_enumT {X : Cx} {e : Expr} {ta : TA} {p pos tpos : Pos} {elts : List Expr} {kk : Nat} (hg : Gl X "enumerate") (hm : X.mg "enumerate" = none) (ha : PA X [e] ta) (hs : starEach [e] X.env = [(false, eval e X.env)] := by rfl) :
    PI X (.Tuple elts kk tpos) (.Call (.Name "enumerate" p) [e] [] pos) (iEnumT X.K ta) := by
  refine ⟨fun pins s σ H R I h => ?_⟩
  refine Call_ (ld_blt I hg hm boot_enumerate (PyProof.Rows.callWith_type1 (thn (ha.run pos pins s σ H _ I h) fun us s1 ⟨vs, H1, I1, r1, q1⟩ => ?_) hs rfl))
  obtain ⟨a, xs, ex, hq, q⟩ := q1
  subst ex
  cases r1 with
  | cons r rr =>
    cases rr
    cases r
    obtain ⟨its, rv, p', hz⟩ := I1.tuple hq
    have p' : s1.heap.IsTuple a its.toArray := p'
    refine call_enum1 (begins_tuple a its.toArray) p' fun h' he hit hsz hk => wpAny_pyIter_enum he ?_
    have I2 : Inv X pins σ H1 { s1 with heap := h' } := I1.kept (t' := s1.toks) hk
    have al : a < s1.heap.objs.size := by obtain ⟨_, q, _⟩ := p'; exact Heap.lt_size q
    refine ⟨s1.heap.objs.size + 1, [s1.heap.objs.size + 1, s1.heap.objs.size], _, _, H1, rfl, I2, turn_enumT a (s1.heap.objs.size + 1) s1.heap.objs.size, ⟨⟨.none, he⟩, ⟨_, hit, rfl, rfl⟩, Nat.succ_ne_self _, Nat.ne_of_lt al, Nat.ne_of_lt (Nat.lt_succ_of_lt al)⟩, fun b hb => ?_, q⟩
    have e' : b = s1.heap.objs.size + 1 ∨ b = s1.heap.objs.size := by simpa using hb
    have hle : s1.heap.objs.size ≤ b := by
      rcases e' with z | z
      · rw [z]; exact Nat.le_add_right _ _
      · rw [z]; exact Nat.le_refl _
    exact I1.fpOk hle (I1.hok.fresh hle)
end L2
end

section
set_option Elab.async false
set_option linter.all false
set_option maxRecDepth 100000
set_option maxHeartbeats 4000000
set_option autoImplicit false
namespace Co
open PySem PySem.Spec L2 PyProof.Rows
theorem tuple_mul1 (l : Addr) (items : Array Value) (n : Nat) (dd : Option Addr) (sl : Array (Option Value)) (u : Tok) :
    Meets (Builtin.«tuple.__mul__» ⟨[.ref l, .int 1 u], []⟩) (fun _ R s => s.heap.get? l = some { cls := .type "tuple", dict := dd, data := .seq items n, slots := sl } ∧ R (.ok (.ret (Value.ref l))) s) :=
  .of_wp fun prog w A R s h => by
    obtain ⟨hp, g, d, tk, os⟩ := s
    obtain ⟨hl, h⟩ := h
    have f1 := AutoSeq1.idx_int
    have c1 : (items.isEmpty || (1 : Int) == 1) = true := by simp
    wp_walk using wpAny_loadPart' hl
    repeat (first
      | (refine wpAny_ite_false (decide_eq_false (by decide)) ?_; wp_walk using wpAny_loadPart' hl)
      | (refine wpAny_ite_true (decide_eq_true (by rw [c1])) ?_; wp_walk using wpAny_loadPart' hl))
    exact ⟨_, rfl, h⟩
/-- t * k -/
def mulE : D → D → Option R
  | .tuple a, .int k => if a ≠ [] ∧ 1 ≤ k ∧ k ≤ 1000 ∧ a.length ≤ 1000 then some (.pf, .tuple (List.replicate k.toNat a).flatten) else none
  | d, e => mulD d e
section
variable {X : Cx}
theorem op_rep1 {pins : List (Addr × Obj)} {s : Shared} {σ : L2.St} {H : Hp} {l : Addr} {xs : List V} {t : Tok} {Q : VK} (I : Inv X pins σ H s) (hT : SqT X.K H l xs) (q : Q (.ref l) H) : wpAny (model X.prog X.w) X.A (binaryOp .Mult (.ref l) (.int 1 t)) (EP X pins σ Q) X.xe s := by
  obtain ⟨its, r, ⟨⟨cls, dd, data, sl⟩, ho, hc, n, hd⟩, hs⟩ := I.tuple hT
  simp only at hc hd
  subst hc hd
  refine wpAny_binaryOp_repeat_ref (T := "tuple") (U := "int") (by decide) ⟨_, ho, rfl⟩ (fun s' => typeIs_int s' 1 t) noFill_tuple_mul F.fills_int_mul F.slot_int_rmul repeat_tuple F.slot_int_index.lookup
    (call_meets F.slot_int_rmul (typeIs_int s 1 t) F.entry_int_rmul (F.args_int_rmul_2 _ _) (int_rmul_tuple 1 t l its.toArray n dd sl)
      ⟨ho, rfl, ⟨_, ho, rfl⟩, call_meets F.slot_tuple_mul ⟨_, ho, rfl⟩ F.entry_tuple_mul (F.args_tuple_mul_2 _ _) (tuple_mul1 l its.toArray n dd sl t) ⟨ho, ?_⟩⟩)
  exact ⟨.ref l, H, I, rfl, q⟩
theorem op_mulE : OpR X (binaryOp .Mult) (r2 (wd X) mulE) := by
  intro pins s σ H x y v u Q I rx ry h
  obtain ⟨d, e, r, hx, hy, hr, q⟩ := h
  unfold mulE at hr
  split at hr
  · split at hr
    · rename_i a k hz
      cases hr
      obtain ⟨l, vs, rfl, h1, q1⟩ := hx.tup
      have e2 := hy.int
      subst e2
      have m1 := q1.length
      by_cases k1 : k = 1
      · subst k1
        cases rx
        obtain ⟨t, rfl⟩ := ry
        refine op_rep1 I h1 (q _ H (.refl H) ?_)
        show PF _ _ _ (.tuple _)
        have : (List.replicate (1 : Int).toNat a).flatten = a := by simp
        rw [this]
        exact .tup h1 q1
      · refine op_repT pins s σ H _ _ v u Q I rx ry ⟨l, k, vs, rfl, rfl, h1, fun z => hz.1 ?_, by omega, hz.2.2.1, by omega, fun p hp => q _ _ (same_new hp) (Rs.tup hp (q1.flat _))⟩
        rw [z] at m1
        exact List.eq_nil_of_length_eq_zero m1.symm
    · cases hr
  · exact op_mulD pins s σ H x y v u Q I rx ry ⟨_, _, r, hx, hy, hr, q⟩
end
end Co
end

section
set_option Elab.async false
set_option linter.all false
set_option maxRecDepth 100000
set_option autoImplicit false
namespace Co
open PySem PySem.Spec L2
variable [Tbs]

/-! ### what is walked -/
/-- which heaps a walk may meet: all in which what is locked stands (true); those in which only the cell has changed (false) -/
def okH (c : Cel) (b : Bool) (H1 H : Hp) : Prop := match b with
  | true => Pers H1 H
  | false => Ext c.fp H1 H
def Wk (W : Wd) (Ok : Hp → Prop) (J : It) (ds : List D) : Prop := ds.length ≤ sizeLine ∧ ∃ (n : Nat) (G : Hp → Prop) (Y : Nat → Hp → V → Hp → Prop), Walk J n G Y ∧ n = ds.length ∧ (∀ H, Ok H → G H) ∧
  ∀ i H x H', i < n → Ok H → Y i H x H' → ∃ d, ds[i]? = some d ∧ Same H H' ∧ PF W.K H' x d
theorem Wk.weak {W : Wd} {Ok Ok' : Hp → Prop} {J : It} {ds : List D} (h : Wk W Ok J ds) (i : ∀ H, Ok' H → Ok H) : Wk W Ok' J ds := by
  obtain ⟨z, n, G, Y, w, hn, hG, hY⟩ := h
  exact ⟨z, n, G, Y, w, hn, fun H o => hG H (i H o), fun j H x H' hj o y => hY j H x H' hj (i H o) y⟩
def tI (W : Wd) (c : Cel) (b : Bool) (g : Den (List D)) : TI := fun σ H R => ∃ ρ s ds s', Est W c ρ s σ H ∧ g ρ s = some (ds, s') ∧ ∀ J H1, Ext c.fp H H1 → CelOk W c s' H1 → Wk W (okH c b H1) J ds → R J H1
theorem _root_.L2.PI.weak {X : Cx} {c : Cel} {tg a : Expr} {g : Den (List D)} (h : PI X tg a (tI (wd X) c true g)) : PI X tg a (tI (wd X) c false g) := by
  refine ⟨fun pins s σ H R I q => h.run pins s σ H R I ?_⟩
  obtain ⟨ρ, st, ds, st', E, hf, q⟩ := q
  exact ⟨ρ, st, ds, st', E, hf, fun J H1 e k w => q J H1 e k (w.weak fun H (x : Ext c.fp H1 H) => x.pers)⟩
def signs (x : Str) : List D := x.cps.toList.map fun c => .str ⟨#[c]⟩
def itemsD : D → Option (List D)
  | .list ds => some ds
  | .tuple ds => some ds
  | .str x => if x.length ≤ sizeLine then some (signs x) else none
  | _ => none
def dItems (f : Den R) : Den (List D) := fun ρ s => match f ρ s with
  | some ((.pf, d), s') => (itemsD d).map fun ds => (ds, s')
  | _ => none
def dRange (f : Den (List R)) : Den (List D) := fun ρ s => match f ρ s with
  | some ([(_, .int n)], s') => if 0 ≤ n ∧ n ≤ 16777216 then some ((List.range n.toNat).map fun i => .int (i : Nat), s') else none
  | _ => none
def enumL (ds : List D) : List D := (List.range ds.length).zipWith (fun i d => .tuple [.int (i : Nat), d]) ds
def zipL (ds es : List D) : List D := ds.zipWith (fun d e => .tuple [d, e]) es
def dEnum (f : Den (List R)) : Den (List D) := fun ρ s => match f ρ s with
  | some ([(.pf, .list ds)], s') => some (enumL ds, s')
  | some ([(.pf, .tuple ds)], s') => some (enumL ds, s')
  | _ => none
def dZip (f : Den (List R)) : Den (List D) := fun ρ s => match f ρ s with
  | some ([(.pf, .list ds), (.pf, .list es)], s') => some (zipL ds es, s')
  | some ([(.pf, .tuple ds), (.pf, .tuple es)], s') => some (zipL ds es, s')
  | _ => none
section
variable {X : Cx} {c : Cel} {a b tg : Expr} {pos p1 : Pos} {f : Den R}
theorem wk_list {W : Wd} {H1 : Hp} {l : Addr} {vs : List V} {ds : List D} {o : Obj} (h : H1 l = some (.frz o (.lst vs))) (q : PFs W.K H1 vs ds) (z : vs.length ≤ sizeLine) : Wk W (Pers H1) (Itl W.K l) ds := by
  refine ⟨by rw [← q.length]; exact z, _, _, _, walk_list (xs := vs), q.length, fun H p => .inl (.inr ⟨o, p.frzs _ _ _ h⟩), fun i H x H' hi p y => ?_⟩
  obtain ⟨rfl, hx⟩ := y
  obtain ⟨d, h1, h2⟩ := q.getV hx
  exact ⟨d, h1, .refl _, PF.pers p _ _ h2⟩
theorem wk_tup {W : Wd} {H1 : Hp} {l : Addr} {vs : List V} {ds : List D} (h : SqT W.K H1 l vs) (q : PFs W.K H1 vs ds) (z : vs.length ≤ sizeLine) : Wk W (Pers H1) (Itt W.K l) ds := by
  refine ⟨by rw [← q.length]; exact z, _, _, _, walk_tup (xs := vs), q.length, fun H p => p.sqT h, fun i H x H' hi p y => ?_⟩
  obtain ⟨rfl, hx⟩ := y
  obtain ⟨d, h1, h2⟩ := q.getV hx
  exact ⟨d, h1, .refl _, PF.pers p _ _ h2⟩
theorem wk_str {W : Wd} {H1 : Hp} {x : Str} (k : PyData.strOk x = true) (z : x.length ≤ sizeLine) : Wk W (Pers H1) (Its x) (signs x) := by
  have e : x.cps.size = (signs x).length := by simp [signs]
  refine ⟨by rw [← e]; exact z, _, _, _, walk_str (z := x), e, fun H p => trivial, fun i H v H' hi p y => ?_⟩
  obtain ⟨rfl, ch, hc, rfl⟩ := y
  refine ⟨.str ⟨#[ch]⟩, ?_, .refl _, .str _ (strOk_one k ?_)⟩
  · unfold signs
    rw [List.getElem?_map, Array.getElem?_toList, hc]
    rfl
  · exact Array.mem_toList_iff.mpr (Array.mem_of_getElem? hc)
theorem iv_str {pins : List (Addr × Obj)} {σ : L2.St} {H : Hp} {s : Shared} {R : It → Hp → Prop} {x : Str} {t : Tok} {E : Value → Shared → Prop} (I : Inv X pins σ H s) (fin : R (Its x) H) : wpAny (model X.prog X.w) X.A (pyIter (.str x t)) (PIE X pins σ tg R) E s := by
  cases hb : x.cps.all (· < 128)
  · exact wpAny_pyIter_wide hb (pi_one (tk := s.toks) I _ (turn_str _ x t "str_iterator" (.inr rfl)) ⟨_, Heap.get?_push_size _ rfl, rfl, rfl⟩ fin)
  · exact wpAny_pyIter_ascii hb (pi_one (tk := s.toks) I _ (turn_str _ x t "str_ascii_iterator" (.inl rfl)) ⟨_, Heap.get?_push_size _ rfl, rfl, rfl⟩ fin)
theorem ci_val (ha : PE X a (tD (wd X) c f)) : PI X tg a (tI (wd X) c true (dItems f)) := by
  refine ⟨fun pins s σ H R I h => ?_⟩
  obtain ⟨ρ, st, ds, st', E, hf, q⟩ := h
  unfold dItems at hf
  split at hf
  · rename_i d s1 h1
    cases h2 : itemsD d with
    | none => rw [h2] at hf; cases hf
    | some ds' =>
      rw [h2] at hf
      cases hf
      refine thn (ha.run pins s σ H (fun v H1 => Ext c.fp H H1 ∧ CelOk (wd X) c st' H1 ∧ PF X.K H1 v d) I ⟨ρ, st, _, _, E, h1, fun v H1 e k rs => ⟨e, k, rs⟩⟩) fun u s2 ⟨v, H1, I1, rv, e1, k1, pf⟩ => ?_
      unfold itemsD at h2
      split at h2
      · cases h2
        cases pf with
        | lst hl pq =>
          cases rv
          obtain ⟨its, r1, p, z⟩ := I1.list (.inl (.inr ⟨_, hl⟩))
          exact wpAny_pyIter_list p.isList (pi_one (tk := s2.toks) I1 _ (turn_list _ _) ⟨_, Heap.get?_push_size _ rfl, rfl, rfl⟩ (q _ H1 e1 k1 (wk_list hl pq z)))
      · cases h2
        cases pf with
        | tup hl pq =>
          cases rv
          obtain ⟨its, r1, p, z⟩ := I1.tuple hl
          exact wpAny_pyIter_tuple (show s2.heap.IsTuple _ its.toArray from p) (pi_one (tk := s2.toks) I1 _ (turn_tuple _ _) ⟨_, Heap.get?_push_size _ rfl, rfl, rfl⟩ (q _ H1 e1 k1 (wk_tup hl pq z)))
      · split at h2
        · rename_i y hz
          cases h2
          obtain ⟨ev, k⟩ := Co.PO.str (W := wd X) (.inl pf)
          subst ev
          obtain ⟨t, rfl⟩ := rv
          exact iv_str I1 (q _ H1 e1 k1 (wk_str k hz))
        · cases h2
      · cases h2
  · cases hf
theorem ci_range {g : Den (List R)} (hg : Gl X "range") (hm : X.mg "range" = none) (ha : PA X [a] (tDA (wd X) c g)) (hs : starEach [a] X.env = [(false, eval a X.env)]) : PI X tg (.Call (.Name "range" p1) [a] [] pos) (tI (wd X) c true (dRange g)) := by
  refine ⟨fun pins s σ H R I h => (pi_range1 hg hm ha hs).run pins s σ H R I ?_⟩
  obtain ⟨ρ, st, ds, st', E, hf, q⟩ := h
  unfold dRange at hf
  split at hf
  · rename_i fl n s1 h1
    split at hf
    · rename_i hn
      cases hf
      refine ⟨ρ, st, _, _, E, h1, fun vs H1 e1 k1 ok => ?_⟩
      cases ok with
      | cons pr t =>
        cases t
        have e := pr.1.int
        subst e
        refine ⟨n, rfl, by omega, by omega, q _ H1 e1 k1 ⟨by rw [List.length_map, List.length_range, sizeLine_eq]; omega, _, _, _, walk_range (lo := 0) (n := n.toNat), by simp, fun _ _ => trivial, fun i H x H' hi p y => ?_⟩⟩
        obtain ⟨rfl, rfl⟩ := y
        refine ⟨.int (i : Nat), ?_, .refl _, ?_⟩
        · rw [List.getElem?_map, List.getElem?_range hi]; rfl
        · show PF _ _ (.int (0 + (i : Int))) _
          rw [Int.zero_add]
          exact .int _
    · cases hf
  · cases hf
theorem ypair_pf {W : Wd} {H H' : Hp} {v : V} {T : Addr} {x y : V} {d e : D} (hv : v = .ref T) (hT : H T = none) (hH : H' = upd H T (.tup [x, y])) (h1 : PF W.K H x d) (h2 : PF W.K H y e) : Same H H' ∧ PF W.K H' v (.tuple [d, e]) := by
  subst hv; subst hH
  refine ⟨same_new hT, ?_⟩
  exact (Rs.tup (W := W) hT (.cons h1 (.cons h2 .nil)) : PF W.K _ _ _)
theorem enum_get {ds : List D} {i : Nat} {d : D} (h : ds[i]? = some d) : (enumL ds)[i]? = some (.tuple [.int (i : Nat), d]) := by
  have hi := (List.getElem?_eq_some_iff.mp h).1
  unfold enumL
  rw [List.getElem?_zipWith, List.getElem?_range hi, h]
theorem zip_get {ds es : List D} {i : Nat} {d e : D} (h : ds[i]? = some d) (h' : es[i]? = some e) : (zipL ds es)[i]? = some (.tuple [d, e]) := by
  unfold zipL
  rw [List.getElem?_zipWith, h, h']
theorem enum_len (ds : List D) : (enumL ds).length = ds.length := by unfold enumL; simp
theorem zip_len (ds es : List D) : (zipL ds es).length = min ds.length es.length := by unfold zipL; simp
theorem ci_enum {g : Den (List R)} {elts : List Expr} {kk : Nat} {tpos : Pos} (hg : Gl X "enumerate") (hm : X.mg "enumerate" = none) (ha : PA X [a] (tDA (wd X) c g)) (hs : starEach [a] X.env = [(false, eval a X.env)]) :
    PI X (.Tuple elts kk tpos) (.Call (.Name "enumerate" p1) [a] [] pos) (tI (wd X) c true (dEnum g)) := by
  refine ⟨fun pins s σ H R I h => ?_⟩
  obtain ⟨ρ, st, ds, st', E, hf, q⟩ := h
  unfold dEnum at hf
  split at hf
  · rename_i ds s1 h1
    cases hf
    refine thn ((pi_enum (elts := elts) (kk := kk) (tpos := tpos) hg hm ha hs).run pins s σ H (fun J H1 => ∃ l o vs, J = Ite X.K l ∧ H1 l = some (.frz o (.lst vs)) ∧ PFs X.K H1 vs ds ∧ Ext c.fp H H1 ∧ CelOk (wd X) c st' H1) I ?_) fun v s1 h1 => thn h1 fun itv s2 ⟨it, fp, tn, J, H', e, I2, T, st, f2, l, o, vs, eJ, hl, pq, e1, k1⟩ => ?_
    · refine ⟨ρ, st, _, _, E, h1, fun vs H1 e1 k1 ok => ?_⟩
      cases ok with
      | cons pr t =>
        cases t
        have pf := pr.2 rfl
        cases pf with
        | lst hl pq => exact ⟨_, _, rfl, .inl (.inr ⟨_, hl⟩), _, _, _, rfl, hl, pq, e1, k1⟩
    · subst eJ
      obtain ⟨its, rv, p', hz⟩ := I2.list (.inl (.inr ⟨_, hl⟩))
      refine ⟨it, fp, tn, _, H', e, I2, T, st, f2, q _ H' e1 k1 ⟨by rw [enum_len, ← pq.length]; exact hz, _, _, _, walk_enum (xs := vs), by rw [enum_len, pq.length], fun H p => .inl (.inr ⟨_, p.frzs _ _ _ hl⟩), fun i H x H' hi p y => ?_⟩⟩
      obtain ⟨T', x1, x2, hv, hT, hH, hx1, hx2⟩ := y
      cases hx1
      obtain ⟨d, hd, pd⟩ := pq.getV hx2
      have := ypair_pf (W := wd X) hv hT hH (.int _) (PF.pers p _ _ pd)
      exact ⟨_, enum_get hd, this.1, this.2⟩
  · rename_i ds s1 h1
    cases hf
    refine thn ((pi_enumT (elts := elts) (kk := kk) (tpos := tpos) hg hm ha hs).run pins s σ H (fun J H1 => ∃ l vs, J = Itet X.K l ∧ SqT X.K H1 l vs ∧ PFs X.K H1 vs ds ∧ Ext c.fp H H1 ∧ CelOk (wd X) c st' H1) I ?_) fun v s1 h1 => thn h1 fun itv s2 ⟨it, fp, tn, J, H', e, I2, T, st, f2, l, vs, eJ, hl, pq, e1, k1⟩ => ?_
    · refine ⟨ρ, st, _, _, E, h1, fun vs H1 e1 k1 ok => ?_⟩
      cases ok with
      | cons pr t =>
        cases t
        have pf := pr.2 rfl
        cases pf with
        | tup hl pq => exact ⟨_, _, rfl, hl, _, _, rfl, hl, pq, e1, k1⟩
    · subst eJ
      obtain ⟨its, rv, p', hz⟩ := I2.tuple hl
      refine ⟨it, fp, tn, _, H', e, I2, T, st, f2, q _ H' e1 k1 ⟨by rw [enum_len, ← pq.length]; exact hz, _, _, _, walk_enumT (xs := vs), by rw [enum_len, pq.length], fun H p => p.sqT hl, fun i H x H' hi p y => ?_⟩⟩
      obtain ⟨T', x1, x2, hv, hT, hH, hx1, hx2⟩ := y
      cases hx1
      obtain ⟨d, hd, pd⟩ := pq.getV hx2
      have := ypair_pf (W := wd X) hv hT hH (.int _) (PF.pers p _ _ pd)
      exact ⟨_, enum_get hd, this.1, this.2⟩
  · cases hf
theorem ci_zip {g : Den (List R)} {elts : List Expr} {kk : Nat} {tpos : Pos} (hg : Gl X "zip") (hm : X.mg "zip" = none) (ha : PA X [a, b] (tDA (wd X) c g)) (hs : starEach [a, b] X.env = (false, eval a X.env) :: starEach [b] X.env) (hs2 : (starEach [b] X.env).any (·.1) = false) :
    PI X (.Tuple elts kk tpos) (.Call (.Name "zip" p1) [a, b] [] pos) (tI (wd X) c true (dZip g)) := by
  refine ⟨fun pins s σ H R I h => ?_⟩
  obtain ⟨ρ, st, ds, st', E, hf, q⟩ := h
  unfold dZip at hf
  split at hf
  · rename_i ds es s1 h1
    cases hf
    refine thn ((RZ.pi_zipA (elts := elts) (kk := kk) (tpos := tpos) hg hm ha hs (back_any hs2 pos)).run pins s σ H (fun J H1 => ∃ l m o o' vs ws, J = Itz X.K l m ∧ H1 l = some (.frz o (.lst vs)) ∧ PFs X.K H1 vs ds ∧ H1 m = some (.frz o' (.lst ws)) ∧ PFs X.K H1 ws es ∧ Ext c.fp H H1 ∧ CelOk (wd X) c st' H1) I ?_) fun v s1 h1 => thn h1 fun itv s2 ⟨it, fp, tn, J, H', e, I2, T, st, f2, l, m, o, o', vs, ws, eJ, hl, pq, hl2, pq2, e1, k1⟩ => ?_
    · refine ⟨ρ, st, _, _, E, h1, fun vs H1 e1 k1 ok => ?_⟩
      cases ok with
      | cons pr t =>
        cases t with
        | cons pr2 t =>
          cases t
          have pf := pr.2 rfl
          have pf2 := pr2.2 rfl
          cases pf with
          | lst hl pq =>
            cases pf2 with
            | lst hl2 pq2 => exact ⟨_, _, _, _, rfl, .inl ⟨.inl (.inr ⟨_, hl⟩), .inl (.inr ⟨_, hl2⟩), _, _, _, _, _, _, rfl, hl, pq, hl2, pq2, e1, k1⟩⟩
    · subst eJ
      obtain ⟨its, rv, p', hz⟩ := I2.list (.inl (.inr ⟨_, hl⟩))
      have m1 := pq.length
      have m2 := pq2.length
      refine ⟨it, fp, tn, _, H', e, I2, T, st, f2, q _ H' e1 k1 ⟨by rw [zip_len]; omega, _, _, _, walk_zip (xs := vs) (ys := ws) rfl, by rw [zip_len]; omega, fun H p => ⟨.inl (.inr ⟨_, p.frzs _ _ _ hl⟩), .inl (.inr ⟨_, p.frzs _ _ _ hl2⟩)⟩, fun i H x H' hi p y => ?_⟩⟩
      obtain ⟨T', x1, x2, hv, hT, hH, hx1, hx2⟩ := y
      obtain ⟨d, hd, pd⟩ := pq.getV hx1
      obtain ⟨d', hd', pd'⟩ := pq2.getV hx2
      have := ypair_pf (W := wd X) hv hT hH (PF.pers p _ _ pd) (PF.pers p _ _ pd')
      exact ⟨_, zip_get hd hd', this.1, this.2⟩
  · rename_i ds es s1 h1
    cases hf
    refine thn ((RZ.pi_zipA (elts := elts) (kk := kk) (tpos := tpos) hg hm ha hs (back_any hs2 pos)).run pins s σ H (fun J H1 => ∃ l m vs ws, J = RZ.ItzT X.K l m ∧ SqT X.K H1 l vs ∧ PFs X.K H1 vs ds ∧ SqT X.K H1 m ws ∧ PFs X.K H1 ws es ∧ Ext c.fp H H1 ∧ CelOk (wd X) c st' H1) I ?_) fun v s1 h1 => thn h1 fun itv s2 ⟨it, fp, tn, J, H', e, I2, T, st, f2, l, m, vs, ws, eJ, hl, pq, hl2, pq2, e1, k1⟩ => ?_
    · refine ⟨ρ, st, _, _, E, h1, fun vs H1 e1 k1 ok => ?_⟩
      cases ok with
      | cons pr t =>
        cases t with
        | cons pr2 t =>
          cases t
          have pf := pr.2 rfl
          have pf2 := pr2.2 rfl
          cases pf with
          | tup hl pq =>
            cases pf2 with
            | tup hl2 pq2 => exact ⟨_, _, _, _, rfl, .inr ⟨hl, hl2, _, _, _, _, rfl, hl, pq, hl2, pq2, e1, k1⟩⟩
    · subst eJ
      obtain ⟨its, rv, p', hz⟩ := I2.tuple hl
      have m1 := pq.length
      have m2 := pq2.length
      refine ⟨it, fp, tn, _, H', e, I2, T, st, f2, q _ H' e1 k1 ⟨by rw [zip_len]; omega, min vs.length ws.length, (fun H => SqT X.K H l vs ∧ SqT X.K H m ws), YPair (fun i => vs[i]?) (fun i => ws[i]?), ?_, by rw [zip_len]; omega, fun H p => ⟨p.sqT hl, p.sqT hl2⟩, fun i H x H' hi p y => ?_⟩⟩
      · refine ⟨fun i H hi G => ?_, fun H G => ⟨vs, ws, G.1, G.2, by omega⟩, fun i H x H' hi G y => ?_⟩
        · have g1 : i < vs.length := by omega
          have g2 : i < ws.length := by omega
          exact ⟨vs, ws, vs[i], ws[i], G.1, G.2, by simp [g1], by simp [g2]⟩
        · obtain ⟨T', x1, x2, y1, y2, y3, y4, y5⟩ := y
          exact ⟨T', x1, x2, y1, y2, y3, y4 vs G.1, y5 ws G.2⟩
      · obtain ⟨T', x1, x2, hv, hT, hH, hx1, hx2⟩ := y
        obtain ⟨d, hd, pd⟩ := pq.getV hx1
        obtain ⟨d', hd', pd'⟩ := pq2.getV hx2
        have := ypair_pf (W := wd X) hv hT hH (PF.pers p _ _ pd) (PF.pers p _ _ pd')
        exact ⟨_, zip_get hd hd', this.1, this.2⟩
  · cases hf
end
end Co
end

section
set_option Elab.async false
set_option linter.all false
set_option maxRecDepth 100000
set_option autoImplicit false
namespace Co
open PySem PySem.Spec L2
variable [Tbs]

/-! ### targets -/
mutual
inductive Tg where
  | one (i : Nat)
  | tup (ts : Tgs)
inductive Tgs where
  | nil
  | cons (t : Tg) (ts : Tgs)
end
mutual
def Tg.slots : Tg → List Nat
  | .one i => [i]
  | .tup ts => ts.slots
def Tgs.slots : Tgs → List Nat
  | .nil => []
  | .cons t ts => t.slots ++ ts.slots
end
def Tgs.len : Tgs → Nat
  | .nil => 0
  | .cons _ ts => ts.len + 1
mutual
def bindT : Tg → D → Rho → Option Rho
  | .one i, d, ρ => some (ρ.set i (some (.val d)))
  | .tup ts, .tuple ds, ρ => if ds.length = ts.len then bindTs ts ds ρ else none
  | .tup _, _, _ => none
def bindTs : Tgs → List D → Rho → Option Rho
  | .nil, [], ρ => some ρ
  | .cons t ts, d :: ds, ρ => (bindT t d ρ).bind fun ρ' => bindTs ts ds ρ'
  | _, _, _ => none
end
/-- a name may be stored there -/
def stB (sc : Scope) (all : Bool) (x : Str) : Bool := match sc.names.lookup x with
  | some .local => true
  | some .cell => all
  | _ => false
mutual
def matchT (N : List Str) (sc : Scope) (all : Str → Bool) : Tg → Expr → Bool
  | .one i, .Name x _ => decide (N[i]? = some x) && stB sc (all x) x
  | .tup ts, .Tuple es _ _ => matchTs N sc all ts es
  | _, _ => false
def matchTs (N : List Str) (sc : Scope) (all : Str → Bool) : Tgs → List Expr → Bool
  | .nil, [] => true
  | .cons t ts, e :: es => matchT N sc all t e && matchTs N sc all ts es
  | _, _ => false
end
theorem wipe_set {σ : L2.St} {v : Option V} : ∀ {vs : List Nat} {i : Nat}, i ∈ vs → wipe (σ.set i v) vs = wipe σ vs
  | j :: vs, i, h => by
    unfold wipe
    by_cases hi : i = j
    · subst hi
      by_cases h2 : i ∈ vs
      · rw [wipe_set h2]
      · have : wipe (σ.set i v) vs = (wipe σ vs).set i v := by
          clear h
          induction vs with
          | nil => rfl
          | cons k vs ih =>
            unfold wipe
            rw [List.mem_cons, not_or] at h2
            rw [ih h2.2, List.set_comm _ _ h2.1]
        rw [this, List.set_set]
    · have h2 : i ∈ vs := by
        cases h with
        | head => exact absurd rfl hi
        | tail _ h => exact h
      rw [wipe_set h2]
def wipeR (ρ : Rho) : List Nat → Rho
  | [] => ρ
  | v :: vs => (wipeR ρ vs).set v none
theorem wipeR_some {ρ : Rho} {i : Nat} {e : Ent} : ∀ {vs : List Nat}, (wipeR ρ vs)[i]? = some (some e) → ρ[i]? = some (some e) ∧ i ∉ vs
  | [], h => ⟨h, by simp⟩
  | v :: vs, h => by
    unfold wipeR at h
    by_cases hi : v = i
    · subst hi
      by_cases hv : v < (wipeR ρ vs).length
      · rw [List.getElem?_set_self hv] at h; cases h
      · rw [List.getElem?_eq_none (by simpa using hv)] at h; cases h
    · rw [List.getElem?_set_ne hi] at h
      obtain ⟨h1, h2⟩ := wipeR_some h
      exact ⟨h1, by simp only [List.mem_cons, not_or]; exact ⟨fun e => hi e.symm, h2⟩⟩
theorem wipeR_len (ρ : Rho) : ∀ vs : List Nat, (wipeR ρ vs).length = ρ.length
  | [] => rfl
  | v :: vs => by unfold wipeR; rw [List.length_set, wipeR_len ρ vs]
theorem Est.wipe {W : Wd} {c : Cel} {ρ : Rho} {s : D} {σ : L2.St} {H : Hp} (E : Est W c ρ s σ H) (vs : List Nat) : Est W c (wipeR ρ vs) s (L2.wipe σ vs) H := by
  refine ⟨fun i e h => ?_, fun i j d e a h1 h2 h3 h4 => ?_, E.cell, by rw [wipeR_len, wipe_length]; exact E.len⟩
  · obtain ⟨h1, h2⟩ := wipeR_some h
    obtain ⟨v, h3, h4⟩ := E.slot i e h1
    exact ⟨v, by rw [wipe_out h2]; exact h3, h4⟩
  · exact E.apart i j d e a (wipeR_some h1).1 (wipeR_some h2).1 (wipe_some h3).1 (wipe_some h4).1
theorem Est.set {W : Wd} {c : Cel} {ρ : Rho} {s : D} {σ : L2.St} {H : Hp} (E : Est W c ρ s σ H) {i : Nat} {v : V} {d : D} (p : PF W.K H v d) : Est W c (ρ.set i (some (.val d))) s (σ.set i (some v)) H := by
  have key : ∀ (j : Nat) (e : D), (ρ.set i (some (.val d)))[j]? = some (some (.own e)) → j ≠ i ∧ ρ[j]? = some (some (.own e)) := fun j e h => by
    by_cases hj : i = j
    · subst hj
      by_cases hi : i < ρ.length
      · rw [List.getElem?_set_self hi] at h; cases h
      · rw [List.getElem?_eq_none (by simpa using hi)] at h; cases h
    · rw [List.getElem?_set_ne hj] at h
      exact ⟨fun e => hj e.symm, h⟩
  refine ⟨fun j e h => ?_, fun j k d1 d2 a h1 h2 h3 h4 => ?_, E.cell, by simp [E.len]⟩
  · by_cases hj : i = j
    · subst hj
      by_cases hi : i < ρ.length
      · rw [List.getElem?_set_self hi] at h
        cases h
        exact ⟨v, by rw [List.getElem?_set_self (by rw [← E.len]; exact hi)], p⟩
      · rw [List.getElem?_eq_none (by simpa using hi)] at h; cases h
    · rw [List.getElem?_set_ne hj] at h ⊢
      exact E.slot j e h
  · obtain ⟨n1, g1⟩ := key j d1 h1
    obtain ⟨n2, g2⟩ := key k d2 h2
    rw [List.getElem?_set_ne (Ne.symm n1)] at h3
    rw [List.getElem?_set_ne (Ne.symm n2)] at h4
    exact E.apart j k d1 d2 a g1 g2 h3 h4
def gD (W : Wd) (c : Cel) (t : Tg) : TG := fun v σ H Q => ∃ ρ s d ρ', Est W c ρ s σ H ∧ PF W.K H v d ∧ bindT t d ρ = some ρ' ∧ ∀ σ', Est W c ρ' s σ' H → (∀ vs, (∀ i ∈ t.slots, i ∈ vs) → wipe σ' vs = wipe σ vs) → Q σ' H
def gDs (W : Wd) (c : Cel) (t : Tgs) : TGs := fun vs σ H Q => ∃ ρ s ds ρ', Est W c ρ s σ H ∧ PFs W.K H vs ds ∧ bindTs t ds ρ = some ρ' ∧ ∀ σ', Est W c ρ' s σ' H → (∀ vs, (∀ i ∈ t.slots, i ∈ vs) → wipe σ' vs = wipe σ vs) → Q σ' H
theorem _root_.L2.PG.imp {X : Cx} {e : Expr} {t t' : TG} (h : PG X e t) (i : ∀ v σ H Q, t' v σ H Q → t v σ H Q) : PG X e t' := ⟨fun pins s σ H v u Q I r q => h.run pins s σ H v u Q I r (i v σ H Q q)⟩
theorem _root_.L2.PGs.imp {X : Cx} {e : List Expr} {t t' : TGs} (h : PGs X e t) (i : ∀ v σ H Q, t' v σ H Q → t v σ H Q) : PGs X e t' := ⟨fun pins s σ H v u Q I r q => h.run pins s σ H v u Q I r (i v σ H Q q)⟩
section
variable {X : Cx} {c : Cel} {all : Str → Bool}
theorem stB_loc {sc : Scope} {k : Bool} {x : Str} (h : stB sc k x = true) : Loc sc x ∧ (k = true ∨ sc.names.lookup x = some .local) := by
  unfold stB at h
  split at h
  · rename_i e; exact ⟨.inl e, .inr e⟩
  · rename_i e; exact ⟨.inr e, .inl h⟩
  · cases h
theorem tgs_len {N : List Str} {sc : Scope} : ∀ {ts : Tgs} {es : List Expr} {env : Env}, matchTs N sc all ts es = true → (assignEach es env).length = ts.len ∧ (assignEach es env).findIdx? (·.1) = none
  | .nil, [], env, h => ⟨rfl, rfl⟩
  | .nil, _ :: _, env, h => by cases h
  | .cons t ts, [], env, h => by cases h
  | .cons t ts, e :: es, env, h => by
    unfold matchTs at h
    rw [Bool.and_eq_true] at h
    obtain ⟨l, n⟩ := tgs_len (env := env) h.2
    have h1 := h.1
    cases e <;> first | (cases t <;> (unfold matchT at h1; cases h1)) | (unfold assignEach; refine ⟨by rw [List.length_cons, l]; rfl, ?_⟩; rw [List.findIdx?_cons, n]; rfl)
mutual
theorem cg (hc : X.calm = true) (hN : X.N.Nodup) (hall : ∀ x, all x = true → X.fn x = true) : ∀ (t : Tg) (e : Expr), matchT X.N X.env.scope all t e = true → PG X e (gD (wd X) c t)
  | .one i, .Name x p, h => by
    unfold matchT at h
    rw [Bool.and_eq_true, decide_eq_true_eq] at h
    obtain ⟨l, f⟩ := stB_loc h.2
    refine (pg_name hN h.1 l (f.imp (hall x) id)).imp fun v σ H Q q => ?_
    obtain ⟨ρ, s, d, ρ', E, pf, hb, q⟩ := q
    cases hb
    exact q _ (E.set pf) fun vs hv => wipe_set (hv i (by simp [Tg.slots]))
  | .tup ts, .Tuple es k p, h => by
    unfold matchT at h
    obtain ⟨l, n⟩ := tgs_len (env := X.env) h
    refine (pg_tup hc (cgs hc hN hall ts es h) l n).imp fun v σ H Q q => ?_
    obtain ⟨ρ, s, d, ρ', E, pf, hb, q⟩ := q
    cases pf with
    | tup hs pq =>
      rw [bindT] at hb
      split at hb
      · rename_i hl
        exact ⟨_, _, rfl, hs, by rw [pq.length]; exact hl, ρ, s, _, ρ', E, pq, hb, q⟩
      · cases hb
    | non => simp [bindT] at hb
    | bl b => simp [bindT] at hb
    | int i => simp [bindT] at hb
    | str x k => simp [bindT] at hb
    | lst x k => simp [bindT] at hb
theorem cgs (hc : X.calm = true) (hN : X.N.Nodup) (hall : ∀ x, all x = true → X.fn x = true) : ∀ (t : Tgs) (es : List Expr), matchTs X.N X.env.scope all t es = true → PGs X es (gDs (wd X) c t)
  | .nil, [], h => pgs_nil.imp fun v σ H Q q => by
    obtain ⟨ρ, s, d, ρ', E, pf, hb, q⟩ := q
    cases pf with
    | nil =>
      cases hb
      exact ⟨rfl, q σ E fun _ _ => rfl⟩
    | cons a b => cases hb
  | .cons t ts, e :: es, h => by
    unfold matchTs at h
    rw [Bool.and_eq_true] at h
    have h1 := h.1
    have hs : (assignEach (e :: es) X.env).map (·.2) = assign e X.env :: (assignEach es X.env).map (·.2) := by
      cases e <;> first | rfl | (cases t <;> (unfold matchT at h1; cases h1))
    refine (pgs_cons (cg hc hN hall t e h.1) (cgs hc hN hall ts es h.2) hs).imp fun v σ H Q q => ?_
    obtain ⟨ρ, s, d, ρ', E, pf, hb, q⟩ := q
    cases pf with
    | nil => cases hb
    | cons a b =>
      unfold bindTs at hb
      obtain ⟨ρ1, hb1, hb2⟩ := bind_some hb
      refine ⟨_, _, rfl, ρ, s, _, ρ1, E, a, hb1, fun σ1 E1 w1 => ⟨ρ1, s, _, ρ', E1, b, hb2, fun σ2 E2 w2 => q σ2 E2 fun vs hv => ?_⟩⟩
      rw [w2 vs fun i hi => hv i (by simp [Tgs.slots, hi]), w1 vs fun i hi => hv i (by simp [Tgs.slots, hi])]
end
end
end Co
end

section
set_option Elab.async false
set_option linter.all false
set_option maxRecDepth 100000
set_option autoImplicit false
namespace Co
open PySem PySem.Spec L2
variable [Tbs]

/-! ### list comprehensions -/
theorem wipe_wipe (σ : L2.St) (vs : List Nat) : wipe (wipe σ vs) vs = wipe σ vs := by
  have gen : ∀ (us : List Nat) (τ : L2.St), (∀ u ∈ us, u ∈ vs) → wipe (wipe τ us) vs = wipe τ vs := by
    intro us
    induction us with
    | nil => intro τ _; rfl
    | cons u us ih =>
      intro τ hu
      show wipe ((wipe τ us).set u none) vs = _
      rw [wipe_set (hu u (by simp)), ih τ fun z hz => hu z (by simp [hz])]
  exact gen vs σ fun u hu => hu
def lcLoop (t : Tg) (test : Den Bool) (elt : Den R) (ρ : Rho) : List D → List D → D → Option (List D × D)
  | [], acc, s => some (acc, s)
  | d :: ds, acc, s => do
    let ρ1 ← bindT t d ρ
    let (b, s1) ← test ρ1 s
    if b then do
      let (r, s2) ← elt ρ1 s1
      match r with
      | (.pf, e) => lcLoop t test elt ρ ds (acc ++ [e]) s2
      | _ => none
    else lcLoop t test elt ρ ds acc s1
def dLc (t : Tg) (vs : List Nat) (g : Den (List D)) (test : Den Bool) (elt : Den R) : Den R := fun ρ s => do
  let (ds, s1) ← g ρ s
  let (out, s2) ← lcLoop t test elt (wipeR ρ vs) ds [] s1
  some ((.fr, .list out), s2)
def dYes : Den Bool := fun _ s => some (true, s)
theorem ct_yes {X : Cx} {c : Cel} : PTs X [] (tDT (wd X) c dYes) := ⟨fun pins s σ H Q I h => by
  obtain ⟨ρ, st, r, st', E, hf, q⟩ := h
  cases hf
  exact pts_nil.run pins s σ H Q I (q H (.refl _ H) E.cell)⟩
theorem ext_upd {fp : List Addr} {H H1 : Hp} {D : Addr} {o : HO} (e : Ext fp H H1) (n : H D = none) (mu : Mut (H1 D) ∨ H1 D = none) : Ext fp H (upd H1 D o) := by
  refine ⟨fun b u z nb => ?_, ⟨fun b xs z => ?_, fun b ob u z => ?_⟩⟩
  · rw [upd_ne (ne_of_none z n)]; exact e.keep b u z nb
  · rw [upd_ne (ne_of_none z n)]; exact e.pers.tups b xs z
  · rw [upd_ne (ne_of_none z n)]; exact e.pers.frzs b ob u z
theorem pers_upd {H : Hp} {D : Addr} {o : HO} (mu : Mut (H D) ∨ H D = none) : Pers H (upd H D o) := by
  refine ⟨fun b xs z => ?_, fun b ob u z => ?_⟩
  · rw [upd_ne (fun w => by rw [← w, z] at mu; rcases mu with m | m; exact m; cases m)]; exact z
  · rw [upd_ne (fun w => by rw [← w, z] at mu; rcases mu with m | m; exact m; cases m)]; exact z
theorem CelOk.upd {W : Wd} {c : Cel} {s : PyData} {H : Hp} (h : CelOk W c s H) {D : Addr} {o : HO} (n : D ∉ c.fp) (mu : Other H D) : CelOk W c s (L2.upd H D o) := by
  obtain ⟨ht, h⟩ := h
  refine ⟨tabs_upd ht (fun b hb => by rw [upd_ne hb]) mu, ?_⟩
  have mu' : Mut (H D) ∨ H D = none := by
    rcases mu with ⟨vs, e⟩ | e | ⟨f, e | ⟨o, es, ep, e, _⟩⟩
    · rw [e]; exact .inl trivial
    · exact .inr e
    · rw [e]; exact .inl trivial
    · rw [e]; exact .inl trivial
  have pe := pers_upd (o := o) mu'
  cases c with
  | no => trivial
  | bag a =>
    have na : a ≠ D := fun w => n (by rw [← w]; simp [Cel.fp, Cel.f0])
    exact ⟨h.1, h.2.pers pe (by rw [upd_ne na])⟩
  | pl C x dx kd =>
    obtain ⟨hh, m, w, kvs, vh, vm, vw, rfl, hx, p1, p2, p3, ob⟩ := h
    have na : kd ≠ D := fun w => n (by rw [← w]; simp [Cel.fp, Cel.f0])
    have nx : x ≠ D := fun w => by
      subst w
      rcases mu with ⟨vs, e⟩ | e | ⟨f, e | ⟨o, es, ep, e, _⟩⟩ <;> (rw [hx] at e; cases e)
    exact ⟨hh, m, w, kvs, vh, vm, vw, rfl, by rw [upd_ne nx]; exact hx, PF.pers pe _ _ p1, PF.pers pe _ _ p2, PF.pers pe _ _ p3, ob.pers pe (by rw [upd_ne na])⟩
  | scr sa =>
    obtain ⟨ns, rfl, fz⟩ := h
    exact ⟨ns, rfl, fz.pers pe⟩
  | scl sa =>
    obtain ⟨ns, rfl, fz⟩ := h
    have na : sa ≠ D := fun w => n (by rw [← w]; simp [Cel.fp, Cel.f0])
    exact ⟨ns, rfl, by rw [upd_ne na]; exact fz⟩
section
variable {X : Cx} {c : Cel} {elt tg iter : Expr} {ifs : List Expr} {scope : Scope} {own : List (Str × Nat)} {pos : Pos}
/-- the reading of a comprehension -/
theorem lc_imp {t : Tg} {g : Den (List D)} {test : Den Bool} {f : Den R} {vs : List Nat} (hv : ∀ i ∈ t.slots, i ∈ vs) (σ : L2.St) (H : Hp) (Q : VK) (h : tD (wd X) c (dLc t vs g test f) σ H Q) :
    tLc (tI (wd X) c false g) (gD (wd X) c t) (tDT (wd X) c test) (tD (wd X) c f) vs σ H Q := by
  obtain ⟨ρ, s, r, s', E, hf, q⟩ := h
  obtain ⟨⟨ds, s1⟩, h1, hf⟩ := bind_some hf
  obtain ⟨⟨out, s2⟩, h2, hf⟩ := bind_some hf
  cases hf
  refine ⟨ρ, s, ds, s1, E, h1, fun J H1 e1 k1 ⟨hz, n, G, Y, w, hn, hG, hY⟩ => fun D hD => ?_⟩
  have nD : D ∉ c.fp := k1.not_fp hD
  have hD0 : H D = none := by
    cases z : H D with
    | none => rfl
    | some u => have := e1.keep D u z nD; rw [hD] at this; cases this
  have E1 := E.ext e1 k1
  refine lc_it w (fun i H3 => ∃ acc s3 ws, lcLoop t test f (wipeR ρ vs) (ds.drop i) acc s3 = some (out, s') ∧ acc.length ≤ i ∧ H3 D = some (.lst ws) ∧ PFs X.K H3 ws acc ∧ CelOk (wd X) c s3 H3 ∧ Ext c.fp H H3 ∧ Ext c.fp H1 H3) ?_ ?_ ?_ ?_
  · refine ⟨[], s1, [], h2, Nat.le_refl _, upd_same, .nil, k1.same (same_new hD), e1.trans (.of (same_new hD)), .of (same_new hD)⟩
  · rintro i H3 _ ⟨acc, s3, ws, _, _, _, _, _, _, e3⟩
    exact hG H3 e3
  · rintro i x H3 H4 hi ⟨acc, s3, ws, hl, ha, hw, pw, k3, e3, e13⟩ y
    obtain ⟨d, hd, sm, pd⟩ := hY i H3 x H4 hi e13 y
    have edrop : ds.drop i = d :: ds.drop (i + 1) := by
      rw [List.drop_eq_getElem_cons (by omega)]
      have : ds[i] = d := by
        rw [List.getElem?_eq_getElem (by omega)] at hd
        exact Option.some.inj hd
      rw [this]
    rw [edrop] at hl
    unfold lcLoop at hl
    obtain ⟨ρ1, hb, hl⟩ := bind_some hl
    obtain ⟨⟨b, s4⟩, ht, hl⟩ := bind_some hl
    have k4 : CelOk (wd X) c s3 H4 := k3.same sm
    have e34 : Ext c.fp H3 H4 := .of sm
    have E4 : Est (wd X) c (wipeR ρ vs) s3 (L2.wipe σ vs) H4 := (E.wipe vs).ext (e3.trans e34) k4
    refine ⟨wipeR ρ vs, s3, d, ρ1, E4, pd, hb, fun σ2 E5 hw5 => ⟨?_, ρ1, s3, b, s4, E5, ht, fun H5 e5 k5 => ?_⟩⟩
    · rw [hw5 vs hv]
      exact wipe_wipe σ vs
    · have hD5 : H5 D = some (.lst ws) := e5.keep D _ (sm _ _ hw) nD
      cases b with
      | true =>
        show (if true = true then _ else _)
        rw [if_pos rfl]
        have hl : (f ρ1 s4 >>= fun x => match x.1 with
          | (.pf, e) => lcLoop t test f (wipeR ρ vs) (ds.drop (i + 1)) (acc ++ [e]) x.2
          | _ => none) = some (out, s') := hl
        obtain ⟨⟨r, s5⟩, hf5, hl⟩ := bind_some hl
        refine ⟨ρ1, s4, r, s5, E5.ext e5 k5, hf5, fun v H6 e6 k6 r6 => ?_⟩
        obtain ⟨fl, e⟩ := r
        cases fl with
        | pf =>
          have hD6 : H6 D = some (.lst ws) := e6.keep D _ hD5 nD
          have lw := pw.length
          have pe : Pers H6 (L2.upd H6 D (.lst (ws ++ [v]))) := pers_upd (by rw [hD6]; exact .inl trivial)
          have p36 : Pers H3 H6 := (e34.pers.trans e5.pers).trans e6.pers
          refine ⟨ws, hD6, by omega, acc ++ [e], s5, ws ++ [v], hl, by rw [List.length_append]; simp; exact ha, upd_same, ?_, k6.upd nD (.inl ⟨_, hD6⟩), ext_upd (((e3.trans e34).trans e5).trans e6) hD0 (by rw [hD6]; exact .inl trivial), ext_upd ((((e13.trans e34).trans e5)).trans e6) hD (by rw [hD6]; exact .inl trivial)⟩
          exact PFs.pers pe _ _ ((PFs.pers p36 _ _ pw).append (.cons r6 .nil))
        | fr => cases hl
        | ln => cases hl
      | false =>
        show (if false = true then _ else _)
        rw [if_neg (by decide)]
        have hl : lcLoop t test f (wipeR ρ vs) (ds.drop (i + 1)) acc s4 = some (out, s') := hl
        exact ⟨acc, s4, ws, hl, by omega, hD5, PFs.pers (e34.pers.trans e5.pers) _ _ pw, k5, (e3.trans e34).trans e5, (e13.trans e34).trans e5⟩
  · rintro H3 ⟨acc, s3, ws, hl, ha, hw, pw, k3, e3, _⟩
    rw [hn, List.drop_length] at hl
    unfold lcLoop at hl
    cases hl
    exact q (.ref D) H3 e3 k3 ⟨D, rfl, hD0, nD, ws, hw, pw⟩
theorem ce_lc {t : Tg} {g : Den (List D)} {test : Den Bool} {f : Den R} (hc : X.calm = true) (hN : X.N.Nodup) (hi : PI X tg iter (tI (wd X) c false g)) (ok : BlkOk X.N X.env.scope scope own) (hv : ∀ i ∈ t.slots, i ∈ own.map (·.2))
    (hg : ∀ (s : Shared) (H : Hp) (C : Addr) (cl : List (Str × Addr)) (fp : List Addr), PG (X.blk s H scope (compEnvC scope cl C X.env) fp) tg (gD (wd X) c t))
    (ht : ∀ (s : Shared) (H : Hp) (C : Addr) (cl : List (Str × Addr)) (fp : List Addr), PTs (X.blk s H scope (compEnvC scope cl C X.env) fp) ifs (tDT (wd X) c test))
    (he : ∀ (s : Shared) (H : Hp) (C : Addr) (cl : List (Str × Addr)) (fp : List Addr), PE (X.blk s H scope (compEnvC scope cl C X.env) fp) elt (tD (wd X) c f)) (hs : ∀ x, foldedSetIterable iter X.env x = pure x) :
    PE X (.ListComp elt [⟨tg, iter, ifs, 0⟩] scope pos) (tD (wd X) c (dLc t (own.map (·.2)) g test f)) := (pe_lc hc hN hi ok hg ht he hs).imp (lc_imp hv)
end
end Co
end

section
set_option Elab.async false
set_option linter.all false
set_option maxRecDepth 100000
set_option autoImplicit false
namespace Co
open PySem PySem.Spec L2
variable [Tbs]

/-! ### statements -/
inductive Out where
  | nx (ρ : Rho)
  | rt (r : R)
abbrev DenS := Rho → D → Option (Out × D)
/-- the state within a def; G: the heap at its entry -/
structure Sst (W : Wd) (c : Cel) (G : Hp) (ρ : Rho) (s : D) (σ : L2.St) (H : Hp) : Prop where
  est : Est W c ρ s σ H
  ext : Ext c.fp G H
  own : ∀ (i : Nat) (d : D) (a : Addr), ρ[i]? = some (some (.own d)) → σ[i]? = some (some (.ref a)) → G a = none
def tS (W : Wd) (c : Cel) (G : Hp) (f : DenS) : TS := fun D σ H => ∃ ρ s o s', Sst W c G ρ s σ H ∧ f ρ s = some (o, s') ∧ match o with
  | .nx ρ' => ∀ σ' H', Sst W c G ρ' s' σ' H' → Pers H H' → D.nx σ' H'
  | .rt r => ∀ v H', Ext c.fp G H' → CelOk W c s' H' → Res W c G H' r v → r.1 ≠ .ln → D.rt v H'
theorem Sst.step {W : Wd} {c : Cel} {G : Hp} {ρ : Rho} {s s' : D} {σ : L2.St} {H H' : Hp} (S : Sst W c G ρ s σ H) (e : Ext c.fp H H') (k : CelOk W c s' H') : Sst W c G ρ s' σ H' := ⟨S.est.ext e k, S.ext.trans e, S.own⟩
def sNil : DenS := fun ρ s => some (.nx ρ, s)
def sSeq (f g : DenS) : DenS := fun ρ s => do
  let (o, s1) ← f ρ s
  match o with
  | .nx ρ1 => g ρ1 s1
  | .rt r => some (.rt r, s1)
def sDrop (f : Den R) : DenS := fun ρ s => (f ρ s).map fun x => (.nx ρ, x.2)
def sRet (f : Den R) : DenS := fun ρ s => match f ρ s with
  | some ((.pf, d), s') => some (.rt (.pf, d), s')
  | some ((.fr, d), s') => some (.rt (.fr, d), s')
  | _ => none
def sRetv (i : Nat) : DenS := fun ρ s => match ρ[i]? with
  | some (some (.val d)) => some (.rt (.pf, d), s)
  | some (some (.own d)) => some (.rt (.fr, d), s)
  | _ => none
def sIf (c : Den Bool) (f g : DenS) : DenS := fun ρ s => do
  let (b, s1) ← c ρ s
  if b then f ρ s1 else g ρ s1
def ent : R → Option Ent
  | (.pf, d) => some (.val d)
  | (.fr, d) => some (.own d)
  | (.ln, _) => none
def sSet (i : Nat) (f : Den R) : DenS := fun ρ s => do
  let (r, s1) ← f ρ s
  let e ← ent r
  some (.nx (ρ.set i (some e)), s1)
section
variable {X : Cx} {c : Cel} {G : Hp} {st : Stmt} {rest : List Stmt} {e : Expr} {pos : Pos}
theorem cs_nil : PSs X [] (tS (wd X) c G sNil) := pss_nil.imp fun D σ H h => by
  obtain ⟨ρ, s, o, s', S, hf, q⟩ := h
  cases hf
  exact q σ H S (.refl H)
theorem cs_cons {f g : DenS} (h1 : PS X st (tS (wd X) c G f)) (h2 : PSs X rest (tS (wd X) c G g)) : PSs X (st :: rest) (tS (wd X) c G (sSeq f g)) := (pss_cons h1 h2).imp fun D σ H h => by
  obtain ⟨ρ, s, o, s', S, hf, q⟩ := h
  obtain ⟨⟨o1, s1⟩, h1, hf⟩ := bind_some hf
  cases o1 with
  | nx ρ1 =>
    refine ⟨ρ, s, _, _, S, h1, fun σ1 H1 S1 p1 => ⟨ρ1, s1, o, s', S1, hf, ?_⟩⟩
    cases o with
    | nx ρ' => exact fun σ' H' S' p' => q σ' H' S' (p1.trans p')
    | rt r => exact q
  | rt r =>
    cases hf
    exact ⟨ρ, s, _, _, S, h1, q⟩
theorem cs_drop {f : Den R} (he : PE X e (tD (wd X) c f)) (hs : swapsWith e none pos.line X.env = pure false) : PS X (.Expr e pos) (tS (wd X) c G (sDrop f)) := (ps_expr he hs).imp fun D σ H h => by
  obtain ⟨ρ, s, o, s', S, hf, q⟩ := h
  unfold sDrop at hf
  cases h1 : f ρ s with
  | none => rw [h1] at hf; cases hf
  | some x =>
    rw [h1] at hf
    cases hf
    exact ⟨ρ, s, _, _, S.est, h1, fun v H1 e1 k1 _ => q σ H1 (S.step e1 k1) e1.pers⟩
theorem none_back {W : Wd} {c : Cel} {G H : Hp} (e : Ext c.fp G H) {a : Addr} (n : H a = none) (nf : a ∉ c.fp) : G a = none := by
  cases z : G a with
  | none => rfl
  | some u => have := e.keep a u z nf; rw [n] at this; cases this
theorem cs_ret {f : Den R} (he : PE X e (tD (wd X) c f)) : PS X (.Return (some e) pos) (tS (wd X) c G (sRet f)) := (ps_ret he).imp fun D σ H h => by
  obtain ⟨ρ, s, o, s', S, hf, q⟩ := h
  unfold sRet at hf
  split at hf
  · rename_i d s1 h1
    cases hf
    exact ⟨ρ, s, _, _, S.est, h1, fun v H1 e1 k1 r1 => q v H1 (S.ext.trans e1) k1 r1 (fun z => nomatch z)⟩
  · rename_i d s1 h1
    cases hf
    refine ⟨ρ, s, _, _, S.est, h1, fun v H1 e1 k1 r1 => q v H1 (S.ext.trans e1) k1 ?_ (fun z => nomatch z)⟩
    obtain ⟨a, ev, n, nf, o⟩ := r1
    exact ⟨a, ev, none_back (W := wd X) S.ext n nf, nf, o⟩
  · cases hf
theorem cs_retv {i : Nat} {x : Str} {p1 : Pos} (hN : X.N[i]? = some x) (hv : Vis X.env.scope x) (hd : (x == ("__debug__" : Str)) = false) (hcd : (x == ("__classdict__" : Str)) = false) : PS X (.Return (some (.Name x p1)) pos) (tS (wd X) c G (sRetv i)) := (ps_ret (pe_var hN hv hd hcd)).imp fun D σ H h => by
  obtain ⟨ρ, s, o, s', S, hf, q⟩ := h
  unfold sRetv at hf
  split at hf
  · rename_i d e
    cases hf
    obtain ⟨v, ev, ok⟩ := S.est.slot i _ e
    exact ⟨v, ev, q v H S.ext S.est.cell ok (fun z => nomatch z)⟩
  · rename_i d e
    cases hf
    obtain ⟨v, ev, a, ea, nf, ob⟩ := S.est.slot i _ e
    subst ea
    exact ⟨.ref a, ev, q (.ref a) H S.ext S.est.cell ⟨a, rfl, S.own i d a e ev, nf, ob⟩ (fun z => nomatch z)⟩
  · cases hf
theorem cs_if {t : Expr} {k : Den Bool} {f g : DenS} {as bs : List Stmt} (ht : PT X t (tDT (wd X) c k)) (ha : PSs X as (tS (wd X) c G f)) (hb : PSs X bs (tS (wd X) c G g)) : PS X (.If t as bs pos) (tS (wd X) c G (sIf k f g)) := (ps_if ht ha hb).imp fun D σ H h => by
  obtain ⟨ρ, s, o, s', S, hf, q⟩ := h
  obtain ⟨⟨z, s1⟩, h1, hf⟩ := bind_some hf
  refine ⟨ρ, s, z, s1, S.est, h1, fun H1 e1 k1 => ?_⟩
  cases z with
  | true =>
    rw [if_pos rfl]
    refine ⟨ρ, s1, o, s', S.step e1 k1, hf, ?_⟩
    cases o with
    | nx ρ' => exact fun σ' H' S' p' => q σ' H' S' (e1.pers.trans p')
    | rt r => exact q
  | false =>
    rw [if_neg (by decide)]
    refine ⟨ρ, s1, o, s', S.step e1 k1, hf, ?_⟩
    cases o with
    | nx ρ' => exact fun σ' H' S' p' => q σ' H' S' (e1.pers.trans p')
    | rt r => exact q
/-- a slot filled -/
theorem Sst.put {W : Wd} {c : Cel} {G : Hp} {ρ : Rho} {s s' : D} {σ : L2.St} {H H1 : Hp} {i : Nat} {r : R} {v : V} {en : Ent} (S : Sst W c G ρ s σ H) (e : Ext c.fp H H1) (k : CelOk W c s' H1) (x : Res W c H H1 r v) (he : ent r = some en) :
    Sst W c G (ρ.set i (some en)) s' (σ.set i (some v)) H1 := by
  obtain ⟨f, d⟩ := r
  have S1 := S.step e k
  cases f with
  | ln => cases he
  | pf =>
    cases he
    refine ⟨S1.est.set x, S1.ext, fun j d' a h1 h2 => ?_⟩
    by_cases hj : i = j
    · subst hj
      by_cases hi : i < ρ.length
      · rw [List.getElem?_set_self hi] at h1; cases h1
      · rw [List.getElem?_eq_none (by simpa using hi)] at h1; cases h1
    · rw [List.getElem?_set_ne hj] at h1 h2
      exact S1.own j d' a h1 h2
  | fr =>
    cases he
    obtain ⟨a, rfl, n, nf, ob⟩ := x
    have ga : G a = none := none_back (W := W) S.ext n nf
    -- the others' owned things stand elsewhere
    have ne : ∀ (j : Nat) (d' : D) (b : Addr), ρ[j]? = some (some (.own d')) → σ[j]? = some (some (.ref b)) → b ≠ a := fun j d' b h1 h2 w => by
      obtain ⟨v', e1, b', e2, _, ob'⟩ := S.est.slot j _ h1
      rw [h2] at e1
      cases e1
      cases e2
      obtain ⟨u, hu, _⟩ := ob'.some
      rw [w, n] at hu
      cases hu
    have get : ∀ (j : Nat) (d' : D), (ρ.set i (some (.own d)))[j]? = some (some (.own d')) → (j = i ∧ d' = d ∧ i < ρ.length) ∨ (j ≠ i ∧ ρ[j]? = some (some (.own d'))) := fun j d' h => by
      by_cases hj : i = j
      · subst hj
        by_cases hi : i < ρ.length
        · rw [List.getElem?_set_self hi] at h; cases h; exact .inl ⟨rfl, rfl, hi⟩
        · rw [List.getElem?_eq_none (by simpa using hi)] at h; cases h
      · rw [List.getElem?_set_ne hj] at h
        exact .inr ⟨fun z => hj z.symm, h⟩
    refine ⟨⟨fun j e' h => ?_, fun j l d1 d2 b h1 h2 h3 h4 => ?_, k, by simp [S.est.len]⟩, S1.ext, fun j d' b h1 h2 => ?_⟩
    · by_cases hj : i = j
      · subst hj
        by_cases hi : i < ρ.length
        · rw [List.getElem?_set_self hi] at h
          cases h
          exact ⟨.ref a, by rw [List.getElem?_set_self (by rw [← S.est.len]; exact hi)], a, rfl, nf, ob⟩
        · rw [List.getElem?_eq_none (by simpa using hi)] at h; cases h
      · rw [List.getElem?_set_ne hj] at h ⊢
        exact S1.est.slot j e' h
    · rcases get j d1 h1 with ⟨rfl, _, hi⟩ | ⟨n1, g1⟩
      · rcases get l d2 h2 with ⟨rfl, _, _⟩ | ⟨n2, g2⟩
        · rfl
        · rw [List.getElem?_set_self (by rw [← S.est.len]; exact hi)] at h3
          rw [List.getElem?_set_ne (Ne.symm n2)] at h4
          cases h3
          exact absurd rfl (ne l d2 _ g2 h4)
      · rw [List.getElem?_set_ne (Ne.symm n1)] at h3
        rcases get l d2 h2 with ⟨rfl, _, hi⟩ | ⟨n2, g2⟩
        · rw [List.getElem?_set_self (by rw [← S.est.len]; exact hi)] at h4
          cases h4
          exact absurd rfl (ne j d1 _ g1 h3)
        · rw [List.getElem?_set_ne (Ne.symm n2)] at h4
          exact S.est.apart j l d1 d2 b g1 g2 h3 h4
    · rcases get j d' h1 with ⟨rfl, _, hi⟩ | ⟨n1, g1⟩
      · rw [List.getElem?_set_self (by rw [← S.est.len]; exact hi)] at h2
        cases h2
        exact ga
      · rw [List.getElem?_set_ne (Ne.symm n1)] at h2
        exact S1.own j d' b g1 h2
theorem set_imp {t : TE} {f : Den R} {i : Nat} (ht : ∀ σ H Q, tD (wd X) c f σ H Q → t σ H Q) (D : Ends) (σ : L2.St) (H : Hp) (h : tS (wd X) c G (sSet i f) D σ H) : tAsg t (gName i) D σ H := by
  obtain ⟨ρ, s, o, s', S, hf, q⟩ := h
  obtain ⟨⟨r, s1⟩, h1, hf⟩ := bind_some hf
  obtain ⟨en, h2, hf⟩ := bind_some hf
  cases hf
  exact ht σ H _ ⟨ρ, s, r, _, S.est, h1, fun v H1 e1 k1 r1 => q _ H1 (S.put e1 k1 r1 h2) e1.pers⟩
theorem cs_set {f : Den R} {i : Nat} {x : Str} {pos' : Pos} (hN : X.N.Nodup) (hi : X.N[i]? = some x) (hx : Loc X.env.scope x) (hf : X.fn x = true ∨ X.env.scope.names.lookup x = some .local) (he : PE X e (tD (wd X) c f))
    (hs : swapsWith e (some (.Name x pos')) pos.line X.env = pure false) : PS X (.Assign [.Name x pos'] e pos) (tS (wd X) c G (sSet i f)) := (ps_set hN hi hx he hs hf).imp (set_imp fun _ _ _ z => z)
end
end Co
end

section
set_option Elab.async false
set_option linter.all false
set_option maxRecDepth 100000
set_option autoImplicit false
namespace Co
open PySem PySem.Spec L2
variable [Tbs]

theorem set_same {α : Type} {l : List α} {i : Nat} {x : α} (h : l[i]? = some x) : l.set i x = l := by
  apply List.ext_getElem?
  intro j
  by_cases hj : i = j
  · subst hj
    rw [List.getElem?_set_self (List.getElem?_eq_some_iff.mp h).1, h]
  · rw [List.getElem?_set_ne hj]
/-- an owned thing is changed -/
theorem Sst.mut {W : Wd} {c : Cel} {G : Hp} {ρ : Rho} {s : D} {σ : L2.St} {H : Hp} {i : Nat} {d d' : D} {a : Addr} {o : HO} (S : Sst W c G ρ s σ H) (hi : ρ[i]? = some (some (.own d))) (hσ : σ[i]? = some (some (.ref a)))
    (mu : (∃ vs, H a = some (.lst vs)) ∨ (∃ f, H a = some (.dK f)) ∨ ∃ p es ep, H a = some (pinO a p) ∧ p.data = .dict es ep) (ob : Ob W (upd H a o) a d') : Sst W c G (ρ.set i (some (.own d'))) s σ (upd H a o) := by
  have mu' : Mut (H a) ∨ H a = none := by
    rcases mu with ⟨vs, e⟩ | ⟨f, e⟩ | ⟨p, es, ep, e, _⟩ <;> (rw [e]; exact .inl trivial)
  have pe : Pers H (upd H a o) := pers_upd mu'
  have ga := S.own i d a hi hσ
  have hil : i < ρ.length := (List.getElem?_eq_some_iff.mp hi).1
  obtain ⟨v0, e0, a0, ea0, nf, _⟩ := S.est.slot i _ hi
  rw [hσ] at e0
  cases e0
  cases ea0
  have get : ∀ (j : Nat) (e' : D), (ρ.set i (some (.own d')))[j]? = some (some (.own e')) → ∃ e'', ρ[j]? = some (some (.own e'')) := fun j e' h => by
    by_cases hj : i = j
    · subst hj; exact ⟨d, hi⟩
    · rw [List.getElem?_set_ne hj] at h
      exact ⟨e', h⟩
  refine ⟨⟨fun j en h => ?_, fun j l d1 d2 b h1 h2 h3 h4 => ?_, S.est.cell.upd nf ?_, by simpa using S.est.len⟩, ext_upd S.ext ga mu', fun j e' b h1 h2 => ?_⟩
  · by_cases hj : i = j
    · subst hj
      rw [List.getElem?_set_self hil] at h
      cases h
      exact ⟨_, hσ, a, rfl, nf, ob⟩
    · rw [List.getElem?_set_ne hj] at h
      obtain ⟨v, ev, ok⟩ := S.est.slot j en h
      refine ⟨v, ev, ?_⟩
      cases en with
      | val e => exact PF.pers pe _ _ ok
      | own e =>
        obtain ⟨b, rfl, nb, ob'⟩ := ok
        have ne : b ≠ a := fun w => hj (by subst w; exact S.est.apart i j d e _ hi h hσ ev)
        exact ⟨b, rfl, nb, ob'.pers pe (by rw [upd_ne ne])⟩
      | cell => exact ok
  · obtain ⟨e1, g1⟩ := get j d1 h1
    obtain ⟨e2, g2⟩ := get l d2 h2
    exact S.est.apart j l e1 e2 b g1 g2 h3 h4
  · rcases mu with e | ⟨f, e⟩ | ⟨p, es, ep, e⟩
    · exact .inl e
    · exact .inr (.inr ⟨f, .inl e⟩)
    · exact .inr (.inr ⟨[], .inr ⟨p, es, ep, e⟩⟩)
  · obtain ⟨e1, g1⟩ := get j e' h1
    exact S.own j e1 b g1 h2
def sApp (i : Nat) (f : Den R) : DenS := fun ρ s => match ρ[i]? with
  | some (some (.own (.list ds))) => (match f ρ s with
    | some ((.pf, d), s1) => if ds.length < sizeLine then some (.nx (ρ.set i (some (.own (.list (ds ++ [d]))))), s1) else none
    | _ => none)
  | _ => none
/-- x[j] = e, x an owned list -/
def sPutL (i : Nat) (f g : Den R) : DenS := fun ρ s => match f ρ s with
  | some ((.pf, d), s1) => (match ρ[i]? with
    | some (some (.own (.list ds))) => (match g ρ s1 with
      | some ((_, .int k), s2) => (ixN ds.length k).map fun j => (.nx (ρ.set i (some (.own (.list (ds.set j d))))), s2)
      | _ => none)
    | _ => none)
  | _ => none
section
variable {X : Cx} {c : Cel} {G : Hp} {e : Expr} {pos : Pos}
theorem ob_app {W : Wd} {H : Hp} {a : Addr} {vs : List V} {ds : List D} {v : V} {d : D} (h : H a = some (.lst vs)) (q : PFs W.K H vs ds) (p : PF W.K H v d) : Ob W (upd H a (.lst (vs ++ [v]))) a (.list (ds ++ [d])) :=
  ⟨vs ++ [v], upd_same, PFs.pers (pers_upd (by rw [h]; exact .inl trivial)) _ _ (q.append (.cons p .nil))⟩
theorem cs_app {f : Den R} {i : Nat} {x : Str} {p1 p2 p3 : Pos} (hN : X.N[i]? = some x) (hv : Vis X.env.scope x) (hd : (x == ("__debug__" : Str)) = false) (hcd : (x == ("__classdict__" : Str)) = false) (he : PE X e (tD (wd X) c f))
    (hbase : attributeBase (.Name x p1) "append" X.env (eval (.Name x p1) X.env) = eval (.Name x p1) X.env) (hs : starEach [e] X.env = [(false, eval e X.env)]) (hline : (p2.endLine == p3.line) = true) :
    PS X (.Expr (.Call (.Attribute (.Name x p1) "append" p2) [e] [] p3) pos) (tS (wd X) c G (sApp i f)) := by
  refine (ps_expr (pe_bm PySem.F.plainAttrs_list PySem.F.slot_list_append PySem.F.type_list_append mt_append (pe_var hN hv hd hcd) (pa_cons he pa_nil hs) hbase (by rw [hs]; rfl) hline hs rfl) rfl).imp fun D σ H h => ?_
  obtain ⟨ρ, s, o, s', S, hf, q⟩ := h
  unfold sApp at hf
  split at hf
  · rename_i ds hi
    split at hf
    · rename_i d s1 h1
      split at hf
      · rename_i hz
        cases hf
        obtain ⟨v0, e0, a, rfl, nf, vs, hl, pq⟩ := S.est.slot i _ hi
        refine ⟨.ref a, e0, .inl ⟨rfl, vs, .inl (.inl hl)⟩, ρ, s, _, _, S.est, h1, fun v H1 e1 k1 r1 => ?_⟩
        have hl1 : H1 a = some (.lst vs) := e1.keep a _ hl nf
        have pq1 := PFs.pers e1.pers _ _ pq
        refine ⟨a, vs, v, rfl, rfl, hl1, by rw [pq.length]; exact hz, q σ _ ?_ (e1.pers.trans (pers_upd (by rw [hl1]; exact .inl trivial)))⟩
        exact (S.step e1 k1).mut hi e0 (.inl ⟨_, hl1⟩) (ob_app hl1 pq1 r1)
      · cases hf
    · cases hf
  · cases hf
theorem cs_putL {f g : Den R} {i : Nat} {x : Str} {ix : Expr} {p1 p2 : Pos} (hN : X.N[i]? = some x) (hv : Vis X.env.scope x) (hd : (x == ("__debug__" : Str)) = false) (hcd : (x == ("__classdict__" : Str)) = false) (he : PE X e (tD (wd X) c f)) (hx : PE X ix (tD (wd X) c g))
    (ha : ∀ v, assign (.Subscript (.Name x p1) ix p2) X.env v = (do
      let ov ← holding [v] (eval (.Name x p1) X.env)
      let iv ← holding [v, ov] (eval ix X.env)
      standAt p2
      holding [v, ov, iv] (setItem ov iv v)
      release [v, ov, iv] [])) (hs : swapsWithSole [.Subscript (.Name x p1) ix p2] e pos.line X.env = pure false) (hw : swappedStores [.Subscript (.Name x p1) ix p2] e X.env = pure none) :
    PS X (.Assign [.Subscript (.Name x p1) ix p2] e pos) (tS (wd X) c G (sPutL i f g)) := by
  refine (ps_asg he (pg_sub (pe_var hN hv hd hcd) hx set_list ha) hs hw rfl).imp fun D σ H h => ?_
  obtain ⟨ρ, s, o, s', S, hf, q⟩ := h
  unfold sPutL at hf
  split at hf
  · rename_i d s1 h1
    split at hf
    · rename_i ds hi
      split at hf
      · rename_i fl k s2 h2
        cases hj : ixN ds.length k with
        | none => rw [hj] at hf; cases hf
        | some j =>
          rw [hj] at hf
          cases hf
          obtain ⟨v0, e0, a, rfl, nf, vs, hl, pq⟩ := S.est.slot i _ hi
          refine ⟨ρ, s, _, _, S.est, h1, fun v H1 e1 k1 r1 => ?_⟩
          have S1 := S.step e1 k1
          refine ⟨.ref a, e0, ρ, s1, _, _, S1.est, h2, fun w H2 e2 k2 r2 => ?_⟩
          have hl2 : H2 a = some (.lst vs) := e2.keep a _ (e1.keep a _ hl nf) nf
          have pq2 := PFs.pers (e1.trans e2).pers _ _ pq
          refine ⟨a, vs, k, j, rfl, r2.po.int, hl2, by rw [pq.length]; exact hj, q σ _ ?_ ((e1.trans e2).pers.trans (pers_upd (by rw [hl2]; exact .inl trivial)))⟩
          refine (S1.step e2 k2).mut hi e0 (.inl ⟨_, hl2⟩) ⟨_, upd_same, ?_⟩
          exact PFs.pers (pers_upd (by rw [hl2]; exact .inl trivial)) _ _ (pq2.set (PF.pers e2.pers _ _ r1) j)
      · cases hf
    · cases hf
  · cases hf
/-! ### loops -/
def forLoop (t : Tg) (body : DenS) : List D → DenS
  | [], ρ, s => some (.nx ρ, s)
  | d :: ds, ρ, s => do
    let ρ1 ← bindT t d ρ
    let (o, s1) ← body ρ1 s
    match o with
    | .nx ρ2 => forLoop t body ds ρ2 s1
    | .rt r => some (.rt r, s1)
def sFor (t : Tg) (g : Den (List D)) (body : DenS) : DenS := fun ρ s => do
  let (ds, s1) ← g ρ s
  forLoop t body ds ρ s1
/-- binding names leaves what the def owns to itself -/
theorem own_set {ρ : Rho} {i : Nat} {d : D} {j : Nat} {e : D} (h : (ρ.set i (some (.val d)))[j]? = some (some (.own e))) : ρ[j]? = some (some (.own e)) ∧ j ≠ i := by
  by_cases hj : i = j
  · subst hj
    by_cases hi : i < ρ.length
    · rw [List.getElem?_set_self hi] at h; cases h
    · rw [List.getElem?_eq_none (by simpa using hi)] at h; cases h
  · rw [List.getElem?_set_ne hj] at h; exact ⟨h, fun z => hj z.symm⟩
mutual
theorem bind_own : ∀ (t : Tg) {d : D} {ρ ρ' : Rho}, bindT t d ρ = some ρ' → ∀ (j : Nat) (e : D), ρ'[j]? = some (some (.own e)) → ρ[j]? = some (some (.own e)) ∧ j ∉ t.slots
  | .one i, d, ρ, ρ', h, j, e, hj => by
    cases h
    have := own_set hj
    exact ⟨this.1, by simp [Tg.slots]; exact this.2⟩
  | .tup ts, .tuple ds, ρ, ρ', h, j, e, hj => by
    rw [bindT] at h
    split at h
    · have := binds_own ts h j e hj
      exact ⟨this.1, by rw [Tg.slots]; exact this.2⟩
    · cases h
  | .tup ts, .none, ρ, ρ', h, j, e, hj => by simp [bindT] at h
  | .tup ts, .bool _, ρ, ρ', h, j, e, hj => by simp [bindT] at h
  | .tup ts, .int _, ρ, ρ', h, j, e, hj => by simp [bindT] at h
  | .tup ts, .str _, ρ, ρ', h, j, e, hj => by simp [bindT] at h
  | .tup ts, .list _, ρ, ρ', h, j, e, hj => by simp [bindT] at h
  | .tup ts, .dict _, ρ, ρ', h, j, e, hj => by simp [bindT] at h
theorem binds_own : ∀ (t : Tgs) {d : List D} {ρ ρ' : Rho}, bindTs t d ρ = some ρ' → ∀ (j : Nat) (e : D), ρ'[j]? = some (some (.own e)) → ρ[j]? = some (some (.own e)) ∧ j ∉ t.slots
  | .nil, [], ρ, ρ', h, j, e, hj => by cases h; exact ⟨hj, by simp [Tgs.slots]⟩
  | .nil, _ :: _, ρ, ρ', h, j, e, hj => by cases h
  | .cons t ts, [], ρ, ρ', h, j, e, hj => by cases h
  | .cons t ts, d :: ds, ρ, ρ', h, j, e, hj => by
    unfold bindTs at h
    obtain ⟨ρ1, h1, h2⟩ := bind_some h
    have a := binds_own ts h2 j e hj
    have b := bind_own t h1 j e a.1
    exact ⟨b.1, by rw [Tgs.slots]; simp only [List.mem_append, not_or]; exact ⟨b.2, a.2⟩⟩
end
theorem cs_for {t : Tg} {g : Den (List D)} {body : DenS} {tg iter : Expr} {bs : List Stmt} (hp : PassesOwn (model X.prog X.w) X.A X.env X.xe) (hc : X.calm = true) (hi : PI X tg iter (tI (wd X) c true g)) (hg : PG X tg (gD (wd X) c t))
    (hb : PSs X bs (tS (wd X) c G body)) (hs : ∀ x, foldedSetIterable iter X.env x = pure x) : PS X (.For tg iter bs [] pos) (tS (wd X) c G (sFor t g body)) := by
  refine (ps_for hp hc hi hg hb hs).imp fun D σ H h => ?_
  obtain ⟨ρ, s, o, s', S, hf, q⟩ := h
  obtain ⟨⟨ds, s1⟩, h1, hf⟩ := bind_some hf
  refine ⟨ρ, s, ds, s1, S.est, h1, fun J H1 e1 k1 ⟨hz, n, G', Y, w, hn, hG, hY⟩ => ?_⟩
  refine for_it w (fun i σ3 H3 => ∃ ρ3 s3, Sst (wd X) c G ρ3 s3 σ3 H3 ∧ Pers H1 H3 ∧ forLoop t body (ds.drop i) ρ3 s3 = some (o, s')) ?_ ?_ ?_ ?_
  · exact ⟨ρ, s1, S.step e1 k1, .refl _, hf⟩
  · rintro i σ3 H3 _ ⟨ρ3, s3, _, p, _⟩
    exact hG H3 p
  · rintro i x σ3 H3 H4 hi ⟨ρ3, s3, S3, p3, hl⟩ y
    obtain ⟨d, hd, sm, pd⟩ := hY i H3 x H4 hi p3 y
    have edrop : ds.drop i = d :: ds.drop (i + 1) := by
      rw [List.drop_eq_getElem_cons (by omega)]
      have : ds[i] = d := by
        rw [List.getElem?_eq_getElem (by omega)] at hd
        exact Option.some.inj hd
      rw [this]
    rw [edrop] at hl
    unfold forLoop at hl
    obtain ⟨ρ4, hb4, hl⟩ := bind_some hl
    obtain ⟨⟨o5, s5⟩, hb5, hl⟩ := bind_some hl
    have S4 := S3.step (.of sm) (S3.est.cell.same sm)
    refine ⟨ρ3, s3, d, ρ4, S4.est, pd, hb4, fun σ5 E5 w5 => ?_⟩
    have S5 : Sst (wd X) c G ρ4 s3 σ5 H4 := ⟨E5, S4.ext, fun j e a h1 h2 => by
      obtain ⟨g1, g2⟩ := bind_own t hb4 j e h1
      refine S4.own j e a g1 ?_
      have z := congrArg (fun l : L2.St => l[j]?) (w5 t.slots fun i hi => hi)
      simp only [wipe_out g2] at z
      rw [← z]
      exact h2⟩
    refine ⟨ρ4, s3, o5, s5, S5, hb5, ?_⟩
    cases o5 with
    | nx ρ6 => exact fun σ6 H6 S6 p6 => ⟨ρ6, s5, S6, (p3.trans (.of sm)).trans p6, hl⟩
    | rt r =>
      cases hl
      exact q
  · rintro σ3 H3 ⟨ρ3, s3, S3, p3, hl⟩
    rw [hn, List.drop_length] at hl
    unfold forLoop at hl
    cases hl
    exact q σ3 H3 S3 (e1.pers.trans p3)
end
end Co
end

section
set_option Elab.async false
set_option linter.all false
set_option maxRecDepth 100000
set_option autoImplicit false
namespace Co
open PySem PySem.Spec L2
variable [Tbs]

def whileLoop (t : Den Bool) (body : DenS) : Nat → DenS
  | 0, _, _ => none
  | n + 1, ρ, s => do
    let (b, s1) ← t ρ s
    if b then do
      let (o, s2) ← body ρ s1
      match o with
      | .nx ρ2 => whileLoop t body n ρ2 s2
      | .rt r => some (.rt r, s2)
    else some (.nx ρ, s1)
def sBind (t : Tg) (f : Den R) : DenS := fun ρ s => match f ρ s with
  | some ((.pf, d), s1) => (bindT t d ρ).map fun ρ' => (.nx ρ', s1)
  | _ => none
def sFrz (i : Nat) : DenS := fun ρ s => match ρ[i]? with
  | some (some (.own (.list ds))) => some (.nx (ρ.set i (some (.val (.list ds)))), s)
  | _ => none
/-- b[k] = e, b the bag -/
def sPutC (i : Nat) (f g : Den R) : DenS := fun ρ s => match f ρ s with
  | some ((.pf, d), s1) => (match ρ[i]? with
    | some (some .cell) => (match g ρ s1 with
      | some ((_, .int k), .list ds) => (ixN ds.length k).map fun j => (.nx ρ, .list (ds.set j d))
      | _ => none)
    | _ => none)
  | _ => none
/-- b[k], b the bag -/
def dIxC (i : Nat) (g : Den R) : Den R := fun ρ s => match ρ[i]? with
  | some (some .cell) => (match g ρ s with
    | some ((_, .int k), .list ds) => (atI ds k).map fun d => ((.pf, d), .list ds)
    | _ => none)
  | _ => none
/-- xs[k], len(xs), xs the script -/
def dIxS (i : Nat) (g : Den R) : Den R := fun ρ s => match ρ[i]? with
  | some (some .cell) => (match g ρ s with
    | some ((_, .int k), .tuple [.list ds]) => (atI ds k).map fun d => ((.pf, d), .tuple [.list ds])
    | _ => none)
  | _ => none
def dLenS (i : Nat) : Den R := fun ρ s => match ρ[i]?, s with
  | some (some .cell), .tuple [.list ds] => some ((.pf, .int ds.length), s)
  | _, _ => none
section
variable {X : Cx} {c : Cel} {G : Hp} {e : Expr} {pos : Pos}
theorem cs_while {t : Expr} {k : Den Bool} {body : DenS} {bs : List Stmt} (n : Nat) (hp : PassesOwn (model X.prog X.w) X.A X.env X.xe) (ht : PT X t (tDT (wd X) c k)) (hb : PSs X bs (tS (wd X) c G body)) : PS X (.While t bs [] pos) (tS (wd X) c G (whileLoop k body n)) := by
  refine (ps_while hp ht hb).imp fun D σ H h => ?_
  obtain ⟨ρ, s, o, s', S, hf, q⟩ := h
  refine ⟨fun m σ3 H3 => ∃ ρ3 s3, Sst (wd X) c G ρ3 s3 σ3 H3 ∧ Pers H H3 ∧ whileLoop k body m ρ3 s3 = some (o, s'), ⟨n, ρ, s, S, .refl _, hf⟩, ?_⟩
  rintro m σ3 H3 ⟨ρ3, s3, S3, p3, hl⟩
  cases m with
  | zero => cases hl
  | succ m =>
    unfold whileLoop at hl
    obtain ⟨⟨b, s4⟩, h4, hl⟩ := bind_some hl
    refine ⟨ρ3, s3, b, s4, S3.est, h4, fun H4 e4 k4 => ?_⟩
    cases b with
    | false =>
      rw [if_neg (by decide)]
      cases hl
      exact q σ3 H4 (S3.step e4 k4) (p3.trans e4.pers)
    | true =>
      rw [if_pos rfl]
      have hl : (body ρ3 s4 >>= fun x => match x.1 with
        | .nx ρ2 => whileLoop k body m ρ2 x.2
        | .rt r => some (.rt r, x.2)) = some (o, s') := hl
      obtain ⟨⟨o5, s5⟩, h5, hl⟩ := bind_some hl
      refine ⟨fun σ6 H6 => ∃ ρ6 s6, Sst (wd X) c G ρ6 s6 σ6 H6 ∧ Pers H H6 ∧ whileLoop k body m ρ6 s6 = some (o, s'), fun σ6 H6 z => ⟨m, Nat.lt_succ_self m, z⟩, ρ3, s4, o5, s5, S3.step e4 k4, h5, ?_⟩
      cases o5 with
      | nx ρ6 => exact fun σ6 H6 S6 p6 => ⟨ρ6, s5, S6, (p3.trans e4.pers).trans p6, hl⟩
      | rt r =>
        cases hl
        exact q
theorem cs_bind {t : Tg} {f : Den R} {tg : Expr} (he : PE X e (tD (wd X) c f)) (hg : PG X tg (gD (wd X) c t)) (hs : swapsWithSole [tg] e pos.line X.env = pure false) (hw : swappedStores [tg] e X.env = pure none) (h1 : (assignEach [tg] X.env).map (·.2) = [assign tg X.env]) :
    PS X (.Assign [tg] e pos) (tS (wd X) c G (sBind t f)) := by
  refine (ps_asg he hg hs hw h1).imp fun D σ H h => ?_
  obtain ⟨ρ, s, o, s', S, hf, q⟩ := h
  unfold sBind at hf
  split at hf
  · rename_i d s1 h1
    cases h2 : bindT t d ρ with
    | none => rw [h2] at hf; cases hf
    | some ρ' =>
      rw [h2] at hf
      cases hf
      refine ⟨ρ, s, _, _, S.est, h1, fun v H1 e1 k1 r1 => ?_⟩
      have S1 := S.step e1 k1
      refine ⟨ρ, _, d, ρ', S1.est, r1, h2, fun σ' E' w' => q σ' H1 ⟨E', S1.ext, fun j e a h3 h4 => ?_⟩ e1.pers⟩
      obtain ⟨g1, g2⟩ := bind_own t h2 j e h3
      refine S1.own j e a g1 ?_
      have z := congrArg (fun l : L2.St => l[j]?) (w' t.slots fun i hi => hi)
      simp only [wipe_out g2] at z
      rw [← z]
      exact h4
  · cases hf
theorem Sst.frz {W : Wd} {ρ : Rho} {s : D} {σ : L2.St} {H : Hp} {i : Nat} {ds : List D} {a : Addr} {vs : List V} {o : Obj} (S : Sst W c G ρ s σ H) (hi : ρ[i]? = some (some (.own (.list ds)))) (hσ : σ[i]? = some (some (.ref a))) (hl : H a = some (.lst vs)) (pq : PFs W.K H vs ds) :
    Sst W c G (ρ.set i (some (.val (.list ds)))) s σ (upd H a (.frz o (.lst vs))) := by
  have mu' : Mut (H a) ∨ H a = none := by rw [hl]; exact .inl trivial
  have pe : Pers H (upd H a (.frz o (.lst vs))) := pers_upd mu'
  have ga := S.own i _ a hi hσ
  have hil : i < ρ.length := (List.getElem?_eq_some_iff.mp hi).1
  obtain ⟨v0, e0, a0, ea0, nf, _⟩ := S.est.slot i _ hi
  rw [hσ] at e0
  cases e0
  cases ea0
  refine ⟨⟨fun j en h => ?_, fun j l d1 d2 b h1 h2 h3 h4 => ?_, S.est.cell.upd nf (.inl ⟨_, hl⟩), by simpa using S.est.len⟩, ext_upd S.ext ga mu', fun j e' b h1 h2 => ?_⟩
  · by_cases hj : i = j
    · subst hj
      rw [List.getElem?_set_self hil] at h
      cases h
      exact ⟨_, hσ, PF.lst upd_same (PFs.pers pe _ _ pq)⟩
    · rw [List.getElem?_set_ne hj] at h
      obtain ⟨v, ev, ok⟩ := S.est.slot j en h
      refine ⟨v, ev, ?_⟩
      cases en with
      | val e => exact PF.pers pe _ _ ok
      | own e =>
        obtain ⟨b, rfl, nb, ob'⟩ := ok
        have ne : b ≠ a := fun w => hj (by subst w; exact S.est.apart i j _ e _ hi h hσ ev)
        exact ⟨b, rfl, nb, ob'.pers pe (by rw [upd_ne ne])⟩
      | cell => exact ok
  · exact S.est.apart j l d1 d2 b (own_set h1).1 (own_set h2).1 h3 h4
  · exact S.own j e' b (own_set h1).1 h2
theorem cs_frz {i : Nat} {f : DenS} {sts : List Stmt} (h : PSs X sts (tS (wd X) c G f)) : PSs X sts (tS (wd X) c G (sSeq (sFrz i) f)) := by
  refine ⟨fun pins st σ H D I h' => ?_⟩
  obtain ⟨ρ, s, o, s', S, hf, q⟩ := h'
  obtain ⟨⟨o1, s1⟩, h1, hf⟩ := bind_some hf
  unfold sFrz at h1
  split at h1
  · rename_i ds hi
    cases h1
    obtain ⟨v0, e0, a, rfl, nf, vs, hl, pq⟩ := S.est.slot i _ hi
    obtain ⟨ob, I2⟩ := I.lock hl trivial
    refine h.run pins st σ _ D I2 ⟨_, _, o, s', S.frz hi e0 hl pq, hf, ?_⟩
    cases o with
    | nx ρ' => exact fun σ' H' S' p' => q σ' H' S' ((pers_upd (by rw [hl]; exact .inl trivial)).trans p')
    | rt r => exact q
  · cases h1
/-! ### the bag -/
theorem Est.bag {W : Wd} {ρ : Rho} {s : D} {σ : L2.St} {H : Hp} {i : Nat} {ds : List D} (E : Est W c ρ s σ H) (hi : ρ[i]? = some (some .cell)) (hs : s = .list ds) : ∃ b vs, c = .bag b ∧ σ[i]? = some (some (.ref b)) ∧ H b = some (.lst vs) ∧ PFs W.K H vs ds := by
  subst hs
  obtain ⟨v, ev, ok⟩ := E.slot i _ hi
  have k := E.cell.2
  cases c with
  | no => exact absurd ok.1 ok.2
  | bag b =>
    obtain ⟨_, vs, hl, pq⟩ := k
    cases ok.1
    exact ⟨b, vs, rfl, ev, hl, pq⟩
  | pl C x dx kd =>
    obtain ⟨_, _, _, _, _, _, _, e, _⟩ := k
    cases e
  | scr sa =>
    obtain ⟨_, e, _⟩ := k
    cases e
  | scl sa =>
    obtain ⟨_, e, _⟩ := k
    cases e
theorem Est.scr {W : Wd} {ρ : Rho} {s : D} {σ : L2.St} {H : Hp} {i : Nat} {ds : List D} (E : Est W c ρ s σ H) (hi : ρ[i]? = some (some .cell)) (hs : s = .tuple [.list ds]) : ∃ (a : Addr) (ns : List Int), σ[i]? = some (some (.ref a)) ∧ ds = ns.map .int ∧ SqL W.K H a (ns.map V.int) := by
  subst hs
  obtain ⟨v, ev, ok⟩ := E.slot i _ hi
  have k := E.cell.2
  cases c with
  | no => exact absurd ok.1 ok.2
  | bag b =>
    obtain ⟨⟨_, e⟩, _⟩ := k
    cases e
  | pl C x dx kd =>
    obtain ⟨_, _, _, _, _, _, _, e, _⟩ := k
    cases e
  | scr a =>
    obtain ⟨ns, e, fz⟩ := k
    cases e
    cases ok.1
    exact ⟨a, ns, ev, rfl, fz.sq⟩
  | scl a =>
    obtain ⟨ns, e, fz⟩ := k
    cases e
    cases ok.1
    exact ⟨a, ns, ev, rfl, .inl (.inl fz)⟩
theorem atI_int {ns : List Int} {k : Int} {d : D} (h : atI (ns.map PyData.int) k = some d) : ∃ n : Int, d = .int n ∧ atI (ns.map V.int) k = some (.int n) := by
  unfold atI at *
  rw [List.length_map] at *
  cases e : ixN ns.length k with
  | none => rw [e] at h; cases h
  | some j =>
    rw [e] at h
    have h : (ns.map PyData.int)[j]? = some d := h
    rw [List.getElem?_map] at h
    cases e2 : ns[j]? with
    | none => rw [e2] at h; cases h
    | some n =>
      rw [e2] at h
      cases h
      exact ⟨n, rfl, by show (ns.map V.int)[j]? = _; rw [List.getElem?_map, e2]; rfl⟩
theorem ce_ixS {i : Nat} {x : Str} {g : Den R} {ix : Expr} {p1 : Pos} (hN : X.N[i]? = some x) (hv : Vis X.env.scope x) (hd : (x == ("__debug__" : Str)) = false) (hcd : (x == ("__classdict__" : Str)) = false) (hx : PE X ix (tD (wd X) c g)) (hs : PlainIx ix) :
    PE X (.Subscript (.Name x p1) ix pos) (tD (wd X) c (dIxS i g)) := by
  refine (pe_ix ix_list (pe_var hN hv hd hcd) hx hs).imp fun σ H Q h => ?_
  obtain ⟨ρ, s, r, s', E, hf, q⟩ := h
  unfold dIxS at hf
  split at hf
  · rename_i hi
    split at hf
    · rename_i fl k ds h1
      cases h2 : atI ds k with
      | none => rw [h2] at hf; cases hf
      | some d =>
        rw [h2] at hf
        cases hf
        obtain ⟨v, ev, ok⟩ := E.slot i _ hi
        refine ⟨v, ev, ρ, s, _, _, E, h1, fun w H1 e1 k1 r1 => ?_⟩
        obtain ⟨b, ns, ev', rfl, sq⟩ := (E.ext e1 k1).scr hi rfl
        rw [ev] at ev'
        cases ev'
        obtain ⟨n, rfl, hu⟩ := atI_int h2
        exact ⟨b, _, k, _, rfl, r1.po.int, sq, hu, q _ H1 e1 k1 (.int n)⟩
    · cases hf
  · cases hf
theorem ce_lenS {i : Nat} {x : Str} {p1 p2 : Pos} (hN : X.N[i]? = some x) (hv : Vis X.env.scope x) (hd : (x == ("__debug__" : Str)) = false) (hcd : (x == ("__classdict__" : Str)) = false) (hg : Gl X "len") (hm : X.mg "len" = none) :
    PE X (.Call (.Name "len" p2) [.Name x p1] [] pos) (tD (wd X) c (dLenS i)) := by
  refine (pe_callB call_len_seq hg hm PySem.boot_len (pa_cons (pe_var hN hv hd hcd) pa_nil rfl) (by decide) (by decide) rfl rfl).imp fun σ H Q h => ?_
  obtain ⟨ρ, s, r, s', E, hf, q⟩ := h
  unfold dLenS at hf
  split at hf
  · rename_i ds hi
    cases hf
    obtain ⟨a, ns, ev, rfl, sq⟩ := E.scr hi rfl
    refine ⟨.ref a, ev, a, _, rfl, .inl sq, ?_⟩
    rw [List.length_map]
    have z := q (.int ns.length) H (.refl _ H) E.cell (by rw [List.length_map]; exact .int _)
    exact z
  · cases hf
theorem ce_ixC {i : Nat} {x : Str} {g : Den R} {ix : Expr} {p1 : Pos} (hN : X.N[i]? = some x) (hv : Vis X.env.scope x) (hd : (x == ("__debug__" : Str)) = false) (hcd : (x == ("__classdict__" : Str)) = false) (hx : PE X ix (tD (wd X) c g)) (hs : PlainIx ix) :
    PE X (.Subscript (.Name x p1) ix pos) (tD (wd X) c (dIxC i g)) := by
  refine (pe_ix ix_list (pe_var hN hv hd hcd) hx hs).imp fun σ H Q h => ?_
  obtain ⟨ρ, s, r, s', E, hf, q⟩ := h
  unfold dIxC at hf
  split at hf
  · rename_i hi
    split at hf
    · rename_i fl k ds h1
      cases h2 : atI ds k with
      | none => rw [h2] at hf; cases hf
      | some d =>
        rw [h2] at hf
        cases hf
        obtain ⟨v, ev, ok⟩ := E.slot i _ hi
        refine ⟨v, ev, ρ, s, _, _, E, h1, fun w H1 e1 k1 r1 => ?_⟩
        obtain ⟨b, vs, rfl, ev', hl, pq⟩ := (E.ext e1 k1).bag hi rfl
        rw [ev] at ev'
        cases ev'
        obtain ⟨u, hu, pu⟩ := atI_pf pq h2
        exact ⟨b, vs, k, u, rfl, r1.po.int, .inl (.inl hl), hu, q u H1 e1 k1 pu⟩
    · cases hf
  · cases hf
theorem cs_putC {f g : Den R} {i : Nat} {x : Str} {ix : Expr} {p1 p2 : Pos} (hN : X.N[i]? = some x) (hv : Vis X.env.scope x) (hd : (x == ("__debug__" : Str)) = false) (hcd : (x == ("__classdict__" : Str)) = false) (he : PE X e (tD (wd X) c f)) (hx : PE X ix (tD (wd X) c g))
    (ha : ∀ v, assign (.Subscript (.Name x p1) ix p2) X.env v = (do
      let ov ← holding [v] (eval (.Name x p1) X.env)
      let iv ← holding [v, ov] (eval ix X.env)
      standAt p2
      holding [v, ov, iv] (setItem ov iv v)
      release [v, ov, iv] [])) (hs : swapsWithSole [.Subscript (.Name x p1) ix p2] e pos.line X.env = pure false) (hw : swappedStores [.Subscript (.Name x p1) ix p2] e X.env = pure none) :
    PS X (.Assign [.Subscript (.Name x p1) ix p2] e pos) (tS (wd X) c G (sPutC i f g)) := by
  refine (ps_asg he (pg_sub (pe_var hN hv hd hcd) hx set_list ha) hs hw rfl).imp fun D σ H h => ?_
  obtain ⟨ρ, s, o, s', S, hf, q⟩ := h
  unfold sPutC at hf
  split at hf
  · rename_i d s1 h1
    split at hf
    · rename_i hi
      split at hf
      · rename_i fl k ds h2
        cases hj : ixN ds.length k with
        | none => rw [hj] at hf; cases hf
        | some j =>
          rw [hj] at hf
          cases hf
          refine ⟨ρ, s, _, _, S.est, h1, fun v H1 e1 k1 r1 => ?_⟩
          have S1 := S.step e1 k1
          obtain ⟨v0, ev, ok⟩ := S1.est.slot i _ hi
          refine ⟨v0, ev, ρ, s1, _, _, S1.est, h2, fun w H2 e2 k2 r2 => ?_⟩
          have S2 := S1.step e2 k2
          obtain ⟨b, vs, rfl, ev', hl, pq⟩ := S2.est.bag hi rfl
          rw [ev] at ev'
          cases ev'
          have pe : Pers H2 (upd H2 b (.lst (vs.set j v))) := pers_upd (by rw [hl]; exact .inl trivial)
          refine ⟨b, vs, k, j, rfl, r2.po.int, hl, by rw [pq.length]; exact hj, q σ _ ⟨⟨fun l en h => ?_, S2.est.apart, ⟨tabs_upd S2.est.cell.1 (D := b) (fun b' hb => by rw [upd_ne hb]) (.inl ⟨_, hl⟩), ⟨_, rfl⟩, vs.set j v, upd_same, PFs.pers pe _ _ (pq.set (PF.pers e2.pers _ _ r1) j)⟩, S2.est.len⟩, ⟨fun a u z na => ?_, S2.ext.pers.trans pe⟩, S2.own⟩ ((e1.trans e2).pers.trans pe)⟩
          · obtain ⟨v', ev', ok'⟩ := S2.est.slot l en h
            refine ⟨v', ev', ?_⟩
            cases en with
            | val e => exact PF.pers pe _ _ ok'
            | own e =>
              obtain ⟨a, rfl, na, ob'⟩ := ok'
              have ne : a ≠ b := fun w => na (by rw [w]; simp [Cel.fp, Cel.f0])
              exact ⟨a, rfl, na, ob'.pers pe (by rw [upd_ne ne])⟩
            | cell => exact ok'
          · have ne : a ≠ b := fun w => na (by rw [w]; simp [Cel.fp, Cel.f0])
            rw [upd_ne ne]
            exact S2.ext.keep a u z na
      · cases hf
    · cases hf
  · cases hf
end
end Co
end

section
set_option Elab.async false
set_option linter.all false
set_option maxRecDepth 100000
set_option autoImplicit false
namespace Co
open PySem PySem.Spec L2
variable [Tbs]

/-! ### len, isinstance -/
def lenD : List D → Option R
  | [.list ds] => some (.pf, .int ds.length)
  | [.tuple ds] => some (.pf, .int ds.length)
  | [.str x] => if x.length ≤ sizeLine then some (.pf, .int x.length) else none
  | [.dict kvs] => some (.pf, .int kvs.length)
  | _ => none
def tyD : D → String
  | .none => "NoneType"
  | .bool _ => "bool"
  | .int _ => "int"
  | .str _ => "str"
  | .list _ => "list"
  | .tuple _ => "tuple"
  | .dict _ => "dict"
def instB (d : D) (t : String) : Bool := t == tyD d || (t == "int" && tyD d == "bool")
def dIsi (ts : List String) (f : Den R) : Den R := fun ρ s => match f ρ s with
  | some (r, s') => if isDict r.2 = false then some ((.pf, .bool (ts.any (instB r.2))), s') else none
  | _ => none
def knownTy : List String := ["int", "bool", "str", "list", "tuple"]
theorem kit_all : ∀ a ∈ ["NoneType", "bool", "int", "str", "list", "tuple"], ∀ b ∈ knownTy, kitB a b = some (b == a || (b == "int" && a == "bool")) := by decide +kernel
theorem tyD_mem {d : D} (h : isDict d = false) : tyD d ∈ ["NoneType", "bool", "int", "str", "list", "tuple"] := by
  cases d with
  | none => decide
  | bool _ => simp [tyD]
  | int _ => simp [tyD]
  | str _ => simp [tyD]
  | list _ => simp [tyD]
  | tuple _ => simp [tyD]
  | dict _ => cases h
theorem kit_data {K : PySem.W.Frag} {d : D} (h : isDict d = false) {b : String} (hb : b ∈ knownTy) : PySem.W.kitOne K (.type (tyD d)) (.type b) = some (instB d b) := kit_ty (kit_all _ (tyD_mem h) _ hb)
theorem kit_some {K : PySem.W.Frag} {d : D} (h : isDict d = false) : ∀ ts : List String, (∀ t ∈ ts, t ∈ knownTy) → PySem.W.kitAny K (.type (tyD d)) (ts.map Value.type) = some (ts.any (instB d))
  | [], _ => rfl
  | t :: ts, hk => by
    rw [List.map_cons]
    refine kitAny_cons (kit_data h (hk t (by simp))) (fun e => ?_) (fun e => by simp [e])
    rw [kit_some h ts fun u hu => hk u (by simp [hu]), List.any_cons, e]
    rfl
theorem PO.tyx {W : Wd} {H : Hp} {v : V} {d : D} (h : PO W H v d) (hd : isDict d = false) : TyX W.K H v (.type (tyD d)) := by
  cases d with
  | none => rw [h.non]; exact .base .non
  | bool b => rw [h.bl]; exact .base (.bl b)
  | int i => rw [h.int]; exact .base (.int i)
  | str x => rw [h.str.1]; exact .base (.str x)
  | list ds =>
    obtain ⟨a, vs, rfl, r, _⟩ := h.list
    rcases r with r | ⟨o, r⟩
    · exact .base (.lst r)
    · exact .base (.frz r)
  | tuple ds =>
    obtain ⟨a, vs, rfl, r, _⟩ := h.tup
    rcases r with (r | ⟨o, r⟩) | ⟨o, its, n, r, c, _⟩
    · exact .base (.tup r)
    · exact .fTuple r
    · exact .kTuple r c
  | dict kvs => cases hd
/-! ### dicts keyed by tuples, as the machine has them -/
mutual
theorem PF.nested {X : Cx} {pins : List (Addr × Obj)} {σ : L2.St} {H : Hp} {s : Shared} (I : Inv X pins σ H s) : ∀ (d : D) (v : V) (u : Value) (k : NestedKey), PF X.K H v d → nk d = some k → RelV v u → NestedIs s.heap k u
  | .none, _, u, k, h, e, r => by
    cases h; cases e; cases r; exact .none
  | .bool b, _, u, k, h, e, r => by cases e
  | .int i, _, u, k, h, e, r => by
    cases h; cases e; obtain ⟨t, rfl⟩ := r; exact .int _ _
  | .str x, _, u, k, h, e, r => by
    cases h; cases e; obtain ⟨t, rfl⟩ := r; exact .text _ _
  | .list ds, _, u, k, h, e, r => by cases e
  | .dict kvs, _, u, k, h, e, r => by cases e
  | .tuple ds, _, u, k, h, e, r => by
    cases h with
    | tup hs pq =>
      cases r
      rw [nk] at e
      cases e2 : nks ds with
      | none => rw [e2] at e; cases e
      | some ks =>
        rw [e2] at e
        cases e
        obtain ⟨its, rv, ⟨o, h1, h2, n, h3⟩, _⟩ := I.tuple hs
        exact .tup h1 h2 h3 (PFs.nested I ds _ _ ks pq e2 rv)
theorem PFs.nested {X : Cx} {pins : List (Addr × Obj)} {σ : L2.St} {H : Hp} {s : Shared} (I : Inv X pins σ H s) : ∀ (ds : List D) (vs : List V) (us : List Value) (ks : List NestedKey), PFs X.K H vs ds → nks ds = some ks → Vals vs us → NestedAll s.heap ks us
  | [], _, us, ks, h, e, r => by
    cases h; cases e; cases r; exact .nil
  | d :: ds, _, us, ks, h, e, r => by
    cases h with
    | cons a b =>
      cases r with
      | cons r1 r2 =>
        rw [nks] at e
        obtain ⟨k, e1, e⟩ := bind_some e
        cases e2 : nks ds with
        | none => rw [e2] at e; cases e
        | some ks =>
          rw [e2] at e
          cases e
          exact .cons (PF.nested I d _ _ k a e1 r1) (PFs.nested I ds _ _ ks b e2 r2)
end
abbrev nkd (X : Cx) := nestedKind X.prog X.w
abbrev KVr (X : Cx) (H : Hp) : D × D → NestedKey × Addr × Value → Prop := fun p q => nk p.1 = some q.1 ∧ q.1.depth ≤ 8 ∧ PF X.K H (.ref q.2.1) p.1 ∧ ∃ v, RelV v q.2.2 ∧ PF X.K H v p.2
theorem paired_mem {α β : Type} {F : α → β → Prop} : ∀ {l₁ : List α} {l₂ : List β}, Paired F l₁ l₂ → ∀ b ∈ l₂, ∃ a ∈ l₁, F a b
  | _, _, .nil, b, h => by cases h
  | _, _, .cons r t, b, h => by
    cases h with
    | head => exact ⟨_, by simp, r⟩
    | tail _ h =>
      obtain ⟨a, h1, h2⟩ := paired_mem t b h
      exact ⟨a, by simp [h1], h2⟩
theorem DTup.of {X : Cx} {pins : List (Addr × Obj)} {σ : L2.St} {H : Hp} {s : Shared} {a : Addr} {kvs : List (D × D)} (I : Inv X pins σ H s) (h : DTup X.prog X.w X.K H a kvs) :
    ∃ xs, s.heap.DictOfH (nkd X) a xs ∧ Paired (KVr X H) kvs xs := by
  obtain ⟨o, es, ep, xs, h1, h2, h3, h4, h5, h6⟩ := h.at_
  have hg : s.heap.get? a = some o := (I.hok a _ h1).1
  refine ⟨xs, ⟨o, es, ep, hg, h2, h3, h4, fun x hx => ?_, h5⟩, h6⟩
  obtain ⟨p, _, q1, q2, q3, _⟩ := paired_mem h6 x hx
  exact ⟨PF.nested I _ _ _ _ q3 q1 rfl, q2⟩
section
variable {X : Cx} {c : Cel} {a b e : Expr} {pos : Pos}
theorem b_len : CallR X (.builtin "len") (rN (wd X) lenD) := by
  intro pins s σ H xs us Q I rx h
  obtain ⟨ds, r, hx, h, q⟩ := h
  unfold lenD at h
  split at h
  · cases h
    obtain ⟨a, rfl, hx1⟩ := pair1 hx
    obtain ⟨l, vs, rfl, h1, q1⟩ := hx1.list
    refine call_len_seq pins s σ H _ us Q I rx ⟨l, vs, rfl, .inl (.inl h1), ?_⟩
    rw [q1.length]
    exact q _ H (.refl H) (.int _)
  · cases h
    obtain ⟨a, rfl, hx1⟩ := pair1 hx
    obtain ⟨l, vs, rfl, h1, q1⟩ := hx1.tup
    refine call_len_seq pins s σ H _ us Q I rx ⟨l, vs, rfl, .inr h1, ?_⟩
    rw [q1.length]
    exact q _ H (.refl H) (.int _)
  · split at h
    · rename_i hz
      cases h
      obtain ⟨a, rfl, hx1⟩ := pair1 hx
      obtain ⟨rfl, k1⟩ := hx1.str
      exact call_len_str pins s σ H _ us Q I rx ⟨_, rfl, hz, q _ H (.refl H) (.int _)⟩
    · cases h
  · cases h
    obtain ⟨a, rfl, hx1⟩ := pair1 hx
    obtain ⟨l, rfl, ob⟩ := hx1.dict
    rcases ob with ⟨ys, hl, kv⟩ | ob
    · refine call_lenD pins s σ H _ us Q I rx ⟨l, ys, rfl, hl, ?_⟩
      have : ys.length = (_ : List (D × D)).length := (Paired.length kv).symm
      rw [this]
      exact q _ H (.refl H) (.int _)
    · obtain ⟨ys, hd, pr⟩ := ob.of I
      have hl := Paired.length pr
      obtain rfl := Vals.ref1 rx
      refine call_len_dictH ob.nsys hd (by have := ob.few; rw [sizeLine_eq] at this; omega) ?_
      rw [← hl]
      exact ⟨.int _, H, I.tok _, ⟨_, rfl⟩, q _ H (.refl H) (.int _)⟩
  · cases h
/-- a built-in class by its name -/
theorem ce_ty {t : String} {p1 : Pos} (hg : Gl X (.ofString t)) (hm : X.mg (.ofString t) = none) (hv : bootBuiltins (.ofString t) = some (.type t)) (hn : (Str.ofString t) ≠ "__name__") (hd : ((Str.ofString t) == ("__debug__" : Str)) = false) : PE X (.Name (.ofString t) p1) (tC (.ty t)) :=
  pe_bltn hg hm hv rfl hn hd
theorem ce_isi {t : String} {f : Den R} {p1 : Pos} (hk : t ∈ knownTy) (hg : Gl X "isinstance") (hm : X.mg "isinstance" = none) (ha : PE X a (tD (wd X) c f)) (ht : PE X b (tC (.ty t)))
    (hs : starEach [a, b] X.env = (false, eval a X.env) :: starEach [b] X.env) (hs2 : starEach [b] X.env = [(false, eval b X.env)]) : PE X (.Call (.Name "isinstance" p1) [a, b] [] pos) (tD (wd X) c (dIsi [t] f)) := by
  refine (pe_callB call_isi hg hm (by decide +kernel) (pa_cons ha (pa_cons ht pa_nil hs2) hs) (by decide) (by decide) hs (back_any (by rw [hs2]; rfl) pos)).imp fun σ H Q h => ?_
  obtain ⟨ρ, s, r, s', E, hf, q⟩ := h
  unfold dIsi at hf
  split at hf
  · rename_i r1 s1 h1
    split at hf
    · rename_i hd
      cases hf
      refine ⟨ρ, s, r1, _, E, h1, fun v H1 e1 k1 rs => ⟨v, .ty t, _, _, _, rfl, .ty t, rs.po.tyx hd, kit_data hd hk, q _ H1 e1 k1 ?_⟩⟩
      have e : [t].any (instB r1.2) = instB r1.2 t := by simp
      rw [e]
      exact .bl _
    · cases hf
  · cases hf
theorem ce_isi2 {t t' : String} {f : Den R} {p1 p2 : Pos} {b' : Expr} {kk : Nat} (hk : t ∈ knownTy) (hk' : t' ∈ knownTy) (hg : Gl X "isinstance") (hm : X.mg "isinstance" = none) (ha : PE X a (tD (wd X) c f)) (ht : PE X b (tC (.ty t))) (ht' : PE X b' (tC (.ty t')))
    (hs : starEach [a, .Tuple [b, b'] kk p2] X.env = (false, eval a X.env) :: starEach [.Tuple [b, b'] kk p2] X.env) (h1 : starEach [b, b'] X.env = (false, eval b X.env) :: starEach [b'] X.env) (h2 : starEach [b'] X.env = [(false, eval b' X.env)]) :
    PE X (.Call (.Name "isinstance" p1) [a, .Tuple [b, b'] kk p2] [] pos) (tD (wd X) c (dIsi [t, t'] f)) := by
  refine (pe_callB call_isiT hg hm (by decide +kernel) (pa_cons ha (pa_cons (pe_tup (pa_cons ht (pa_cons ht' pa_nil h2) h1)) pa_nil rfl) hs) (by decide) (by decide) hs (back_any rfl pos)).imp fun σ H Q h => ?_
  obtain ⟨ρ, s, r, s', E, hf, q⟩ := h
  unfold dIsi at hf
  split at hf
  · rename_i r1 s1 h1
    split at hf
    · rename_i hd
      cases hf
      refine ⟨ρ, s, r1, _, E, h1, fun v H1 e1 k1 rs => ⟨by show 2 ≤ sizeLine; decide, fun p hp => ?_⟩⟩
      have sm := same_new (o := .tup [.ty t, .ty t']) hp
      have po := rs.po_ext (Ext.of sm)
      refine ⟨v, p, [.ty t, .ty t'], _, [t, t'].map Value.type, _, rfl, upd_same, .cons (.ty t) (.cons (.ty t') .nil), po.tyx hd, kit_some hd [t, t'] (by simp [hk, hk']), q _ _ (e1.trans (.of sm)) (k1.same sm) (.bl _)⟩
    · cases hf
  · cases hf
/-! ### the module's constants -/
theorem ce_glob {x : Str} {v : V} {u : Value} {d : D} {p1 : Pos} (hg : Gl X x) (hm : X.mg x = some u) (r : RelV v u) (hd : (x == ("__debug__" : Str)) = false) (h : ∀ H, PF X.K H v d) : PE X (.Name x p1) (tD (wd X) c (dC d)) :=
  (pe_glob hg hm r hd).imp (tC_imp h)
/-! ### chains -/
theorem ct_chain {op op' : CmpOp} {p p' : D → D → Option R} {f g k : Den R} {a b e : Expr} (hpf : ∀ d e r, p d e = some r → r.1 = .pf) (hpf' : ∀ d e r, p' d e = some r → r.1 = .pf)
    (ho : OpR X (compareOp op) (r2 (wd X) p)) (ho' : OpR X (compareOp op') (r2 (wd X) p')) (ha : PE X a (tD (wd X) c f)) (hb : PE X b (tD (wd X) c g)) (he : PE X e (tD (wd X) c k)) (hm : lastMarks [op, op'] [b, e] = false) :
    PT X (.Compare a [op, op'] [b, e] pos) (tDT (wd X) c (dChain p p' f g k)) := (pt_chain ho ho' ha hb he hm).imp fun σ H Q h => chain_imp hpf hpf' h
theorem ce_chain {op op' : CmpOp} {p p' : D → D → Option R} {f g k : Den R} {a b e : Expr} (hpf : ∀ d e r, p d e = some r → r.1 = .pf) (hpf' : ∀ d e r, p' d e = some r → r.1 = .pf)
    (ho : OpR X (compareOp op) (r2 (wd X) p)) (ho' : OpR X (compareOp op') (r2 (wd X) p')) (ha : PE X a (tD (wd X) c f)) (hb : PE X b (tD (wd X) c g)) (he : PE X e (tD (wd X) c k)) (hm : lastMarks [op, op'] [b, e] = false) :
    PE X (.Compare a [op, op'] [b, e] pos) (tD (wd X) c (dB (dChain p p' f g k))) := by
  refine ⟨fun pins st σ H Q I h => ?_⟩
  obtain ⟨ρ, s, r, s', E, hf, q⟩ := h
  unfold dB at hf
  cases h1 : dChain p p' f g k ρ s with
  | none => rw [h1] at hf; cases hf
  | some x =>
    rw [h1] at hf
    cases hf
    refine thn ((pe_chain ho ho' ha hb he hm).run pins st σ H _ I (chain_imp (X := X) (c := c) (Q := fun b H' => b = x.1 ∧ Ext c.fp H H' ∧ CelOk (wd X) c x.2 H') hpf hpf' ⟨ρ, s, x.1, x.2, E, h1, fun H' e k => ⟨rfl, e, k⟩⟩)) fun u s2 ⟨v, H2, I2, rv, b, ev, eb, e2, k2⟩ => ?_
    subst ev; subst eb
    exact ⟨_, H2, I2, rv, q _ H2 e2 k2 (.bl _)⟩
/-! ### x op= e, numbers -/
def sAug (p : Int → Int → Option Int) (i : Nat) (f : Den R) : DenS := fun ρ s => match ρ[i]? with
  | some (some (.val (.int n))) => (match f ρ s with
    | some ((_, .int m), s1) => (p n m).map fun z => (.nx (ρ.set i (some (.val (.int z)))), s1)
    | _ => none)
  | _ => none
def mulI (n m : Int) : Option Int := if cmulB n m then some (n * m) else none
theorem cs_augMul {G : Hp} {f : Den R} {i : Nat} {x : Str} {pos' : Pos} (hN : X.N.Nodup) (hi : X.N[i]? = some x) (hx : Loc X.env.scope x) (hf : X.fn x = true ∨ X.env.scope.names.lookup x = some .local) (he : PE X e (tD (wd X) c f)) :
    PS X (.AugAssign (.Name x pos') .Mult e pos) (tS (wd X) c G (sAug mulI i f)) := by
  refine (ps_aug hN hi hx he iop_mul hf).imp fun D σ H h => ?_
  obtain ⟨ρ, s, o, s', S, hf, q⟩ := h
  unfold sAug at hf
  split at hf
  · rename_i n e
    split at hf
    · rename_i fl m s1 h1
      unfold mulI at hf
      split at hf
      · rename_i hz
        cases hf
        obtain ⟨v, ev, ok⟩ := S.est.slot i _ e
        refine ⟨v, ev, ρ, s, _, _, S.est, h1, fun w H1 e1 k1 r1 => ?_⟩
        have e2 : v = .int n := by cases ok; rfl
        exact ⟨n, m, e2, r1.po.int, cmulB_ok hz, q _ H1 (S.put (r := (.pf, .int (n * m))) e1 k1 (.int _) rfl) e1.pers⟩
      · cases hf
    · cases hf
  · cases hf
end
end Co
end

section
set_option Elab.async false
set_option linter.all false
set_option maxRecDepth 100000
set_option autoImplicit false
namespace Co
open PySem PySem.Spec L2 PyProof.Rows
variable [Tbs]

/-! ### dicts as lists of pairs -/
def keyEq (a b : D) : Bool := match nk a, nk b with
  | some x, some y => decide (x = y)
  | _, _ => false
def lookD (kvs : List (D × D)) (k : D) : Option D := (kvs.find? fun p => keyEq p.1 k).map (·.2)
def putD (kvs : List (D × D)) (k v : D) : List (D × D) := if (kvs.any fun p => keyEq p.1 k) = true then kvs.map (fun p => if keyEq p.1 k = true then (p.1, v) else p) else kvs ++ [(k, v)]
def isTup : D → Bool
  | .tuple _ => true
  | _ => false
def nkB (d : D) : Bool := match nk d with
  | some k => decide (k.depth ≤ 8)
  | none => false
def okKey (kvs : List (D × D)) (d : D) : Bool := if isTup d then kvs.all (fun p => isTup p.1) && nkB d else kvs.all (fun p => !isTup p.1) && (sKey d).isSome
def nkS : Key → NestedKey
  | .inl i => .num i
  | .inr x => .text x
theorem sKey_nk {d : D} {k : Key} (h : sKey d = some k) : nk d = some (nkS k) := by
  cases d <;> first | (cases h; rfl) | cases h
theorem sKey_inj {k l : Key} : nkS k = nkS l ↔ k = l := by
  cases k <;> cases l <;> simp [nkS]
theorem keyEq_s {a b : D} {k l : Key} (h : sKey a = some k) (h' : sKey b = some l) : keyEq a b = decide (k = l) := by
  unfold keyEq
  rw [sKey_nk h, sKey_nk h']
  show decide _ = _
  rw [decide_eq_decide]
  exact sKey_inj
theorem keyEq_n {a b : D} {k l : NestedKey} (h : nk a = some k) (h' : nk b = some l) : keyEq a b = decide (k = l) := by
  unfold keyEq
  rw [h, h']
theorem isTup_s {d : D} {k : Key} (h : sKey d = some k) : isTup d = false := by
  cases d <;> first | rfl | cases h
theorem sKey_val {K : PySem.W.Frag} {H : Hp} {v : V} {d : D} {k : Key} (p : PF K H v d) (h : sKey d = some k) : v = kV k := by
  cases d <;> first | (cases h; cases p; rfl) | cases h
section
variable {W : Wd} {H : Hp}
theorem KVs.look {kvs : List (D × D)} {xs : List (Key × V)} {d : D} {k : Key} (h : KVs W.K H kvs xs) (hk : sKey d = some k) :
    (lookD kvs d = none ∧ valV xs k = none) ∨ ∃ e v, lookD kvs d = some e ∧ valV xs k = some v ∧ PF W.K H v e := by
  unfold KVs at h
  induction h with
  | nil => exact .inl ⟨rfl, rfl⟩
  | @cons p q ps qs r t ih =>
    unfold lookD valV at *
    rw [List.find?_cons, List.find?_cons, keyEq_s r.1.1 hk]
    by_cases e : q.1 = k
    · rw [decide_eq_true e]
      exact .inr ⟨_, _, rfl, rfl, r.2⟩
    · rw [decide_eq_false e]
      exact ih
theorem KVs.any {kvs : List (D × D)} {xs : List (Key × V)} {d : D} {k : Key} (h : KVs W.K H kvs xs) (hk : sKey d = some k) : (kvs.any fun p => keyEq p.1 d) = (xs.any fun q => decide (q.1 = k)) := by
  unfold KVs at h
  induction h with
  | nil => rfl
  | @cons p q ps qs r t ih => rw [List.any_cons, List.any_cons, ih, keyEq_s r.1.1 hk]
theorem KVs.map {kvs : List (D × D)} {xs : List (Key × V)} {d e : D} {k : Key} {v : V} (h : KVs W.K H kvs xs) (hk : sKey d = some k) (p : PF W.K H v e) :
    KVs W.K H (kvs.map fun p => if keyEq p.1 d = true then (p.1, e) else p) (xs.map fun q => if q.1 = k then (q.1, v) else q) := by
  unfold KVs at *
  induction h with
  | nil => exact .nil
  | @cons p q ps qs r t ih =>
    rw [List.map_cons, List.map_cons]
    refine .cons ?_ ih
    rw [keyEq_s r.1.1 hk]
    by_cases z : q.1 = k
    · rw [decide_eq_true z, if_pos rfl, if_pos z]
      exact ⟨r.1, by assumption⟩
    · rw [decide_eq_false z, if_neg (by decide), if_neg z]
      exact r
theorem KVs.put {kvs : List (D × D)} {xs : List (Key × V)} {d e : D} {k : Key} {v : V} (h : KVs W.K H kvs xs) (hk : sKey d = some k) (pk : PF W.K H (kV k) d) (p : PF W.K H v e) : KVs W.K H (putD kvs d e) (putK xs k v) := by
  unfold putD putK
  rw [KVs.any h hk]
  split
  · exact KVs.map h hk p
  · unfold KVs at *
    exact Paired.snoc h ⟨⟨hk, pk⟩, p⟩
theorem KVs.pers {H' : Hp} {kvs : List (D × D)} {xs : List (Key × V)} (h : KVs W.K H kvs xs) (p : Pers H H') : KVs W.K H' kvs xs := paired_imp h fun _ _ z => ⟨⟨z.1.1, PF.pers p _ _ z.1.2⟩, PF.pers p _ _ z.2⟩
theorem putD_len (kvs : List (D × D)) (k v : D) : (putD kvs k v).length ≤ kvs.length + 1 := by
  unfold putD
  split
  · rw [List.length_map]; omega
  · rw [List.length_append]; simp
end
theorem PO.pfT {W : Wd} {H : Hp} {v : V} {d : D} (h : PO W H v d) (ht : isTup d = true) : PF W.K H v d := by
  rcases h with p | ⟨c, rfl, o⟩
  · exact p
  · cases d with
    | tuple ds => exact False.elim o
    | _ => cases ht
theorem PO.pfS {W : Wd} {H : Hp} {v : V} {d : D} {k : Key} (h : PO W H v d) (ht : sKey d = some k) : PF W.K H v d := by
  rcases h with p | ⟨c, rfl, o⟩
  · exact p
  · cases d with
    | int _ => exact False.elim o
    | str _ => exact False.elim o
    | _ => cases ht
/-! tuples as keys -/
section
variable {X : Cx} {H : Hp}
theorem kvr_look {kvs : List (D × D)} {xs : List (NestedKey × Addr × Value)} {d : D} {k : NestedKey} (h : Paired (KVr X H) kvs xs) (hk : nk d = some k) :
    (lookD kvs d = none ∧ atKey xs k = none) ∨ ∃ e q v, lookD kvs d = some e ∧ atKey xs k = some q ∧ RelV v q.2 ∧ PF X.K H v e := by
  induction h with
  | nil => exact .inl ⟨rfl, rfl⟩
  | @cons p q ps qs r t ih =>
    unfold lookD atKey at *
    rw [List.find?_cons, List.find?_cons, keyEq_n r.1 hk]
    by_cases e : q.1 = k
    · rw [decide_eq_true e]
      obtain ⟨v, r1, r2⟩ := r.2.2.2
      exact .inr ⟨_, _, v, rfl, rfl, r1, r2⟩
    · rw [decide_eq_false e]
      exact ih
theorem kvr_any {kvs : List (D × D)} {xs : List (NestedKey × Addr × Value)} {d : D} {k : NestedKey} (h : Paired (KVr X H) kvs xs) (hk : nk d = some k) : (kvs.any fun p => keyEq p.1 d) = (atKey xs k).isSome := by
  induction h with
  | nil => rfl
  | @cons p q ps qs r t ih =>
    unfold atKey at *
    rw [List.any_cons, List.find?_cons, ih, keyEq_n r.1 hk]
    by_cases e : q.1 = k
    · rw [decide_eq_true e]; rfl
    · rw [decide_eq_false e]; rfl
theorem kvr_map {kvs : List (D × D)} {xs : List (NestedKey × Addr × Value)} {d e : D} {k : NestedKey} {v : V} {u : Value} (h : Paired (KVr X H) kvs xs) (hk : nk d = some k) (rv : RelV v u) (pv : PF X.K H v e) :
    Paired (KVr X H) (kvs.map fun p => if keyEq p.1 d = true then (p.1, e) else p) (xs.map (putAt k u)) := by
  induction h with
  | nil => exact .nil
  | @cons p q ps qs r t ih =>
    rw [List.map_cons, List.map_cons]
    refine .cons ?_ ih
    rw [keyEq_n r.1 hk]
    unfold putAt
    by_cases z : q.1 = k
    · rw [decide_eq_true z, if_pos rfl, if_pos z]
      exact ⟨r.1, r.2.1, r.2.2.1, v, rv, pv⟩
    · rw [decide_eq_false z, if_neg (by decide), if_neg z]
      exact r
theorem kvr_put {kvs : List (D × D)} {xs : List (NestedKey × Addr × Value)} {d e : D} {k : NestedKey} {b : Addr} {v : V} {u : Value} (h : Paired (KVr X H) kvs xs) (hk : nk d = some k) (h8 : k.depth ≤ 8) (pb : PF X.K H (.ref b) d) (rv : RelV v u) (pv : PF X.K H v e) :
    Paired (KVr X H) (putD kvs d e) (storedH xs k b u) := by
  unfold putD storedH
  rw [kvr_any h hk]
  split
  · exact kvr_map h hk rv pv
  · exact Paired.snoc h ⟨hk, h8, pb, v, rv, pv⟩
theorem kvr_pers {H' : Hp} {kvs : List (D × D)} {xs : List (NestedKey × Addr × Value)} (h : Paired (KVr X H) kvs xs) (p : Pers H H') : Paired (KVr X H') kvs xs := paired_imp h fun _ _ z => ⟨z.1, z.2.1, PF.pers p _ _ z.2.2.1, let ⟨v, r, f⟩ := z.2.2.2; ⟨v, r, PF.pers p _ _ f⟩⟩
variable {pins : List (Addr × Obj)} {σ : L2.St} {s : Shared} {a : Addr} {kvs : List (D × D)}
theorem tup_ref {K : PySem.W.Frag} {v : V} {d : D} (p : PF K H v d) (h : isTup d = true) : ∃ b, v = .ref b := by
  cases p <;> first | exact ⟨_, rfl⟩ | cases h
theorem nkB_ok {d : D} (h : nkB d = true) : ∃ k, nk d = some k ∧ k.depth ≤ 8 := by
  unfold nkB at h
  split at h
  · rename_i k e; exact ⟨k, e, of_decide_eq_true h⟩
  · cases h
/-- the dict as one keyed by tuples -/
theorem Ob.keyed (I : Inv X pins σ H s) (ob : Ob (wd X) H a (.dict kvs)) (hk : (kvs.all fun p => isTup p.1) = true) : kvs.length ≤ sizeLine ∧ (a == sysModules) = false ∧ ∃ xs, s.heap.DictOfH (nkd X) a xs ∧ Paired (KVr X H) kvs xs := by
  rcases ob with ⟨xs, hl, kv⟩ | ob
  · have ek : kvs = [] := by
      cases kv with
      | nil => rfl
      | cons r t =>
        rw [List.all_cons, isTup_s r.1.1] at hk
        cases hk
    subst ek
    cases kv
    obtain ⟨z, hd, vs, rel, o, es, ep, h1, h2, h3, h4, h5, h6⟩ := dk_of I.hok hl
    cases rel
    refine ⟨Nat.zero_le _, hd, [], ⟨o, es, ep, h1, h2, h3, ?_, fun _ h => (by cases h), List.nodup_nil⟩, .nil⟩
    cases z : es.toList with
    | nil => rfl
    | cons e r => rw [z] at h5; cases h5
  · exact ⟨ob.few, ob.nsys, ob.of I⟩
/-- .. and by ints and texts -/
theorem ob_plain (ob : Ob (wd X) H a (.dict kvs)) (hk : (kvs.all fun p => !isTup p.1) = true) : ∃ xs, H a = some (HO.dK xs) ∧ KVs X.K H kvs xs := by
  rcases ob with h | ob
  · exact h
  · exfalso
    obtain ⟨o, es, ep, xs, h1, h2, h3, h4, h5, h6⟩ := ob.at_
    cases h6 with
    | nil => exact ob.ne rfl
    | @cons p q _ _ r t =>
      rw [List.all_cons, Bool.and_eq_true] at hk
      obtain ⟨d, e⟩ := p
      have pf : PF X.K H (.ref q.2.1) d := r.2.2.1
      have n : nk d = some q.1 := r.1
      have hk1 : (!isTup d) = true := hk.1
      cases pf with
      | lst _ _ => cases n
      | tup _ _ => cases hk1
theorem nroom {k : Nat} (hr : Room k X.A) : (nkd X).room X.A.in1 := by
  show X.A.units + 1 + 8 < cLine
  have := hr.un; omega
theorem okKey_cases {kvs : List (D × D)} {d : D} (h : okKey kvs d = true) : (isTup d = true ∧ (kvs.all fun p => isTup p.1) = true ∧ ∃ k, nk d = some k ∧ k.depth ≤ 8) ∨ ((kvs.all fun p => !isTup p.1) = true ∧ ∃ k, sKey d = some k) := by
  unfold okKey at h
  split at h
  · rename_i ht
    rw [Bool.and_eq_true] at h
    exact .inl ⟨ht, h.1, nkB_ok h.2⟩
  · rw [Bool.and_eq_true] at h
    exact .inr ⟨h.1, Option.isSome_iff_exists.mp h.2⟩
/-! ### d[k] -/
def idxE (d e : D) : Option R := match d with
  | .dict kvs => if okKey kvs e = true then (lookD kvs e).map fun x => (.pf, x) else none
  | _ => idxD d e
theorem tail_dict {value slice : Expr} {b : Addr} {u : Value} {Q : Value → Shared → Prop} {E : Value → Shared → Prop} {A : Around} {P : Program} {w : World} (hT : s.TypeIs (.ref b) "dict") (hs : subscripted slice false (.ref b) u = operate [.ref b, u] (getItem (.ref b) u))
    (h : wpAny (model P w) A (getItem (.ref b) u) Q E s) : wpAny (model P w) A (subscriptTail value slice (.ref b) u) Q E s := by
  unfold subscriptTail
  refine wpAny_bind ?_
  rw [getitemInPython_of_ne hT.not_modules]
  refine wpAny_bind (wpAny_specialOf hT PySem.F.slot_dict_getitem.lookup ?_)
  have z : wpAny (model P w) A (subscripted slice false (.ref b) u) (fun r s3 => wpAny (model P w) A (letTemporaryGo value (.ref b) r >>= fun _ => pure r) Q E s3) E s := by
    rw [hs]
    exact wpAny_operating (wpAny_mono h (fun r s3 q => wpAny_bind (wpAny_letTemporaryGo (wpAny_pure q))) fun _ _ q => q)
  first
    | exact wpAny_pure (wpAny_bind z)
    | exact wpAny_bind (wpAny_pure (wpAny_bind z))
    | exact wpAny_bind z
theorem ix_E {k : Nat} (hr : Room k X.A) : IxR X (r2 (wd X) idxE) := by
  intro value slice pins s σ H x y v u Q I rx ry h hs
  obtain ⟨d, e, r, hx, hy, h, q⟩ := h
  unfold idxE at h
  split at h
  · rename_i kvs
    split at h
    · rename_i ok
      cases hl : lookD kvs e with
      | none => rw [hl] at h; cases h
      | some z =>
        rw [hl] at h
        cases h
        obtain ⟨b, rfl, ob⟩ := hx.dict
        cases rx
        rcases okKey_cases ok with ⟨ht, ha, kk, hk, h8⟩ | ⟨ha, kk, hk⟩
        · have pe : PF X.K H y e := hy.pfT ht
          obtain ⟨c, rfl⟩ := tup_ref pe ht
          cases ry
          obtain ⟨few, nsys, xs, hd, pr⟩ := ob.keyed I ha
          have key : (nkd X).is s.heap kk c := ⟨PF.nested I _ _ _ _ pe hk rfl, h8⟩
          rcases kvr_look pr hk with ⟨n1, _⟩ | ⟨e', q', w, g1, g2, g3, g4⟩
          · rw [n1] at hl; cases hl
          · rw [g1] at hl
            cases hl
            refine tail_dict hd.typeIs hs (getItem_keyed (kvs := pairsH xs) (nroom hr) key ⟨xs, hd, rfl⟩ (by rw [valueAt_pairsH, g2]; rfl) ?_)
            exact ⟨w, H, I.tok _, g3, q _ H (.refl H) g4⟩
        · obtain ⟨xs, hH, kv⟩ := ob_plain ob ha
          have pe : PF X.K H y e := hy.pfS hk
          have ey := sKey_val pe hk
          subst ey
          rcases kv.look (W := wd X) hk with ⟨n1, _⟩ | ⟨e', w, g1, g2, g3⟩
          · rw [n1] at hl; cases hl
          · rw [g1] at hl
            cases hl
            have g : DGet H b (kV kk) (some w) := .inl ⟨xs, kk, .inl hH, rfl, g2.symm⟩
            exact tail_dict (dict_typeIs I g) hs (d_getItem (by have := hr.un; omega) I g ry fun w' s' I' r' => ⟨w, H, I', r', q _ H (.refl H) g3⟩)
    · cases h
  · exact ix_D value slice pins s σ H x y v u Q I rx ry ⟨d, e, r, hx, hy, h, q⟩ hs
/-! ### k in d -/
def inE (d e : D) : Option R := match e with
  | .dict kvs => if okKey kvs d = true then some (.pf, .bool (lookD kvs d).isSome) else none
  | _ => inD d e
def notinE (d e : D) : Option R := match e with
  | .dict kvs => if okKey kvs d = true then some (.pf, .bool !(lookD kvs d).isSome) else none
  | _ => notinD d e
theorem op_inE {k : Nat} (hr : Room k X.A) : OpR X (compareOp .In) (r2 (wd X) inE) := by
  intro pins s σ H x y v u Q I rx ry h
  obtain ⟨d, e, r, hx, hy, h, q⟩ := h
  unfold inE at h
  split at h
  · rename_i kvs
    split at h
    · rename_i ok
      cases h
      obtain ⟨b, rfl, ob⟩ := hy.dict
      cases ry
      rcases okKey_cases ok with ⟨ht, ha, kk, hk, h8⟩ | ⟨ha, kk, hk⟩
      · have pe : PF X.K H x d := hx.pfT ht
        obtain ⟨c, rfl⟩ := tup_ref pe ht
        cases rx
        obtain ⟨few, nsys, xs, hd, pr⟩ := ob.keyed I ha
        have key : (nkd X).is s.heap kk c := ⟨PF.nested I _ _ _ _ pe hk rfl, h8⟩
        refine in_keyed (kvs := pairsH xs) (nroom hr) key nsys ⟨xs, hd, rfl⟩ ?_
        rw [valueAt_pairsH]
        rcases kvr_look pr hk with ⟨n1, n2⟩ | ⟨e', q', w, g1, g2, g3, g4⟩
        · rw [n2]; rw [n1] at q
          exact ⟨.bl false, H, I.tok _, rfl, q _ H (.refl H) (.bl _)⟩
        · rw [g2]; rw [g1] at q
          exact ⟨.bl true, H, I.tok _, rfl, q _ H (.refl H) (.bl _)⟩
      · obtain ⟨xs, hH, kv⟩ := ob_plain ob ha
        have pe : PF X.K H x d := hx.pfS hk
        have ey := sKey_val pe hk
        subst ey
        have g : DGet H b (kV kk) (valV xs kk) := .inl ⟨xs, kk, .inl hH, rfl, rfl⟩
        refine d_in (by have := hr.un; omega) I g rx fun s' I' => ⟨.bl _, H, I', rfl, ?_⟩
        rcases kv.look (W := wd X) hk with ⟨n1, n2⟩ | ⟨e', w, g1, g2, g3⟩
        · rw [n2]; rw [n1] at q; exact q _ H (.refl H) (.bl _)
        · rw [g2]; rw [g1] at q; exact q _ H (.refl H) (.bl _)
    · cases h
  · exact op_inDD hr pins s σ H x y v u Q I rx ry ⟨d, e, r, hx, hy, h, q⟩
theorem op_notinE {k : Nat} (hr : Room k X.A) : OpR X (compareOp .NotIn) (r2 (wd X) notinE) := by
  intro pins s σ H x y v u Q I rx ry h
  obtain ⟨d, e, r, hx, hy, h, q⟩ := h
  unfold notinE at h
  split at h
  · rename_i kvs
    split at h
    · rename_i ok
      cases h
      obtain ⟨b, rfl, ob⟩ := hy.dict
      cases ry
      rcases okKey_cases ok with ⟨ht, ha, kk, hk, h8⟩ | ⟨ha, kk, hk⟩
      · have pe : PF X.K H x d := hx.pfT ht
        obtain ⟨c, rfl⟩ := tup_ref pe ht
        cases rx
        obtain ⟨few, nsys, xs, hd, pr⟩ := ob.keyed I ha
        have key : (nkd X).is s.heap kk c := ⟨PF.nested I _ _ _ _ pe hk rfl, h8⟩
        refine notIn_keyed (kvs := pairsH xs) (nroom hr) key nsys ⟨xs, hd, rfl⟩ ?_
        rw [valueAt_pairsH]
        rcases kvr_look pr hk with ⟨n1, n2⟩ | ⟨e', q', w, g1, g2, g3, g4⟩
        · rw [n2]; rw [n1] at q
          exact ⟨.bl true, H, I.tok _, rfl, q _ H (.refl H) (.bl _)⟩
        · rw [g2]; rw [g1] at q
          exact ⟨.bl false, H, I.tok _, rfl, q _ H (.refl H) (.bl _)⟩
      · obtain ⟨xs, hH, kv⟩ := ob_plain ob ha
        have pe : PF X.K H x d := hx.pfS hk
        have ey := sKey_val pe hk
        subst ey
        have g : DGet H b (kV kk) (valV xs kk) := .inl ⟨xs, kk, .inl hH, rfl, rfl⟩
        refine d_notIn (by have := hr.un; omega) I g rx fun s' I' => ⟨.bl _, H, I', rfl, ?_⟩
        rcases kv.look (W := wd X) hk with ⟨n1, n2⟩ | ⟨e', w, g1, g2, g3⟩
        · rw [n2]; rw [n1] at q; exact q _ H (.refl H) (.bl _)
        · rw [g2]; rw [g1] at q; exact q _ H (.refl H) (.bl _)
    · cases h
  · exact op_notinDD hr pins s σ H x y v u Q I rx ry ⟨d, e, r, hx, hy, h, q⟩
end
end Co
end

section
set_option Elab.async false
set_option linter.all false
set_option maxRecDepth 100000
set_option autoImplicit false
namespace Co
open PySem PySem.Spec L2 PyProof.Rows
variable [Tbs]

/-! ### a dict keyed by tuples, walked by its keys -/
def Zp (d : Addr) (o : Obj) (H : Hp) : Prop := H d = some (pinO d o) ∨ ∃ o', H d = some (.frz o' (pinO d o))
theorem Zp.get {X : Cx} {pins : List (Addr × Obj)} {σ : L2.St} {H : Hp} {s : Shared} {d : Addr} {o : Obj} (I : Inv X pins σ H s) (z : Zp d o H) : s.heap.get? d = some o := by
  rcases z with z | ⟨o', z⟩
  · exact (I.hok d _ z).1
  · exact (I.hok d _ z).2.1
def Itp (d : Addr) (o : Obj) (es : Array DictEntry) : It :=
  ⟨fun i H => Zp d o H ∧ i < es.size, fun i H x H' => H' = H ∧ ∃ hi : i < es.size, RelV x es[i].key, fun i H => Zp d o H ∧ es.size ≤ i⟩
theorem turn_pin {P : Program} {w : World} {K : PySem.W.Frag} {tg : Expr} {d : Addr} {o : Obj} {es : Array DictEntry} {ep : Nat} (it : Addr) (hod : o.data = .dict es ep) (hk : ∀ i (hi : i < es.size), ∃ v, RelV v es[i].key) : Turn P w K tg (Itp d o es) [it] it (fun i h => h.IsKeyIter it d i es.size ep) where
  mem := List.mem_singleton.mpr rfl
  obj := fun i h st b hb => by
    obtain rfl := List.mem_singleton.mp hb
    obtain ⟨oi, e, c, dd⟩ := st
    exact ⟨oi, e, fun v z => by rw [dd] at z; cases z⟩
  keep := fun i h h' st k => st.at fun oi e => k it (List.mem_singleton.mpr rfl) oi e
  item := by
    intro X hP hw hK hc i pins s σ H E I hf st hg
    subst hP hw hK
    obtain ⟨hd, hi⟩ := hg
    obtain ⟨f0, f1, f2, f3, f4, f5⟩ := hf it (List.mem_singleton.mpr rfl)
    obtain ⟨v, rv⟩ := hk i hi
    refine next_key_item st (hd.get I) hod rfl (Array.getElem?_eq_getElem hi) fun h' st' sb => ?_
    have I1 : Inv X pins σ H { s with heap := h' } := I.turned (t' := s.toks) (fun b ob hb e => (sb.2 b hb).trans e) f0 f1 f3 f4 f5
    obtain ⟨oi, e, c, dd⟩ := id st'
    exact ⟨_, rfl, go_of (s := { s with heap := h' }) e c dd (by decide) ⟨v, H, I1, rv, ⟨rfl, hi, rv⟩, st', fun b hb => (hf b hb).1⟩⟩
  done := by
    intro X hP hw hK hc i pins s σ H E I hf st hg
    subst hP hw hK
    obtain ⟨hd, hi⟩ := hg
    obtain ⟨f0, f1, f2, f3, f4, f5⟩ := hf it (List.mem_singleton.mpr rfl)
    exact next_key_end (I.ok.hd hc) st (hd.get I) hod rfl hi fun h' eb => ⟨rfl, I.turned (t' := s.toks) (fun b ob hb e => eb b ob hb e) f0 f1 f3 f4 f5⟩
  self := fun A i s Q E st h => by
    refine wpAny_pyIter_slot st.typeIs F.slot_dict_keyiterator_iter (wpAny_call_entry F.slot_dict_keyiterator_iter st.typeIs F.entry_dict_keyiterator_iter ?_ (F.args_dict_keyiterator_iter_1 _))
    exact wpAny_pure ⟨_, rfl, "dict_keyiterator", _, st.typeIs, F.slot_dict_keyiterator_next.lookup, h⟩

/-! ### what stands in a dict, entry by entry -/
section
variable {X : Cx} {c : Cel} {pins : List (Addr × Obj)} {σ : L2.St} {H : Hp} {s : Shared} {a : Addr} {kvs : List (D × D)}
theorem paired_get {α β : Type} {F : α → β → Prop} : ∀ {l₁ : List α} {l₂ : List β}, Paired F l₁ l₂ → ∀ (i : Nat) (x : α), l₁[i]? = some x → ∃ y, l₂[i]? = some y ∧ F x y
  | _, _, .nil, i, x, h => by simp at h
  | _, _, .cons r t, 0, x, h => by simp at h; subst h; exact ⟨_, rfl, r⟩
  | _, _, .cons r t, i + 1, x, h => by
    obtain ⟨y, h1, h2⟩ := paired_get t i x (by simpa using h)
    exact ⟨y, by simpa using h1, h2⟩
/-- entries and pairs -/
def EntR (X : Cx) (H : Hp) (es : Array DictEntry) (kvs : List (D × D)) : Prop := es.size = kvs.length ∧ ∀ i (hi : i < es.size) d e, kvs[i]? = some (d, e) → ∃ v w, RelV v es[i].key ∧ PF X.K H v d ∧ RelV w es[i].val ∧ PF X.K H w e
theorem ent_keyed {o : Obj} {es : Array DictEntry} {xs : List (NestedKey × Addr × Value)} (h4 : es.toList = xs.map (entryOfKey (nkd X))) (pr : Paired (KVr X H) kvs xs) : EntR X H es kvs := by
  have sz : es.size = xs.length := by rw [← Array.length_toList, h4, List.length_map]
  refine ⟨by rw [sz, Paired.length pr], fun i hi d e hk => ?_⟩
  obtain ⟨y, h1, h2⟩ := paired_get pr i _ hk
  have e1 : es.toList[i]? = some (entryOfKey (nkd X) y) := by rw [h4, List.getElem?_map, h1]; rfl
  rw [Array.getElem?_toList, Array.getElem?_eq_getElem hi] at e1
  have e2 := Option.some.inj e1
  obtain ⟨w, r1, r2⟩ := h2.2.2.2
  exact ⟨.ref y.2.1, w, by rw [e2]; rfl, h2.2.2.1, by rw [e2]; exact r1, r2⟩
theorem ob_raw (I : Inv X pins σ H s) (ob : Ob (wd X) H a (.dict kvs)) : (a == sysModules) = false ∧ kvs.length ≤ sizeLine ∧ ∃ es ep, s.heap.DictRaw a es ep ∧ EntR X H es kvs := by
  rcases ob with ⟨xs, hl, kv⟩ | ob
  · obtain ⟨z, hd, vs, rel, dd⟩ := dk_of I.hok hl
    obtain ⟨ep, hat⟩ := dd.dictAt
    obtain ⟨es, hr, hs, hi⟩ := Heap.DictAt.raw hat
    have l1 : kvs.length = xs.length := Paired.length kv
    have l2 : xs.length = vs.length := rel.length
    refine ⟨hd, by omega, es, ep, hr, by omega, fun i h d e hk => ?_⟩
    obtain ⟨y, h1, h2⟩ := paired_get kv i _ hk
    obtain ⟨q, h3, h4⟩ := paired_get rel i _ h1
    obtain ⟨k1, k2⟩ := hi i h _ _ h3
    have key : RelV (kV y.1) es[i].key := by
      have e' : q.1 = y.1 := h4.1.symm
      rw [e'] at k1
      rcases keyIs_shape (show keyIs y.1 es[i].key = true from k1) with ⟨n, t, ek, ev⟩ | ⟨z, t, ek, ev⟩
      · rw [ek, ev]; exact ⟨t, rfl⟩
      · rw [ek, ev]; exact ⟨t, rfl⟩
    exact ⟨kV y.1, y.2, key, h2.1.2, by rw [k2]; exact h4.2, h2.2⟩
  · obtain ⟨o, es, ep, xs, h1, h2, h3, h4, h5, h6⟩ := ob.at_
    exact ⟨ob.nsys, ob.few, es, ep, ⟨o, (I.hok a _ h1).1, h2, h3⟩, ent_keyed (o := o) h4 h6⟩
theorem rel_ref {x : V} {t : Addr} (r : RelV x (.ref t)) : x = .ref t := by
  cases x <;> first | (cases r; rfl) | (obtain ⟨_, z⟩ := r; cases z) | cases r
variable {tg e : Expr} {pos : Pos}
/-! ### what an owned dict (or list) is walked by, in a comprehension -/
def ownKeys : R → Option (List D)
  | (.pf, d) => itemsD d
  | (.ln, .list ds) => some ds
  | (.ln, .dict kvs) => if kvs ≠ [] ∧ (kvs.all fun p => isTup p.1) = true then some (kvs.map (·.1)) else none
  | _ => none
def dItemsE (f : Den R) : Den (List D) := fun ρ s => match f ρ s with
  | some (r, s') => (ownKeys r).map fun ds => (ds, s')
  | _ => none
theorem ci_own {f : Den R} (ha : PE X e (tD (wd X) c f)) : PI X tg e (tI (wd X) c false (dItemsE f)) := by
  refine ⟨fun pins s σ H R I h => ?_⟩
  obtain ⟨ρ, st, ds, st', E, hf, q⟩ := h
  unfold dItemsE at hf
  split at hf
  · rename_i r s1 h1
    cases h2 : ownKeys r with
    | none => rw [h2] at hf; cases hf
    | some ds' =>
      rw [h2] at hf
      cases hf
      unfold ownKeys at h2
      split at h2
      · rename_i d
        exact (ci_val ha).weak.run pins s σ H R I ⟨ρ, st, ds, st', E, by unfold dItems; rw [h1]; show Option.map _ (itemsD d) = _; rw [h2]; rfl, q⟩
      · rename_i dl
        cases h2
        refine thn (ha.run pins s σ H (fun v H1 => Ext c.fp H H1 ∧ CelOk (wd X) c st' H1 ∧ Res (wd X) c H H1 (.ln, .list ds) v) I ⟨ρ, st, _, _, E, h1, fun v H1 e k rs => ⟨e, k, rs⟩⟩) fun u s2 ⟨v, H1, I1, rv, e1, k1, b, ev, nb, vs, hl, pq⟩ => ?_
        subst ev
        cases rv
        obtain ⟨its, r1, p, z⟩ := I1.list (.inl (.inl hl))
        refine wpAny_pyIter_list p.isList (pi_one (tk := s2.toks) I1 _ (turn_list _ _) ⟨_, Heap.get?_push_size _ rfl, rfl, rfl⟩ (q _ H1 e1 k1 ?_))
        refine ⟨by rw [← pq.length]; exact z, _, _, _, walk_list (xs := vs), pq.length, fun H x => .inl (.inl (x.keep _ _ hl nb)), fun i H x H' hi p y => ?_⟩
        obtain ⟨rfl, hx⟩ := y
        obtain ⟨d, h1, h2⟩ := pq.getV hx
        exact ⟨d, h1, .refl _, PF.pers p.pers _ _ h2⟩
      · split at h2
        · rename_i kvs hk
          cases h2
          have hk2 := hk.2
          refine thn (ha.run pins s σ H (fun v H1 => Ext c.fp H H1 ∧ CelOk (wd X) c st' H1 ∧ Res (wd X) c H H1 (.ln, .dict kvs) v) I ⟨ρ, st, _, _, E, h1, fun v H1 e k rs => ⟨e, k, rs⟩⟩) fun u s2 ⟨v, H1, I1, rv, e1, k1, b, ev, nb, ob⟩ => ?_
          subst ev
          cases rv
          rcases ob with ⟨xs, hl, kv⟩ | ob
          · exfalso
            cases kv with
            | nil => exact hk.1 rfl
            | cons r t => have := hk.2; rw [List.all_cons, isTup_s r.1.1] at this; cases this
          · obtain ⟨o, es, ep, xs, g1, g2, g3, g4, g5, g6⟩ := ob.at_
            obtain ⟨sz, en⟩ := ent_keyed (o := o) g4 g6
            have gt : ∀ i, i < es.size → ∃ d e, kvs[i]? = some (d, e) := fun i hi => ⟨_, _, List.getElem?_eq_getElem (by omega)⟩
            refine wpAny_pyIter_dict_raw ob.nsys ⟨o, (I1.hok b _ g1).1, g2, g3⟩ (pi_one (tk := s2.toks) I1 _ (turn_pin _ g3 fun i hi => ?_) ⟨_, Heap.get?_push_size _ rfl, rfl, rfl⟩ (q (Itp b o es) H1 e1 k1 ?_))
            · obtain ⟨d, e, hk⟩ := gt i hi
              obtain ⟨v, w, r1, _⟩ := en i hi d e hk
              exact ⟨v, r1⟩
            · refine ⟨by rw [List.length_map]; exact ob.few, es.size, Zp b o, (fun i H x H' => H' = H ∧ ∃ hi : i < es.size, RelV x es[i].key), ⟨fun _ _ hi z => ⟨z, hi⟩, fun _ z => ⟨z, Nat.le_refl _⟩, fun _ _ _ _ _ _ y => y⟩, by rw [List.length_map]; exact sz, fun H x => .inl (x.keep _ _ g1 nb), fun i H x H' hi p y => ?_⟩
              obtain ⟨rfl, hi, rx⟩ := y
              obtain ⟨d, e, hk⟩ := gt i hi
              obtain ⟨v, w, r1, p1, _⟩ := en i hi d e hk
              refine ⟨d, by rw [List.getElem?_map, hk]; rfl, .refl _, ?_⟩
              have tp : isTup d = true := List.all_eq_true.mp hk2 (d, e) (List.mem_of_getElem? hk)
              obtain ⟨t, rfl⟩ := tup_ref p1 tp
              have ek : es[i].key = .ref t := r1
              rw [ek] at rx
              have ex : x = .ref t := rel_ref rx
              subst ex
              exact PF.pers p.pers _ _ p1
        · cases h2
      · cases h2
  · cases hf
end
end Co
end

section
set_option Elab.async false
set_option linter.all false
set_option maxRecDepth 100000
set_option autoImplicit false
namespace Co
open PySem PySem.Spec L2 PyProof.Rows
variable [Tbs]

/-! ### new dicts, stores -/
def dDnew : Den R := fun _ s => some ((.fr, .dict []), s)
def dDisp1 (f g : Den R) : Den R := fun ρ s => match f ρ s with
  | some ((.pf, d), s1) => (match g ρ s1 with
    | some ((.pf, e), s2) => if (sKey d).isSome = true then some ((.fr, .dict [(d, e)]), s2) else none
    | _ => none)
  | _ => none
/-- x[k] = e, x an owned dict -/
def sPutD (i : Nat) (f g : Den R) : DenS := fun ρ s => match f ρ s with
  | some ((.pf, e), s1) => (match ρ[i]? with
    | some (some (.own (.dict kvs))) => (match g ρ s1 with
      | some ((.pf, d), s2) => if okKey kvs d = true ∧ kvs.length < sizeLine then some (.nx (ρ.set i (some (.own (.dict (putD kvs d e))))), s2) else none
      | _ => none)
    | _ => none)
  | _ => none
/-- the store, by values -/
def rSetD (W : Wd) : TSet := fun o i v H Q => ∃ a kvs d e, o = .ref a ∧ Ob W H a (.dict kvs) ∧ PF W.K H i d ∧ PF W.K H v e ∧ okKey kvs d = true ∧ kvs.length < sizeLine ∧
  ∀ ob, Ob W (upd H a ob) a (.dict (putD kvs d e)) → Q (upd H a ob)
theorem putD_ne (kvs : List (D × D)) (k v : D) : putD kvs k v ≠ [] := by
  unfold putD
  split
  · rename_i h
    cases kvs with
    | nil => cases h
    | cons p r => simp
  · simp
section
variable {X : Cx} {c : Cel} {pos : Pos} {e : Expr}
theorem ce_dnew : PE X (.Dict [] [] pos) (tD (wd X) c dDnew) := pe_dnewK.imp fun σ H Q h => by
  obtain ⟨ρ, s, r, s', E, hf, q⟩ := h
  cases hf
  intro p hp
  have sm := same_new (o := .dK []) hp
  exact q (.ref p) _ (.of sm) (E.cell.same sm) ⟨p, rfl, hp, E.cell.not_fp hp, .inl ⟨[], upd_same, .nil⟩⟩
theorem ce_disp1 {k v : Expr} {f g : Den R} (hk : PE X k (tD (wd X) c f)) (hv : PE X v (tD (wd X) c g)) : PE X (.Dict [some k] [v] pos) (tD (wd X) c (dDisp1 f g)) := by
  refine (pe_disp (pps_cons hk hv pps_nil) rfl rfl (fun z => by cases z) (by simp)).imp fun σ H Q h => ?_
  obtain ⟨ρ, s, r, s', E, hf, q⟩ := h
  intro p hp
  have sm := same_new (o := .dK []) hp
  have np := E.cell.not_fp hp
  have E1 := E.ext (.of sm) (E.cell.same sm)
  unfold dDisp1 at hf
  split at hf
  · rename_i d s1 h1
    split at hf
    · rename_i e s2 h2
      split at hf
      · rename_i hs
        cases hf
        refine ⟨ρ, s, _, _, E1, h1, fun x H1 e1 k1 x1 => ⟨ρ, _, _, _, E1.ext e1 k1, h2, fun y H2 e2 k2 y2 => ?_⟩⟩
        obtain ⟨kk, hkk⟩ := Option.isSome_iff_exists.mp hs
        have e12 := e1.trans e2
        have hp2 : H2 p = some (.dK []) := e12.keep p _ upd_same np
        have px : PF X.K H2 x d := PF.pers e2.pers _ _ x1
        have ex := sKey_val px hkk
        subst ex
        have mu : Mut (H2 p) ∨ H2 p = none := by rw [hp2]; exact .inl trivial
        have pe := pers_upd (o := .dK (mergeK [] [(kk, y)])) mu
        refine ⟨hp2, [(kk, y)], rfl, by simp, q (.ref p) _ (ext_upd ((Ext.of sm).trans e12) hp mu) (k2.upd np (.inr (.inr ⟨[], .inl hp2⟩))) ⟨p, rfl, hp, np, .inl ⟨_, upd_same, ?_⟩⟩⟩
        exact .cons ⟨⟨hkk, PF.pers pe _ _ px⟩, PF.pers pe _ _ y2⟩ .nil
      · cases hf
    · cases hf
  · cases hf
theorem set_dict {k : Nat} (hr : Room k X.A) : PSet X (rSetD (wd X)) := by
  intro pins s σ H o i v ov iv u Q I ro ri rv h
  obtain ⟨a, kvs, d, e, rfl, ob, pi, pv, ok, hz, q⟩ := h
  cases ro
  rcases okKey_cases ok with ⟨ht, ha, kk, hk, h8⟩ | ⟨ha, kk, hk⟩
  · obtain ⟨b, rfl⟩ := tup_ref pi ht
    cases ri
    have mu : Mut (H a) := by obtain ⟨u', hu, m⟩ := ob.some; rw [hu]; exact m
    obtain ⟨few, nsys, xs, hd, pr⟩ := ob.keyed I ha
    have key : (nkd X).is s.heap kk b := ⟨PF.nested I _ _ _ _ pi hk rfl, h8⟩
    have lx := Paired.length pr
    refine wpAny_setItem_heap (knd := nkd X) (nroom hr) key hd (fun h' hm hs => ?_) (by omega)
    obtain ⟨o', es, ep, g1, g2, g3, g4, g5, g6⟩ := hm
    have pe : Pers H (upd H a (pinO a o')) := pers_upd (.inl mu)
    have len := putD_len kvs d e
    refine ⟨_, d_write (ob := pinO a o') I mu hs ⟨o', g1⟩ ⟨g1, ⟨o', g1⟩, fun h1 h2 p k => k o' p⟩, q _ (.inr ⟨nsys, by omega, putD_ne _ _ _, o', es, ep, _, upd_same, g2, g3, g4, g6, ?_⟩)⟩
    exact kvr_pers (kvr_put pr hk h8 pi rv pv) pe
  · obtain ⟨xs, hH, kv⟩ := ob_plain ob ha
    have ei := sKey_val pi hk
    subst ei
    have lx : kvs.length = xs.length := Paired.length kv
    have pe : Pers H (upd H a (.dK (putK xs kk v))) := pers_upd (by rw [hH]; exact .inl trivial)
    exact d_setItem (by have := hr.un; omega) I (DPut.k hH (by omega)) ri rv fun s' I' => ⟨_, I', q _ (.inl ⟨_, upd_same, (kv.put (W := wd X) hk pi pv).pers (W := wd X) pe⟩)⟩
theorem cs_putD {G : Hp} {k : Nat} (hr : Room k X.A) {f g : Den R} {i : Nat} {x : Str} {ix : Expr} {p1 p2 : Pos} (hN : X.N[i]? = some x) (hv : Vis X.env.scope x) (hd : (x == ("__debug__" : Str)) = false) (hcd : (x == ("__classdict__" : Str)) = false) (he : PE X e (tD (wd X) c f)) (hx : PE X ix (tD (wd X) c g))
    (ha : ∀ v, assign (.Subscript (.Name x p1) ix p2) X.env v = (do
      let ov ← holding [v] (eval (.Name x p1) X.env)
      let iv ← holding [v, ov] (eval ix X.env)
      standAt p2
      holding [v, ov, iv] (setItem ov iv v)
      release [v, ov, iv] [])) (hs : swapsWithSole [.Subscript (.Name x p1) ix p2] e pos.line X.env = pure false) (hw : swappedStores [.Subscript (.Name x p1) ix p2] e X.env = pure none) :
    PS X (.Assign [.Subscript (.Name x p1) ix p2] e pos) (tS (wd X) c G (sPutD i f g)) := by
  refine (ps_asg he (pg_sub (pe_var hN hv hd hcd) hx (set_dict hr) ha) hs hw rfl).imp fun D σ H h => ?_
  obtain ⟨ρ, s, o, s', S, hf, q⟩ := h
  unfold sPutD at hf
  split at hf
  · rename_i e s1 h1
    split at hf
    · rename_i kvs hi
      split at hf
      · rename_i d s2 h2
        split at hf
        · rename_i ok
          cases hf
          obtain ⟨v0, e0, a, rfl, nf, ob⟩ := S.est.slot i _ hi
          refine ⟨ρ, s, _, _, S.est, h1, fun v H1 e1 k1 r1 => ?_⟩
          have S1 := S.step e1 k1
          refine ⟨.ref a, e0, ρ, s1, _, _, S1.est, h2, fun w H2 e2 k2 r2 => ?_⟩
          have ob2 : Ob (wd X) H2 a (.dict kvs) := ob.ext (e1.trans e2) nf
          have mu : (∃ vs, H2 a = some (HO.lst vs)) ∨ (∃ f, H2 a = some (HO.dK f)) ∨ ∃ p es ep, H2 a = some (pinO a p) ∧ p.data = .dict es ep := by
            rcases ob2 with ⟨xs, hl, _⟩ | ob2
            · exact .inr (.inl ⟨_, hl⟩)
            · obtain ⟨o, es, ep, xs, hl, _, hd, _⟩ := ob2.at_
              exact .inr (.inr ⟨o, es, ep, hl, hd⟩)
          have mu' : Mut (H2 a) ∨ H2 a = none := by
            rcases mu with ⟨vs, e⟩ | ⟨f, e⟩ | ⟨p, es, ep, e, _⟩ <;> (rw [e]; exact .inl trivial)
          refine ⟨a, kvs, d, e, rfl, ob2, r2, PF.pers e2.pers _ _ r1, ok.1, ok.2, fun o' ob3 => q σ _ ?_ ((e1.trans e2).pers.trans (pers_upd mu'))⟩
          exact (S1.step e2 k2).mut hi e0 mu ob3
        · cases hf
      · cases hf
    · cases hf
  · cases hf
/-! ### sorted(d) -/
theorem each_at {α β : Type} {F : α → β → Prop} : ∀ {as : List α} {bs : List β}, as.length = bs.length → (∀ (i : Nat) (a : α) (b : β), as[i]? = some a → bs[i]? = some b → F a b) → PySem.W.EachIs F as bs
  | [], [], _, _ => .nil
  | a :: as, b :: bs, hl, h => .cons (h 0 a b rfl rfl) (each_at (by simpa using hl) fun i x y h1 h2 => h (i + 1) x y (by simpa using h1) (by simpa using h2))
def sortedE : List D → Option R
  | [.list ds] => sortL ds
  | [.dict kvs] => sortL (kvs.map (·.1))
  | _ => none
theorem b_sortedE {k : Nat} (hc : X.calm = true) (hr : Room k X.A) : CallR X (.builtin "sorted") (rN (wd X) sortedE) := by
  intro pins s σ H xs us Q I rx h
  obtain ⟨ds, r, hx, h, q⟩ := h
  unfold sortedE at h
  split at h
  · exact b_sorted hr pins s σ H xs us Q I rx ⟨_, r, hx, h, q⟩
  · rename_i kvs
    unfold sortL at h
    split at h
    · rename_i hc2
      cases h
      obtain ⟨x, rfl, hx1⟩ := pair1 hx
      obtain ⟨a, rfl, ob⟩ := hx1.dict
      obtain ⟨nsys, few, es, ep, raw, sz, en⟩ := ob_raw I ob
      rw [Vals.ref1 rx]
      refine Calls.call_function_entry kind_sorted plain_sorted entry_sorted (args_sorted1 _) ?_
      unfold Builtin.«sorted»
      refine wpAny_bind (m := checkCount "sorted" 1 1 _) (wpAny_pure ?_)
      refine wpAny_bind (PySem.W.kdu_collect (A := X.A.in1) (KdlSrc.rawDict nsys) (I.ok.hd hc) raw (by omega) fun h' tk acc hk hacc => ?_)
      have I1 : Inv X pins σ H { s with heap := h', toks := tk } := I.kept hk
      obtain ⟨asz, ait⟩ := hacc
      have each : PySem.W.EachIs (fun u d => ∃ v, RelV v u ∧ PF X.K H v d) acc.toList (kvs.map (·.1)) := by
        refine each_at (by rw [Array.length_toList, asz, sz, List.length_map]) fun i u d hu hd => ?_
        rw [Array.getElem?_toList] at hu
        obtain ⟨hi, rfl⟩ := ait i u hu
        rw [List.getElem?_map] at hd
        cases hk2 : kvs[i]? with
        | none => rw [hk2] at hd; cases hd
        | some p =>
          rw [hk2] at hd
          cases hd
          obtain ⟨v, w, r1, r2, _⟩ := en i hi p.1 p.2 hk2
          exact ⟨v, r1, r2⟩
      have lal : acc.toList.length = kvs.length := by rw [Array.length_toList, asz, sz]
      refine wpAny_bind (wpAny_newList ?_ (by omega))
      have hoL : (h'.push (seqObj "list" acc.toList.toArray 0)).get? h'.objs.size = some (seqObj "list" acc.toList.toArray 0) := Heap.get?_push_size _ rfl
      have kp : ∀ b o, h'.get? b = some o → (h'.push (seqObj "list" acc.toList.toArray 0)).get? b = some o := fun b o z => Heap.get?_push_of_some _ z
      have eid : (kvs.map (·.1)).map (fun d : D => d) = kvs.map (·.1) := List.map_id _
      have er : PySem.W.EachIs (fun v b => ∃ as, Reads (h'.push (seqObj "list" acc.toList.toArray 0)) v b as ∧ h'.objs.size ∉ as) acc.toList (kvs.map (·.1)) := each_imp each fun u d ⟨v, r1, p⟩ => by
        obtain ⟨as, rd⟩ := Dp.reads I1 d v u (PF.dp _ _ p) r1
        refine ⟨as, PyProof.Rows.Reads.keeps kp rd, fun hm => ?_⟩
        obtain ⟨o, ho⟩ := PyProof.On.reads_mem_get rd _ hm
        exact absurd (Heap.lt_size ho) (Nat.lt_irrefl _)
      show wpAny _ _ _ _ _ { s with heap := h'.push (seqObj "list" acc.toList.toArray 0), toks := tk }
      refine wpAny_bind (wpAny_holding (PySem.W.list_sort_data (s := { s with heap := h'.push (seqObj "list" acc.toList.toArray 0), toks := tk }) (enc := fun d => d) hoL each er (by rw [eid]; exact alikeB_ok hc2.1) (by rw [eid]; exact sortableB_ok hc2.2.1) (by rw [List.length_map]; omega)
        (fun d hd => by have := depth_mem hd; have := hr.un; have := hc2.2.2; show X.A.units + 1 + 1 + _ < _; omega) fun out hlen ho => ?_))
      obtain ⟨ws, r2, p2⟩ := of_each ho
      have p2 : PFs X.K H ws (srt (kvs.map (·.1))) := p2
      obtain ⟨ep', he'⟩ := sortedHeap_at (vs := acc.toList) (out := out.toArray) hoL
      have fr : H h'.objs.size = none := I1.hok.fresh (Nat.le_refl _)
      have lw := r2.length
      rw [List.length_map] at hlen
      refine wpAny_pure ⟨_, rfl, .ref h'.objs.size, upd H h'.objs.size (.lst ws), I1.laid (t' := tk) (fun b u z => ?_) (Nat.le_refl _) ⟨by omega, out, ep', r2, by simpa using he'⟩, rfl, q _ _ (same_new fr) (Rs.lst fr p2)⟩
      have hb : b < h'.objs.size := Heap.lt_size z
      rw [sortedHeap_old (Nat.ne_of_lt hb) (by rw [size_push']; exact Nat.lt_succ_of_lt hb)]
      exact Heap.get?_push_of_some _ z
    · cases h
  · cases h
end
end Co
end

section
set_option Elab.async false
set_option linter.all false
set_option maxRecDepth 100000
set_option autoImplicit false
namespace Co
open PySem PySem.Spec L2 PyProof.Rows
variable [Tbs]

/-! ### min, max of a list of data -/
def alikeN (ds : List D) : Bool := alikeB ds && ds.all (fun d => !isNon d)
def minE : List D → Option R
  | [.int i, .int j] => some (.pf, .int (if j < i then j else i))
  | [.list (x :: xs)] => if alikeN (x :: xs) = true ∧ PyData.depthAll (x :: xs) ≤ 100 then some (.pf, PySem.W.minD x xs) else none
  | _ => none
def maxE : List D → Option R
  | [.int i, .int j] => some (.pf, .int (if j > i then j else i))
  | [.list (x :: xs)] => if alikeN (x :: xs) = true ∧ PyData.depthAll (x :: xs) ≤ 100 then some (.pf, PySem.W.maxD x xs) else none
  | _ => none
theorem alikeN_ok {ds : List D} (h : alikeN ds = true) : PySem.W.AlikeAll ds := by
  unfold alikeN at h
  rw [Bool.and_eq_true, List.all_eq_true] at h
  refine ⟨fun x hx y hy => alikeB_ok h.1 x hx y hy, fun x hx z => ?_⟩
  have := h.2 x hx
  subst z
  cases this
theorem vals_get : ∀ {vs : List V} {us : List Value}, Vals vs us → ∀ {i : Nat} {u : Value}, us[i]? = some u → ∃ v, vs[i]? = some v ∧ RelV v u
  | _, _, .nil, i, u, h => by simp at h
  | _, _, .cons r t, 0, u, h => by simp at h; subst h; exact ⟨_, rfl, r⟩
  | _, _, .cons r t, i + 1, u, h => by
    obtain ⟨v, h1, h2⟩ := vals_get t (i := i) (by simpa using h)
    exact ⟨v, by simpa using h1, h2⟩
section
variable {X : Cx} {c : Cel} {pos : Pos} {e : Expr}
theorem b_minE {k : Nat} (hc : X.calm = true) (hr : Room k X.A) : CallR X (.builtin "min") (rN (wd X) minE) := by
  intro pins s σ H xs us Q I rx h
  obtain ⟨ds, r, hx, h, q⟩ := h
  unfold minE at h
  split at h
  · exact b_min2 hc pins s σ H xs us Q I rx ⟨_, r, hx, h, q⟩
  · rename_i y ys
    split at h
    · rename_i ok
      cases h
      obtain ⟨a, rfl, hx1⟩ := pair1 hx
      obtain ⟨l, vs, rfl, h1, q1⟩ := hx1.list
      obtain ⟨its, rv, hl, z⟩ := I.list (.inl h1)
      rw [Vals.ref1 rx]
      obtain ⟨as, ra⟩ := Dp.readsAll I _ _ _ (PFs.dp _ _ q1) rv
      refine PySem.W.min_list_data (I.ok.hd hc) hl.isList (by simpa using ra) (alikeN_ok ok.1) (by have := hr.un; have := ok.2; omega) fun i v h' tk bs hv rd kp => ?_
      have hv' : its[i]? = some v := by simpa using hv
      obtain ⟨w, hw, rw'⟩ := vals_get rv hv'
      obtain ⟨d, hd, pd⟩ := q1.getV hw
      have I1 : Inv X pins σ H { s with heap := h', toks := tk } := I.kept kp
      obtain ⟨cs, rc⟩ := Dp.reads I1 d w v (PF.dp _ _ pd) rw'
      have e := PySem.Reads.unique rc _ _ rd
      rw [← e.1] at q
      exact ⟨w, H, I1, rw', q w H (.refl H) pd⟩
    · cases h
  · cases h
/-- .. the greatest -/
theorem b_maxE {k : Nat} (hc : X.calm = true) (hr : Room k X.A) : CallR X (.builtin "max") (rN (wd X) maxE) := by
  intro pins s σ H xs us Q I rx h
  obtain ⟨ds, r, hx, h, q⟩ := h
  unfold maxE at h
  split at h
  · exact b_max2 hc pins s σ H xs us Q I rx ⟨_, r, hx, h, q⟩
  · rename_i y ys
    split at h
    · rename_i ok
      cases h
      obtain ⟨a, rfl, hx1⟩ := pair1 hx
      obtain ⟨l, vs, rfl, h1, q1⟩ := hx1.list
      obtain ⟨its, rv, hl, z⟩ := I.list (.inl h1)
      rw [Vals.ref1 rx]
      obtain ⟨as, ra⟩ := Dp.readsAll I _ _ _ (PFs.dp _ _ q1) rv
      refine PySem.W.max_list_data (I.ok.hd hc) hl.isList (by simpa using ra) (alikeN_ok ok.1) (by have := hr.un; have := ok.2; omega) fun i v h' tk bs hv rd kp => ?_
      have hv' : its[i]? = some v := by simpa using hv
      obtain ⟨w, hw, rw'⟩ := vals_get rv hv'
      obtain ⟨d, hd, pd⟩ := q1.getV hw
      have I1 : Inv X pins σ H { s with heap := h', toks := tk } := I.kept kp
      obtain ⟨cs, rc⟩ := Dp.reads I1 d w v (PF.dp _ _ pd) rw'
      have e := PySem.Reads.unique rc _ _ rd
      rw [← e.1] at q
      exact ⟨w, H, I1, rw', q w H (.refl H) pd⟩
    · cases h
  · cases h
/-! ### xs.index(x) -/
def firstAt (d : D) : List D → Option Nat
  | [] => none
  | x :: xs => if PyData.eqv x d = true then some 0 else (firstAt d xs).map (· + 1)
theorem firstAt_ok {d : D} : ∀ {ds : List D} {j : Nat}, firstAt d ds = some j → ∃ z, ds[j]? = some z ∧ PyData.eqv z d = true ∧ ∀ (m : Nat) (z' : D), m < j → ds[m]? = some z' → PyData.eqv z' d = false
  | [], _, h => by cases h
  | x :: xs, j, h => by
    unfold firstAt at h
    split at h
    · rename_i e
      cases h
      exact ⟨x, rfl, e, fun m z' hm => absurd hm (Nat.not_lt_zero _)⟩
    · rename_i e
      cases h1 : firstAt d xs with
      | none => rw [h1] at h; cases h
      | some i =>
        rw [h1] at h
        cases h
        obtain ⟨z, a1, a2, a3⟩ := firstAt_ok h1
        refine ⟨z, by simpa using a1, a2, fun m z' hm hz => ?_⟩
        cases m with
        | zero => simp at hz; subst hz; simpa using e
        | succ m => exact a3 m z' (Nat.lt_of_succ_lt_succ hm) (by simpa using hz)
def dIndex (f g : Den R) : Den R := fun ρ s => do
  let (a, s1) ← f ρ s
  let (b, s2) ← g ρ s1
  match a.2 with
  | .list ds => if SeqAt.shaped (.list ds) = true ∧ SeqAt.shaped b.2 = true ∧ isDict b.2 = false then (firstAt b.2 ds).map fun j => ((.pf, .int (j : Nat)), s2) else none
  | _ => none
theorem ce_index {k : Nat} (hr : Room k X.A) {f g : Den R} {o : Expr} {apos : Pos} (ho : PE X o (tD (wd X) c f)) (he : PE X e (tD (wd X) c g))
    (hbase : attributeBase o "index" X.env (eval o X.env) = eval o X.env) (hs : starEach [e] X.env = [(false, eval e X.env)]) (hline : (apos.endLine == pos.line) = true) :
    PE X (.Call (.Attribute o "index" apos) [e] [] pos) (tD (wd X) c (dIndex f g)) := by
  refine (pe_bm PySem.F.plainAttrs_list PySem.F.slot_list_index PySem.F.type_list_index (mt_indexD (by have := hr.un; omega)) ho (pa_cons he pa_nil hs) hbase (by rw [hs]; rfl) hline hs rfl).imp fun σ H Q h => ?_
  obtain ⟨ρ, s, r, s', E, hf, q⟩ := h
  obtain ⟨⟨ra, s1⟩, h1, hf⟩ := bind_some hf
  obtain ⟨⟨rb, s2⟩, h2, hf⟩ := bind_some hf
  dsimp only at hf
  split at hf
  · rename_i ds hl
    split at hf
    · rename_i sh
      cases h3 : firstAt rb.2 ds with
      | none => rw [h3] at hf; cases hf
      | some j =>
        rw [h3] at hf
        cases hf
        obtain ⟨z, a1, a2, a3⟩ := firstAt_ok h3
        refine ⟨ρ, s, ra, s1, E, h1, fun x H1 e1 k1 x1 => ?_⟩
        have px := x1.po
        rw [hl] at px
        obtain ⟨l, vs, rfl, g1, g2⟩ := px.list
        refine ⟨.inl ⟨rfl, vs, .inl g1⟩, ρ, s1, rb, _, E.ext e1 k1, h2, fun y H2 e2 k2 y2 => ?_⟩
        have px2 := x1.po_ext e2
        rw [hl] at px2
        exact ⟨l, y, rb.2, ds, j, z, rfl, rfl, px2.dp (fun _ z => by cases z), y2.po.dp (isDict_ne sh.2.2), sh.1, sh.2.1, a1, a2, a3, q _ H2 (e1.trans e2) k2 (.int _)⟩
    · cases hf
  · cases hf
end
end Co
end

section
set_option Elab.async false
set_option linter.all false
set_option maxRecDepth 100000
set_option autoImplicit false
namespace Co
open PySem PySem.Spec L2 PyProof.Rows
variable [Tbs]

/-! ### comprehensions with two for -/
def inLoop (t : Tg) (test : Den Bool) (elt : Den R) (ρ : Rho) : List D → List D → D → Option (List D × D)
  | [], acc, s => some (acc, s)
  | d :: ds, acc, s => do
    let ρ1 ← bindT t d ρ
    let (b, s1) ← test ρ1 s
    if b then do
      let (r, s2) ← elt ρ1 s1
      match r with
      | (.pf, e) => if acc.length < sizeLine then inLoop t test elt ρ ds (acc ++ [e]) s2 else none
      | _ => none
    else inLoop t test elt ρ ds acc s1
def outLoop (t : Tg) (test : Den Bool) (g1 : Den (List D)) (t1 : Tg) (vs1 : List Nat) (test1 : Den Bool) (elt : Den R) (ρ : Rho) : List D → List D → D → Option (List D × D)
  | [], acc, s => some (acc, s)
  | d :: ds, acc, s => do
    let ρ1 ← bindT t d ρ
    let (b, s1) ← test ρ1 s
    if b then do
      let (ds1, s2) ← g1 ρ1 s1
      let (acc', s3) ← inLoop t1 test1 elt (wipeR ρ1 vs1) ds1 acc s2
      outLoop t test g1 t1 vs1 test1 elt ρ ds acc' s3
    else outLoop t test g1 t1 vs1 test1 elt ρ ds acc s1
def dLc2 (t : Tg) (vs : List Nat) (g : Den (List D)) (test : Den Bool) (g1 : Den (List D)) (t1 : Tg) (vs1 : List Nat) (test1 : Den Bool) (elt : Den R) : Den R := fun ρ s => do
  let (ds, s1) ← g ρ s
  let (out, s2) ← outLoop t test g1 t1 vs1 test1 elt (wipeR ρ vs) ds [] s1
  some ((.fr, .list out), s2)
theorem in_it {J : It} {n : Nat} {G : Hp → Prop} {Y : Nat → Hp → V → Hp → Prop} (w : Walk J n G Y) {g : TG} {tt : TT} {te : TE} {vs : List Nat} {σ : L2.St} {H1 : Hp} {D : Addr} {Qd : Hp → Prop} (Pv : Nat → Hp → Prop) (h0 : Pv 0 H1) (hG : ∀ i H, i ≤ n → Pv i H → G H)
    (hs : ∀ i x H H', i < n → Pv i H → Y i H x H' → g x (wipe σ vs) H' fun σ2 H2 => wipe σ2 vs = wipe σ vs ∧ tt σ2 H2 fun b H3 =>
      if b = true then te σ2 H3 fun y H4 => ∃ acc, H4 D = some (.lst acc) ∧ acc.length < sizeLine ∧ Pv (i + 1) (upd H4 D (.lst (acc ++ [y]))) else Pv (i + 1) H3) (hd : ∀ H, Pv n H → Qd H) :
    ∃ W : Nat → Nat → Hp → Prop, (∃ m, W 0 m H1) ∧ ∀ i m H, W i m H →
      (J.stop i H ∧ Qd H) ∨ (J.go i H ∧ ∃ Nx : Hp → Prop, (∀ H', Nx H' → ∃ m', m' < m ∧ W (i + 1) m' H') ∧ ∀ x H', J.yld i H x H' → g x (wipe σ vs) H' fun σ2 H2 => wipe σ2 vs = wipe σ vs ∧ tt σ2 H2 fun b H3 =>
        if b = true then te σ2 H3 fun y H4 => ∃ acc, H4 D = some (.lst acc) ∧ acc.length < sizeLine ∧ Nx (upd H4 D (.lst (acc ++ [y]))) else Nx H3) := by
  refine ⟨fun i m H => (m = n - i ∧ i ≤ n) ∧ Pv i H, ⟨n, ⟨by simp, Nat.zero_le _⟩, h0⟩, ?_⟩
  rintro i m H ⟨⟨rfl, hi⟩, p⟩
  have q := hG i H hi p
  rcases Nat.lt_or_ge i n with hlt | hge
  · exact .inr ⟨w.goes i H hlt q, Pv (i + 1), fun H' p' => ⟨n - (i + 1), by omega, ⟨rfl, hlt⟩, p'⟩, fun x H' y => hs i x H H' hlt p (w.yields i H x H' hlt q y)⟩
  · have z : i = n := Nat.le_antisymm hi hge
    subst z
    exact .inl ⟨w.stops H q, hd H p⟩
theorem out_it {J : It} {n : Nat} {G : Hp → Prop} {Y : Nat → Hp → V → Hp → Prop} (w : Walk J n G Y) {Qd : Hp → Prop} {body : V → Hp → (Hp → Prop) → Prop} {H1 : Hp} (Pv : Nat → Hp → Prop) (h0 : Pv 0 H1) (hG : ∀ i H, i ≤ n → Pv i H → G H)
    (hs : ∀ i x H H', i < n → Pv i H → Y i H x H' → body x H' (Pv (i + 1))) (hd : ∀ H, Pv n H → Qd H) :
    ∃ W : Nat → Nat → Hp → Prop, (∃ m, W 0 m H1) ∧ ∀ i m H, W i m H → (J.stop i H ∧ Qd H) ∨ (J.go i H ∧ ∃ Nx : Hp → Prop, (∀ H', Nx H' → ∃ m', m' < m ∧ W (i + 1) m' H') ∧ ∀ x H', J.yld i H x H' → body x H' Nx) := by
  refine ⟨fun i m H => (m = n - i ∧ i ≤ n) ∧ Pv i H, ⟨n, ⟨by simp, Nat.zero_le _⟩, h0⟩, ?_⟩
  rintro i m H ⟨⟨rfl, hi⟩, p⟩
  have q := hG i H hi p
  rcases Nat.lt_or_ge i n with hlt | hge
  · exact .inr ⟨w.goes i H hlt q, Pv (i + 1), fun H' p' => ⟨n - (i + 1), by omega, ⟨rfl, hlt⟩, p'⟩, fun x H' y => hs i x H H' hlt p (w.yields i H x H' hlt q y)⟩
  · have z : i = n := Nat.le_antisymm hi hge
    subst z
    exact .inl ⟨w.stops H q, hd H p⟩
theorem drop_get {ds : List D} {i : Nat} {d : D} (hd : ds[i]? = some d) : ds.drop i = d :: ds.drop (i + 1) := by
  have hi := (List.getElem?_eq_some_iff.mp hd).1
  rw [List.drop_eq_getElem_cons hi]
  rw [List.getElem?_eq_getElem hi] at hd
  rw [Option.some.inj hd]
section
variable {X : Cx} {c : Cel}
/-- where the comprehension stands: the list so far -/
def LcAt (X : Cx) (c : Cel) (H0 H1 : Hp) (D : Addr) (acc : List PyData) (s : PyData) (H : Hp) : Prop := ∃ ws, H D = some (.lst ws) ∧ PFs X.K H ws acc ∧ CelOk (wd X) c s H ∧ Ext c.fp H0 H ∧ Ext c.fp H1 H
/-- a bound state, met again in a later heap -/
theorem Est.again {W : Wd} {ρ0 ρ1 : Rho} {s s3 s7 : PyData} {σ0 σ2 : L2.St} {H H4 H7 : Hp} {t : Tg} {d : PyData} (E : Est W c ρ0 s σ0 H) (hb : bindT t d ρ0 = some ρ1) (E5 : Est W c ρ1 s3 σ2 H4) (hσ : ∀ j, j ∉ t.slots → σ2[j]? = σ0[j]?) (x : Ext c.fp H H7) (p : Pers H4 H7) (k7 : CelOk W c s7 H7) : Est W c ρ1 s7 σ2 H7 := by
  refine ⟨fun i e h => ?_, E5.apart, k7, E5.len⟩
  obtain ⟨v, h1, h2⟩ := E5.slot i e h
  refine ⟨v, h1, ?_⟩
  cases e with
  | val d => exact PF.pers p _ _ h2
  | own d =>
    obtain ⟨g1, g2⟩ := bind_own t hb i d h
    obtain ⟨v', e1, a, e2, nf, ob⟩ := E.slot i _ g1
    rw [hσ i g2, e1] at h1
    cases h1
    exact ⟨a, e2, nf, ob.ext x nf⟩
  | cell => exact h2
theorem lc2_imp {t t1 : Tg} {g g1 : Den (List PyData)} {test test1 : Den Bool} {f : Den R} {vs vs1 : List Nat} (hv : ∀ i ∈ t.slots, i ∈ vs) (hv1 : ∀ i ∈ t1.slots, i ∈ vs1) (σ : L2.St) (H : Hp) (Q : VK) (h : tD (wd X) c (dLc2 t vs g test g1 t1 vs1 test1 f) σ H Q) :
    tLc2 (tI (wd X) c false g) (gD (wd X) c t) (tDT (wd X) c test) (tI (wd X) c true g1) (gD (wd X) c t1) (tDT (wd X) c test1) (tD (wd X) c f) vs vs1 σ H Q := by
  obtain ⟨ρ, s, r, s', E, hf, q⟩ := h
  obtain ⟨⟨ds, s1⟩, h1, hf⟩ := bind_some hf
  obtain ⟨⟨out, s2⟩, h2, hf⟩ := bind_some hf
  cases hf
  refine ⟨ρ, s, ds, s1, E, h1, fun J H1 e1 k1 ⟨hz, n, G, Y, w, hn, hG, hY⟩ => fun D hD => ?_⟩
  have nD : D ∉ c.fp := k1.not_fp hD
  have hD0 : H D = none := by
    cases z : H D with
    | none => rfl
    | some u => have := e1.keep D u z nD; rw [hD] at this; cases this
  refine out_it w (fun i H3 => ∃ acc s3, outLoop t test g1 t1 vs1 test1 f (wipeR ρ vs) (ds.drop i) acc s3 = some (out, s') ∧ LcAt X c H H1 D acc s3 H3) ?_ ?_ ?_ ?_
  · exact ⟨[], s1, h2, [], upd_same, .nil, k1.same (same_new hD), e1.trans (.of (same_new hD)), .of (same_new hD)⟩
  · rintro i H3 _ ⟨acc, s3, _, ws, _, _, _, _, e3⟩
    exact hG H3 e3
  · rintro i x H3 H4 hi ⟨acc, s3, hl, ws, hw, pw, k3, e3, e13⟩ y
    obtain ⟨d, hd, sm, pd⟩ := hY i H3 x H4 hi e13 y
    rw [drop_get hd] at hl
    unfold outLoop at hl
    obtain ⟨ρ1, hb, hl⟩ := bind_some hl
    obtain ⟨⟨b, s4⟩, ht, hl⟩ := bind_some hl
    have k4 : CelOk (wd X) c s3 H4 := k3.same sm
    have e34 : Ext c.fp H3 H4 := .of sm
    have E4 : Est (wd X) c (wipeR ρ vs) s3 (L2.wipe σ vs) H4 := (E.wipe vs).ext (e3.trans e34) k4
    refine ⟨wipeR ρ vs, s3, d, ρ1, E4, pd, hb, fun σ2 E5 hw5 => ⟨?_, ρ1, s3, b, s4, E5, ht, fun H5 e5 k5 => ?_⟩⟩
    · rw [hw5 vs hv]
      exact wipe_wipe σ vs
    · have hD5 : H5 D = some (.lst ws) := e5.keep D _ (sm _ _ hw) nD
      have e35 := e34.trans e5
      cases b with
      | true =>
        show (if true = true then _ else _)
        rw [if_pos rfl]
        have hl : (g1 ρ1 s4 >>= fun x => inLoop t1 test1 f (wipeR ρ1 vs1) x.1 acc x.2 >>= fun y => outLoop t test g1 t1 vs1 test1 f (wipeR ρ vs) (ds.drop (i + 1)) y.1 y.2) = some (out, s') := hl
        obtain ⟨⟨ds1, s5⟩, hg5, hl⟩ := bind_some hl
        obtain ⟨⟨acc', s6⟩, hg6, hl⟩ := bind_some hl
        have E5' := E5.ext e5 k5
        have hσ2 : ∀ j, j ∉ t.slots → σ2[j]? = (L2.wipe σ vs)[j]? := fun j hj => by
          have z := congrArg (fun l : L2.St => l[j]?) (hw5 t.slots fun i hi => hi)
          simpa only [wipe_out hj] using z
        refine ⟨ρ1, s4, ds1, s5, E5', hg5, fun J1 H6 e6 k6 ⟨hz1, n1, G1, Y1, w1, hn1, hG1, hY1⟩ => ?_⟩
        refine in_it w1 (fun j H7 => ∃ acc1 s7, inLoop t1 test1 f (wipeR ρ1 vs1) (ds1.drop j) acc1 s7 = some (acc', s6) ∧ LcAt X c H H1 D acc1 s7 H7 ∧ Pers H6 H7) ?_ ?_ ?_ ?_
        · exact ⟨acc, s5, hg6, ⟨ws, e6.keep D _ hD5 nD, PFs.pers (e35.trans e6).pers _ _ pw, k6, (e3.trans e35).trans e6, (e13.trans e35).trans e6⟩, .refl _⟩
        · rintro j H7 _ ⟨acc1, s7, _, _, x7⟩
          exact hG1 H7 x7
        · rintro j x1 H7 H8 hj ⟨acc1, s7, hl1, ⟨ws1, hw1, pw1, k7, e07, e17⟩, x67⟩ y1
          obtain ⟨d1, hd1, sm1, pd1⟩ := hY1 j H7 x1 H8 hj x67 y1
          rw [drop_get hd1] at hl1
          unfold inLoop at hl1
          obtain ⟨ρ2, hb2, hl1⟩ := bind_some hl1
          obtain ⟨⟨b2, s8⟩, ht2, hl1⟩ := bind_some hl1
          have k8 : CelOk (wd X) c s7 H8 := k7.same sm1
          have E7 : Est (wd X) c ρ1 s7 σ2 H7 := Est.again (E.wipe vs) hb E5 hσ2 e07 ((e5.trans e6).pers.trans x67) k7
          have e78 : Ext c.fp H7 H8 := .of sm1
          have E8 : Est (wd X) c (wipeR ρ1 vs1) s7 (L2.wipe σ2 vs1) H8 := (E7.wipe vs1).ext e78 k8
          refine ⟨wipeR ρ1 vs1, s7, d1, ρ2, E8, pd1, hb2, fun σ3 E9 hw9 => ⟨?_, ρ2, s7, b2, s8, E9, ht2, fun H9 e9 k9 => ?_⟩⟩
          · rw [hw9 vs1 hv1]
            exact wipe_wipe σ2 vs1
          · have hD9 : H9 D = some (.lst ws1) := e9.keep D _ (sm1 _ _ hw1) nD
            have e79 := e78.trans e9
            cases b2 with
            | true =>
              show (if true = true then _ else _)
              rw [if_pos rfl]
              have hl1 : (f ρ2 s8 >>= fun x => match x.1 with
                | (.pf, e) => if acc1.length < sizeLine then inLoop t1 test1 f (wipeR ρ1 vs1) (ds1.drop (j + 1)) (acc1 ++ [e]) x.2 else none
                | _ => none) = some (acc', s6) := hl1
              obtain ⟨⟨r, s9⟩, hf9, hl1⟩ := bind_some hl1
              refine ⟨ρ2, s8, r, s9, E9.ext e9 k9, hf9, fun v H10 e10 k10 r10 => ?_⟩
              obtain ⟨fl, e⟩ := r
              cases fl with
              | pf =>
                dsimp only at hl1
                split at hl1
                · rename_i hsz
                  have hD10 : H10 D = some (.lst ws1) := e10.keep D _ hD9 nD
                  have lw := pw1.length
                  have mu : Mut (H10 D) ∨ H10 D = none := by rw [hD10]; exact .inl trivial
                  have pe : Pers H10 (L2.upd H10 D (.lst (ws1 ++ [v]))) := pers_upd mu
                  have e710 := e79.trans e10
                  have kk := k10.upd (o := .lst (ws1 ++ [v])) nD (.inl ⟨_, hD10⟩)
                  refine ⟨ws1, hD10, by omega, acc1 ++ [e], s9, hl1, ⟨ws1 ++ [v], upd_same, ?_, kk, ext_upd (e07.trans e710) hD0 mu, ext_upd (e17.trans e710) hD mu⟩, (x67.trans e710.pers).trans pe⟩
                  exact PFs.pers pe _ _ ((PFs.pers e710.pers _ _ pw1).append (.cons r10 .nil))
                · cases hl1
              | fr => cases hl1
              | ln => cases hl1
            | false =>
              show (if false = true then _ else _)
              rw [if_neg (by decide)]
              have hl1 : inLoop t1 test1 f (wipeR ρ1 vs1) (ds1.drop (j + 1)) acc1 s8 = some (acc', s6) := hl1
              exact ⟨acc1, s8, hl1, ⟨ws1, hD9, PFs.pers e79.pers _ _ pw1, k9, e07.trans e79, e17.trans e79⟩, x67.trans e79.pers⟩
        · rintro H7 ⟨acc1, s7, hl1, at7, _⟩
          rw [hn1, List.drop_length] at hl1
          unfold inLoop at hl1
          cases hl1
          exact ⟨acc', s6, hl, at7⟩
      | false =>
        show (if false = true then _ else _)
        rw [if_neg (by decide)]
        have hl : outLoop t test g1 t1 vs1 test1 f (wipeR ρ vs) (ds.drop (i + 1)) acc s4 = some (out, s') := hl
        exact ⟨acc, s4, hl, ws, hD5, PFs.pers e35.pers _ _ pw, k5, e3.trans e35, e13.trans e35⟩
  · rintro H3 ⟨acc, s3, hl, ws, hw, pw, k3, e3, _⟩
    rw [hn, List.drop_length] at hl
    unfold outLoop at hl
    cases hl
    exact q (.ref D) H3 e3 k3 ⟨D, rfl, hD0, nD, ws, hw, pw⟩
variable {elt tg iter tg1 iter1 : Expr} {ifs ifs1 : List Expr} {scope : Scope} {own : List (Str × Nat)} {pos : Pos}
theorem ce_lc2 {t t1 : Tg} {g g1 : Den (List PyData)} {test test1 : Den Bool} {f : Den R} {vs1 : List Nat} (hc : X.calm = true) (hN : X.N.Nodup) (hi : PI X tg iter (tI (wd X) c false g)) (ok : BlkOk X.N X.env.scope scope own) (hv : ∀ i ∈ t.slots, i ∈ own.map (·.2)) (hvv : ∀ i ∈ vs1, i ∈ own.map (·.2)) (hv1 : ∀ i ∈ t1.slots, i ∈ vs1)
    (hg : ∀ (s : Shared) (H : Hp) (C : Addr) (cl : List (Str × Addr)) (fp : List Addr), PG (X.blk s H scope (compEnvC scope cl C X.env) fp) tg (gD (wd X) c t))
    (ht : ∀ (s : Shared) (H : Hp) (C : Addr) (cl : List (Str × Addr)) (fp : List Addr), PTs (X.blk s H scope (compEnvC scope cl C X.env) fp) ifs (tDT (wd X) c test))
    (hi1 : ∀ (s : Shared) (H : Hp) (C : Addr) (cl : List (Str × Addr)) (fp : List Addr), PI (X.blk s H scope (compEnvC scope cl C X.env) fp) tg1 iter1 (tI (wd X) c true g1))
    (hg1 : ∀ (s : Shared) (H : Hp) (C : Addr) (cl : List (Str × Addr)) (fp : List Addr), PG (X.blk s H scope (compEnvC scope cl C X.env) fp) tg1 (gD (wd X) c t1))
    (ht1 : ∀ (s : Shared) (H : Hp) (C : Addr) (cl : List (Str × Addr)) (fp : List Addr), PTs (X.blk s H scope (compEnvC scope cl C X.env) fp) ifs1 (tDT (wd X) c test1))
    (he : ∀ (s : Shared) (H : Hp) (C : Addr) (cl : List (Str × Addr)) (fp : List Addr), PE (X.blk s H scope (compEnvC scope cl C X.env) fp) elt (tD (wd X) c f)) (hs : ∀ x, foldedSetIterable iter X.env x = pure x) (hs1 : ∀ env x, foldedSetIterable iter1 env x = pure x) :
    PE X (.ListComp elt [⟨tg, iter, ifs, 0⟩, ⟨tg1, iter1, ifs1, 0⟩] scope pos) (tD (wd X) c (dLc2 t (own.map (·.2)) g test g1 t1 vs1 test1 f)) := (pe_lc2 hc hN hi ok hvv hg ht hi1 hg1 ht1 he hs hs1).imp (lc2_imp hv hv1)
/-! ### a comprehension stored by a name -/
theorem cs_setLc {G : Hp} {i : Nat} {y : Str} {py spos : Pos} {t : Tg} {g : Den (List PyData)} {test : Den Bool} {f : Den R} (hc : X.calm = true) (hN : X.N.Nodup) (hy : X.N[i]? = some y) (hyl : X.env.scope.names.lookup y = some .local)
    (hsw : swapsWith (.ListComp elt [⟨tg, iter, ifs, 0⟩] scope pos) (some (.Name y py)) spos.line X.env = pure true) (hi : PI X tg iter (tI (wd X) c false g)) (ok : BlkOk X.N X.env.scope scope own) (hv : ∀ i ∈ t.slots, i ∈ own.map (·.2))
    (hg : ∀ (s : Shared) (H : Hp) (C : Addr) (cl : List (Str × Addr)) (fp : List Addr), PG (X.blk s H scope (compEnvC scope cl C X.env) fp) tg (gD (wd X) c t))
    (ht : ∀ (s : Shared) (H : Hp) (C : Addr) (cl : List (Str × Addr)) (fp : List Addr), PTs (X.blk s H scope (compEnvC scope cl C X.env) fp) ifs (tDT (wd X) c test))
    (he : ∀ (s : Shared) (H : Hp) (C : Addr) (cl : List (Str × Addr)) (fp : List Addr), PE (X.blk s H scope (compEnvC scope cl C X.env) fp) elt (tD (wd X) c f)) (hs : ∀ x, foldedSetIterable iter X.env x = pure x) :
    PS X (.Assign [.Name y py] (.ListComp elt [⟨tg, iter, ifs, 0⟩] scope pos) spos) (tS (wd X) c G (sSet i (dLc t (own.map (·.2)) g test f))) := (ps_setLc hc hN hy hyl hsw hi ok hg ht he hs).imp (set_imp (lc_imp hv))
theorem cs_setLc2 {G : Hp} {i : Nat} {y : Str} {py spos : Pos} {t t1 : Tg} {g g1 : Den (List PyData)} {test test1 : Den Bool} {f : Den R} {vs1 : List Nat} (hc : X.calm = true) (hN : X.N.Nodup) (hy : X.N[i]? = some y) (hyl : X.env.scope.names.lookup y = some .local)
    (hsw : swapsWith (.ListComp elt [⟨tg, iter, ifs, 0⟩, ⟨tg1, iter1, ifs1, 0⟩] scope pos) (some (.Name y py)) spos.line X.env = pure true) (hi : PI X tg iter (tI (wd X) c false g)) (ok : BlkOk X.N X.env.scope scope own) (hv : ∀ i ∈ t.slots, i ∈ own.map (·.2)) (hvv : ∀ i ∈ vs1, i ∈ own.map (·.2)) (hv1 : ∀ i ∈ t1.slots, i ∈ vs1)
    (hg : ∀ (s : Shared) (H : Hp) (C : Addr) (cl : List (Str × Addr)) (fp : List Addr), PG (X.blk s H scope (compEnvC scope cl C X.env) fp) tg (gD (wd X) c t))
    (ht : ∀ (s : Shared) (H : Hp) (C : Addr) (cl : List (Str × Addr)) (fp : List Addr), PTs (X.blk s H scope (compEnvC scope cl C X.env) fp) ifs (tDT (wd X) c test))
    (hi1 : ∀ (s : Shared) (H : Hp) (C : Addr) (cl : List (Str × Addr)) (fp : List Addr), PI (X.blk s H scope (compEnvC scope cl C X.env) fp) tg1 iter1 (tI (wd X) c true g1))
    (hg1 : ∀ (s : Shared) (H : Hp) (C : Addr) (cl : List (Str × Addr)) (fp : List Addr), PG (X.blk s H scope (compEnvC scope cl C X.env) fp) tg1 (gD (wd X) c t1))
    (ht1 : ∀ (s : Shared) (H : Hp) (C : Addr) (cl : List (Str × Addr)) (fp : List Addr), PTs (X.blk s H scope (compEnvC scope cl C X.env) fp) ifs1 (tDT (wd X) c test1))
    (he : ∀ (s : Shared) (H : Hp) (C : Addr) (cl : List (Str × Addr)) (fp : List Addr), PE (X.blk s H scope (compEnvC scope cl C X.env) fp) elt (tD (wd X) c f)) (hs : ∀ x, foldedSetIterable iter X.env x = pure x) (hs1 : ∀ env x, foldedSetIterable iter1 env x = pure x) :
    PS X (.Assign [.Name y py] (.ListComp elt [⟨tg, iter, ifs, 0⟩, ⟨tg1, iter1, ifs1, 0⟩] scope pos) spos) (tS (wd X) c G (sSet i (dLc2 t (own.map (·.2)) g test g1 t1 vs1 test1 f))) := (ps_setLc2 hc hN hy hyl hsw hi ok hvv hg ht hi1 hg1 ht1 he hs hs1).imp (set_imp (lc2_imp hv hv1))
end
end Co
end

section
set_option Elab.async false
set_option linter.all false
set_option maxRecDepth 100000
set_option autoImplicit false
namespace Co
open PySem PySem.Spec L2 PyProof.Rows
variable [Tbs]

/-! ### a, b, .. = x, y, .. -/
def setAll (σ : L2.St) : List Nat → List V → L2.St
  | i :: is, v :: vs => setAll (σ.set i (some v)) is vs
  | _, _ => σ
theorem setAll_out {i : Nat} {v : Option V} : ∀ (is : List Nat) (vs : List V) (σ : L2.St), i ∉ is → setAll (σ.set i v) is vs = (setAll σ is vs).set i v
  | [], _, _, _ => rfl
  | j :: is, [], _, _ => rfl
  | j :: is, w :: vs, σ, h => by
    rw [List.mem_cons, not_or] at h
    show setAll ((σ.set i v).set j (some w)) is vs = _
    rw [List.set_comm _ _ h.1, setAll_out is vs _ h.2]
    rfl
theorem setAll_snoc {i : Nat} {v : V} : ∀ (is : List Nat) (vs : List V) (σ : L2.St), is.length = vs.length → setAll σ (is ++ [i]) (vs ++ [v]) = (setAll σ is vs).set i (some v)
  | [], [], _, _ => rfl
  | j :: is, w :: vs, σ, h => setAll_snoc is vs _ (by simpa using h)
theorem setAll_rev : ∀ (is : List Nat) (vs : List V) (σ : L2.St), is.length = vs.length → is.Nodup → setAll σ is.reverse vs.reverse = setAll σ is vs
  | [], [], _, _, _ => rfl
  | i :: is, v :: vs, σ, h, nd => by
    rw [List.nodup_cons] at nd
    have hl : is.length = vs.length := by simpa using h
    rw [List.reverse_cons, List.reverse_cons, setAll_snoc _ _ _ (by simpa using hl), setAll_rev is vs σ hl nd.2, ← setAll_out is vs σ nd.1]
    rfl
inductive Nms (X : Cx) : List Nat → List Expr → List Str → Prop
  | nil : Nms X [] [] []
  | cons {i : Nat} {x : Str} {p : Pos} {is : List Nat} {ts : List Expr} {xs : List Str} : X.N[i]? = some x → Loc X.env.scope x → (X.fn x = true ∨ X.env.scope.names.lookup x = some .local) → Nms X is ts xs → Nms X (i :: is) (.Name x p :: ts) (x :: xs)
def gNs (is : List Nat) : TGs := fun vs σ H Q => vs.length = is.length ∧ Q (setAll σ is vs) H
section
variable {X : Cx} {c : Cel} {G : Hp} {es ts : List Expr} {is : List Nat} {xs : List Str} {kt k2 : Nat} {pt pt2 pos : Pos}
theorem Nms.pgs (hN : X.N.Nodup) : ∀ {is : List Nat} {ts : List Expr} {xs : List Str}, Nms X is ts xs → PGs X ts (gNs is) ∧ (assignEach ts X.env).length = is.length ∧ (assignEach ts X.env).findIdx? (·.1) = none
  | _, _, _, .nil => by
    refine ⟨pgs_nil.imp fun vs σ H Q h => ?_, rfl, rfl⟩
    obtain ⟨h1, h2⟩ := h
    cases vs with
    | nil => exact ⟨rfl, h2⟩
    | cons v vs => cases h1
  | _, _, _, .cons h1 h2 h3 t => by
    obtain ⟨a, b, d⟩ := Nms.pgs hN t
    refine ⟨(pgs_cons (pg_name hN h1 h2 h3) a rfl).imp fun vs σ H Q h => ?_, ?_, ?_⟩
    · obtain ⟨e1, e2⟩ := h
      cases vs with
      | nil => cases e1
      | cons v vs => exact ⟨v, vs, rfl, by simpa using e1, e2⟩
    · unfold assignEach; rw [List.length_cons, b]; rfl
    · unfold assignEach; rw [List.findIdx?_cons, d]; rfl
theorem Nms.len : ∀ {is : List Nat} {ts : List Expr} {xs : List Str}, Nms X is ts xs → xs.length = is.length
  | _, _, _, .nil => rfl
  | _, _, _, .cons _ _ _ t => by simp [Nms.len t]
/-- names and slots -/
inductive Nm2 (X : Cx) : List Nat → List Str → Prop
  | nil : Nm2 X [] []
  | cons {i : Nat} {x : Str} {is : List Nat} {xs : List Str} : X.N[i]? = some x → Loc X.env.scope x → (X.fn x = true ∨ X.env.scope.names.lookup x = some .local) → Nm2 X is xs → Nm2 X (i :: is) (x :: xs)
theorem Nms.nm2 : ∀ {is : List Nat} {ts : List Expr} {xs : List Str}, Nms X is ts xs → Nm2 X is xs
  | _, _, _, .nil => .nil
  | _, _, _, .cons a b d t => .cons a b d t.nm2
theorem Nm2.append : ∀ {is js : List Nat} {xs ys : List Str}, Nm2 X is xs → Nm2 X js ys → Nm2 X (is ++ js) (xs ++ ys)
  | _, _, _, _, .nil, h => h
  | _, _, _, _, .cons a b d t, h => .cons a b d (t.append h)
theorem Nm2.rev : ∀ {is : List Nat} {xs : List Str}, Nm2 X is xs → Nm2 X is.reverse xs.reverse
  | _, _, .nil => .nil
  | _, _, .cons a b d t => by rw [List.reverse_cons, List.reverse_cons]; exact t.rev.append (.cons a b d .nil)
theorem store_each (hN : X.N.Nodup) {pins : List (Addr × Obj)} {H : Hp} {Q : Unit → Shared → Prop} : ∀ {is : List Nat} {xs : List Str} {vs : List V} {us : List Value} {σ : L2.St} {s : Shared}, Nm2 X is xs → Vals vs us → vs.length = is.length → Inv X pins σ H s → (∀ s', Inv X pins (setAll σ is vs) H s' → Q () s') →
    wpAny (model X.prog X.w) X.A (assignInOrder (xs.map fun n => bindName X.env n) us) Q X.xe s
  | _, _, _, _, σ, s, .nil, r, hl, I, q => assignInOrder_nil (q s (by
      cases r with
      | nil => exact I
      | cons _ _ => cases hl))
  | _, _, _, _, σ, s, .cons a b d t, r, hl, I, q => by
    cases r with
    | nil => cases hl
    | cons r1 r2 =>
      rw [List.map_cons]
      exact assignInOrder_cons (wpAny_bindName (store_ok I hN a b r1 (fun s2 I2 => store_each hN t r2 (by simpa using hl) I2 q) d))
def putAll (ρ : Rho) : List Nat → List R → Option Rho
  | [], [] => some ρ
  | i :: is, r :: rs => (ent r).bind fun e => putAll (ρ.set i (some e)) is rs
  | _, _ => none
/-- values made from the left, each put into its slot beside -/
def tSq (W : Wd) (c : Cel) (G : Hp) (is : List Nat) (fs : Den (List R)) : TA := fun σ H Q => ∃ ρ s rs s' ρa σa ρ', Est W c ρ s σ H ∧ Sst W c G ρa s σa H ∧ fs ρ s = some (rs, s') ∧ putAll ρa is rs = some ρ' ∧
  ∀ vs H', vs.length = is.length → Ext c.fp H H' → Sst W c G ρ' s' (setAll σa is vs) H' → Q vs H'
theorem cq_nil : PA X [] (tSq (wd X) c G [] dNil) := pa_nil.imp fun σ H Q h => by
  obtain ⟨ρ, s, rs, s', ρa, σa, ρ', E, S, hf, hp, q⟩ := h
  cases hf
  cases hp
  exact q [] H rfl (.refl _ H) S
theorem cq_cons {a : Expr} {i : Nat} {f : Den R} {fs : Den (List R)} (ha : PE X a (tD (wd X) c f)) (hr : PA X es (tSq (wd X) c G is fs)) (hs : starEach (a :: es) X.env = (false, eval a X.env) :: starEach es X.env) : PA X (a :: es) (tSq (wd X) c G (i :: is) (dCons f fs)) := by
  refine (pa_cons ha hr hs).imp fun σ H Q h => ?_
  obtain ⟨ρ, s, rs, s', ρa, σa, ρ', E, S, hf, hp, q⟩ := h
  obtain ⟨⟨ra, s1⟩, h1, hf⟩ := bind_some hf
  obtain ⟨⟨rb, s2⟩, h2, hf⟩ := bind_some hf
  cases hf
  unfold putAll at hp
  obtain ⟨en, h3, hp⟩ := bind_some hp
  refine ⟨ρ, s, ra, s1, E, h1, fun v H1 e1 k1 r1 => ?_⟩
  refine ⟨ρ, s1, rb, _, _, σa.set i (some v), ρ', E.ext e1 k1, S.put (i := i) e1 k1 r1 h3, h2, hp, fun vs H' hl e2 S' => ?_⟩
  exact q (v :: vs) H' (by simp [hl]) (e1.trans e2) S'
def sPar (is : List Nat) (fs : Den (List R)) : DenS := fun ρ s => do
  let (rs, s1) ← fs ρ s
  let ρ' ← putAll ρ is rs
  some (.nx ρ', s1)
theorem vals_rev : ∀ {vs : List V} {us : List Value}, Vals vs us → Vals vs.reverse us.reverse
  | _, _, .nil => .nil
  | _, _, .cons a b => by rw [List.reverse_cons, List.reverse_cons]; exact (vals_rev b).append (.cons a .nil)
theorem cs_par {fs : Den (List R)} (hc : X.calm = true) (hN : X.N.Nodup) (hm : Nms X is ts xs) (hd : is.Nodup) (hz : is.length ≤ 30) (ha : PA X es (tSq (wd X) c G is fs))
    (hw : swappedStores [.Tuple ts kt pt] (.Tuple es k2 pt2) X.env = pure (some xs) ∨ swappedStores [.Tuple ts kt pt] (.Tuple es k2 pt2) X.env = pure none) :
    PS X (.Assign [.Tuple ts kt pt] (.Tuple es k2 pt2) pos) (tS (wd X) c G (sPar is fs)) := by
  have z30 : (30 : Nat) ≤ sizeLine := by decide
  rcases hw with hw | hw
  · refine ⟨fun pins s σ H D I h => ?_⟩
    obtain ⟨ρ, st, o, st', S, hf, q⟩ := h
    obtain ⟨⟨rs, s1⟩, h1, hf⟩ := bind_some hf
    obtain ⟨ρ', h2, hf⟩ := bind_some hf
    cases hf
    rw [exec_Assign_arm]
    refine wpAny_bind (wpAny_standAt ?_)
    have hs : swapsWithSole [.Tuple ts kt pt] (.Tuple es k2 pt2) pos.line X.env = pure false := rfl
    rw [hs]
    refine wpAny_bind (wpAny_pure ?_)
    rw [if_neg (by decide)]
    refine wpAny_bind (Tuple_ (thn (ha.run _ pins s σ H (fun vs H1 => vs.length = is.length ∧ Ext c.fp H H1 ∧ Sst (wd X) c G ρ' st' (setAll σ is vs) H1) I ⟨ρ, st, rs, _, ρ, σ, ρ', S.est, S, h1, h2, fun vs H1 a b d => ⟨a, b, d⟩⟩) fun us s1 ⟨vs, H1, I1, r1, hl, e1, S1⟩ => ?_))
    have lu := r1.length
    refine wpAny_newObj_type ?_ (by show us.toArray.size ≤ sizeLine; rw [List.size_toArray]; omega)
    have I2 : Inv X pins σ H1 { s1 with heap := s1.heap.push { cls := .type "tuple", data := .seq us.toArray } } := I1.kept (t' := s1.toks) fun b o e => Heap.get?_push_of_some _ e
    have it := IsTup.new s1.heap us.toArray
    rw [hw]
    refine wpAny_bind (wpAny_pure ?_)
    show wpAny (model X.prog X.w) X.A (do rule "assign.swapped-stores"; let items ← unpackItems (.ref s1.heap.objs.size) xs.length none; assignInOrder (xs.reverse.map fun n => bindName X.env n) items.reverse; pure Flow.next) _ _ _
    have lx : xs.length = us.toArray.size := by rw [List.size_toArray, ← lu, hl, hm.len]
    rw [lx]
    refine wpAny_bind (wpAny_rule (wpAny_bind (unpackItems_tuple (I.ok.hd hc) it fun h' hx' => ?_)))
    have I3 := I2.kept (h' := h') (t' := s1.toks) fun b o e => hx' b o (Nat.ne_of_lt (Heap.lt_size e)) e
    refine wpAny_bind (store_each hN hm.nm2.rev (vals_rev r1) (by simpa using hl) I3 fun s' I' => wpAny_pure ?_)
    rw [setAll_rev _ _ _ hl.symm hd] at I'
    exact ⟨_, H1, I', q _ H1 S1 e1.pers⟩
  · obtain ⟨pg, p1, p2⟩ := hm.pgs hN
    refine (ps_asg (pe_tup ha) (pg_tup (k := kt) hc pg p1 p2) rfl hw rfl).imp fun D σ H h => ?_
    obtain ⟨ρ, st, o, st', S, hf, q⟩ := h
    obtain ⟨⟨rs, s1⟩, h1, hf⟩ := bind_some hf
    obtain ⟨ρ', h2, hf⟩ := bind_some hf
    cases hf
    refine ⟨ρ, st, rs, _, ρ, σ, ρ', S.est, S, h1, h2, fun vs H1 hl e1 S1 => ⟨by omega, fun p hp => ?_⟩⟩
    have sm := same_new (o := .tup vs) hp
    exact ⟨p, vs, rfl, .inl (.inl upd_same), hl, hl, q _ _ (S1.step (.of sm) (S1.est.cell.same sm)) (e1.pers.trans (.of sm))⟩
end
end Co
end

section
set_option Elab.async false
set_option linter.all false
set_option maxRecDepth 100000
set_option autoImplicit false
namespace Co
open PySem PySem.Spec L2 PyProof.Rows
variable [Tbs]

/-! ### defs: what they give, and their calls. An argument: a value, or (none) the bag -/
abbrev FD := List (Option D) → D → Option (R × D)
def ArgOk (W : Wd) (c : Cel) (H : Hp) (v : V) : Option D → Prop
  | some d => PF W.K H v d
  | none => v = c.v ∧ v ≠ .non
theorem ArgOk.ext {W : Wd} {c : Cel} {H H' : Hp} {v : V} {a : Option D} (h : ArgOk W c H v a) (p : Pers H H') : ArgOk W c H' v a := by
  cases a with
  | some d => exact PF.pers p _ _ h
  | none => exact h
def spD (W : Wd) (n : Nat) (F : FD) : Sp := fun vs H Q _ => ∃ c s as r s', vs.length = n ∧ Paired (ArgOk W c H) vs as ∧ CelOk W c s H ∧ F as s = some (r, s') ∧ r.1 ≠ .ln ∧ ∀ v H', Ext c.fp H H' → CelOk W c s' H' → Res W c H H' r v → Q v H'
def tDX (W : Wd) (c : Cel) (f : Den (List (Option D))) : TA := fun σ H Q => ∃ ρ s as s', Est W c ρ s σ H ∧ f ρ s = some (as, s') ∧ ∀ vs H', Ext c.fp H H' → CelOk W c s' H' → Paired (ArgOk W c H') vs as → Q vs H'
def xNil : Den (List (Option D)) := fun _ s => some ([], s)
def xVal (f : Den R) (g : Den (List (Option D))) : Den (List (Option D)) := fun ρ s => match f ρ s with
  | some ((.pf, d), s1) => (g ρ s1).map fun x => (some d :: x.1, x.2)
  | _ => none
def xCel (i : Nat) (g : Den (List (Option D))) : Den (List (Option D)) := fun ρ s => match ρ[i]? with
  | some (some .cell) => (g ρ s).map fun x => (none :: x.1, x.2)
  | _ => none
def dCallF (n : Nat) (F : FD) (f : Den (List (Option D))) : Den R := fun ρ s => (f ρ s).bind fun x => (F x.1 x.2).bind fun y => if y.1.1 = .ln ∨ x.1.length ≠ n then none else some y
def rho0 (n : Nat) (as : List (Option D)) : Rho := as.map (fun a => some (match a with | some d => .val d | none => .cell)) ++ List.replicate (n - as.length) none
def fnD (n : Nat) (body : DenS) : FD := fun as s => match body (rho0 n as) s with
  | some (.rt r, s') => if r.1 = .ln then none else some (r, s')
  | some (.nx _, s') => some ((.pf, .none), s')
  | none => none
section
variable {X : Cx} {c : Cel} {a : Expr} {es : List Expr} {pos : Pos}
theorem cx_nil : PA X [] (tDX (wd X) c xNil) := pa_nil.imp fun σ H Q h => by
  obtain ⟨ρ, s, as, s', E, hf, q⟩ := h
  cases hf
  exact q [] H (.refl _ H) E.cell .nil
theorem cx_val {f : Den R} {g : Den (List (Option D))} (ha : PE X a (tD (wd X) c f)) (hr : PA X es (tDX (wd X) c g)) (hs : starEach (a :: es) X.env = (false, eval a X.env) :: starEach es X.env) : PA X (a :: es) (tDX (wd X) c (xVal f g)) := by
  refine (pa_cons ha hr hs).imp fun σ H Q h => ?_
  obtain ⟨ρ, s, as, s', E, hf, q⟩ := h
  unfold xVal at hf
  split at hf
  · rename_i d s1 h1
    cases h2 : g ρ s1 with
    | none => rw [h2] at hf; cases hf
    | some x =>
      rw [h2] at hf
      cases hf
      refine ⟨ρ, s, _, _, E, h1, fun v H1 e1 k1 r1 => ⟨ρ, s1, x.1, x.2, E.ext e1 k1, h2, fun vs H2 e2 k2 ok => ?_⟩⟩
      exact q (v :: vs) H2 (e1.trans e2) k2 (.cons (PF.pers e2.pers _ _ r1) ok)
  · cases hf
theorem cx_cel {i : Nat} {x : Str} {p1 : Pos} {g : Den (List (Option D))} (hN : X.N[i]? = some x) (hv : Vis X.env.scope x) (hd : (x == ("__debug__" : Str)) = false) (hcd : (x == ("__classdict__" : Str)) = false) (hr : PA X es (tDX (wd X) c g)) : PA X (.Name x p1 :: es) (tDX (wd X) c (xCel i g)) := by
  refine (pa_cons (pe_var hN hv hd hcd) hr rfl).imp fun σ H Q h => ?_
  obtain ⟨ρ, s, as, s', E, hf, q⟩ := h
  unfold xCel at hf
  split at hf
  · rename_i hi
    cases h2 : g ρ s with
    | none => rw [h2] at hf; cases hf
    | some y =>
      rw [h2] at hf
      cases hf
      obtain ⟨v, ev, ok⟩ := E.slot i _ hi
      exact ⟨v, ev, ρ, s, y.1, y.2, E, h2, fun vs H2 e2 k2 ok2 => q (v :: vs) H2 e2 k2 (.cons ok ok2)⟩
  · cases hf
theorem ce_call {F : FD} {f : Addr} {fd : FuncData} {ps : List Str} {k : Nat} {g : Den (List (Option D))} {x : Str} {p1 : Pos} (hF : FnOk X.prog X.w X.K X.mg X.base CX0 k f fd ps (spD (wd X) ps.length F)) (hr : Room k X.A) (hg : Gl X x) (hm : X.mg x = some (.ref f)) (hk : PySem.W.keepIn X.K (.ref f) = true) (hb : Binds X.K fd ps [])
    (ha : PA X (a :: es) (tDX (wd X) c g)) (hd : (x == ("__debug__" : Str)) = false) (hs : starEach (a :: es) X.env = (false, eval a X.env) :: starEach es X.env) (hs2 : (starEach es X.env).any (·.1) = false) :
    PE X (.Call (.Name x p1) (a :: es) [] pos) (tD (wd X) c (dCallF ps.length F g)) := by
  refine ⟨fun pins st σ H Q I h => ?_⟩
  obtain ⟨ρ, s, r, s', E, hf, q⟩ := h
  obtain ⟨⟨as, s1⟩, h1, hf⟩ := bind_some hf
  obtain ⟨⟨r', s2⟩, h2, hf⟩ := bind_some hf
  dsimp only at hf
  by_cases hc : r'.1 = .ln ∨ as.length ≠ ps.length
  · rw [if_pos hc] at hf; cases hf
  · rw [if_neg hc] at hf
    cases hf
    rw [not_or, Decidable.not_not] at hc
    refine (pe_call (E := E0) hF hr hg hm hk hb .nil pass0 ha hd hs (back_any hs2 pos)).run pins st σ H Q I ?_
    refine ⟨ρ, s, as, s1, E, h1, fun vs H1 e1 k1 ok => ?_⟩
    show spD (wd X) ps.length F (vs ++ []) H1 Q E0
    rw [List.append_nil]
    exact ⟨c, s1, as, r, s', by rw [Paired.length ok]; exact hc.2, ok, k1, h2, hc.1, fun v H' e2 k2 r2 => q v H' (e1.trans e2) k2 (r2.ahead e1)⟩
/-- the def by its body -/
theorem est0 {W : Wd} {N : List Str} {s : D} {H : Hp} {vs : List V} {as : List (Option D)} (hl : vs.length ≤ N.length) (h : Paired (ArgOk W c H) vs as) (k : CelOk W c s H) : Est W c (rho0 N.length as) s (L2.start N vs) H := by
  have ll := Paired.length h
  refine ⟨fun i e hi => ?_, fun i j d e b hi => ?_, k, ?_⟩
  · unfold rho0 at hi
    by_cases z : i < as.length
    · rw [List.getElem?_append_left (by simpa using z), List.getElem?_map, List.getElem?_eq_getElem z] at hi
      have hv : vs[i]? = some vs[i] := List.getElem?_eq_getElem (by omega)
      obtain ⟨y, h1, h2⟩ := paired_get h i _ hv
      rw [List.getElem?_eq_getElem z] at h1
      cases h1
      refine ⟨vs[i], by unfold L2.start; rw [List.getElem?_append_left (by simp; omega), List.getElem?_map, hv]; rfl, ?_⟩
      have hi' := Option.some.inj (Option.some.inj hi)
      subst hi'
      cases hz : as[i] with
      | some d => rw [hz] at h2; exact h2
      | none => rw [hz] at h2; exact h2
    · rw [List.getElem?_append_right (by simpa using z), List.getElem?_replicate] at hi
      split at hi <;> cases hi
  · exfalso
    unfold rho0 at hi
    by_cases z : i < as.length
    · rw [List.getElem?_append_left (by simpa using z), List.getElem?_map, List.getElem?_eq_getElem z] at hi
      have hi' := Option.some.inj (Option.some.inj hi)
      cases hz : as[i] with
      | some d => rw [hz] at hi'; cases hi'
      | none => rw [hz] at hi'; cases hi'
    · rw [List.getElem?_append_right (by simpa using z), List.getElem?_replicate] at hi
      split at hi <;> cases hi
  · unfold rho0 L2.start
    simp
    omega
end
section
variable {P : Program} {w : World} {K : PySem.W.Frag} {mg : Str → Option Value} {base : Heap} {x qual : Str} {params : Arguments} {body : List Stmt} {scope : Scope} {kws : List (Str × V)} {f : Addr} {fd : FuncData}
/-- the rule for a def, its code object told -/
theorem fun_okC {N ps : List Str} {k : Nat} {sp : Sp} (F : FunD K x qual params body scope [] kws f fd) (S : FnScope N ps scope) (len : ∀ vs H Q E, sp vs H Q E → vs.length = ps.length)
    (hb : ∀ (A : Around) (outer : List Env) (s : Shared) (H : Hp) (vs : List V) (Q : VK) (E : XK), Room k (A.deeper (envOfC qual scope s.heap.objs.size f fd.code)) → sp vs H Q E →
      ∃ t, PSs (cxOf CX0 P w K mg base N qual scope f fd.code A outer s H E) body t ∧ t { nx := fun _ G => Q .non G, rt := Q } (L2.start N vs) H) : FnOk P w K mg base CX0 (k + 1) f fd ps sp := by
  obtain ⟨oc, od, dV, kV, doc, pm, an, cd, ct, sl, e, lk, hcd, _⟩ := F.ex
  subst e
  exact fn_of lk hcd S len hb
theorem fn_den {N ps : List Str} {k : Nat} {den : DenS} (F : FunD K x qual params body scope [] kws f fd) (S : FnScope N ps scope)
    (hb : ∀ (A : Around) (outer : List Env) (s : Shared) (H : Hp) (E : XK) (c : Cel) (G : Hp), Room k (A.deeper (envOfC qual scope s.heap.objs.size f fd.code)) → PSs (cxOf CX0 P w K mg base N qual scope f fd.code A outer s H E).nox body (tS ⟨P, w, K⟩ c G den)) :
    FnOk P w K mg base CX0 (k + 1) f fd ps (spD ⟨P, w, K⟩ ps.length (fnD N.length den)) := by
  refine fun_okC F S (fun vs H Q E h => ?_) (fun A outer s H vs Q E hr h => ?_)
  · obtain ⟨c, s, as, r, s', hl, _⟩ := h
    exact hl
  · obtain ⟨c, st, as, r, st', hl, ok, ck, hf, nl, q⟩ := h
    have pl : ps.length ≤ N.length := by
      have := congrArg List.length S.pre
      rw [List.length_take] at this
      omega
    refine ⟨_, PSs.nox (hb A outer s H E c H hr), ?_⟩
    have E0 := est0 (N := N) (by omega) ok ck
    have S0 : Sst ⟨P, w, K⟩ c H (rho0 N.length as) st (L2.start N vs) H := ⟨E0, .refl _ _, fun i d a hi _ => by
      exfalso
      unfold rho0 at hi
      by_cases z : i < as.length
      · rw [List.getElem?_append_left (by simpa using z), List.getElem?_map, List.getElem?_eq_getElem z] at hi
        have hi' := Option.some.inj (Option.some.inj hi)
        cases hz : as[i] with
        | some d => rw [hz] at hi'; cases hi'
        | none => rw [hz] at hi'; cases hi'
      · rw [List.getElem?_append_right (by simpa using z), List.getElem?_replicate] at hi
        split at hi <;> cases hi⟩
    unfold fnD at hf
    split at hf
    · rename_i r' s1 h1
      split at hf
      · cases hf
      · cases hf
        exact ⟨_, st, .rt r, st', S0, h1, fun v H' e k r _ => q v H' e k r⟩
    · rename_i ρ' s1 h1
      cases hf
      exact ⟨_, st, .nx ρ', st', S0, h1, fun σ' H' S' _ => q .non H' S'.ext S'.est.cell .non⟩
    · cases hf
end
end Co
end

section
set_option Elab.async false
set_option linter.all false
set_option maxRecDepth 100000
set_option autoImplicit false
namespace Co
open PySem PySem.Spec L2 PyProof.Rows
/-! ### sum(lists, []) -/
section
variable {prog : Program} {w : World} {A : Around} {E : Value → Shared → Prop} {R : PySem.Result → Shared → Prop} {s : Shared}
theorem add_raw {l b : Addr} {vs ws : List Value} {Q : Value → Shared → Prop} (hl : s.heap.IsList l vs.toArray) (hb : s.heap.IsList b ws.toArray)
    (h : Q (.ref s.heap.objs.size) { s with heap := s.heap.push { cls := .type "list", data := .seq (vs ++ ws).toArray } }) (hsz : vs.length + ws.length ≤ sizeLine) :
    wpAny (model prog w) A (binaryOp .Add (.ref l) (.ref b)) Q E s := by
  obtain ⟨⟨cls, dd, data, sl⟩, ho, hc, n, hd⟩ := id hl
  obtain ⟨⟨cls2, dd2, data2, sl2⟩, ho2, hc2, n2, hd2⟩ := id hb
  simp only at hc hd hc2 hd2
  subst hc hd hc2 hd2
  have e : vs.toArray ++ ws.toArray = (vs ++ ws).toArray := by simp
  refine concat_meets ⟨_, ho, rfl⟩ ⟨_, ho2, rfl⟩ noFill_list_add seq_list_add PySem.F.slot_list_add PySem.F.entry_list_add (PySem.F.args_list_add_2 _ _) (list_addW l b vs.toArray ws.toArray n n2 dd dd2 sl sl2 (by simpa using hsz)) ⟨ho, ho2, ?_⟩
  rw [e]
  exact h
variable {I : Addr} {fp wr : List Addr} {n : Nat} {P : Nat → Value → Prop} {St : Nat → Heap → Prop}
theorem sum_loopL (W : Walks prog w A.in1 I fp wr n P St) (ad : Nat → Addr) (its : Nat → List Value) (hval : ∀ i v, P i v → v = .ref (ad i)) (S : Addr) (hfp : ∀ b ∈ fp, b < S) (hsz : ∀ i, i ≤ n → ((List.range i).flatMap its).length ≤ sizeLine) :
    ∀ (k i : Nat) (s : Shared) (t : Addr) (c : Nat), n - i = k → i ≤ n → (0 < i → S < t ∧ s.heap.get? t = some { cls := .type "list", data := .seq ((List.range i).flatMap its).toArray }) → St i s.heap → s.heap.get? S = some { cls := .type "list", dict := none, data := .seq #[.ref t] c, slots := #[] } → t ≠ S → t ∉ wr → s.heap.IsList t ((List.range i).flatMap its).toArray →
      (∀ j, j < n → ad j ≠ S ∧ ad j ∉ wr ∧ s.heap.IsList (ad j) (its j).toArray) →
    (∀ h' tk t', (∀ b o, b ∉ wr → b ≠ S → s.heap.get? b = some o → h'.get? b = some o) → (0 < n → S < t' ∧ h'.get? t' = some { cls := .type "list", data := .seq ((List.range n).flatMap its).toArray }) → R (.ok (.ret (.ref t'))) { s with heap := h', toks := tk }) →
    codeAny (model prog w) A (.builtin "sum.loop" ⟨[.ref I, .ref S, rawInt 2, rawInt 0], []⟩) R s := by
  have hSf : S ∉ fp := fun h => Nat.lt_irrefl _ (hfp _ h)
  have hSw : S ∉ wr := fun h => hSf (W.sub _ h)
  intro k
  induction k with
  | zero =>
    intro i s t c hk hi hBt hst hS htS htw ht had hR
    have hin : i = n := by omega
    subst hin
    refine codeAny_builtin PySem.F.entry_sum_loop ?_
    rw [Around.under_plainId PySem.F.plain_sum_loop _]
    show wpAny _ A.in1 (seqItems? (.ref S) >>= _) _ _ s
    refine wpAny_bind (wpAny_seqItems hS rfl ?_)
    show wpAny _ A.in1 (tryCatch (pyNext (.ref I)) _ >>= _) _ _ s
    refine wpAny_bind (wpAny_tryCatch (W.done s _ _ hst fun h' tk hk' => ?_))
    exact wpAny_pure (hR h' tk t (fun b o hbw _ e => hk' b o hbw e) fun z => ⟨(hBt z).1, hk' t _ htw (hBt z).2⟩)
  | succ k ih =>
    intro i s t c hk hi hBt hst hS htS htw ht had hR
    have hlt : i < n := by omega
    refine codeAny_builtin PySem.F.entry_sum_loop ?_
    rw [Around.under_plainId PySem.F.plain_sum_loop _]
    show wpAny _ A.in1 (seqItems? (.ref S) >>= _) _ _ s
    refine wpAny_bind (wpAny_seqItems hS rfl ?_)
    show wpAny _ A.in1 (tryCatch (pyNext (.ref I)) _ >>= _) _ _ s
    refine wpAny_bind (wpAny_tryCatch (W.item i s _ _ hlt hst fun v h' tk hP hst' hk' => ?_))
    have ev := hval i v hP
    subst ev
    have hS' := hk' S _ hSw hS
    obtain ⟨a1, a2, a3⟩ := had i hlt
    have keepL : ∀ {b : Addr} {xs : Array Value}, b ∉ wr → s.heap.IsList b xs → h'.IsList b xs := fun hb x => by
      obtain ⟨o, e, r⟩ := x
      exact ⟨o, hk' _ o hb e, r⟩
    have hz := hsz (i + 1) (by omega)
    have er : (List.range (i + 1)).flatMap its = (List.range i).flatMap its ++ its i := by
      rw [List.range_succ, List.flatMap_append]
      simp
    rw [er, List.length_append] at hz
    show wpAny _ A.in1 ((holding [Value.ref (ad i)] (binaryOp .Add (.ref t) (.ref (ad i)))).attempt >>= _) _ _ _
    refine wpAny_bind (wpAny_attempt (wpAny_holding (add_raw (s := { s with heap := h', toks := tk }) (keepL htw ht) (keepL a2 a3) ?_ hz)))
    have hlS : S < h'.objs.size := Heap.lt_size hS'
    have hS1 : (h'.push { cls := .type "list", data := .seq ((List.range i).flatMap its ++ its i).toArray }).get? S = some { cls := .type "list", dict := none, data := .seq #[.ref t] c, slots := #[] } := Heap.get?_push_of_some _ hS'
    have hnew : (h'.push { cls := .type "list", data := .seq ((List.range i).flatMap its ++ its i).toArray }).get? h'.objs.size = some { cls := .type "list", data := .seq ((List.range i).flatMap its ++ its i).toArray } := Heap.get?_push_size _ rfl
    show wpAny _ A.in1 (updateSeq S (fun _ => #[.ref h'.objs.size]) >>= _) _ _ _
    refine wpAny_bind ?_
    refine wpAny_updateSeq hS1 rfl ?_
    have hS2 := Heap.get?_update_self (Obj.mapSeq fun _ => #[Value.ref h'.objs.size]) hS1 rfl
    refine wpAny_bind (wpAny_letGo ?_)
    refine wpAny_bind ?_
    have keep2 : ∀ b o, b ≠ S → h'.get? b = some o → (((h'.push { cls := .type "list", data := .seq ((List.range i).flatMap its ++ its i).toArray }).update S (Obj.mapSeq fun _ => #[Value.ref h'.objs.size])).update S (Obj.mapSeq fun _ => #[Value.ref h'.objs.size])).get? b = some o := fun b o hb e =>
      (Heap.get?_update_other _ _ (Ne.symm hb)).trans ((Heap.get?_update_other _ _ (Ne.symm hb)).trans (Heap.get?_push_of_some _ e))
    refine wpAny_updateSeq hS2 rfl (wpAny_pure ⟨plainId_quiet PySem.F.plain_sum_loop _, ih (i + 1) _ h'.objs.size _ (by omega) hlt (fun _ => ⟨hlS, ?_⟩) (W.frame _ _ _ hst' fun b hb o e => ?_) (Heap.get?_update_self _ hS2 rfl) (Nat.ne_of_gt hlS) (fun z => ?_) ?_ (fun j hj => ?_) fun h'' tk'' t'' hk'' hB'' => ?_⟩)
    · rw [er]
      exact (Heap.get?_update_other _ _ (Nat.ne_of_lt hlS)).trans ((Heap.get?_update_other _ _ (Nat.ne_of_lt hlS)).trans hnew)
    · exact keep2 b o (fun z => hSf (z ▸ hb)) e
    · exact Nat.lt_irrefl _ (Nat.lt_trans (hfp _ (W.sub _ z)) hlS)
    · rw [er]
      exact ⟨_, (Heap.get?_update_other _ _ (Nat.ne_of_lt hlS)).trans ((Heap.get?_update_other _ _ (Nat.ne_of_lt hlS)).trans hnew), rfl, _, rfl⟩
    · obtain ⟨b1, b2, b3⟩ := had j hj
      obtain ⟨o, e, r⟩ := keepL b2 b3
      exact ⟨b1, b2, o, keep2 _ o b1 e, r⟩
    · exact hR h'' tk'' t'' (fun b o hbw hbS e => hk'' b o hbw hbS (keep2 b o hbS (hk' b o hbw e))) hB''
end
section
variable {prog : Program} {w : World} {A : Around} {E : Value → Shared → Prop} {s : Shared}
theorem args_sum2 (a b : Value) : argsOk "sum" ⟨[a, b], []⟩ := by unfold argsOk; kernel_rfl
theorem sub_l_str : isSubtype (.type "list") (.type "str") = pure false := by rw [isSubtype_type]; kernel_rfl
theorem sub_l_bytes : isSubtype (.type "list") (.type "bytes") = pure false := by rw [isSubtype_type]; kernel_rfl
theorem sub_l_bytearray : isSubtype (.type "list") (.type "bytearray") = pure false := by rw [isSubtype_type]; kernel_rfl
theorem sum_lists {l b : Addr} {items : Array Value} {ad : Nat → Addr} {its : Nat → List Value} {Q : Value → Shared → Prop} (hh : A.handled = none) (hl : s.heap.IsList l items) (hb : s.heap.IsList b #[]) (hne : 0 < items.size)
    (hit : ∀ (i : Nat) (v : Value), items[i]? = some v → v = .ref (ad i)) (had : ∀ j, j < items.size → s.heap.IsList (ad j) (its j).toArray) (hsz : ∀ i, i ≤ items.size → ((List.range i).flatMap its).length ≤ sizeLine)
    (h : ∀ h' tk t', (∀ c o, s.heap.get? c = some o → h'.get? c = some o) → s.heap.objs.size ≤ t' → h'.get? t' = some { cls := .type "list", data := .seq ((List.range items.size).flatMap its).toArray } → Q (.ref t') { s with heap := h', toks := tk }) :
    wpAny (model prog w) A (call (.builtin "sum") [.ref l, .ref b]) Q E s := by
  refine call_function_tree PySem.F.kind_sum PySem.F.plain_sum PySem.F.entry_sum (args_sum2 _ _) ?_
  unfold Builtin.«sum»
  simp only [List.length_cons, List.length_nil]
  rw [if_neg (by decide)]
  refine wpAny_bind (wpAny_of_eq (show Builtin.Builtins.bindParams "sum" ["start"] 0 ⟨[.ref b], []⟩ = pure [some (.ref b)] from rfl) ?_)
  have hlt : l < s.heap.objs.size := by obtain ⟨_, e, _⟩ := hl; exact Heap.lt_size e
  have hbt : b < s.heap.objs.size := by obtain ⟨_, e, _⟩ := hb; exact Heap.lt_size e
  refine wpAny_bind (wpAny_pyIter_list hl ?_)
  have k1 : ∀ c o, s.heap.get? c = some o → (s.heap.push { cls := .type "list_iterator", data := .fields #[.ref l, .int 0 0] }).get? c = some o := fun c o e => Heap.get?_push_of_some _ e
  have hT : Shared.TypeIs { s with heap := s.heap.push { cls := .type "list_iterator", data := .fields #[.ref l, .int 0 0] } } (.ref b) "list" := by
    obtain ⟨o, e, c, _⟩ := hb
    exact ⟨o, k1 _ _ e, c⟩
  refine wpAny_bind (wpAny_pure ?_)
  simp only [List.forIn_cons, List.forIn_nil]
  refine wpAny_bind (wpAny_bind (wpAny_bind (wpAny_isInstance (T := "list") (b := false) hT sub_l_str ?_)))
  simp only [Bool.false_eq_true, if_false]
  refine wpAny_pure (wpAny_bind (wpAny_bind (wpAny_isInstance (T := "list") (b := false) hT sub_l_bytes ?_)))
  simp only [Bool.false_eq_true, if_false]
  refine wpAny_pure (wpAny_bind (wpAny_bind (wpAny_isInstance (T := "list") (b := false) hT sub_l_bytearray ?_)))
  simp only [Bool.false_eq_true, if_false]
  refine wpAny_pure (wpAny_pure ?_)
  refine wpAny_bind (wpAny_newObj_type ?_)
  have k2 : ∀ c o, s.heap.get? c = some o → ((s.heap.push { cls := .type "list_iterator", data := .fields #[.ref l, .int 0 0] }).push { cls := .type "list", data := .seq #[.ref b] }).get? c = some o := fun c o e => Heap.get?_push_of_some _ (k1 c o e)
  have hs1 : (s.heap.push { cls := .type "list_iterator", data := .fields #[.ref l, .int 0 0] }).objs.size = s.heap.objs.size + 1 := Heap.size_push ..
  have kl : ∀ {c : Addr} {xs : Array Value}, s.heap.IsList c xs → ((s.heap.push { cls := .type "list_iterator", data := .fields #[.ref l, .int 0 0] }).push { cls := .type "list", data := .seq #[.ref b] }).IsList c xs := fun x => by
    obtain ⟨o, e, r⟩ := x
    exact ⟨o, k2 _ _ e, r⟩
  have W := Walks.list (prog := prog) (w := w) (A := A.in1) hh s.heap.objs.size l (Nat.ne_of_lt hlt) items
  refine wpAny_pure ⟨plainId_quiet PySem.F.plain_sum_loop _, sum_loopL W ad its hit (s.heap.push { cls := .type "list_iterator", data := .fields #[.ref l, .int 0 0] }).objs.size (fun c hc => ?_) hsz items.size 0 _ b 0 rfl (Nat.zero_le _) (fun z => absurd z (by omega)) ⟨⟨_, Heap.get?_push_of_some _ (Heap.get?_push_size _ rfl), rfl, rfl⟩, kl hl⟩ (Heap.get?_push_size _ rfl) ?_ ?_ (kl hb) (fun j hj => ?_) fun h' tk t' hk hB => ?_⟩
  · rw [hs1]
    rcases List.mem_cons.mp hc with rfl | hc
    · exact Nat.lt_succ_self _
    · rw [List.mem_singleton.mp hc]
      exact Nat.lt_succ_of_lt hlt
  · rw [hs1]
    exact Nat.ne_of_lt (Nat.lt_succ_of_lt hbt)
  · intro z
    rw [List.mem_singleton.mp z] at hbt
    exact Nat.lt_irrefl _ hbt
  · have hj' := had j hj
    have hj2 : ad j < s.heap.objs.size := by obtain ⟨_, e, _⟩ := hj'; exact Heap.lt_size e
    refine ⟨?_, fun z => ?_, kl hj'⟩
    · rw [hs1]
      exact Nat.ne_of_lt (Nat.lt_succ_of_lt hj2)
    · rw [List.mem_singleton.mp z] at hj2
      exact Nat.lt_irrefl _ hj2
  · obtain ⟨hB, hl'⟩ := hB hne
    rw [hs1] at hB
    refine h h' tk t' (fun c o e => hk c o (fun z => ?_) ?_ (k2 c o e)) (Nat.le_of_lt (Nat.lt_trans (Nat.lt_succ_self _) hB)) hl'
    · have := Heap.lt_size e
      rw [List.mem_singleton.mp z] at this
      exact Nat.lt_irrefl _ this
    · rw [hs1]
      exact Nat.ne_of_lt (Nat.lt_succ_of_lt (Heap.lt_size e))
end
variable [Tbs]
def flat : List D → Option (List D)
  | [] => some []
  | .list es :: r => (flat r).map (es ++ ·)
  | _ => none
def sumE : List D → Option R
  | [.list ds, .list []] => if ds ≠ [] then (match flat ds with
    | some es => if es.length ≤ sizeLine then some (.fr, .list es) else none
    | none => none) else none
  | ds => sumD ds
theorem take_getD {α : Type} (d : α) : ∀ (xs : List α) (i : Nat), i ≤ xs.length → (List.range i).map (fun j => xs.getD j d) = xs.take i := fun xs i hi => by
  apply List.ext_getElem
  · simp; omega
  · intro j h1 h2
    have : j < xs.length := by simp at h1; omega
    simp [this]
section
variable {X : Cx} {pins : List (Addr × Obj)} {σ : L2.St} {H : Hp} {s : Shared}
theorem flat_raw (I : Inv X pins σ H s) : ∀ {vs : List V} {ds es : List D} {us : List Value}, PFs X.K H vs ds → Vals vs us → flat ds = some es →
    ∃ (as : List Addr) (iss : List (List Value)) (ws : List V), iss.length = us.length ∧ us = as.map .ref ∧ (∀ (j : Nat) (a : Addr) (its : List Value), as[j]? = some a → iss[j]? = some its → s.heap.IsList a its.toArray) ∧ Vals ws iss.flatten ∧ PFs X.K H ws es
  | [], [], es, us, q, r, h => by
    cases h
    cases r
    exact ⟨[], [], [], rfl, rfl, by simp, .nil, q⟩
  | v :: vs, [], es, us, q, r, h => by cases q
  | [], d :: ds, es, us, q, r, h => by cases q
  | v :: vs, d :: ds, es, us, q, r, h => by
    cases r with
    | @cons _ u _ us r1 r2 =>
      have q12 : PF X.K H v d ∧ PFs X.K H vs ds := by cases q with | cons a b => exact ⟨a, b⟩
      obtain ⟨q1, q2⟩ := q12
      cases d with
      | list es1 =>
        rw [flat] at h
        cases e : flat ds with
        | none => rw [e] at h; cases h
        | some es2 =>
          rw [e] at h
          cases h
          obtain ⟨as, iss, ws, h1, h2, h3, h4, h5⟩ := flat_raw I q2 r2 e
          obtain ⟨a, vs1, rfl, g1, g2⟩ := PO.list (W := wd X) (.inl q1)
          cases r1
          obtain ⟨its, rv, hl, _⟩ := I.list (.inl g1)
          refine ⟨a :: as, its :: iss, vs1 ++ ws, by simp [h1], by simp [h2], ?_, ?_, PFs.append g2 h5⟩
          · intro j b xs e1 e2
            cases j with
            | zero =>
              cases e1
              cases e2
              exact hl.isList
            | succ j => exact h3 j b xs (by simpa using e1) (by simpa using e2)
          · rw [List.flatten_cons]
            exact rv.append h4
      | _ => cases h
theorem b_sumE (hc : X.calm = true) : CallR X (.builtin "sum") (rN (wd X) sumE) := by
  intro pins s σ H xs us Q I rx h
  obtain ⟨ds, r, hx, h, q⟩ := h
  unfold sumE at h
  split at h
  · rename_i ds
    split at h
    · rename_i hne
      split at h
      · rename_i es hf
        split at h
        · rename_i hz
          cases h
          obtain ⟨a, b, rfl, hx1, hy⟩ := pair2 hx
          obtain ⟨l, vs, rfl, h1, q1⟩ := hx1.list
          obtain ⟨m, ws0, rfl, h2, q2⟩ := hy.list
          obtain ⟨itl, rl, hl, _⟩ := I.list (.inl h1)
          obtain ⟨itm, rm, hm, _⟩ := I.list (.inl h2)
          have e0 : ws0 = [] := by
            have := q2.length
            cases ws0 with
            | nil => rfl
            | cons _ _ => simp at this
          subst e0
          cases rm
          obtain ⟨as, iss, ws, g1, g2, g3, g4, g5⟩ := flat_raw I q1 rl hf
          have eu : us = [.ref l, .ref m] := by
            cases rx with
            | cons r1 r2 =>
              cases r2 with
              | cons r3 r4 =>
                cases r1; cases r3; cases r4
                rfl
          subst eu
          have lf : iss.flatten.length = es.length := by rw [← g4.length, g5.length]
          have fm : ∀ i, i ≤ itl.length → (List.range i).flatMap (fun j => iss.getD j []) = (iss.take i).flatten := fun i hi => by
            rw [← take_getD [] iss i (by omega)]
            rfl
          have la : as.length = itl.length := by rw [g2]; simp
          refine sum_lists (items := itl.toArray) (ad := fun j => as.getD j 0) (its := fun j => iss.getD j []) (I.ok.hd hc) hl.isList hm.isList ?_ (fun i v hv => ?_) (fun j hj => ?_) (fun i hi => ?_) fun h' tk t' hk hp hn => ?_
          · have l1 := rl.length
            have l2 := q1.length
            rw [List.size_toArray]
            cases ds with
            | nil => exact absurd rfl hne
            | cons _ _ => simp at l2; omega
          · have hv' : itl[i]? = some v := by simpa using hv
            rw [g2, List.getElem?_map] at hv'
            cases ea : as[i]? with
            | none => rw [ea] at hv'; cases hv'
            | some a =>
              rw [ea] at hv'
              cases hv'
              simp [List.getD, ea]
          · have hj' : j < itl.length := by simpa using hj
            have ha : as[j]? = some (as.getD j 0) := by simp [List.getD, List.getElem?_eq_getElem (show j < as.length by omega)]
            have hi : iss[j]? = some (iss.getD j []) := by simp [List.getD, List.getElem?_eq_getElem (show j < iss.length by omega)]
            exact g3 j _ _ ha hi
          · have hi' : i ≤ itl.length := by simpa using hi
            rw [fm i hi']
            have : (iss.take i).flatten.length ≤ iss.flatten.length := by
              have e := List.take_append_drop i iss
              have := congrArg (fun z => z.flatten.length) e
              simp only [List.flatten_append, List.length_append] at this
              omega
            omega
          · rw [List.size_toArray, fm _ (Nat.le_refl _), List.take_of_length_le (by omega)] at hn
            have pn := I.hok.fresh hp
            refine ⟨.ref t', upd H t' (.lst ws), I.laid (t' := tk) hk hp ⟨by rw [g5.length]; exact hz, iss.flatten, 0, g4, hn⟩, rfl, q _ _ (same_new pn) (Rs.lst pn g5)⟩
        · cases h
      · cases h
    · cases h
  · exact b_sum hc pins s σ H xs us Q I rx ⟨_, r, hx, h, q⟩
end
end Co
end

section
set_option Elab.async false
set_option linter.all false
set_option maxRecDepth 100000
set_option autoImplicit false
namespace Co
open PySem PySem.Spec L2 PyProof.Rows
variable [Tbs]
/-! ### d.get(k, z) -/
def getR (d : D) (b e : R) : Option R := match d, b, e with
  | .dict kvs, (.pf, k), (.pf, z) => if isTup k = false ∧ okKey kvs k = true then some (.pf, (lookD kvs k).getD z) else none
  | _, _, _ => none
def dGet (f g h : Den R) : Den R := fun ρ s => (f ρ s).bind fun a => (g ρ a.2).bind fun b => (h ρ b.2).bind fun e => (getR a.1.2 b.1 e.1).map fun r => (r, e.2)
theorem getR_ok {d : D} {b e r : R} (h : getR d b e = some r) : ∃ kvs k z, d = .dict kvs ∧ b = (.pf, k) ∧ e = (.pf, z) ∧ isTup k = false ∧ okKey kvs k = true ∧ r = (.pf, (lookD kvs k).getD z) := by
  unfold getR at h
  split at h
  · split at h
    · rename_i hk
      cases h
      exact ⟨_, _, _, rfl, rfl, rfl, hk.1, hk.2, rfl⟩
    · cases h
  · cases h
section
variable {X : Cx} {c : Cel} {pos : Pos} {e : Expr}
theorem ce_get {k : Nat} (hr : Room k X.A) {f g h : Den R} {o z : Expr} {apos : Pos} (ho : PE X o (tD (wd X) c f)) (he : PE X e (tD (wd X) c g)) (hz : PE X z (tD (wd X) c h)) (m : M2 X o "get" apos e z pos) :
    PE X (.Call (.Attribute o "get" apos) [e, z] [] pos) (tD (wd X) c (dGet f g h)) := by
  refine (pe_dget2 (by have := hr.un; omega) ho he hz m).imp fun σ H Q hh => ?_
  obtain ⟨ρ, s, r, s', E, hf, q⟩ := hh
  obtain ⟨⟨ra, s1⟩, h1, hf⟩ := Option.bind_eq_some_iff.mp hf
  obtain ⟨⟨rb, s2⟩, h2, hf⟩ := Option.bind_eq_some_iff.mp hf
  obtain ⟨⟨re, s3⟩, h3, hf⟩ := Option.bind_eq_some_iff.mp hf
  obtain ⟨r', h4, hf⟩ := Option.map_eq_some_iff.mp hf
  cases hf
  obtain ⟨kvs, key, y, e1, e2, e3, ht, ok, rfl⟩ := getR_ok h4
  dsimp only at e1 e2 e3 h2 h3
  subst e2 e3
  have okc := okKey_cases ok
  obtain ⟨ha, kk, hk⟩ : (kvs.all fun p => !isTup p.1) = true ∧ ∃ k, sKey key = some k := by
    rcases okc with ⟨z, _⟩ | z
    · rw [ht] at z; cases z
    · exact z
  refine ⟨ρ, s, ra, s1, E, h1, fun x H1 x1 k1 r1 => ?_⟩
  have px := r1.po
  rw [e1] at px
  obtain ⟨b, rfl, ob⟩ := px.dict
  obtain ⟨xs, hH, kv⟩ := ob_plain ob ha
  refine ⟨b, rfl, .inl ⟨xs, .inl hH⟩, ρ, s1, _, s2, E.ext x1 k1, h2, fun u H2 x2 k2 r2 => ⟨ρ, s2, _, _, (E.ext x1 k1).ext x2 k2, h3, fun v H3 x3 k3 r3 => ?_⟩⟩
  have px3 := r1.po_ext (x2.trans x3)
  rw [e1] at px3
  obtain ⟨b', eb, ob3⟩ := px3.dict
  cases eb
  obtain ⟨xs3, hH3, kv3⟩ := ob_plain ob3 ha
  have pk : PF X.K H3 u key := PF.pers x3.pers _ _ r2
  have eu := sKey_val pk hk
  subst eu
  refine ⟨_, DGet.k hH3, q _ H3 ((x1.trans x2).trans x3) k3 ?_⟩
  rcases KVs.look (W := wd X) kv3 hk with ⟨l1, l2⟩ | ⟨e', v', l1, l2, l3⟩
  · rw [l1, l2]
    exact r3
  · rw [l1, l2]
    exact l3
end
end Co
end

section
set_option Elab.async false
set_option linter.all false
set_option maxRecDepth 100000
set_option autoImplicit false
namespace Co
open PySem PySem.Spec L2 PyProof.Rows
variable [Tbs]
/-! ### dict(pairs), the keys tuples -/
def prs? : List D → Option (List (D × D))
  | [] => some []
  | .tuple [k, v] :: r => (prs? r).map ((k, v) :: ·)
  | _ => none
def putAllD (acc kvs : List (D × D)) : List (D × D) := kvs.foldl (fun acc p => putD acc p.1 p.2) acc
def dictE : List D → Option R
  | [.list ps] => (match prs? ps with
    | some kvs => if kvs ≠ [] ∧ (kvs.all fun p => isTup p.1 && nkB p.1) = true then some (.fr, .dict (putAllD [] kvs)) else none
    | none => none)
  | _ => none
section
variable {X : Cx} {pins : List (Addr × Obj)} {σ : L2.St} {H : Hp} {s : Shared}
theorem prs_raw (I : Inv X pins σ H s) : ∀ {vs : List V} {ds : List D} {us : List Value} {kvs : List (D × D)}, PFs X.K H vs ds → Vals vs us → prs? ds = some kvs → (kvs.all fun p => isTup p.1 && nkB p.1) = true →
    ∃ (Ts : List Addr) (rs : List (NestedKey × Addr × Value)), us = Ts.map .ref ∧ rs.length = us.length ∧ Paired (KVr X H) kvs rs ∧ ∀ (j : Nat) (t : Addr) (r : NestedKey × Addr × Value), Ts[j]? = some t → rs[j]? = some r → IsTup s.heap t #[.ref r.2.1, r.2.2] ∧ (nkd X).is s.heap r.1 r.2.1
  | [], [], us, kvs, q, r, h, _ => by
    cases h
    cases r
    exact ⟨[], [], rfl, rfl, .nil, by simp⟩
  | v :: vs, [], us, kvs, q, r, h, _ => by cases q
  | [], d :: ds, us, kvs, q, r, h, _ => by cases q
  | v :: vs, d :: ds, us, kvs, q, r, h, ha => by
    cases r with
    | @cons _ u _ us r1 r2 =>
      have q12 : PF X.K H v d ∧ PFs X.K H vs ds := by cases q with | cons a b => exact ⟨a, b⟩
      obtain ⟨q1, q2⟩ := q12
      unfold prs? at h
      split at h
      · rename_i z; cases z
      · rename_i ky vl rr z
        cases z
        cases e : prs? ds with
        | none => rw [e] at h; cases h
        | some kvs2 =>
          rw [e] at h
          cases h
          rw [List.all_cons, Bool.and_eq_true, Bool.and_eq_true] at ha
          obtain ⟨⟨ht, hn⟩, ha⟩ := ha
          obtain ⟨Ts, rs, h1, h2, h3, h4⟩ := prs_raw I q2 r2 e ha
          obtain ⟨t, vs1, rfl, g1, g2⟩ := PO.tup (W := wd X) (.inl q1)
          cases r1
          obtain ⟨its, rv, hl, _⟩ := I.tuple g1
          cases g2 with
          | @cons a1 _ _ _ p1 g2 =>
            cases g2 with
            | @cons a2 _ _ _ p2 g2 =>
              cases g2
              cases rv with
              | cons s1 rv =>
                cases rv with
                | cons s2 rv =>
                  cases rv
                  obtain ⟨b, rfl⟩ := tup_ref p1 ht
                  cases s1
                  obtain ⟨k, hk, h8⟩ := nkB_ok hn
                  refine ⟨t :: Ts, (k, b, _) :: rs, by simp [h1], by simp [h2], .cons ⟨hk, h8, p1, a2, s2, p2⟩ h3, ?_⟩
                  intro j t' r' e1 e2
                  cases j with
                  | zero =>
                    cases e1
                    cases e2
                    exact ⟨hl, PF.nested I _ _ _ _ p1 hk rfl, h8⟩
                  | succ j => exact h4 j t' r' (by simpa using e1) (by simpa using e2)
      · cases h
theorem kvr_all : ∀ {kvs : List (D × D)} {rs : List (NestedKey × Addr × Value)}, Paired (KVr X H) kvs rs → ∀ {acc : List (D × D)} {ac : List (NestedKey × Addr × Value)}, Paired (KVr X H) acc ac → Paired (KVr X H) (putAllD acc kvs) (storedAllH ac rs)
  | _, _, .nil, _, _, h => h
  | _, _, .cons r t, _, _, h => by
    obtain ⟨v, r1, r2⟩ := r.2.2.2
    exact kvr_all t (kvr_put h r.1 r.2.1 r.2.2.1 r1 r2)
theorem putAllD_len : ∀ (kvs acc : List (D × D)), (putAllD acc kvs).length ≤ acc.length + kvs.length
  | [], acc => Nat.le_refl _
  | p :: kvs, acc => by
    have := putAllD_len kvs (putD acc p.1 p.2)
    have l := putD_len acc p.1 p.2
    show (putAllD (putD acc p.1 p.2) kvs).length ≤ _
    rw [List.length_cons]
    omega
theorem putAllD_ne : ∀ (kvs acc : List (D × D)), acc ≠ [] ∨ kvs ≠ [] → putAllD acc kvs ≠ []
  | [], acc, h => by
    rcases h with h | h
    · exact h
    · exact absurd rfl h
  | p :: kvs, acc, _ => putAllD_ne kvs _ (.inl (putD_ne _ _ _))
theorem b_dict {k : Nat} (hc : X.calm = true) (hr : Room k X.A) : CallR X (.type "dict") (rN (wd X) dictE) := by
  intro pins s σ H xs us Q I rx h
  obtain ⟨ds, r, hx, h, q⟩ := h
  unfold dictE at h
  split at h
  · rename_i ps
    split at h
    · rename_i kvs hp
      split at h
      · rename_i hk
        cases h
        obtain ⟨hne, ha⟩ := hk
        obtain ⟨a, rfl, hx1⟩ := pair1 hx
        obtain ⟨l, vs, rfl, h1, q1⟩ := hx1.list
        obtain ⟨itl, rl, hl, hz⟩ := I.list (.inl h1)
        rw [Vals.ref1 rx]
        obtain ⟨Ts, rs, g1, g2, g3, g4⟩ := prs_raw I q1 rl hp ha
        have lt : Ts.length = itl.length := by rw [g1]; simp
        have lk : kvs.length = rs.length := Paired.length g3
        have lv : vs.length = itl.length := rl.length
        have P := PairArg.list (prog := X.prog) (w := X.w) l itl.toArray (fun j => Ts.getD j 0) (rs.map fun r => (Value.ref r.2.1, r.2.2))
        refine call_dict_pairsH (knd := nkd X) (ps := rs) P (I.ok.hd hc) ?_ ⟨hl, ?_, fun j kk v e => ?_⟩ ⟨by simp, fun i key v e => ?_⟩ (fun h' hk x hx => ?_) (by rw [List.length_map]; omega) fun h' tk hd hk => ?_
        · show X.A.units + 1 + 1 + 8 < cLine
          have := hr.un
          omega
        · simp [g2]
        · rw [List.getElem?_map] at e
          cases e2 : rs[j]? with
          | none => rw [e2] at e; cases e
          | some r =>
            rw [e2] at e
            cases e
            have hj := (List.getElem?_eq_some_iff.mp e2).1
            have e3 : Ts[j]? = some (Ts.getD j 0) := by simp [List.getD, List.getElem?_eq_getElem (show j < Ts.length by omega)]
            refine ⟨?_, .inl (g4 j _ r e3 e2).1⟩
            have ei : itl[j]? = some (.ref (Ts.getD j 0)) := by
              rw [g1, List.getElem?_map, e3]
              rfl
            rw [List.getElem?_toArray]
            exact ei
        · have e : (rs.map fun r => (Value.ref r.2.1, r.2.2))[i]? = some (key, v) := e
          rw [List.getElem?_map] at e
          cases e2 : rs[i]? with
          | none => rw [e2] at e; cases e
          | some r =>
            rw [e2] at e
            cases e
            exact ⟨r.1, r.2.1, rfl, rfl⟩
        · obtain ⟨j, hj, e2⟩ := List.mem_iff_getElem.mp hx
          have e3 : Ts[j]? = some (Ts.getD j 0) := by simp [List.getD, List.getElem?_eq_getElem (show j < Ts.length by omega)]
          have is := (g4 j _ x e3 (by rw [List.getElem?_eq_getElem hj, e2])).2
          exact ⟨NestedIs.at (fun b ob vs n hb _ => hk b ob (Nat.ne_of_lt (Heap.lt_size hb)) (fun z => nomatch z) hb) _ _ is.1, is.2⟩
        · obtain ⟨o', es, ep, w1, w2, w3, w4, w5, w6⟩ := hd
          have pn := I.hok.fresh (Nat.le_refl s.heap.objs.size)
          have nsys : (s.heap.objs.size == sysModules) = false := beq_eq_false_iff_ne.mpr (Nat.ne_of_gt I.big)
          have pe : Pers H (upd H s.heap.objs.size (pinO s.heap.objs.size o')) := .of (same_new pn)
          have few := putAllD_len kvs []
          have fin := kvr_all g3 (X := X) (H := H) .nil
          refine ⟨.ref s.heap.objs.size, upd H s.heap.objs.size (pinO s.heap.objs.size o'), I.laid (t' := tk) (fun b o e => hk b o (fun z => nomatch z) e) (Nat.le_refl _) ⟨w1, ⟨o', w1⟩, fun h1 h2 p k => k o' p⟩, rfl, q _ _ (same_new pn) ⟨_, rfl, pn, .inr ⟨nsys, ?_, putAllD_ne _ _ (.inr hne), o', es, ep, _, upd_same, w2, w3, w4, w6, kvr_pers fin pe⟩⟩⟩
          simp at few
          omega
      · cases h
    · cases h
  · cases h
end
end Co
end

section
set_option Elab.async false
set_option linter.all false
set_option maxRecDepth 100000
set_option autoImplicit false
namespace Co
open PySem PySem.Spec L2 PyProof.Rows
variable [Tbs]
/-! ### x[k], y[l] = a, b (x, y owned dicts) -/
def sStD (i : Nat) (e : D) (g : Den R) (ρ : Rho) (s : D) : Option (Rho × D) := match ρ[i]? with
  | some (some (.own (.dict kvs))) => (match g ρ s with
    | some ((.pf, d), s2) => if okKey kvs d = true ∧ kvs.length < sizeLine then some (ρ.set i (some (.own (.dict (putD kvs d e)))), s2) else none
    | _ => none)
  | _ => none
def sPut2 (i j : Nat) (f1 f2 g1 g2 : Den R) : DenS := fun ρ s => match f1 ρ s with
  | some ((.pf, e1), s1) => (match f2 ρ s1 with
    | some ((.pf, e2), s2) => (match sStD i e1 g1 ρ s2 with
      | some (ρ1, s3) => (match sStD j e2 g2 ρ1 s3 with
        | some (ρ2, s4) => some (.nx ρ2, s4)
        | none => none)
      | none => none)
    | _ => none)
  | _ => none
section
variable {X : Cx} {c : Cel} {G : Hp} {pos : Pos}
theorem st_one {i : Nat} {e : D} {g : Den R} {ρ ρ1 : Rho} {s s3 : D} {σ : L2.St} {H : Hp} {v : V} {Q : L2.St → Hp → Prop} (S : Sst (wd X) c G ρ s σ H) (h : sStD i e g ρ s = some (ρ1, s3)) (pv : PF X.K H v e)
    (q : ∀ H', Pers H H' → Sst (wd X) c G ρ1 s3 σ H' → Q σ H') : gSub (tVar i) (tD (wd X) c g) (rSetD (wd X)) v σ H Q := by
  unfold sStD at h
  split at h
  · rename_i kvs hi
    split at h
    · rename_i d s2 h2
      split at h
      · rename_i ok
        cases h
        obtain ⟨v0, e0, a, rfl, nf, ob⟩ := S.est.slot i _ hi
        refine ⟨.ref a, e0, ρ, s, _, _, S.est, h2, fun w H2 e2 k2 r2 => ?_⟩
        have ob2 : Ob (wd X) H2 a (.dict kvs) := ob.ext e2 nf
        have mu : (∃ vs, H2 a = some (HO.lst vs)) ∨ (∃ f, H2 a = some (HO.dK f)) ∨ ∃ p es ep, H2 a = some (pinO a p) ∧ p.data = .dict es ep := by
          rcases ob2 with ⟨xs, hl, _⟩ | ob2
          · exact .inr (.inl ⟨_, hl⟩)
          · obtain ⟨o, es, ep, xs, hl, _, hd, _⟩ := ob2.at_
            exact .inr (.inr ⟨o, es, ep, hl, hd⟩)
        have mu' : Mut (H2 a) ∨ H2 a = none := by
          rcases mu with ⟨vs, e⟩ | ⟨f, e⟩ | ⟨p, es, ep, e, _⟩ <;> (rw [e]; exact .inl trivial)
        refine ⟨a, kvs, d, e, rfl, ob2, r2, PF.pers e2.pers _ _ pv, ok.1, ok.2, fun o' ob3 => q _ (e2.pers.trans (pers_upd mu')) ?_⟩
        exact (S.step e2 k2).mut hi e0 mu ob3
      · cases h
    · cases h
  · cases h
theorem cs_put2 {k : Nat} (hc : X.calm = true) (hr : Room k X.A) {f1 f2 g1 g2 : Den R} {i j : Nat} {x y : Str} {ix iy a b : Expr} {p1 p2 p3 p4 pt pt2 : Pos} {kt k2 : Nat}
    (hNx : X.N[i]? = some x) (hvx : Vis X.env.scope x) (hdx : (x == ("__debug__" : Str)) = false) (hcx : (x == ("__classdict__" : Str)) = false)
    (hNy : X.N[j]? = some y) (hvy : Vis X.env.scope y) (hdy : (y == ("__debug__" : Str)) = false) (hcy : (y == ("__classdict__" : Str)) = false)
    (ha : PE X a (tD (wd X) c f1)) (hb : PE X b (tD (wd X) c f2)) (hx : PE X ix (tD (wd X) c g1)) (hy : PE X iy (tD (wd X) c g2)) (sa : starEach [a, b] X.env = (false, eval a X.env) :: starEach [b] X.env) (sb : starEach [b] X.env = (false, eval b X.env) :: starEach [] X.env)
    (hax : ∀ v, assign (.Subscript (.Name x p1) ix p2) X.env v = (do
      let ov ← holding [v] (eval (.Name x p1) X.env)
      let iv ← holding [v, ov] (eval ix X.env)
      standAt p2
      holding [v, ov, iv] (setItem ov iv v)
      release [v, ov, iv] []))
    (hay : ∀ v, assign (.Subscript (.Name y p3) iy p4) X.env v = (do
      let ov ← holding [v] (eval (.Name y p3) X.env)
      let iv ← holding [v, ov] (eval iy X.env)
      standAt p4
      holding [v, ov, iv] (setItem ov iv v)
      release [v, ov, iv] [])) :
    PS X (.Assign [.Tuple [.Subscript (.Name x p1) ix p2, .Subscript (.Name y p3) iy p4] kt pt] (.Tuple [a, b] k2 pt2) pos) (tS (wd X) c G (sPut2 i j f1 f2 g1 g2)) := by
  have hw : swappedStores [.Tuple [.Subscript (.Name x p1) ix p2, .Subscript (.Name y p3) iy p4] kt pt] (.Tuple [a, b] k2 pt2) X.env = pure none := by
    unfold swappedStores
    by_cases h1 : X.env.blockKind = .function
    · by_cases h2 : ([a, b].any fun | .Starred .. => true | _ => false) = true
      · simp [h1, h2]
      · simp [h1, h2]
    · simp [h1]
  refine (ps_asg (pe_tup (pa_cons ha (pa_cons hb pa_nil sb) sa)) (pg_tup (k := kt) hc (pgs_cons (pg_sub (pe_var hNx hvx hdx hcx) hx (set_dict hr) hax) (pgs_cons (pg_sub (pe_var hNy hvy hdy hcy) hy (set_dict hr) hay) pgs_nil))) rfl hw rfl).imp fun D σ H h => ?_
  obtain ⟨ρ, s, o, s', S, hf, q⟩ := h
  unfold sPut2 at hf
  split at hf
  · rename_i e1 s1 h1
    split at hf
    · rename_i e2 s2 h2
      split at hf
      · rename_i ρ1 s3 h3
        split at hf
        · rename_i ρ2 s4 h4
          cases hf
          refine ⟨ρ, s, _, _, S.est, h1, fun v H1 x1 k1 r1 => ?_⟩
          have S1 := S.step x1 k1
          refine ⟨ρ, s1, _, _, S1.est, h2, fun u H2 x2 k2 r2 => ?_⟩
          have S2 := S1.step x2 k2
          refine ⟨by show 2 ≤ sizeLine; decide, fun p hp => ?_⟩
          have sm := same_new (o := .tup [v, u]) hp
          have S3 := S2.step (.of sm) (S2.est.cell.same sm)
          refine ⟨p, [v, u], rfl, .inl (.inl upd_same), rfl, v, [u], rfl, ?_⟩
          refine st_one S3 h3 (PF.pers (x2.pers.trans (.of sm)) _ _ r1) fun H4 P4 S4 => ⟨u, [], rfl, ?_⟩
          refine st_one S4 h4 (PF.pers ((Pers.of sm).trans P4) _ _ r2) fun H5 P5 S5 => ⟨rfl, ?_⟩
          exact q σ H5 S5 ((((x1.trans x2).pers.trans (.of sm)).trans P4).trans P5)
        · cases hf
      · cases hf
    · cases hf
  · cases hf
end
end Co
end

section
set_option Elab.async false
set_option linter.all false
set_option maxRecDepth 100000
set_option autoImplicit false
namespace Co
open PySem PySem.Spec L2 PyProof.Rows
variable [Tbs]
/-! ### // by a divisor that is small, or as great as the number itself -/
def CDivE (i j : Int) : Prop := 0 < j ∧ (j < 1073741824 ∨ i.natAbs = j.natAbs)
instance (i j : Int) : Decidable (CDivE i j) := by unfold CDivE; infer_instance
def fdivE : D → D → Option R
  | .int i, .int j => if 0 < j ∧ (j < 1073741824 ∨ i.natAbs = j.natAbs) then some (.pf, .int (i / j)) else none
  | _, _ => none
theorem noPylong_same {x y : Int} (h : x.natAbs = y.natAbs) : Builtin.divisionGoesByPylong x y = false := by
  have e : (x == 0) = (y == 0) := by
    by_cases hx : x = 0
    · have : y = 0 := by omega
      simp [hx, this]
    · have hy : y ≠ 0 := by omega
      rw [beq_eq_false_iff_ne.mpr hx, beq_eq_false_iff_ne.mpr hy]
  unfold Builtin.divisionGoesByPylong
  simp only [e, h]
  simp
section
variable {X : Cx}
theorem op_fdivS : OpR X (binaryOp .FloorDiv) (rI CDivE fun i j => .int (i / j)) := opI fun i j _ _ _ _ _ hc q => by
  have h1 : (0 : Int) < j := hc.1
  refine floordiv_int (by omega) (by rw [Int.fdiv_eq_ediv_of_nonneg i (by omega)]; exact q) (.inl ?_)
  rcases hc.2 with h2 | h2
  · exact PyProof.noPylong_small (by omega)
  · exact noPylong_same h2
theorem op_fdivE : OpR X (binaryOp .FloorDiv) (r2 (wd X) fdivE) := by
  intro pins s σ H x y v u Q I rx ry h
  obtain ⟨d, e, r, hx, hy, hr, q⟩ := h
  unfold fdivE at hr
  split at hr
  · split at hr
    · rename_i hz
      cases hr
      have e1 := hx.int; have e2 := hy.int
      subst e1; subst e2
      exact op_fdivS pins s σ H _ _ v u Q I rx ry ⟨_, _, rfl, rfl, hz, q _ H (.refl H) (.int _)⟩
    · cases hr
  · cases hr
end
end Co
end

section
set_option Elab.async false
set_option linter.all false
set_option maxRecDepth 100000
set_option autoImplicit false
namespace Co
open PySem PySem.Spec L2 PyProof.Rows
/-! ### sets whose members are tuples (of whole numbers, texts, None, tuples) -/
section
variable {P : Program} {w : World}
/-- v is of no class statement, n levels down -/
def Mute (P : Program) (w : World) (n : Nat) (s : Shared) (v : Value) : Prop := ∀ (A : Around) (E : Value → Shared → Prop) (Q : Bool → Shared → Prop), Q false s → wpAny (model P w) A (ofAClassStatement n v) Q E s
/-- whether v's hash goes by value: asked without a trace -/
def Asked (P : Program) (w : World) (n : Nat) (s : Shared) (v : Value) : Prop := ∀ (A : Around) (E : Value → Shared → Prop) (Q : Bool → Shared → Prop), (∀ b, Q b s) → wpAny (model P w) A (hashByValue n v) Q E s
theorem mute_tup {n m : Nat} {s : Shared} {a : Addr} {o : Obj} {vs : Array Value} (ho : s.heap.get? a = some o) (hc : o.cls = .type "tuple") (hd : o.data = .seq vs m) (hv : ∀ v ∈ vs.toList, Mute P w n s v) : Mute P w (n + 1) s (.ref a) := fun A E Q q => by
  unfold ofAClassStatement
  refine wpAny_bind (wpAny_typeOf (T := "tuple") ⟨o, ho, hc⟩ ?_)
  dsimp only
  simp only [show (("tuple" : String) == "tuple") = true by decide, if_true]
  refine wpAny_bind (wpAny_pure ?_)
  simp only [Bool.not_true, Bool.false_eq_true, if_false]
  refine wpAny_bind (wpAny_seqItems ho hd ?_)
  dsimp only
  refine wpAny_bind ?_
  rw [← Array.forIn_toList]
  refine wpAny_forIn_list _ (fun l r st => r.1 = none ∧ st = s ∧ ∀ v ∈ l, v ∈ vs.toList) _ (fun x l r st ⟨h1, h2, h3⟩ => ?_) (fun r st ⟨h1, h2, _⟩ => ?_) _ _ ⟨rfl, rfl, fun _ h => h⟩
  · subst h2
    refine wpAny_bind (hv x (h3 x (List.mem_cons_self ..)) _ _ _ ?_)
    simp only [Bool.false_eq_true, if_false]
    exact wpAny_pure ⟨rfl, rfl, fun v h => h3 v (List.mem_cons_of_mem _ h)⟩
  · subst h2
    obtain ⟨r1, r2⟩ := r
    cases h1
    exact wpAny_pure q
theorem asked_tup {n m : Nat} {s : Shared} {a : Addr} {o : Obj} {vs : Array Value} (ho : s.heap.get? a = some o) (hc : o.cls = .type "tuple") (hd : o.data = .seq vs m) (hv : ∀ v ∈ vs.toList, Asked P w n s v) : Asked P w (n + 1) s (.ref a) := fun A E Q q => by
  unfold hashByValue
  refine wpAny_bind (wpAny_specialOf (T := "tuple") ⟨o, ho, hc⟩ F.slot_tuple_hash.lookup ?_)
  show wpAny _ _ (seqItems? (.ref a) >>= _) _ _ s
  refine wpAny_bind (wpAny_seqItems ho hd ?_)
  refine wpAny_bind ?_
  show wpAny _ _ (forIn vs _ _) _ _ s
  rw [← Array.forIn_toList]
  refine wpAny_forIn_list _ (fun l r st => r.1 = none ∧ st = s ∧ ∀ v ∈ l, v ∈ vs.toList) _ (fun x l r st ⟨h1, h2, h3⟩ => ?_) (fun r st ⟨h1, h2, _⟩ => ?_) _ _ ⟨rfl, rfl, fun _ h => h⟩
  · subst h2
    refine wpAny_bind (hv x (h3 x (List.mem_cons_self ..)) _ _ _ fun b => ?_)
    cases b with
    | true =>
      simp only [Bool.not_true, Bool.false_eq_true, if_false]
      exact wpAny_pure ⟨rfl, rfl, fun v h => h3 v (List.mem_cons_of_mem _ h)⟩
    | false =>
      simp only [Bool.not_false, if_true]
      exact wpAny_pure (wpAny_pure (q _))
  · subst h2
    obtain ⟨r1, r2⟩ := r
    cases h1
    exact wpAny_pure (q _)
mutual
theorem mute_key : ∀ (k : NestedKey) (v : Value) (n : Nat) (s : Shared), NestedIs s.heap k v → k.depth ≤ n → Mute P w n s v ∧ Asked P w n s v
  | .none, _, n, s, x, _ => by cases x; exact ⟨fun _ _ _ q => by cases n <;> exact wpAny_pure q, fun _ _ _ q => by cases n <;> exact wpAny_pure (q _)⟩
  | .num i, _, n, s, x, _ => by cases x <;> exact ⟨fun _ _ _ q => by cases n <;> exact wpAny_pure q, fun _ _ _ q => by cases n <;> exact wpAny_pure (q _)⟩
  | .text y, _, n, s, x, _ => by cases x; exact ⟨fun _ _ _ q => by cases n <;> exact wpAny_pure q, fun _ _ _ q => by cases n <;> exact wpAny_pure (q _)⟩
  | .tup ks, _, n, s, x, hn => by
    cases x with
    | tup h1 h2 h3 h4 =>
      unfold NestedKey.depth at hn
      cases n with
      | zero => omega
      | succ n =>
        have r := mute_keys ks _ n s h4 (by omega)
        exact ⟨mute_tup h1 h2 h3 fun v hv => (r v hv).1, asked_tup h1 h2 h3 fun v hv => (r v hv).2⟩
theorem mute_keys : ∀ (ks : List NestedKey) (vs : List Value) (n : Nat) (s : Shared), NestedAll s.heap ks vs → NestedKey.depthAll ks ≤ n → ∀ v ∈ vs, Mute P w n s v ∧ Asked P w n s v
  | [], _, n, s, x, _, v, hv => by cases x; cases hv
  | k :: ks, _, n, s, x, hn, v, hv => by
    cases x with
    | cons x1 x2 =>
      unfold NestedKey.depthAll at hn
      rcases List.mem_cons.mp hv with e | hv
      · rw [e]
        exact mute_key k _ n s x1 (by omega)
      · exact mute_keys ks _ n s x2 (by omega) v hv
end
abbrev NI (P : Program) (w : World) (h : Heap) (k : NestedKey) (a : Addr) : Prop := (nestedKind P w).is h k a
variable {A : Around} {E : Value → Shared → Prop} {s : Shared}
/-- a search among such members shows nothing -/
theorem unseen {k : NestedKey} {x : Addr} (hx : NI P w s.heap k x) {ys : List Value} (hy : ∀ y ∈ ys, ∃ k' c, y = Value.ref c ∧ NI P w s.heap k' c) {Q : Bool → Shared → Prop} (q : Q false s) : wpAny (model P w) A (searchCouldBeSeen (.ref x) ys) Q E s := by
  unfold searchCouldBeSeen
  refine wpAny_bind ?_
  refine wpAny_forIn_list _ (fun l r st => r.1 = none ∧ st = s ∧ ∀ v ∈ l, v ∈ ys) _ (fun y l r st ⟨h1, h2, h3⟩ => ?_) (fun r st ⟨h1, h2, _⟩ => ?_) _ _ ⟨rfl, rfl, fun _ h => h⟩
  · subst h2
    obtain ⟨k', c, rfl, hc⟩ := hy y (h3 y (List.mem_cons_self ..))
    have go : ∀ v ∈ l, v ∈ ys := fun v h => h3 v (List.mem_cons_of_mem _ h)
    dsimp only
    by_cases hv : (x == c || (carriedByValue (.ref x) && carriedByValue (.ref c))) = true
    · exact wp_if_pos hv (wpAny_pure ⟨rfl, rfl, go⟩)
    · refine wp_if_neg hv (wpAny_bind ((nestedKind P w).quiet hx ?_))
      simp only [Bool.not_true, Bool.false_eq_true, if_false]
      refine wpAny_bind ((nestedKind P w).quiet hc ?_)
      simp only [Bool.not_true, Bool.false_eq_true, if_false]
      refine wpAny_bind ((mute_key k _ 8 st hx.1 hx.2).1 _ _ _ ?_)
      simp only [Bool.false_eq_true, if_false]
      refine wpAny_bind ((mute_key k' _ 8 st hc.1 hc.2).1 _ _ _ ?_)
      simp only [Bool.false_eq_true, if_false]
      exact wpAny_pure ⟨rfl, rfl, go⟩
  · subst h2
    obtain ⟨r1, r2⟩ := r
    cases h1
    exact wpAny_pure q
end
end Co
end

section
set_option Elab.async false
set_option linter.all false
set_option maxRecDepth 100000
set_option autoImplicit false
namespace Co
open PySem PySem.Spec L2 PyProof.Rows
section
variable {P : Program} {w : World} {A : Around} {E : Value → Shared → Prop} {s : Shared}
def rws (w : World) (L : List (Addr × NestedKey)) : List (Int × Value) := L.map fun p => (p.2.hash w, Value.ref p.1)
def hss (w : World) (L : List (Addr × NestedKey)) : List Int := L.map fun p => p.2.hash w
/-- at a stands a set of the tuples L, in its table's order -/
structure SetN (P : Program) (w : World) (h : Heap) (a : Addr) (L : List (Addr × NestedKey)) (es : Array (Int × Value)) (ep : Nat) (t : SetTable) : Prop where
  ob : ∃ o, h.get? a = some o ∧ o.ExactSet ∧ o.data = .set es ep t
  rows : es.toList = rws w L
  tab : TabOk t (hss w L)
  nd : (L.map (·.2)).Nodup
  is_ : ∀ p ∈ L, NI P w h p.2 p.1
  led : w.params.followText "set-order" = true ∨ t.led = true
  room : L.length * 5 < t.mask * 3
  few : L.length < 64
variable {a : Addr} {L : List (Addr × NestedKey)} {es : Array (Int × Value)} {ep : Nat} {t : SetTable}
theorem rws_len (h : es.toList = rws w L) : es.size = L.length := by
  rw [← Array.length_toList, h]
  unfold rws
  rw [List.length_map]
theorem rws_at (h : es.toList = rws w L) {i : Nat} {p : Addr × NestedKey} (hp : L[i]? = some p) : es[i]? = some (p.2.hash w, Value.ref p.1) := by
  rw [← Array.getElem?_toList, h]
  unfold rws
  rw [List.getElem?_map, hp]
  rfl
theorem fits_of {n m : Nat} (h1 : t.place.size = n) (hd : t.dummies = #[]) (hm : n ≤ t.mask) : t.fits n = true := by
  unfold SetTable.fits SetTable.fill
  rw [hd, Bool.and_eq_true, beq_iff_eq, decide_eq_true_eq]
  refine ⟨h1, ?_⟩
  show t.place.size + 0 ≤ t.mask
  omega
theorem SetN.pl (R : SetN P w s.heap a L es ep t) : t.place.size = L.length := by
  have := R.tab.sz
  unfold hss at this
  rwa [List.length_map] at this
theorem SetN.fits (R : SetN P w s.heap a L es ep t) : t.fits es.size = true := by
  have h1 := R.pl
  have h2 := rws_len R.rows
  have h3 := R.room
  exact fits_of (m := 0) (h1.trans h2.symm) R.tab.dm (by omega)
theorem no_way {m : Nat} (hm : t.mask = m) (h : MaskOk m) : ¬ t.gaveWay = true := by
  unfold SetTable.gaveWay
  rw [hm, mask_odd h]
  decide
/-- the c-th place asked for a hash -/
abbrev stp (m : Nat) (h : Int) (c : Nat) : SetTable.Probe := nth m (runAt m (SetTable.bits h % (m + 1)) (SetTable.bits h)) c
theorem stp_clean (m : Nat) : ∀ (n : Nat) (p : SetTable.Probe), p.dummy = none → (nth m p n).dummy = none
  | 0, _, h => h
  | n + 1, p, h => stp_clean m n (adv m p) (by unfold adv; split <;> exact h)
/-- the search, from the c-th place on -/
theorem srch (R : SetN P w s.heap a L es ep t) {x : Addr} {k : NestedKey} (hx : NI P w s.heap k x) (hu : (nestedKind P w).room A) {K : Nat} (kf : K < 10 * SetTable.turns t.mask) (k1 : way t.mask (k.hash w) K ∉ t.place.toList) (k2 : ∀ c, c < K → way t.mask (k.hash w) c ∈ t.place.toList)
    {Q : SetFound → Shared → Prop} (yes : k ∈ L.map (·.2) → Q (.there none) s) (no : k ∉ L.map (·.2) → Q (.free (way t.mask (k.hash w) K) false) s) :
    ∀ (f c : Nat) (st : Option SetTable.Probe), st.getD (t.probeStart (k.hash w)) = stp t.mask (k.hash w) c → c ≤ K → K - c < f → (∀ (i : Nat) p, L[i]? = some p → p.2 = k → ∃ d, c ≤ d ∧ d < K ∧ t.place.toList[i]? = some (way t.mask (k.hash w) d)) →
      wpAny (model P w) A (setSearchFrom a (.ref x) (k.hash w) true f st) Q E s := by
  intro f
  induction f with
  | zero => intro c st _ _ hf; exact absurd hf (Nat.not_lt_zero _)
  | succ f ih =>
    intro c st hst hc hf ahead
    obtain ⟨o, ho, hex, hd⟩ := R.ob
    have sh : ∀ q, nth t.mask (stp t.mask (k.hash w) c) q = stp t.mask (k.hash w) (c + q) := fun q => (nth_add t.mask c _ q).symm
    have shj : ∀ q, (nth t.mask (stp t.mask (k.hash w) c) q).j = way t.mask (k.hash w) (c + q) := fun q => by rw [sh]
    have hsh : ∀ (i : Nat) p, L[i]? = some p → (fun i => (es[i]?.map (·.1)).getD 0) i = p.2.hash w := fun i p hp => by
      show (es[i]?.map (·.1)).getD 0 = _
      rw [rws_at R.rows hp]
      rfl
    have cK : c + (K - c) = K := by omega
    have sp := go_spec t R.tab.ris R.tab.dm (fun i => (es[i]?.map (·.1)).getD 0) (k.hash w) (10 * SetTable.turns t.mask) (K - c) (stp t.mask (k.hash w) c) (stp_clean _ _ _ rfl) (by omega) (fun q hq => by rw [shj]; exact k2 _ (by omega)) (by rw [shj, cK]; exact k1)
    rw [setSearchFrom_succ]
    refine wpAny_bind (wpAny_setState_of ho hd R.fits ?_)
    dsimp only
    refine wp_if_neg (no_way rfl R.tab.mok) ?_
    try refine wpAny_bind (wpAny_pure ?_)
    rcases sp with ⟨q, i, hq, hi, hh, before, pr⟩ | ⟨before, pr⟩
    · have pr' : t.probe (fun i => (es[i]?.map (·.1)).getD 0) (k.hash w) (stp t.mask (k.hash w) c) = some (.candidate (nth t.mask (stp t.mask (k.hash w) c) q).j i (nth t.mask (stp t.mask (k.hash w) c) (q + 1))) := pr
      rw [hst, pr']
      dsimp only
      rw [sh (q + 1), shj]
      rw [shj] at hi
      have il : i < L.length := by
        have := (List.getElem?_eq_some_iff.mp hi).1
        rw [Array.length_toList, R.pl] at this
        exact this
      obtain ⟨p, hp⟩ : ∃ p, L[i]? = some p := ⟨L[i], List.getElem?_eq_getElem il⟩
      have pm := List.mem_of_getElem? hp
      have live := slot_live R.tab.ris hi
      have rest : wpAny (model P w) A (searchRest a (.ref x) (k.hash w) true f es t (way t.mask (k.hash w) (c + q)) i (stp t.mask (k.hash w) (c + (q + 1)))) Q E s := by
        unfold searchRest
        rw [rws_at R.rows hp]
        dsimp only
        refine wpAny_bind (wpAny_holding ((nestedKind P w).eqBool hu (R.is_ p pm) hx ?_))
        refine wpAny_bind (wpAny_setState_of ho hd R.fits ?_)
        dsimp only
        by_cases e : p.2 = k
        · exact wp_if_pos (by simp [e]) (wpAny_pure (yes (List.mem_map.mpr ⟨p, pm, e⟩)))
        · refine wp_if_neg (by simp [e]) ?_
          try refine wpAny_bind (wpAny_pure ?_)
          rw [sameMem]
          dsimp only
          simp only [if_true, live, rws_at R.rows hp]
          refine wpAny_bind (wpAny_isSame_ref_self (wpAny_bind (wpAny_pure ?_)))
          simp only [if_true]
          refine wp_if_neg (by simp [e]) (ih (c + (q + 1)) _ rfl (by omega) (by omega) fun j p0 h0 e0 => ?_)
          obtain ⟨d, d1, d2, d3⟩ := ahead j p0 h0 e0
          refine ⟨d, ?_, d2, d3⟩
          apply Classical.byContradiction
          intro z
          rcases Nat.lt_or_ge d (c + q) with y | y
          · refine before (d - c) j (by omega) (by rw [shj, show c + (d - c) = d by omega]; exact d3) ?_
            exact (hsh j p0 h0).trans (congrArg _ e0)
          · have ed : d = c + q := by omega
            rw [ed] at d3
            have l2 := slot_live R.tab.ris d3
            rw [live] at l2
            injection l2 with l2
            rw [← l2, hp] at h0
            exact e ((congrArg Prod.snd (Option.some.inj h0)).trans e0)
      by_cases hl : t.led = true
      · refine wp_if_neg (by simp [hl]) ?_
        try refine wpAny_bind (wpAny_pure ?_)
        exact rest
      · refine wp_if_pos (by simp [hl]) (wpAny_bind (unseen hx (fun y hy => ?_) ?_))
        · obtain ⟨e, he, rfl⟩ := List.mem_map.mp hy
          have e1 : e ∈ es.toList := by
            have : e ∈ es ∧ e.1 = k.hash w := by simpa using he
            simpa using this.1
          rw [R.rows] at e1
          obtain ⟨p2, hp2, rfl⟩ := List.mem_map.mp e1
          exact ⟨p2.2, p2.1, rfl, R.is_ p2 hp2⟩
        · refine wp_if_neg (by decide) ?_
          try refine wpAny_bind (wpAny_pure ?_)
          exact rest
    · have pr' : t.probe (fun i => (es[i]?.map (·.1)).getD 0) (k.hash w) (stp t.mask (k.hash w) c) = some (.empty (nth t.mask (stp t.mask (k.hash w) c) (K - c)).j none) := pr
      rw [hst, pr']
      dsimp only
      rw [shj, cK]
      refine wpAny_pure (no fun hm => ?_)
      obtain ⟨p0, h0, e0⟩ := List.mem_map.mp hm
      obtain ⟨j, hj, ej⟩ := List.getElem_of_mem h0
      have hj' : L[j]? = some p0 := by rw [List.getElem?_eq_getElem hj, ej]
      obtain ⟨d, d1, d2, d3⟩ := ahead j p0 hj' e0
      refine before (d - c) j (by omega) (by rw [shj, show c + (d - c) = d by omega]; exact d3) ?_
      exact (hsh j p0 hj').trans (congrArg _ e0)
theorem srch0 (R : SetN P w s.heap a L es ep t) {x : Addr} {k : NestedKey} (hx : NI P w s.heap k x) (hu : (nestedKind P w).room A) {Q : SetFound → Shared → Prop} (yes : k ∈ L.map (·.2) → Q (.there none) s)
    (no : ∀ K, k ∉ L.map (·.2) → way t.mask (k.hash w) K ∉ t.place.toList → (∀ c, c < K → way t.mask (k.hash w) c ∈ t.place.toList) → Q (.free (way t.mask (k.hash w) K) false) s) :
    wpAny (model P w) A (setSearch a (.ref x) (k.hash w) true) Q E s := by
  have rm := R.room
  have hl : (hss w L).length = L.length := by unfold hss; rw [List.length_map]
  obtain ⟨K, kf, k1, k2⟩ := R.tab.first (by rw [hl]; omega) (k.hash w)
  have small : 10 * SetTable.turns t.mask ≤ 1420 := by
    unfold SetTable.turns
    rcases R.tab.mok with e | e | e <;> omega
  unfold setSearch
  refine srch R hx hu kf k1 k2 yes (fun hn => no K hn k1 k2) 100000 0 none rfl (Nat.zero_le _) (by omega) fun i p hp e => ?_
  have hi : (hss w L)[i]? = some (k.hash w) := by
    unfold hss
    rw [List.getElem?_map, hp, ← e]
    rfl
  have il : i < t.place.toList.length := by
    rw [Array.length_toList, R.pl]
    exact (List.getElem?_eq_some_iff.mp hp).1
  obtain ⟨d, d1, d2⟩ := R.tab.before k1 hi (List.getElem?_eq_getElem il)
  exact ⟨d, Nat.zero_le _, d1, by rw [List.getElem?_eq_getElem il, d2]⟩
end
end Co
end

section
set_option Elab.async false
set_option linter.all false
set_option maxRecDepth 100000
set_option autoImplicit false
namespace Co
open PySem PySem.Spec L2 PyProof.Rows
section
variable {P : Program} {w : World} {A : Around} {E : Value → Shared → Prop} {s : Shared}
theorem ni_but {h h' : Heap} {k : NestedKey} {a b : Addr} {o : Obj} {es : Array (Int × Value)} {ep : Nat} {t : SetTable} (x : NI P w h k b) (ho : h.get? a = some o) (hd : o.data = .set es ep t) (hs : Heap.SameBut a h h') : NI P w h' k b := by
  refine nestedKind_stays.stays (fun c u vs n hc hu => (hs.2 c fun z => ?_).trans hc) x
  subst z
  rw [ho] at hc
  cases hc
  rw [hd] at hu
  cases hu
theorem ni_keep {h h' : Heap} {k : NestedKey} {b : Addr} (x : NI P w h k b) (hk : ∀ c o, h.get? c = some o → h'.get? c = some o) : NI P w h' k b := nestedKind_stays.stays (fun c u _ _ hc _ => hk c u hc) x
variable {a : Addr} {L : List (Addr × NestedKey)} {es : Array (Int × Value)} {ep : Nat} {t : SetTable}
/-- what is picked by places, told of the members -/
theorem picked (h : es.toList = rws w L) : ∀ l : List Nat, (∀ i ∈ l, i < L.length) → l.filterMap (fun i => es[i]?) = rws w (l.filterMap fun i => L[i]?) ∧ hss w (l.filterMap fun i => L[i]?) = l.map fun i => (es.map (·.1)).getD i 0
  | [], _ => ⟨rfl, rfl⟩
  | i :: l, hl => by
    have hi := hl i (List.mem_cons_self ..)
    obtain ⟨h1, h2⟩ := picked h l fun j hj => hl j (List.mem_cons_of_mem _ hj)
    have e1 := rws_at h (List.getElem?_eq_getElem hi)
    have e2 : (es.map (·.1)).getD i 0 = (L[i]).2.hash w := by
      have : (es.map (·.1))[i]? = some ((L[i]).2.hash w) := by
        rw [Array.getElem?_map, e1]
        rfl
      simp [Array.getD_eq_getD_getElem?, this]
    rw [List.filterMap_cons_some e1, List.filterMap_cons_some (List.getElem?_eq_getElem hi), h1, List.map_cons, e2, ← h2]
    exact ⟨rfl, rfl⟩
theorem pick_all : ∀ n, n ≤ L.length → (List.range n).filterMap (fun i => L[i]?) = L.take n
  | 0, _ => rfl
  | n + 1, hn => by
    rw [List.range_succ, List.filterMap_append, pick_all n (by omega), List.take_add_one, List.filterMap_cons_some (List.getElem?_eq_getElem (by omega : n < L.length)), List.getElem?_eq_getElem (by omega : n < L.length)]
    rfl
/-- the table laid anew -/
theorem relay {o : Obj} (ho : s.heap.get? a = some o) (hex : o.ExactSet) (hd : o.data = .set es ep t) (hr : es.toList = rws w L) (hz : t.place.size = es.size) (hdm : t.dummies = #[]) (hfl : es.size ≤ t.mask) (nd : (L.map (·.2)).Nodup) (hi : ∀ p ∈ L, NI P w s.heap p.2 p.1)
    (ld : w.params.followText "set-order" = true ∨ t.led = true) (few : L.length < 64) {n M : Nat} (h1 : SetTable.sizeAbove n - 1 = M) (h2 : MaskOk M) (h3 : SetTable.sizeAbove n ≤ 128) (h4 : L.length * 5 < M * 3) {Q : Unit → Shared → Prop}
    (q : ∀ h' L' es' ep' t', Heap.SameBut a s.heap h' → SetN P w h' a L' es' ep' t' → L'.Perm L → Q () { s with heap := h' }) : wpAny (model P w) A (setRelay a n) Q E s := by
  have hl := rws_len hr
  obtain ⟨t', ord, e, hp, T, em, el, _, ed⟩ := relaid_ok t (hs := es.map (·.1)) h1 h2 (by rw [Array.size_map, hl]; omega)
  rw [Array.size_map, hl] at hp
  obtain ⟨p1, p2⟩ := picked hr ord.toList fun i hi => List.mem_range.mp (hp.mem_iff.mp hi)
  have pm : (ord.toList.filterMap fun i => L[i]?).Perm L := by
    have := hp.filterMap fun i => L[i]?
    rwa [pick_all _ (Nat.le_refl _), List.take_length] at this
  have r1 : (ord.filterMap (es[·]?)).toList = rws w (ord.toList.filterMap fun i => L[i]?) := by
    rw [Array.toList_filterMap]
    exact p1
  rw [← p2] at T
  generalize ord.toList.filterMap (fun i => L[i]?) = L2 at pm r1 T
  have z2 : (ord.filterMap (es[·]?)).size = es.size := by rw [rws_len r1, pm.length_eq, hl]
  rw [setRelay_eq]
  refine wpAny_bind (wpAny_setState_of ho hd (fits_of (m := 0) hz hdm hfl) ?_)
  dsimp only
  refine wp_if_neg (by rw [sizeLine_eq]; omega) ?_
  try refine wpAny_bind (wpAny_pure ?_)
  rw [e]
  dsimp only
  refine wpAny_bind (wp_if_neg (by rw [z2]; simp) ?_)
  try refine wpAny_bind (wpAny_pure ?_)
  refine wpAny_pure ?_
  dsimp only
  have sb : Heap.SameBut a s.heap (s.heap.update a (Obj.putSet (ord.filterMap (es[·]?)) t')) := Heap.SameBut.update ..
  refine wpAny_storeSet_of ho hd (q _ L2 _ (ep + 1) t' sb ⟨⟨_, store_at ho hd, ⟨hex.1, hex.2.1, hex.2.2⟩, rfl⟩, r1, T, (pm.map (·.2)).nodup_iff.mpr nd, fun p hp => ni_but (hi p (pm.mem_iff.mp hp)) ho hd sb, by rw [el]; exact ld, ?_, by rw [pm.length_eq]; exact few⟩ pm) (by rw [z2, hl, sizeLine_eq]; omega)
  rw [pm.length_eq, em]
  exact h4
theorem tab_same {t1 t2 : SetTable} {hs : List Int} (T : TabOk t1 hs) (h1 : t2.place = t1.place) (h2 : t2.dummies = t1.dummies) (h3 : t2.mask = t1.mask) : TabOk t2 hs :=
  ⟨by rw [h1]; exact T.ris, by rw [h2]; exact T.dm, by rw [h1]; exact T.sz, by rw [h3]; exact T.mok, by rw [h1, h3]; exact T.bd, by rw [h1, h3]; exact T.reach⟩
/-- one more member -/
theorem adds (R : SetN P w s.heap a L es ep t) {x : Addr} {k : NestedKey} (hx : NI P w s.heap k x) (hu : (nestedKind P w).room A) (few : L.length + 1 < 64) {Q : Bool → Shared → Prop}
    (q : ∀ b h' L' es' ep' t', Heap.SameBut a s.heap h' → SetN P w h' a L' es' ep' t' → (k ∈ L.map (·.2) → L' = L) → (k ∉ L.map (·.2) → L'.Perm ((x, k) :: L)) → Q b { s with heap := h' }) :
    wpAny (model P w) A (setAddHashed a (.ref x) (k.hash w)) Q E s := by
  obtain ⟨o, ho, hex, hd⟩ := R.ob
  have hl := rws_len R.rows
  have rm := R.room
  unfold setAddHashed
  refine wpAny_holding ?_
  rw [show (100000 : Nat) = 99999 + 1 from rfl, setAddHashedIn_succ]
  refine wpAny_bind (wpAny_setState_of ho hd R.fits ?_)
  dsimp only
  refine wp_if_neg (by simp [byScan, Value.scannable]) ?_
  try refine wpAny_bind (wpAny_pure ?_)
  refine wpAny_bind (srch0 R hx hu (fun hm => ?_) fun K hm k1 k2 => ?_)
  · dsimp only
    exact wpAny_pure (q false s.heap L es ep t (Heap.SameBut.refl a s.heap) R (fun _ => rfl) fun z => absurd hm z)
  · dsimp only
    refine wpAny_bind (wpAny_setState_of ho hd R.fits ?_)
    dsimp only
    obtain ⟨c1, c2, c3, c4, c5, _, _, _, c9⟩ := R.tab.put k1 k2
    generalize hpt : t.put (way t.mask (k.hash w) K) = pt at c1 c3 c4 c5 c9 ⊢
    obtain ⟨t1, p⟩ := pt
    dsimp only at c1 c3 c4 c5 c9 ⊢
    subst c1
    suffices body : ∀ b : Bool, wpAny (model P w) A (storeSet a (SetTable.insertAt es (SetTable.below t.place (way t.mask (k.hash w) K)) (k.hash w, Value.ref x)) (if b = true then t1 else { t1 with plain := false }) >>= fun _ =>
        if (!false && (if b = true then t1 else { t1 with plain := false }).tooFull) = true then (setRelay a (SetTable.grown (es.size + 1)) >>= fun _ => pure true) else pure true) Q E s by
      by_cases z : t1.plain = true
      · exact wp_if_pos z (wpAny_bind ((mute_key k _ 8 s hx.1 hx.2).2 _ _ _ fun b => body b))
      · exact wp_if_neg z (wpAny_bind (wpAny_pure (body true)))
    intro b
    have hin : (SetTable.insertAt es (SetTable.below t.place (way t.mask (k.hash w) K)) (k.hash w, Value.ref x)).toList = rws w (L.take (SetTable.below t.place (way t.mask (k.hash w) K)) ++ (x, k) :: L.drop (SetTable.below t.place (way t.mask (k.hash w) K))) := by
      rw [SetTable.toList_insertAt, R.rows]
      unfold rws
      rw [List.map_append, List.map_cons, List.map_take, List.map_drop]
    generalize SetTable.below t.place (way t.mask (k.hash w) K) = p at c2 c3 hin ⊢
    have pm := put_perm L p (x, k)
    have hhs : hss w (L.take p ++ (x, k) :: L.drop p) = (hss w L).take p ++ k.hash w :: (hss w L).drop p := by
      unfold hss
      rw [List.map_append, List.map_cons, List.map_take, List.map_drop]
    rw [← hhs] at c3
    have len1 : (L.take p ++ (x, k) :: L.drop p).length = L.length + 1 := pm.length_eq
    have nd1 : ((L.take p ++ (x, k) :: L.drop p).map (·.2)).Nodup := (pm.map (·.2)).nodup_iff.mpr (by rw [List.map_cons]; exact List.nodup_cons.mpr ⟨hm, R.nd⟩)
    have z1 : (SetTable.insertAt es p (k.hash w, Value.ref x)).size = L.length + 1 := by rw [rws_len hin, len1]
    generalize SetTable.insertAt es p (k.hash w, Value.ref x) = es1 at hin z1 ⊢
    generalize L.take p ++ (x, k) :: L.drop p = L1 at pm c3 len1 nd1 hin
    obtain ⟨t2, et, T2, m2, l2, f2⟩ : ∃ t2, (if b = true then t1 else { t1 with plain := false }) = t2 ∧ TabOk t2 (hss w L1) ∧ t2.mask = t.mask ∧ t2.led = t.led ∧ t2.fill = (hss w L).length + 1 := by
      cases b with
      | true => exact ⟨t1, rfl, c3, c4, c5, c9⟩
      | false => exact ⟨_, rfl, tab_same c3 rfl rfl rfl, c4, c5, c9⟩
    simp only [et]
    refine wpAny_bind (wpAny_storeSet_of ho hd ?_ (by rw [z1, sizeLine_eq]; omega))
    have sb : Heap.SameBut a s.heap (s.heap.update a (Obj.putSet es1 t2)) := Heap.SameBut.update ..
    have ho1 := store_at (es' := es1) (t' := t2) ho hd
    generalize s.heap.update a (Obj.putSet es1 t2) = h1 at sb ho1 ⊢
    have is1 : ∀ p ∈ L1, NI P w h1 p.2 p.1 := fun p hp => by
      rcases List.mem_cons.mp (pm.mem_iff.mp hp) with e | hp
      · rw [e]; exact ni_but hx ho hd sb
      · exact ni_but (R.is_ p hp) ho hd sb
    have ld1 : w.params.followText "set-order" = true ∨ t2.led = true := by rw [l2]; exact R.led
    have hlen : (hss w L).length = L.length := by unfold hss; rw [List.length_map]
    have full : t2.tooFull = true ↔ (L.length + 1) * 5 ≥ t.mask * 3 := by
      unfold SetTable.tooFull
      rw [decide_eq_true_eq, f2, hlen, m2]
    by_cases hf : t2.tooFull = true
    · have hf2 := full.mp hf
      have go : ∀ M, SetTable.sizeAbove (SetTable.grown (L.length + 1)) - 1 = M → MaskOk M → SetTable.sizeAbove (SetTable.grown (L.length + 1)) ≤ 128 → (L.length + 1) * 5 < M * 3 → L.length + 1 ≤ t.mask →
          wpAny (model P w) A (setRelay a (SetTable.grown (L.length + 1))) (fun _ s' => wpAny (model P w) A (pure true) Q E s') E { s with heap := h1 } := fun M g1 g2 g3 g4 g5 => by
        refine relay (s := { s with heap := h1 }) ho1 ⟨hex.1, hex.2.1, hex.2.2⟩ rfl hin ?_ T2.dm (by rw [z1, m2]; exact g5) nd1 is1 ld1 (by rw [len1]; exact few) g1 g2 g3 (by rw [len1]; exact g4) fun h2 L2 es2 ep2 t2' sb2 R2 pm2 => ?_
        · have := T2.sz
          unfold hss at this
          rw [List.length_map, len1] at this
          rw [this, z1]
        · exact wpAny_pure (q true h2 L2 es2 ep2 t2' (sb.trans sb2) R2 (fun z => absurd z hm) fun _ => pm2.trans pm)
      have two : (t.mask = 7 ∧ L.length = 4) ∨ (t.mask = 31 ∧ L.length = 18) := by
        rcases R.tab.mok with e | e | e <;> rw [e] at hf2 rm
        · exact .inl ⟨e, by omega⟩
        · exact .inr ⟨e, by omega⟩
        · exfalso; omega
      have go' : wpAny (model P w) A (setRelay a (SetTable.grown (es.size + 1))) (fun _ s' => wpAny (model P w) A (pure true) Q E s') E { s with heap := h1 } := by
        rw [hl]
        rcases two with ⟨e1, e2⟩ | ⟨e1, e2⟩
        · exact go 31 (by rw [e2, size_20]) (.inr (.inl rfl)) (by rw [e2, size_20]; decide) (by omega) (by omega)
        · exact go 127 (by rw [e2, size_76]) (.inr (.inr rfl)) (by rw [e2, size_76]; decide) (by omega) (by omega)
      first
        | exact wpAny_bind (wp_if_pos (by simp [hf]) go')
        | exact wp_if_pos (by simp [hf]) (wpAny_bind go')
    · have nf : ¬ ((L.length + 1) * 5 ≥ t.mask * 3) := fun z => hf (full.mpr z)
      have fin : wpAny (model P w) A (pure true) Q E { s with heap := h1 } := wpAny_pure (q true h1 L1 es1 (ep + 1) t2 sb ⟨⟨_, ho1, ⟨hex.1, hex.2.1, hex.2.2⟩, rfl⟩, hin, T2, nd1, is1, ld1, by rw [len1, m2]; omega, by rw [len1]; exact few⟩ (fun z => absurd z hm) fun _ => pm)
      first
        | exact wp_if_neg (by simp [hf]) fin
        | exact wpAny_bind (wp_if_neg (by simp [hf]) (wpAny_pure fin))
end
end Co
end

section
set_option Elab.async false
set_option linter.all false
set_option maxRecDepth 100000
set_option maxHeartbeats 4000000
set_option autoImplicit false
namespace Co
open PySem PySem.Spec L2 PyProof.Rows
/-- what a set has got of the first i things -/
structure Gn (ks : List (Addr × NestedKey)) (i : Nat) (L : List (Addr × NestedKey)) : Prop where
  sub : ∀ p ∈ L, p ∈ ks.take i
  all : ∀ p ∈ ks.take i, p.2 ∈ L.map (·.2)
  len : L.length ≤ i
theorem Gn.step {ks L L' : List (Addr × NestedKey)} {i : Nat} {x : Addr × NestedKey} (g : Gn ks i L) (h : ks[i]? = some x) (c1 : x.2 ∈ L.map (·.2) → L' = L) (c2 : x.2 ∉ L.map (·.2) → L'.Perm (x :: L)) : Gn ks (i + 1) L' := by
  have tk : ks.take (i + 1) = ks.take i ++ [x] := by rw [List.take_add_one, h]; rfl
  have gl := g.len
  rcases Classical.em (x.2 ∈ L.map (·.2)) with c | c
  · rw [c1 c]
    refine ⟨fun p hp => ?_, fun p hp => ?_, by omega⟩
    · rw [tk]; exact List.mem_append_left _ (g.sub p hp)
    · rw [tk] at hp
      rcases List.mem_append.mp hp with hp | hp
      · exact g.all p hp
      · rw [List.mem_singleton.mp hp]; exact c
  · have pm := c2 c
    refine ⟨fun p hp => ?_, fun p hp => ?_, by rw [pm.length_eq, List.length_cons]; omega⟩
    · rw [tk]
      rcases List.mem_cons.mp (pm.mem_iff.mp hp) with e | hp
      · rw [e]; simp
      · exact List.mem_append_left _ (g.sub p hp)
    · rw [(pm.map (·.2)).mem_iff, List.map_cons]
      rw [tk] at hp
      rcases List.mem_append.mp hp with hp | hp
      · exact List.mem_cons_of_mem _ (g.all p hp)
      · rw [List.mem_singleton.mp hp]; exact List.mem_cons_self ..
section
variable {P : Program} {w : World} {A : Around} {E : Value → Shared → Prop} {s : Shared}
theorem SetN.move {h h' : Heap} {a : Addr} {L : List (Addr × NestedKey)} {es : Array (Int × Value)} {ep : Nat} {t : SetTable} (R : SetN P w h a L es ep t) (ha : ∀ o, h.get? a = some o → h'.get? a = some o) (ht : ∀ p ∈ L, NI P w h' p.2 p.1) : SetN P w h' a L es ep t := by
  obtain ⟨o, ho, r⟩ := R.ob
  exact ⟨⟨o, ha o ho, r⟩, R.rows, R.tab, R.nd, ht, R.led, R.room, R.few⟩
theorem set0 {h : Heap} {a : Addr} (ho : h.get? a = some { cls := .type "set", dict := none, data := .set #[] 0 (.fresh 0 0 (!w.params.followText "set-order")) }) : SetN P w h a [] #[] 0 (.fresh 0 0 (!w.params.followText "set-order")) := by
  refine ⟨⟨_, ho, ⟨rfl, rfl, rfl⟩, rfl⟩, rfl, ⟨List.Pairwise.nil, rfl, rfl, .inl rfl, fun x hx => (by cases hx), fun i h j hi => (by simp [hss] at hi)⟩, List.nodup_nil, fun p hp => (by cases hp), ?_, ?_, ?_⟩
  · show _ ∨ (!w.params.followText "set-order") = true
    cases w.params.followText "set-order"
    · exact .inr rfl
    · exact .inl rfl
  · show 0 * 5 < 7 * 3
    decide
  · show 0 < 64
    decide
theorem fillG {I : Addr} {fp wr : List Addr} {n : Nat} {Pv : Nat → Value → Prop} {St : Nat → Heap → Prop} {R : PySem.Result → Shared → Prop} (W : Walks P w A.in1 I fp wr n Pv St) (S : Addr) (hSf : S ∉ fp) (h0 : Heap) (hS0 : h0.get? S = none) (hw0 : ∀ b ∈ wr, h0.get? b = none) (G : Nat → Heap → Prop)
    (mv : ∀ i h h', G i h → (∀ o, h.get? S = some o → h'.get? S = some o) → (∀ b o, h0.get? b = some o → h'.get? b = some o) → G i h')
    (one : ∀ i v (s : Shared) (E : Value → Shared → Prop) (Q : Bool → Shared → Prop), i < n → Pv i v → G i s.heap → (∀ b o, h0.get? b = some o → s.heap.get? b = some o) → (∀ b h' tk, Heap.SameBut S s.heap h' → G (i + 1) h' → Q b { s with heap := h', toks := tk }) → wpAny (model P w) A.in1 (setAdd S v) Q E s) :
    ∀ (k i : Nat) (s : Shared), n - i = k → i ≤ n → St i s.heap → (∀ b o, h0.get? b = some o → s.heap.get? b = some o) → G i s.heap →
      (∀ h' tk, G n h' → (∀ b o, h0.get? b = some o → h'.get? b = some o) → R (.ok (.ret .none)) { s with heap := h', toks := tk }) →
      codeAny (model P w) A (.builtin "set.update.loop" ⟨[.ref S, .ref I], []⟩) R s := by
  have hSw : S ∉ wr := fun h => hSf (W.sub _ h)
  intro k
  induction k with
  | zero =>
    intro i s hk' hi hst kp g r
    have e : i = n := by omega
    subst e
    refine codeAny_builtin F.entry_set_update_loop ?_
    rw [Around.under_plainId F.plain_set_update_loop _]
    show wpAny _ A.in1 (pyNext (.ref I) >>= _) _ _ s
    refine wpAny_bind (W.done s _ _ hst fun h' tk hk'' => ?_)
    have kp' : ∀ b o, h0.get? b = some o → h'.get? b = some o := fun b o e => hk'' b o (fun z => by rw [hw0 b z] at e; cases e) (kp b o e)
    show wpAny _ A.in1 (ret Value.none) _ _ _
    exact wpAny_pure (r h' tk (mv _ _ _ g (fun o e => hk'' S o hSw e) kp') kp')
  | succ k ih =>
    intro i s hk' hi hst kp g r
    have lt : i < n := by omega
    refine codeAny_builtin F.entry_set_update_loop ?_
    rw [Around.under_plainId F.plain_set_update_loop _]
    show wpAny _ A.in1 (pyNext (.ref I) >>= _) _ _ s
    refine wpAny_bind (W.item i s _ _ lt hst fun v h' tk hP hst' hk'' => ?_)
    have kp' : ∀ b o, h0.get? b = some o → h'.get? b = some o := fun b o e => hk'' b o (fun z => by rw [hw0 b z] at e; cases e) (kp b o e)
    show wpAny _ A.in1 (holding [v] (setAdd S v) >>= _) _ _ _
    refine wpAny_bind (wpAny_holding (one i v { s with heap := h', toks := tk } _ _ lt hP (mv _ _ _ g (fun o e => hk'' S o hSw e) kp') kp' fun b h2 tk2 sb g2 => ?_))
    have kp2 : ∀ b o, h0.get? b = some o → h2.get? b = some o := fun b o e => (sb.2 b fun z => by rw [z, hS0] at e; cases e).trans (kp' b o e)
    exact wpAny_pure ⟨plainId_quiet F.plain_set_update_loop _, ih (i + 1) { s with heap := h2, toks := tk2 } (by omega) lt (W.frame _ _ _ hst' fun b hb o e => (sb.2 b fun z => hSf (z ▸ hb)).trans e) kp2 g2 fun h3 tk3 g3 kp3 => r h3 tk3 g3 kp3⟩
/-- set(xs), whatever its members -/
theorem call_setG {l : Addr} {items : Array Value} {Q : Value → Shared → Prop} (hh : A.handled = none) (hl : s.heap.IsList l items) (G : Nat → Heap → Prop)
    (g0 : ∀ h : Heap, h.get? s.heap.objs.size = some { cls := .type "set", dict := none, data := .set #[] 0 (.fresh 0 0 (!w.params.followText "set-order")) } → G 0 h)
    (mv : ∀ i h h', G i h → (∀ o, h.get? s.heap.objs.size = some o → h'.get? s.heap.objs.size = some o) → (∀ b o, s.heap.get? b = some o → h'.get? b = some o) → G i h')
    (one : ∀ i v (s1 : Shared) (E : Value → Shared → Prop) (Q : Bool → Shared → Prop), i < items.size → items[i]? = some v → G i s1.heap → (∀ b o, s.heap.get? b = some o → s1.heap.get? b = some o) → (∀ b h' tk, Heap.SameBut s.heap.objs.size s1.heap h' → G (i + 1) h' → Q b { s1 with heap := h', toks := tk }) → wpAny (model P w) A.in1.in1.in1 (setAdd s.heap.objs.size v) Q E s1)
    (q : ∀ (h' : Heap) (tk : Nat), G items.size h' → (∀ b o, s.heap.get? b = some o → h'.get? b = some o) → Q (.ref s.heap.objs.size) { s with heap := h', toks := tk }) :
    wpAny (model P w) A (call (.type "set") [.ref l]) Q E s := by
  obtain ⟨c, tl, hmro⟩ := F.called_set.mro
  have hmade := F.called_set.made
  have hsub := F.called_set.sub
  have hnt := F.called_set.notType
  have hcc := F.called_set.canCreate
  have hct := F.typeCall_set_1 (.ref l)
  refine wpAny_call (codeAny_of_tree ?_)
  show wpAny _ _ (callAny (.type "set") _) _ _ _
  refine wpAny_pure ⟨Code.quiet_builtin _ (by decide +kernel), codeAny_builtin F.entry_type_call ?_⟩
  rw [Around.under_plain (weight_type_call_type "set" [.ref l] []) rfl]
  repeat (any_goals (first | assumption | wp_step))
  refine codeAny_mono (code_set_led1 (.ref l) (E := E) (Q₁ := fun obj s₁ => obj = .ref s.heap.objs.size ∧ s₁ = { s with heap := s.heap.push { cls := .type "set", dict := none, data := .set #[] 0 (.fresh 0 0 (!w.params.followText "set-order")) } }) ⟨rfl, rfl⟩) fun r s₁ hr => ?_
  cases r with
  | error e => exact hr
  | ok fl =>
    cases fl with
    | ret obj =>
      obtain ⟨rfl, rfl⟩ := hr
      generalize hso : ({ cls := .type "set", dict := none, data := .set #[] 0 (.fresh 0 0 (!w.params.followText "set-order")) } : Obj) = so
      have hS : (s.heap.push so).get? s.heap.objs.size = some so := Heap.get?_push_size _ (by rw [← hso]; rfl)
      have hT : Shared.TypeIs { s with heap := s.heap.push so } (.ref s.heap.objs.size) "set" := ⟨_, hS, by rw [← hso]⟩
      have hli := F.called_set.init.lookup
      have hbi := F.called_set.init.bind (.ref s.heap.objs.size)
      repeat (any_goals (first | assumption | wp_step))
      refine codeAny_mono (codeAny_call_builtin (R := wants (fun r s₂ => r = .none ∧ Q (.ref s.heap.objs.size) s₂) E) F.called_set.init.plain F.entry_set_init (check_set_init_1 hT ?_)) fun r₂ s₂ hr₂ => ?_
      · obtain ⟨ol, hol, hcl, nl, hdl⟩ := id hl
        obtain ⟨ocls, odict, odata, oslots⟩ := ol
        simp only at hcl hdl
        subst hcl
        subst hdl
        have hol' : (s.heap.push so).get? l = some { cls := .type "list", dict := odict, data := .seq items nl, slots := oslots } := Heap.get?_push_of_some _ hol
        have n1 := F.sub_list_set
        have n2 := F.sub_list_frozenset
        have n3 : (Value.type "list" == Value.type "dict") = false := by decide
        have hl1 : (s.heap.push so).IsList l items := ⟨_, hol', rfl, nl, rfl⟩
        have lS : l < s.heap.objs.size := Heap.lt_size hol
        have szp : (s.heap.push so).objs.size = s.heap.objs.size + 1 := Heap.size_push ..
        subst hso
        unfold Builtin.«set.__init__» noKeywords Builtin.Frozenset.updateFrom
        generalize hPI : pyIter = PI
        wp_walk
        subst hPI
        refine wpAny_pyIter_list hl1 (wpAny_bind (wpAny_runValue ?_))
        have out : ∀ b, s.heap.objs.size ≤ b → s.heap.get? b = none := fun b hb => by
          cases e : s.heap.get? b with
          | none => rfl
          | some o => exact absurd (Nat.lt_of_lt_of_le (Heap.lt_size e) hb) (Nat.lt_irrefl _)
        refine fillG (Walks.list (prog := P) (w := w) (A := A.in1.in1.in1) (by simp [hh]) _ l (by rw [szp]; exact Nat.ne_of_lt (Nat.lt_succ_of_lt lS)) items) s.heap.objs.size ?_ s.heap (out _ (Nat.le_refl _)) (fun b hb => out b ?_) G mv one items.size 0 _ rfl (Nat.zero_le _) ⟨⟨_, Heap.get?_push_size _ rfl, rfl, rfl⟩, hl1.push _⟩ (fun b o e => Heap.get?_push_of_some _ (Heap.get?_push_of_some _ e)) (g0 _ (Heap.get?_push_of_some _ hS)) fun h' tk g kp => ?_
        · rw [szp]
          simp only [List.mem_cons, List.not_mem_nil, or_false, not_or]
          exact ⟨Nat.ne_of_lt (Nat.lt_succ_self _), Nat.ne_of_gt lS⟩
        · rw [List.mem_singleton.mp hb, szp]
          exact Nat.le_succ _
        · first
            | exact wpAny_pure (wpAny_pure ⟨rfl, q h' tk g kp⟩)
            | exact wpAny_pure ⟨rfl, q h' tk g kp⟩
      · cases r₂ with
        | error e => exact hr₂
        | ok fl₂ =>
          cases fl₂ with
          | ret r =>
            obtain ⟨rfl, hq⟩ := hr₂
            repeat (any_goals (first | assumption | wp_step))
          | _ => exact hr₂.elim
    | _ => exact hr.elim
/-- set(xs), the members tuples -/
theorem call_set {l : Addr} {items : Array Value} (ks : List (Addr × NestedKey)) {Q : Value → Shared → Prop} (hh : A.handled = none) (hl : s.heap.IsList l items) (hit : items.toList = ks.map fun p => Value.ref p.1) (hk : ∀ p ∈ ks, NI P w s.heap p.2 p.1) (few : ∀ L : List (Addr × NestedKey), (L.map (·.2)).Nodup → (∀ p ∈ L, p ∈ ks) → L.length < 63) (hu : A.units + 20 < cLine)
    (q : ∀ (h' : Heap) (tk : Nat) L es ep t, SetN P w h' s.heap.objs.size L es ep t → Gn ks ks.length L → (∀ b o, s.heap.get? b = some o → h'.get? b = some o) → Q (.ref s.heap.objs.size) { s with heap := h', toks := tk }) :
    wpAny (model P w) A (call (.type "set") [.ref l]) Q E s := by
  have hsz : items.size = ks.length := by
    have := congrArg List.length hit
    rwa [Array.length_toList, List.length_map] at this
  have room : (nestedKind P w).room A.in1.in1.in1 := by
    show A.units + 1 + 1 + 1 + 8 < cLine
    omega
  refine call_setG hh hl (fun i h => (∃ L es ep t, SetN P w h s.heap.objs.size L es ep t ∧ Gn ks i L)) (fun h hS => ⟨[], #[], 0, _, set0 hS, ⟨fun p h => (by cases h), fun p h => (by simp at h), Nat.le_refl _⟩⟩) (fun i h h' ⟨L, es, ep, t, R, g⟩ hs kp => ⟨L, es, ep, t, R.move hs fun p hp => ni_keep (hk p (List.mem_of_mem_take (g.sub p hp))) kp, g⟩) (fun i v s1 E1 Q1 hi hv ⟨L, es, ep, t, R, g⟩ kp r => ?_) fun h' tk ⟨L, es, ep, t, R, g⟩ kp => q h' tk L es ep t R (by rwa [hsz] at g) kp
  have e : items.toList[i]? = some v := by rw [Array.getElem?_toList]; exact hv
  rw [hit, List.getElem?_map] at e
  cases e2 : ks[i]? with
  | none => rw [e2] at e; cases e
  | some p =>
    rw [e2] at e
    cases e
    have hx : NI P w s1.heap p.2 p.1 := ni_keep (hk p (List.mem_of_getElem? e2)) kp
    unfold setAdd
    refine wpAny_holding (wpAny_bind ((nestedKind P w).pyHash room hx ?_))
    exact adds (s := { s1 with toks := s1.toks + (nestedKind P w).draws p.2 }) R hx room (by have := few L R.nd fun p hp => List.mem_of_mem_take (g.sub p hp); omega) fun b h2 L2 es2 ep2 t2 sb R2 c1 c2 => r b h2 _ sb ⟨L2, es2, ep2, t2, R2, g.step e2 c1 c2⟩
theorem ints_at {us : List Value} {ns : List Int} (h : PyProof.Rows.IntsAre us ns) {i : Nat} {v : Value} (e : us[i]? = some v) : ∃ k t, ns[i]? = some k ∧ v = .int k t := by
  induction h generalizing i with
  | nil => cases e
  | cons k t _ ih =>
    cases i with
    | zero => cases e; exact ⟨k, t, rfl, rfl⟩
    | succ i => exact ih e
/-- the members of a set of whole numbers -/
theorem SetR.card {h : Heap} {a : Addr} {S : Int → Bool} {n : Nat} (R : SetR w h a S n) : ∃ l : List Int, l.Nodup ∧ l.length = n ∧ ∀ k, S k = true ↔ k ∈ l := by
  obtain ⟨o, es, ep, t, _, _, _, _, nd, hm, _, _, hn, _⟩ := R
  exact ⟨_, nd, by rw [List.length_map, Array.length_toList]; exact hn, hm⟩
/-- set(xs), the members whole numbers -/
theorem call_setI {l : Addr} {items : Array Value} (ns : List Int) {Q : Value → Shared → Prop} (hh : A.handled = none) (hl : s.heap.IsList l items) (hit : PyProof.Rows.IntsAre items.toList ns) (hz : ∀ l : List Int, l.Nodup → (∀ k ∈ l, k ∈ ns) → l.length < 4000)
    (q : ∀ (h' : Heap) (tk : Nat) S n, SetR w h' s.heap.objs.size S n → (∀ k : Int, S k = true ↔ k ∈ ns) → (∀ b o, s.heap.get? b = some o → h'.get? b = some o) → Q (.ref s.heap.objs.size) { s with heap := h', toks := tk }) :
    wpAny (model P w) A (call (.type "set") [.ref l]) Q E s := by
  have hsz : items.size = ns.length := by
    have := hit.length
    rwa [Array.length_toList] at this
  refine call_setG hh hl (fun i h => ∃ S n, SetR w h s.heap.objs.size S n ∧ (∀ k : Int, S k = true ↔ k ∈ ns.take i)) (fun h hS => ?_) (fun i h h' ⟨S, n, R, g⟩ hs kp => ⟨S, n, SetR.at R hs, g⟩) (fun i v s1 E1 Q1 hi hv ⟨S, n, R, g1⟩ kp r => ?_) fun h' tk ⟨S, n, R, g1⟩ kp => q h' tk S n R (fun k => by rw [g1, hsz, List.take_length]) kp
  · refine ⟨fun _ => false, 0, ⟨_, #[], 0, _, hS, ⟨rfl, rfl, rfl⟩, rfl, (fun e he => by simp at he), (by simp), (fun k => by simp), (by decide), (by rfl), rfl, List.Pairwise.nil, ?_⟩, fun k => by simp⟩
    show _ ∨ (!w.params.followText "set-order") = true
    cases w.params.followText "set-order"
    · exact .inr rfl
    · exact .inl rfl
  · have e : items.toList[i]? = some v := by rw [Array.getElem?_toList]; exact hv
    obtain ⟨z, t, hz', rfl⟩ := ints_at hit e
    unfold setAdd
    refine wpAny_holding (wpAny_bind ((intKind P w).pyHash (k := z) (intKind_is _ _ _ _) ?_))
    have hn : n < 4000 := by
      obtain ⟨m, m1, m2, m3⟩ := SetR.card R
      rw [← m2]
      exact hz m m1 fun k hk => List.mem_of_mem_take ((g1 k).mp ((m3 k).mpr hk))
    refine setR_add_hashed (s := { s1 with toks := s1.toks + 1 }) R (by unfold scanBound; omega) fun h' sb R2 => r _ h' _ sb ⟨_, _, R2, fun k => ?_⟩
    rw [List.take_add_one, hz', Bool.or_eq_true, g1, decide_eq_true_iff]
    simp
end
end Co
end

section
set_option Elab.async false
set_option linter.all false
set_option maxRecDepth 100000
set_option maxHeartbeats 1000000
set_option autoImplicit false
namespace Co
open PySem PySem.Spec L2 PyProof.Rows
/-! ### keys and their data -/
mutual
theorem nk_data : ∀ (d : D) (k : NestedKey), nk d = some k → d = k.data
  | .none, k, h => by cases h; rfl
  | .bool _, k, h => by cases h
  | .int i, k, h => by cases h; rfl
  | .str x, k, h => by cases h; rfl
  | .list _, k, h => by cases h
  | .dict _, k, h => by cases h
  | .tuple ds, k, h => by
    rw [nk] at h
    cases e : nks ds with
    | none => rw [e] at h; cases h
    | some ks =>
      rw [e] at h
      cases h
      rw [NestedKey.data, ← nks_data ds ks e]
theorem nks_data : ∀ (ds : List D) (ks : List NestedKey), nks ds = some ks → ds = NestedKey.datas ks
  | [], ks, h => by cases h; rfl
  | d :: ds, ks, h => by
    rw [nks] at h
    cases e : nk d with
    | none => rw [e] at h; cases h
    | some k =>
      cases e2 : nks ds with
      | none => rw [e, e2] at h; cases h
      | some r =>
        rw [e, e2] at h
        cases h
        rw [NestedKey.datas, ← nk_data d k e, ← nks_data ds r e2]
end
theorem datas_map : ∀ ks : List NestedKey, NestedKey.datas ks = ks.map NestedKey.data
  | [] => rfl
  | k :: ks => by rw [NestedKey.datas, datas_map ks]; rfl
mutual
theorem data_inj : ∀ (k l : NestedKey), k.data = l.data → k = l
  | .none, l, h => by cases l <;> first | rfl | (rw [NestedKey.data, NestedKey.data] at h; cases h)
  | .num i, l, h => by
    cases l with
    | num j => rw [NestedKey.data, NestedKey.data] at h; cases h; rfl
    | _ => rw [NestedKey.data, NestedKey.data] at h; cases h
  | .text x, l, h => by
    cases l with
    | text y => rw [NestedKey.data, NestedKey.data] at h; cases h; rfl
    | _ => rw [NestedKey.data, NestedKey.data] at h; cases h
  | .tup ks, l, h => by
    cases l with
    | tup ls =>
      rw [NestedKey.data, NestedKey.data] at h
      injection h with h
      rw [datas_inj ks ls h]
    | _ => rw [NestedKey.data, NestedKey.data] at h; cases h
theorem datas_inj : ∀ (ks ls : List NestedKey), NestedKey.datas ks = NestedKey.datas ls → ks = ls
  | [], ls, h => by
    cases ls with
    | nil => rfl
    | cons _ _ => rw [NestedKey.datas, NestedKey.datas] at h; cases h
  | k :: ks, ls, h => by
    cases ls with
    | nil => rw [NestedKey.datas, NestedKey.datas] at h; cases h
    | cons l ls =>
      rw [NestedKey.datas, NestedKey.datas] at h
      injection h with h1 h2
      rw [data_inj k l h1, datas_inj ks ls h2]
end
mutual
theorem eqv_data : ∀ (k l : NestedKey), PyData.eqv k.data l.data = true → k = l
  | .none, l, h => by cases l <;> first | rfl | (rw [NestedKey.data, NestedKey.data] at h; simp [PyData.eqv] at h)
  | .num i, l, h => by
    cases l with
    | num j =>
      rw [NestedKey.data, NestedKey.data, PyData.eqv] at h
      rw [beq_iff_eq.mp h]
    | _ => rw [NestedKey.data, NestedKey.data] at h; simp [PyData.eqv] at h
  | .text x, l, h => by
    cases l with
    | text y =>
      rw [NestedKey.data, NestedKey.data] at h
      have : x = y := by simpa [PyData.eqv] using h
      rw [this]
    | _ => rw [NestedKey.data, NestedKey.data] at h; simp [PyData.eqv] at h
  | .tup ks, l, h => by
    cases l with
    | tup ls =>
      rw [NestedKey.data, NestedKey.data, PyData.eqv] at h
      rw [eqvs_data ks ls h]
    | _ => rw [NestedKey.data, NestedKey.data] at h; simp [PyData.eqv] at h
theorem eqvs_data : ∀ (ks ls : List NestedKey), PyData.eqvAll (NestedKey.datas ks) (NestedKey.datas ls) = true → ks = ls
  | [], ls, h => by
    cases ls with
    | nil => rfl
    | cons _ _ => rw [NestedKey.datas, NestedKey.datas] at h; simp [PyData.eqvAll] at h
  | k :: ks, ls, h => by
    cases ls with
    | nil => rw [NestedKey.datas, NestedKey.datas] at h; simp [PyData.eqvAll] at h
    | cons l ls =>
      rw [NestedKey.datas, NestedKey.datas, PyData.eqvAll, Bool.and_eq_true] at h
      rw [eqv_data k l h.1, eqvs_data ks ls h.2]
end
/-- data that can be compared, and of which neither is less, are one -/
theorem lt_anti {k l : NestedKey} (ha : PySem.W.alike k.data l.data = true) (h1 : PySem.W.dataLt k.data l.data = false) (h2 : PySem.W.dataLt l.data k.data = false) : k = l := by
  apply eqv_data
  cases e : PyData.eqv k.data l.data with
  | true => rfl
  | false =>
    have tk : PySem.W.keyToks k.data = PySem.W.keyToks l.data := lex_total _ _ h1 h2
    have := (PySem.W.toks_eqv _ _ ha).2 e [.inl 0] [.inl 1]
    rw [tk, PySem.W.lex_pre, lex_irrefl] at this
    exact absurd this (by decide +kernel)
/-- two sorted rows of the same -/
theorem sorted_one {α : Type} {le : α → α → Prop} : ∀ {as bs : List α}, as.Pairwise le → bs.Pairwise le → as.Perm bs → (∀ a ∈ as, ∀ b ∈ as, le a b → le b a → a = b) → as = bs
  | [], bs, _, _, p, _ => (List.nil_perm.mp p).symm
  | a :: as, [], _, _, p, _ => absurd p.length_eq (by simp)
  | a :: as, b :: bs, h1, h2, p, anti => by
    rw [List.pairwise_cons] at h1 h2
    have e : a = b := by
      have ha : a ∈ b :: bs := p.mem_iff.mp (List.mem_cons_self ..)
      have hb : b ∈ a :: as := p.mem_iff.mpr (List.mem_cons_self ..)
      rcases List.mem_cons.mp ha with e | ha
      · exact e
      · rcases List.mem_cons.mp hb with e | hb'
        · exact e.symm
        · exact anti a (List.mem_cons_self ..) b hb (h1.1 b hb') (h2.1 a ha)
    subst e
    rw [sorted_one h1.2 h2.2 (List.perm_cons a |>.mp p) fun x hx y hy => anti x (List.mem_cons_of_mem _ hx) y (List.mem_cons_of_mem _ hy)]
theorem srt_up (ds : List D) : (srt ds).Pairwise fun a b => PySem.W.dataLt b a = false := by
  have := List.pairwise_mergeSort (le := PySem.W.dataLe false fun d : D => d) (fun a b c h1 h2 => by
      have h1 : (!PySem.W.dataLt b a) = true := h1
      have h2 : (!PySem.W.dataLt c b) = true := h2
      show (!PySem.W.dataLt c a) = true
      rw [Bool.not_eq_true'] at *
      cases e : PySem.W.dataLt c a with
      | false => rfl
      | true =>
        rcases lex_negTrans _ (PySem.W.keyToks b) _ (show PyProof.Rows.lexLt itemOrd (PySem.W.keyToks c) (PySem.W.keyToks a) = true from e) with z | z
        · exact Bool.noConfusion (z.symm.trans h2)
        · exact Bool.noConfusion (z.symm.trans h1)) (fun a b => by
      show ((!PySem.W.dataLt b a) || (!PySem.W.dataLt a b)) = true
      cases e : PySem.W.dataLt b a with
      | false => rfl
      | true =>
        cases e2 : PySem.W.dataLt a b with
        | false => rfl
        | true =>
          have := lex_trans _ _ _ (show PyProof.Rows.lexLt itemOrd (PySem.W.keyToks b) (PySem.W.keyToks a) = true from e) e2
          rw [lex_irrefl] at this
          cases this) ds
  refine this.imp fun {a b} h => ?_
  have h : (!PySem.W.dataLt b a) = true := h
  simpa using h
theorem srt_perm {ks ls : List NestedKey} (p : ks.Perm ls) (al : ∀ k ∈ ks, ∀ l ∈ ks, PySem.W.alike k.data l.data = true) : srt (ks.map NestedKey.data) = srt (ls.map NestedKey.data) := by
  refine sorted_one (srt_up _) (srt_up _) (((List.mergeSort_perm _ _).trans (p.map _)).trans (List.mergeSort_perm _ _).symm) fun a ha b hb h1 h2 => ?_
  obtain ⟨k, hk, rfl⟩ := List.mem_map.mp ((List.mergeSort_perm _ _).mem_iff.mp ha)
  obtain ⟨l, hl, rfl⟩ := List.mem_map.mp ((List.mergeSort_perm _ _).mem_iff.mp hb)
  rw [lt_anti (al k hk l hl) h2 h1]
end Co
end

section
set_option Elab.async false
set_option linter.all false
set_option maxRecDepth 100000
set_option maxHeartbeats 1000000
set_option autoImplicit false
namespace Co
open PySem PySem.Spec L2 PyProof.Rows
/-! ### sorted(set(e)), the members tuples -/
def addK (acc : List NestedKey) (k : NestedKey) : List NestedKey := if k ∈ acc then acc else acc ++ [k]
def dedK (ks : List NestedKey) : List NestedKey := ks.foldl addK []
theorem addK_mem {acc : List NestedKey} {k l : NestedKey} : l ∈ addK acc k ↔ l ∈ acc ∨ l = k := by
  unfold addK
  split
  · rename_i h
    exact ⟨.inl, fun z => z.elim id fun e => e ▸ h⟩
  · simp
theorem fold_addK : ∀ (ks acc : List NestedKey), acc.Nodup → (ks.foldl addK acc).Nodup ∧ ∀ l, l ∈ ks.foldl addK acc ↔ l ∈ acc ∨ l ∈ ks
  | [], acc, h => ⟨h, fun l => by simp⟩
  | k :: ks, acc, h => by
    have nd : (addK acc k).Nodup := by
      unfold addK
      split
      · exact h
      · rename_i hk
        rw [List.nodup_append]
        exact ⟨h, by simp, fun a ha b hb e => hk (by rw [List.mem_singleton.mp hb] at e; exact e ▸ ha)⟩
    obtain ⟨h1, h2⟩ := fold_addK ks (addK acc k) nd
    refine ⟨h1, fun l => ?_⟩
    show l ∈ ks.foldl addK (addK acc k) ↔ _
    rw [h2, addK_mem, List.mem_cons, or_assoc]
theorem dedK_nd (ks : List NestedKey) : (dedK ks).Nodup := (fold_addK ks [] List.nodup_nil).1
theorem dedK_mem (ks : List NestedKey) (l : NestedKey) : l ∈ dedK ks ↔ l ∈ ks := by
  rw [dedK, (fold_addK ks [] List.nodup_nil).2]
  simp
def tkB : NestedKey → Bool
  | .tup ks => decide ((NestedKey.tup ks).depth ≤ 8)
  | _ => false
def ssetD (ds : List D) : Option R := match nks ds with
  | some ks => if ks.all tkB = true ∧ (dedK ks).length < 63 ∧ alikeB ds = true ∧ sortableB ds = true ∧ PyData.depthAll ds ≤ 100 then some (.fr, .list (srt ((dedK ks).map NestedKey.data))) else none
  | none => none
variable [Tbs]
/-- the set at a, by its object alone -/
structure SetN0 (w : World) (h : Heap) (a : Addr) (L : List (Addr × NestedKey)) : Prop where
  ex : ∃ (es : Array (Int × Value)) (ep : Nat) (t : SetTable), (∃ o, h.get? a = some o ∧ o.ExactSet ∧ o.data = .set es ep t) ∧ es.toList = rws w L ∧ TabOk t (hss w L) ∧ (L.map (·.2)).Nodup ∧ (w.params.followText "set-order" = true ∨ t.led = true) ∧ L.length * 5 < t.mask * 3 ∧ L.length < 64
def setO (w : World) (a : Addr) (L : List (Addr × NestedKey)) : HO := .ext fun h => SetN0 w h a L
section
variable {P : Program} {w : World}
theorem SetN.lone {h : Heap} {a : Addr} {L : List (Addr × NestedKey)} {es : Array (Int × Value)} {ep : Nat} {t : SetTable} (R : SetN P w h a L es ep t) : SetN0 w h a L := ⟨es, ep, t, R.ob, R.rows, R.tab, R.nd, R.led, R.room, R.few⟩
theorem SetN0.full {h : Heap} {a : Addr} {L : List (Addr × NestedKey)} (R : SetN0 w h a L) (hi : ∀ p ∈ L, NI P w h p.2 p.1) : ∃ es ep t, SetN P w h a L es ep t := by
  obtain ⟨es, ep, t, h1, h2, h3, h4, h5, h6, h7⟩ := R.ex
  exact ⟨es, ep, t, h1, h2, h3, h4, hi, h5, h6, h7⟩
theorem setO_ok {H : Hp} {h : Heap} {a : Addr} {L : List (Addr × NestedKey)} (R : SetN0 w h a L) : ObjOk P w H h a (setO w a L) := by
  obtain ⟨es, ep, t, ⟨o, ho, r⟩, _⟩ := id R.ex
  refine ⟨R, ⟨o, ho⟩, fun h1 h2 p k => ?_⟩
  obtain ⟨es', ep', t', ⟨o', ho', r'⟩, q'⟩ := SetN0.ex p
  exact ⟨es', ep', t', ⟨o', k o' ho', r'⟩, q'⟩
end
/-- the members, by values -/
def Mem (K : PySem.W.Frag) (H : Hp) (L : List (Addr × NestedKey)) : Prop := ∀ p ∈ L, PF K H (.ref p.1) p.2.data ∧ nk p.2.data = some p.2 ∧ p.2.depth ≤ 8
def rSetN (W : Wd) : List V → Hp → VK → Prop := fun xs H Q => ∃ x ds ks, xs = [x] ∧ PO W H x (.list ds) ∧ nks ds = some ks ∧ ks.all tkB = true ∧ (dedK ks).length < 63 ∧
  ∀ a L, H a = none → (L.map (·.2)).Nodup → (∀ k, k ∈ L.map (·.2) ↔ k ∈ ks) → Mem W.K H L → Q (.ref a) (upd H a (setO W.w a L))
section
variable {X : Cx} {pins : List (Addr × Obj)} {σ : L2.St} {H : Hp} {s : Shared}
theorem keyed_list (I : Inv X pins σ H s) : ∀ {vs : List V} {ds : List D} {us : List Value} {ks : List NestedKey}, PFs X.K H vs ds → Vals vs us → nks ds = some ks → ks.all tkB = true → ∃ L : List (Addr × NestedKey), us = L.map (fun p => Value.ref p.1) ∧ L.map (·.2) = ks ∧ Mem X.K H L ∧ ∀ p ∈ L, NI X.prog X.w s.heap p.2 p.1
  | [], [], us, ks, q, r, h, _ => by
    cases h
    cases r
    exact ⟨[], rfl, rfl, fun p hp => (by cases hp), fun p hp => (by cases hp)⟩
  | v :: vs, [], us, ks, q, r, h, _ => by cases q
  | [], d :: ds, us, ks, q, r, h, _ => by cases q
  | v :: vs, d :: ds, us, ks, q, r, h, ha => by
    cases r with
    | @cons _ u _ us r1 r2 =>
      have q12 : PF X.K H v d ∧ PFs X.K H vs ds := by cases q with | cons a b => exact ⟨a, b⟩
      rw [nks] at h
      cases e : nk d with
      | none => rw [e] at h; cases h
      | some k =>
        cases e2 : nks ds with
        | none => rw [e, e2] at h; cases h
        | some kr =>
          rw [e, e2] at h
          cases h
          rw [List.all_cons, Bool.and_eq_true] at ha
          obtain ⟨L, l1, l2, l3, l4⟩ := keyed_list I q12.2 r2 e2 ha.2
          have ed := nk_data d k e
          have h8 : k.depth ≤ 8 ∧ isTup d = true := by
            cases k with
            | tup kk =>
              refine ⟨of_decide_eq_true ha.1, ?_⟩
              rw [ed, NestedKey.data]
              rfl
            | _ => cases ha.1
          obtain ⟨b, rfl⟩ := tup_ref q12.1 h8.2
          cases r1
          refine ⟨(b, k) :: L, by rw [l1]; rfl, by rw [List.map_cons, l2], fun p hp => ?_, fun p hp => ?_⟩
          · rcases List.mem_cons.mp hp with rfl | hp
            · exact ⟨ed ▸ q12.1, ed ▸ e, h8.1⟩
            · exact l3 p hp
          · rcases List.mem_cons.mp hp with rfl | hp
            · exact ⟨PF.nested I _ _ _ _ q12.1 e rfl, h8.1⟩
            · exact l4 p hp
omit [Tbs] in
theorem nd_len {α : Type} [DecidableEq α] : ∀ (l m : List α), l.Nodup → (∀ x ∈ l, x ∈ m) → l.length ≤ m.length
  | [], m, _, _ => Nat.zero_le _
  | x :: l, m, h, hs => by
    rw [List.nodup_cons] at h
    have hx := hs x (List.mem_cons_self ..)
    have ih := nd_len l (m.erase x) h.2 fun y hy => (List.mem_erase_of_ne (fun e : y = x => h.1 (by rw [← e]; exact hy))).mpr (hs y (List.mem_cons_of_mem _ hy))
    rw [List.length_erase_of_mem hx] at ih
    have := List.length_pos_of_mem hx
    rw [List.length_cons]
    omega
theorem few_of {ks : List NestedKey} (h : (dedK ks).length < 63) {K : List (Addr × NestedKey)} (hK : K.map (·.2) = ks) (L : List (Addr × NestedKey)) (nd : (L.map (·.2)).Nodup) (sub : ∀ p ∈ L, p ∈ K) : L.length < 63 := by
  have : (L.map (·.2)).length ≤ (dedK ks).length := (nd_len _ _ nd fun k hk => (dedK_mem ks k).mpr (by
    obtain ⟨p, hp, rfl⟩ := List.mem_map.mp hk
    rw [← hK]
    exact List.mem_map.mpr ⟨p, sub p hp, rfl⟩))
  rw [List.length_map] at this
  omega
theorem b_setN {k : Nat} (hc : X.calm = true) (hr : Room k X.A) : CallR X (.type "set") (rSetN (wd X)) := by
  intro pins s σ H xs us Q I rx h
  obtain ⟨x, ds, ks, rfl, hx, hn, ha, hf, q⟩ := h
  obtain ⟨l, vs, rfl, h1, q1⟩ := hx.list
  obtain ⟨its, rv, hl, hz⟩ := I.list (.inl h1)
  obtain ⟨K, k1, k2, k3, k4⟩ := keyed_list I q1 rv hn ha
  rw [Vals.ref1 rx]
  have hp : H s.heap.objs.size = none := I.hok.fresh (Nat.le_refl _)
  refine call_set (P := X.prog) (w := X.w) K (I.ok.hd hc) hl.isList (by simpa using k1) k4 (few_of hf k2) (by have := hr.un; omega) fun h' tk L es ep t R g kp => ?_
  have sub : ∀ p ∈ L, p ∈ K := fun p hp => List.mem_of_mem_take (g.sub p hp)
  refine ⟨.ref s.heap.objs.size, upd H s.heap.objs.size (setO X.w s.heap.objs.size L), I.laid (t' := tk) kp (Nat.le_refl _) (setO_ok R.lone), rfl, q _ L hp R.nd (fun k => ⟨fun hk => ?_, fun hk => ?_⟩) fun p hp => k3 p (sub p hp)⟩
  · obtain ⟨p, hp, rfl⟩ := List.mem_map.mp hk
    rw [← k2]
    exact List.mem_map.mpr ⟨p, sub p hp, rfl⟩
  · rw [← k2] at hk
    obtain ⟨p, hp, rfl⟩ := List.mem_map.mp hk
    exact g.all p (by rw [List.take_length]; exact hp)
def rSortN (W : Wd) : List V → Hp → VK → Prop := fun vs H Q => ∃ a L, vs = [.ref a] ∧ H a = some (setO W.w a L) ∧ Mem W.K H L ∧ alikeB (L.map fun p => p.2.data) = true ∧ sortableB (L.map fun p => p.2.data) = true ∧ PyData.depthAll (L.map fun p => p.2.data) ≤ 100 ∧
  ∀ p ws, H p = none → PFs W.K H ws (srt ((L.map (·.2)).map NestedKey.data)) → Q (.ref p) (upd H p (.lst ws))
theorem Mem.ni (I : Inv X pins σ H s) {L : List (Addr × NestedKey)} (m : Mem X.K H L) : ∀ p ∈ L, NI X.prog X.w s.heap p.2 p.1 := fun p hp => ⟨PF.nested I _ _ _ _ (m p hp).1 (m p hp).2.1 rfl, (m p hp).2.2⟩
omit [Tbs] in
theorem pick_refs {L : List (Addr × NestedKey)} : ∀ (vs : List Value), (∀ v ∈ vs, ∃ p ∈ L, v = Value.ref p.1) → ∃ M : List (Addr × NestedKey), vs = M.map (fun p => Value.ref p.1) ∧ ∀ p ∈ M, p ∈ L
  | [], _ => ⟨[], rfl, fun p hp => (by cases hp)⟩
  | v :: vs, h => by
    obtain ⟨p, hp, e⟩ := h v (List.mem_cons_self ..)
    obtain ⟨M, e1, e2⟩ := pick_refs vs fun u hu => h u (List.mem_cons_of_mem _ hu)
    refine ⟨p :: M, by rw [e, e1]; rfl, fun q hq => ?_⟩
    rcases List.mem_cons.mp hq with rfl | hq
    · exact hp
    · exact e2 q hq
theorem b_sortN {k : Nat} (hc : X.calm = true) (hr : Room k X.A) : CallR X (.builtin "sorted") (rSortN (wd X)) := by
  intro pins s σ H xs us Q I rx h
  obtain ⟨a, L, rfl, ha, hm, al, so, dp, q⟩ := h
  have R0 : SetN0 X.w s.heap a L := (I.hok a _ ha).1
  obtain ⟨es, ep, t, R⟩ := R0.full (P := X.prog) (hm.ni I)
  obtain ⟨o, ho, hex, hd⟩ := R.ob
  have hl := rws_len R.rows
  have few := R.few
  rw [Vals.ref1 rx]
  refine Calls.call_function_entry kind_sorted plain_sorted entry_sorted (args_sorted1 _) ?_
  unfold Builtin.«sorted»
  refine wpAny_bind (m := checkCount "sorted" 1 1 _) (wpAny_pure ?_)
  refine wpAny_bind (collect_set (A := X.A.in1) (I.ok.hd hc) ⟨o, ho, hex.1, hd⟩ R.fits (by unfold scanBound; omega) R.tab.ris R.led fun s1 vs k1 hz g1 o1 pm => ?_)
  have I1 : Inv X pins σ H s1 := I.call' (ch := []) o1 (Un.kept k1) (I.hok.kept k1) (by rw [g1]; exact I.bare) (fun _ z => nomatch z)
  have er0 : es.toList.map (·.2) = L.map fun p => Value.ref p.1 := by
    rw [R.rows]
    unfold rws
    rw [List.map_map]
    rfl
  rw [er0] at pm
  obtain ⟨M, m1, m2⟩ := pick_refs (L := L) vs fun v hv => by
    obtain ⟨p, hp, e⟩ := List.mem_map.mp (pm.mem_iff.mp hv)
    exact ⟨p, hp, e.symm⟩
  have one : ∀ p ∈ L, ∀ r ∈ L, p.1 = r.1 → p = r := fun p hp r hr e => by
    have b1 := hm.ni I p hp
    have b2 := hm.ni I r hr
    rw [e] at b1
    exact Prod.ext e ((nestedKind X.prog X.w).inj b1 b2)
  have pML : M.Perm L := by
    have nL : L.Nodup := nodup_of_map R.nd
    rw [m1] at pm
    have nR : (L.map fun p => Value.ref p.1).Nodup := List.pairwise_map.mpr (List.Pairwise.imp_of_mem (fun {p r} hp hr hne e => hne (one p hp r hr (by injection e))) nL)
    refine (List.perm_ext_iff_of_nodup (nodup_of_map (pm.nodup_iff.mpr nR)) nL).mpr fun p => ⟨m2 p, fun hp => ?_⟩
    obtain ⟨r, hr, e⟩ := List.mem_map.mp (pm.mem_iff.mpr (List.mem_map.mpr ⟨p, hp, rfl⟩))
    have e : r.1 = p.1 := by injection e
    rw [← one r (m2 r hr) p hp e]
    exact hr
  have lv : vs.length = L.length := by rw [pm.length_eq, List.length_map]
  refine wpAny_bind (wpAny_newList ?_ (by rw [sizeLine_eq]; omega))
  have hoL : (s1.heap.push (seqObj "list" vs.toArray 0)).get? s1.heap.objs.size = some (seqObj "list" vs.toArray 0) := Heap.get?_push_size _ rfl
  have kp : ∀ b o, s1.heap.get? b = some o → (s1.heap.push (seqObj "list" vs.toArray 0)).get? b = some o := fun b o z => Heap.get?_push_of_some _ z
  have each : PySem.W.EachIs (fun u d => ∃ v, RelV v u ∧ PF X.K H v d) vs (M.map fun p => p.2.data) := by
    refine each_at (by rw [m1]; simp) fun i u d hu hd => ?_
    rw [m1, List.getElem?_map] at hu
    rw [List.getElem?_map] at hd
    cases e : M[i]? with
    | none => rw [e] at hu; cases hu
    | some p =>
      rw [e] at hu hd
      cases hu
      cases hd
      exact ⟨.ref p.1, rfl, (hm p (m2 p (List.mem_of_getElem? e))).1⟩
  have eid : (M.map fun p => p.2.data).map (fun d : D => d) = M.map fun p => p.2.data := List.map_id _
  have pD : (M.map fun p => p.2.data).Perm (L.map fun p => p.2.data) := pML.map _
  have al' : PySem.W.AllAlike (M.map fun p => p.2.data) := fun d hd e he => alikeB_ok al d (pD.mem_iff.mp hd) e (pD.mem_iff.mp he)
  have so' : sortableB (M.map fun p => p.2.data) = true := by
    unfold sortableB at so ⊢
    rw [Bool.or_eq_true, List.all_eq_true, List.all_eq_true] at so ⊢
    exact so.imp (fun z d hd => z d (pD.mem_iff.mp hd)) fun z d hd => z d (pD.mem_iff.mp hd)
  have er : PySem.W.EachIs (fun v b => ∃ as, Reads (s1.heap.push (seqObj "list" vs.toArray 0)) v b as ∧ s1.heap.objs.size ∉ as) vs (M.map fun p => p.2.data) := each_imp each fun u d ⟨v, r1, p⟩ => by
    obtain ⟨as, rd⟩ := Dp.reads I1 d v u (PF.dp _ _ p) r1
    refine ⟨as, PyProof.Rows.Reads.keeps kp rd, fun hm => ?_⟩
    obtain ⟨o, ho⟩ := PyProof.On.reads_mem_get rd _ hm
    exact absurd (Heap.lt_size ho) (Nat.lt_irrefl _)
  refine wpAny_bind (wpAny_holding (PySem.W.list_sort_data (s := { s1 with heap := s1.heap.push (seqObj "list" vs.toArray 0) }) (enc := fun d => d) hoL each er (by rw [eid]; exact al') (by rw [eid]; exact sortableB_ok so') (by rw [List.length_map, pML.length_eq, sizeLine_eq]; omega)
    (fun d hd => by have := depth_mem (pD.mem_iff.mp hd); have := hr.un; show X.A.units + 1 + 1 + _ < _; omega) fun out hlen ho2 => ?_))
  obtain ⟨ws, r2, p2⟩ := of_each ho2
  have p2 : PFs X.K H ws (srt (M.map fun p => p.2.data)) := p2
  have ed : srt (M.map fun p => p.2.data) = srt ((L.map (·.2)).map NestedKey.data) := by
    have := srt_perm (pML.map (·.2)) fun x hx y hy => by
      obtain ⟨p, hp, rfl⟩ := List.mem_map.mp hx
      obtain ⟨r, hr, rfl⟩ := List.mem_map.mp hy
      exact al' _ (List.mem_map.mpr ⟨p, hp, rfl⟩) _ (List.mem_map.mpr ⟨r, hr, rfl⟩)
    rw [List.map_map] at this
    exact this
  rw [ed] at p2
  obtain ⟨ep', he'⟩ := sortedHeap_at (vs := vs) (out := out.toArray) hoL
  have fr : H s1.heap.objs.size = none := I1.hok.fresh (Nat.le_refl _)
  have lw := r2.length
  rw [List.length_map, pML.length_eq] at hlen
  refine wpAny_pure ⟨_, rfl, .ref s1.heap.objs.size, upd H s1.heap.objs.size (.lst ws), I1.laid (t' := s1.toks) (fun b u z => ?_) (Nat.le_refl _) ⟨by rw [sizeLine_eq]; omega, out, ep', r2, by simpa using he'⟩, rfl, q _ _ fr p2⟩
  have hb : b < s1.heap.objs.size := Heap.lt_size z
  rw [sortedHeap_old (Nat.ne_of_lt hb) (by rw [size_push']; exact Nat.lt_succ_of_lt hb)]
  exact Heap.get?_push_of_some _ z
end
end Co
end

section
set_option Elab.async false
set_option linter.all false
set_option maxRecDepth 100000
set_option maxHeartbeats 1000000
set_option autoImplicit false
namespace Co
open PySem PySem.Spec L2 PyProof.Rows
variable [Tbs]
/-! ### sorted(set(e)): whole numbers, tuples -/
def numB : NestedKey → Bool
  | .num _ => true
  | _ => false
def numOf : NestedKey → Int
  | .num i => i
  | _ => 0
def ssetE (ds : List D) : Option R := match nks ds with
  | some ks => if (ks.all tkB || ks.all numB) = true ∧ (dedK ks).length < 63 ∧ alikeB ds = true ∧ sortableB ds = true ∧ PyData.depthAll ds ≤ 100 then some (.fr, .list (srt ((dedK ks).map NestedKey.data))) else none
  | none => none
def dSset (f : Den R) : Den R := fun ρ s => match f ρ s with
  | some ((_, .list ds), s') => (ssetE ds).map fun r => (r, s')
  | _ => none
def rSetI (W : Wd) : List V → Hp → VK → Prop := fun xs H Q => ∃ (x : V) (ns : List Int), xs = [x] ∧ PO W H x (.list (ns.map PyData.int)) ∧ (∀ l : List Int, l.Nodup → (∀ k ∈ l, k ∈ ns) → l.length < 63) ∧
  ∀ a S n, H a = none → (∀ k : Int, S k = true ↔ k ∈ ns) → n < 63 → Q (.ref a) (upd H a (SetO W.w a S n))
def rSetA (W : Wd) : List V → Hp → VK → Prop := fun xs H Q => rSetN W xs H Q ∨ rSetI W xs H Q
def rSortA (W : Wd) : List V → Hp → VK → Prop := fun xs H Q => rSortN W xs H Q ∨ rSortedSet W.w xs H Q
section
variable {X : Cx} {pins : List (Addr × Obj)} {σ : L2.St} {H : Hp} {s : Shared}
theorem ints_of {K : PySem.W.Frag} : ∀ {ns : List Int} {vs : List V} {us : List Value}, PFs K H vs (ns.map PyData.int) → Vals vs us → PyProof.Rows.IntsAre us ns
  | [], vs, us, q, r => by cases q; cases r; exact .nil
  | n :: ns, vs, us, q, r => by
    cases q with
    | cons a b =>
      cases a
      cases r with
      | cons r1 r2 =>
        obtain ⟨t, rfl⟩ := r1
        exact .cons n t (ints_of b r2)
theorem b_setI (hc : X.calm = true) : CallR X (.type "set") (rSetI (wd X)) := by
  intro pins s σ H xs us Q I rx h
  obtain ⟨x, ns, rfl, hx, hz, q⟩ := h
  obtain ⟨l, vs, rfl, h1, q1⟩ := hx.list
  obtain ⟨its, rv, hl, _⟩ := I.list (.inl h1)
  rw [Vals.ref1 rx]
  have hp : H s.heap.objs.size = none := I.hok.fresh (Nat.le_refl _)
  refine call_setI (P := X.prog) (w := X.w) ns (I.ok.hd hc) hl.isList (by simpa using ints_of q1 rv) (fun l h1 h2 => Nat.lt_trans (hz l h1 h2) (by decide)) fun h' tk S n R g1 kp => ?_
  exact ⟨.ref s.heap.objs.size, upd H s.heap.objs.size (SetO X.w s.heap.objs.size S n), I.laid (t' := tk) kp (Nat.le_refl _) (setO_new R), rfl, q _ S n hp g1 (by obtain ⟨m, m1, m2, m3⟩ := SetR.card R; rw [← m2]; exact hz m m1 fun k hk => (g1 k).mp ((m3 k).mpr hk))⟩
theorem b_setA {k : Nat} (hc : X.calm = true) (hr : Room k X.A) : CallR X (.type "set") (rSetA (wd X)) := by
  intro pins s σ H xs us Q I rx h
  rcases h with h | h
  · exact b_setN hc hr pins s σ H xs us Q I rx h
  · exact b_setI hc pins s σ H xs us Q I rx h
theorem b_sortA {k : Nat} (hc : X.calm = true) (hr : Room k X.A) : CallR X (.builtin "sorted") (rSortA (wd X)) := by
  intro pins s σ H xs us Q I rx h
  rcases h with h | h
  · exact b_sortN hc hr pins s σ H xs us Q I rx h
  · exact cr_sortedSet hc pins s σ H xs us Q I rx h
end
omit [Tbs] in
theorem depth_le {n : Nat} : ∀ (ds : List D), (∀ d ∈ ds, d.depth ≤ n) → PyData.depthAll ds ≤ n
  | [], _ => by rw [PyData.depthAll]; exact Nat.zero_le _
  | d :: ds, h => by
    rw [PyData.depthAll]
    exact Nat.max_le.mpr ⟨h d (List.mem_cons_self ..), depth_le ds fun e he => h e (List.mem_cons_of_mem _ he)⟩
omit [Tbs] in
theorem pfs_ints {K : PySem.W.Frag} {H : Hp} : ∀ (ns : List Int), PFs K H (ns.map V.int) (ns.map PyData.int)
  | [] => .nil
  | n :: ns => .cons (.int n) (pfs_ints ns)
omit [Tbs] in
theorem nums_of : ∀ {ds : List D} {ks : List NestedKey}, nks ds = some ks → ks.all numB = true → ds = (ks.map numOf).map PyData.int ∧ ks = (ks.map numOf).map NestedKey.num := by
  intro ds ks h ha
  have e : ks = (ks.map numOf).map NestedKey.num := by
    rw [List.map_map]
    conv => lhs; rw [← List.map_id ks]
    refine List.map_congr_left fun k hk => ?_
    have := List.all_eq_true.mp ha k hk
    cases k with
    | num i => rfl
    | _ => cases this
  refine ⟨?_, e⟩
  rw [nks_data ds ks h, datas_map]
  conv => lhs; rw [e]
  rw [List.map_map]
  refine List.map_congr_left fun k hk => ?_
  show NestedKey.data (.num k) = _
  rw [NestedKey.data]
omit [Tbs] in
theorem int_up : ∀ {ns : List Int}, ns.Pairwise (· < ·) → (ns.map PyData.int).Pairwise fun a b => PySem.W.dataLt b a = false := by
  intro ns h
  refine List.pairwise_map.mpr (h.imp fun {a b} z => ?_)
  rw [PySem.W.dataLt_int]
  exact decide_eq_false (by omega)
omit [Tbs] in
/-- the numbers of a set, rising -/
theorem ints_srt {ns : List Int} {ks : List NestedKey} (hu : ns.Pairwise (· < ·)) (hm : ∀ k, k ∈ ns ↔ NestedKey.num k ∈ ks) (hk : ks.all numB = true) : ns.map PyData.int = srt ((dedK ks).map NestedKey.data) := by
  have hn : (ns.map NestedKey.num).Nodup := List.pairwise_map.mpr (hu.imp fun {a b} z e => by injection e with e; omega)
  have p : (ns.map NestedKey.num).Perm (dedK ks) := (List.perm_ext_iff_of_nodup hn (dedK_nd ks)).mpr fun k => by
    rw [dedK_mem]
    constructor
    · intro h
      obtain ⟨i, hi, rfl⟩ := List.mem_map.mp h
      exact (hm i).mp hi
    · intro h
      have := List.all_eq_true.mp hk k h
      cases k with
      | num i => exact List.mem_map.mpr ⟨i, (hm i).mpr h, rfl⟩
      | _ => cases this
  have e : ns.map PyData.int = (ns.map NestedKey.num).map NestedKey.data := by
    rw [List.map_map]
    refine List.map_congr_left fun k _ => ?_
    show _ = NestedKey.data (.num k)
    rw [NestedKey.data]
  refine sorted_one (int_up hu) (srt_up _) ?_ fun a ha b hb h1 h2 => ?_
  · rw [e]
    exact (p.map _).trans (List.mergeSort_perm _ _).symm
  · obtain ⟨i, _, rfl⟩ := List.mem_map.mp ha
    obtain ⟨j, _, rfl⟩ := List.mem_map.mp hb
    rw [PySem.W.dataLt_int] at h1 h2
    have h1 := of_decide_eq_false h1
    have h2 := of_decide_eq_false h2
    rw [show i = j by omega]
section
variable {X : Cx} {c : Cel} {a : Expr} {f : Den R} {pos p1 p2 p3 : Pos} {k : Nat}
theorem boot_srt : bootBuiltins ("sorted" : Str) = some (.builtin "sorted") := by decide +kernel
theorem boot_st : bootBuiltins ("set" : Str) = some (.type "set") := by decide +kernel
theorem ce_sset (hc : X.calm = true) (hr : Room k X.A) (hg : Gl X "sorted") (hm : X.mg "sorted" = none) (hg2 : Gl X "set") (hm2 : X.mg "set" = none) (ha : PE X a (tD (wd X) c f)) (hs : starEach [a] X.env = (false, eval a X.env) :: starEach [] X.env) :
    PE X (.Call (.Name "sorted" p1) [.Call (.Name "set" p2) [a] [] p3] [] pos) (tD (wd X) c (dSset f)) := by
  refine (pe_callB (b_sortA hc hr) hg hm boot_srt (pa_cons (pe_callTy (b_setA hc hr) hg2 hm2 boot_st (pa_cons ha pa_nil hs) (by decide) (by decide) hs) pa_nil)).imp fun σ H Q h => ?_
  obtain ⟨ρ, st, r, st', E, hf, q⟩ := h
  unfold dSset at hf
  split at hf
  · rename_i fl ds s1 h1
    cases h2 : ssetE ds with
    | none => rw [h2] at hf; cases hf
    | some r2 =>
      rw [h2] at hf
      cases hf
      unfold ssetE at h2
      split at h2
      · rename_i ks hk
        split at h2
        · rename_i ok
          cases h2
          obtain ⟨o1, o2, o4, o5, o6⟩ := ok
          refine ⟨ρ, st, _, _, E, h1, fun v H1 e1 k1 res => ?_⟩
          have po := res.po
          by_cases hn : ks.all numB = true
          · obtain ⟨eds, eks⟩ := nums_of hk hn
            refine .inr ⟨v, ks.map numOf, rfl, eds ▸ po, fun l l1 l2 => ?_, fun a S n ha hS hle => .inr ⟨a, S, n, rfl, upd_same, by omega, fun ns p up mem ln hp => ?_⟩⟩
            · refine Nat.lt_of_le_of_lt ?_ o2
              rw [← List.length_map (f := NestedKey.num)]
              refine nd_len _ _ (List.pairwise_map.mpr (l1.imp fun {a b} z e => z (by injection e))) fun x hx => (dedK_mem ks x).mpr ?_
              obtain ⟨i, hi, rfl⟩ := List.mem_map.mp hx
              rw [eks]
              exact List.mem_map.mpr ⟨i, l2 i hi, rfl⟩
            have e : ns.map PyData.int = srt ((dedK ks).map NestedKey.data) := ints_srt up (fun i => by
              rw [mem, hS]
              constructor
              · intro z
                obtain ⟨kk, hkk, rfl⟩ := List.mem_map.mp z
                have := List.all_eq_true.mp hn kk hkk
                cases kk with
                | num i => exact hkk
                | _ => cases this
              · intro z
                exact List.mem_map.mpr ⟨_, z, rfl⟩) hn
            rw [← e] at q
            exact q _ _ ((e1.trans (.of (same_new ha))).trans (.of (same_new hp))) ((k1.same (same_new ha)).same (same_new hp)) ((Rs.lst hp (pfs_ints ns)).res (e1.trans (.of (same_new ha))) (k1.same (same_new ha)))
          · have o1 : ks.all tkB = true := by
              rw [Bool.or_eq_true] at o1
              exact o1.resolve_right hn
            have eds : ds = ks.map NestedKey.data := by rw [nks_data ds ks hk, datas_map]
            have sb : ∀ L : List (Addr × NestedKey), (∀ k, k ∈ L.map (·.2) ↔ k ∈ ks) → ∀ d ∈ L.map (fun p => p.2.data), d ∈ ds := fun L mem d hd => by
              obtain ⟨p, hp, rfl⟩ := List.mem_map.mp hd
              rw [eds]
              exact List.mem_map.mpr ⟨p.2, (mem _).mp (List.mem_map.mpr ⟨p, hp, rfl⟩), rfl⟩
            refine .inl ⟨v, ds, ks, rfl, po, hk, o1, o2, fun a L ha nd mem M => .inl ⟨a, L, rfl, upd_same, fun p hp => ⟨PF.pers (.of (same_new ha)) _ _ (M p hp).1, (M p hp).2⟩, ?_, ?_, ?_, fun p ws hp pf => ?_⟩⟩
            · unfold alikeB
              rw [List.all_eq_true]
              intro x hx
              rw [List.all_eq_true]
              intro y hy
              exact alikeB_ok o4 _ (sb L mem x hx) _ (sb L mem y hy)
            · unfold sortableB at o5 ⊢
              rw [Bool.or_eq_true, List.all_eq_true, List.all_eq_true] at o5 ⊢
              exact o5.imp (fun z d hd => z d (sb L mem d hd)) fun z d hd => z d (sb L mem d hd)
            · exact depth_le _ fun d hd => Nat.le_trans (depth_mem (sb L mem d hd)) o6
            · have e : srt ((L.map (·.2)).map NestedKey.data) = srt ((dedK ks).map NestedKey.data) := srt_perm ((List.perm_ext_iff_of_nodup nd (dedK_nd ks)).mpr fun k => by rw [dedK_mem, mem]) fun k hk1 l hl1 => alikeB_ok o4 _ (by rw [eds]; exact List.mem_map.mpr ⟨k, (mem k).mp hk1, rfl⟩) _ (by rw [eds]; exact List.mem_map.mpr ⟨l, (mem l).mp hl1, rfl⟩)
              rw [e] at pf
              exact q _ _ ((e1.trans (.of (same_new ha))).trans (.of (same_new hp))) ((k1.same (same_new ha)).same (same_new hp)) ((Rs.lst hp pf).res (e1.trans (.of (same_new ha))) (k1.same (same_new ha)))
        · cases h2
      · cases h2
  · cases hf
end
end Co
end

section
set_option Elab.async false
set_option linter.all false
set_option maxRecDepth 100000
set_option autoImplicit false
namespace Co
open PySem PyProof.Rows
variable [Tbs]

/-! ### zip over two walked things of any kind -/
structure Sd (prog : Program) (w : World) (it l : Addr) (xs : Array Value) (St : Nat → Heap → Prop) : Prop where
  item : ∀ (A : Around) (E : Value → Shared → Prop) (s : Shared) (k : Nat) (x : Value) (Q : Value → Shared → Prop), St k s.heap → xs[k]? = some x →
    (∀ g, St (k + 1) g → Heap.SameBut it s.heap g → Q x { s with heap := g }) → wpAny (model prog w) A (Builtin.SmallTypes.nextOf (.ref it)) Q E s
  stop : ∀ (A : Around) (E : Value → Shared → Prop) (s : Shared) (k : Nat) (Q : Value → Shared → Prop), A.handled = none → St k s.heap → xs[k]? = none →
    (∀ g e, Heap.ExtBut it s.heap g → (∃ o, g.get? e = some o ∧ o.cls = .type "StopIteration") → E (.ref e) { s with heap := g }) → wpAny (model prog w) A (Builtin.SmallTypes.nextOf (.ref it)) Q E s
  keep : ∀ k h g, St k h → (∀ b, b = it ∨ b = l → ∀ o, h.get? b = some o → g.get? b = some o) → St k g
  has : ∀ k h, St k h → (∃ o, h.get? it = some o) ∧ ∃ o, h.get? l = some o
theorem sd_list {prog : Program} {w : World} (it l : Addr) (xs : Array Value) : Sd prog w it l xs (fun k h => h.IsListIter it l k ∧ h.IsList l xs) where
  item := fun A E s k x Q st hx q => wpAny_nextOf_list_item st.1 st.2 hx fun g a b => q g ⟨a, by
    by_cases e : l = it
    · subst e
      obtain ⟨o, h1, h2, _⟩ := st.1
      obtain ⟨o', h3, h4, _⟩ := st.2
      rw [h1] at h3; cases h3
      rw [h2] at h4; simp at h4
    · exact st.2.at fun o z => (b.2 l e).trans z⟩ b
  stop := fun A E s k Q hh st hx q => wpAny_nextOf_list_end hh st.1 st.2 hx q
  keep := fun k h g st kp => ⟨st.1.at fun o z => kp it (.inl rfl) o z, st.2.at fun o z => kp l (.inr rfl) o z⟩
  has := fun k h st => ⟨let ⟨o, e, _⟩ := st.1; ⟨o, e⟩, let ⟨o, e, _⟩ := st.2; ⟨o, e⟩⟩
theorem sd_tuple {prog : Program} {w : World} (it l : Addr) (xs : Array Value) : Sd prog w it l xs (fun k h => h.IsTupleIter it l k ∧ h.IsTuple l xs) where
  item := fun A E s k x Q st hx q => RZ.nextOf_tuple_item st.1 st.2 hx fun g a b => q g ⟨a, by
    by_cases e : l = it
    · subst e
      obtain ⟨o, h1, h2, _⟩ := st.1
      obtain ⟨o', h3, h4, _⟩ := st.2
      rw [h1] at h3; cases h3
      rw [h2] at h4; simp at h4
    · exact st.2.at fun o z => (b.2 l e).trans z⟩ b
  stop := fun A E s k Q hh st hx q => RZ.nextOf_tuple_end hh st.1 st.2 hx q
  keep := fun k h g st kp => ⟨st.1.at fun o z => kp it (.inl rfl) o z, st.2.at fun o z => kp l (.inr rfl) o z⟩
  has := fun k h st => ⟨let ⟨o, e, _⟩ := st.1; ⟨o, e⟩, let ⟨o, e, _⟩ := st.2; ⟨o, e⟩⟩
section
variable {prog : Program} {w : World} {A : Around} {E : Value → Shared → Prop} {s : Shared} {z TI TO i1 i2 l1 l2 T : Addr} {xs ys : Array Value} {S1 S2 : Nat → Heap → Prop} {k1 k2 : Nat} {x y : Value}
/-- the first pair: its own tuple is free -/
theorem zip_first {a b : Value} {Q : Value → Shared → Prop} (Da : ZipApart z TI TO i1 i2 l1 l2) (P1 : Sd prog w i1 l1 xs S1) (P2 : Sd prog w i2 l2 ys S2) (hz : IsZip s.heap z TI TO .none) (hTI : IsPair s.heap TI (.ref i1) (.ref i2)) (hTO : IsPair s.heap TO a b)
    (h1 : S1 k1 s.heap) (h2 : S2 k2 s.heap) (hx : xs[k1]? = some x) (hy : ys[k2]? = some y)
    (q : ∀ g, IsZip g z TI TO (rawInt s.heap.objs.size) → IsPair g TO x y → S1 (k1 + 1) g → S2 (k2 + 1) g → IsPair g s.heap.objs.size x y → g.objs.size = s.heap.objs.size + 1 →
      (∀ c o, c ≠ z → c ≠ TO → c ≠ i1 → c ≠ i2 → s.heap.get? c = some o → g.get? c = some o) → Q (.ref s.heap.objs.size) { s with heap := g }) :
    wpAny (model prog w) A (Builtin.«zip.__next__» ⟨[.ref z], []⟩) (fun fin s' => ∃ v, fin = .done (.ret v) ∧ Q v s') E s := by
  show wpAny _ _ (field (.ref z) 2 >>= _) _ _ _
  refine wpAny_bind (wpAny_field hz rfl (x := .bool false) rfl ?_)
  show wpAny _ _ (field (.ref z) 3 >>= _) _ _ _
  refine wpAny_bind (wpAny_field hz rfl (x := .ref TI) rfl (wpAny_bind (wpAny_seqItems hTI rfl ?_)))
  show wpAny _ _ (Builtin.SmallTypes.ownedTupleIsFree (.ref z) >>= _) _ _ _
  refine wpAny_bind ?_
  unfold Builtin.SmallTypes.ownedTupleIsFree
  refine wpAny_bind (wpAny_field hz rfl (x := .none) rfl (wpAny_pure ?_))
  simp only [if_true]
  refine wpAny_bind (wpAny_rule (wpAny_bind (wpAny_field hz rfl (x := .ref TO) rfl ?_)))
  refine wpAny_bind (wpAny_setField_rec hz (by simp) fun g1 z1 b1 => ?_)
  have z1 : IsZip g1 z TI TO .ellipsis := z1
  refine wpAny_bind ?_
  simp only [List.zipIdx_cons, List.zipIdx_nil, List.forIn_cons, List.forIn_nil]
  refine wpAny_bind (wpAny_bind (wpAny_onRaise ?_))
  show wpAny _ _ (Builtin.SmallTypes.nextOf (.ref i1) >>= _) _ _ _
  have n1 : ∀ c, c = i1 ∨ c = l1 → c ≠ z ∧ c ≠ TO ∧ c ≠ i2 := fun c h => by rcases h with h | h <;> subst h <;> exact ⟨by first | exact Da.i1z | exact Da.l1z, by first | exact Da.TOi1.symm | exact Da.l1TO, by first | exact Da.i12 | exact Da.l1i2⟩
  have n2 : ∀ c, c = i2 ∨ c = l2 → c ≠ z ∧ c ≠ TO ∧ c ≠ i1 := fun c h => by rcases h with h | h <;> subst h <;> exact ⟨by first | exact Da.i2z | exact Da.l2z, by first | exact Da.TOi2.symm | exact Da.l2TO, by first | exact Da.i12.symm | exact Da.l2i1⟩
  refine wpAny_bind (P1.item _ _ { s with heap := g1 } k1 x _ (P1.keep _ _ _ h1 fun c hc o e => (b1.2 c (n1 c hc).1).trans e) hx fun g2 s12 b2 => wpAny_pure ?_)
  have t2 : IsPair g2 TO a b := (b2.2 _ Da.TOi1).trans ((b1.2 _ Da.TOz).trans hTO)
  refine wpAny_bind (wpAny_seqItems t2 rfl ?_)
  refine wpAny_bind (wpAny_updateSeq_pair t2 fun g3 t3 b3 => ?_)
  have t3 : IsPair g3 TO x b := t3
  refine wpAny_bind (wpAny_letGo (wpAny_pure ?_))
  refine wpAny_bind (wpAny_bind (wpAny_onRaise ?_))
  show wpAny _ _ (Builtin.SmallTypes.nextOf (.ref i2) >>= _) _ _ _
  refine wpAny_bind (P2.item _ _ { s with heap := g3 } k2 y _ (P2.keep _ _ _ h2 fun c hc o e => (b3.2 c (n2 c hc).2.1).trans ((b2.2 c (n2 c hc).2.2).trans ((b1.2 c (n2 c hc).1).trans e))) hy fun g4 s24 b4 => wpAny_pure ?_)
  have t4 : IsPair g4 TO x b := (b4.2 _ Da.TOi2).trans t3
  refine wpAny_bind (wpAny_seqItems t4 rfl ?_)
  refine wpAny_bind (wpAny_updateSeq_pair t4 fun g5 t5 b5 => ?_)
  have t5 : IsPair g5 TO x y := t5
  refine wpAny_bind (wpAny_letGo (wpAny_pure (wpAny_pure ?_)))
  refine wpAny_bind (wpAny_seqItems t5 rfl (wpAny_bind (wpAny_newTuple ?_)))
  have hsz : g5.objs.size = s.heap.objs.size := by rw [b5.1, b4.1, b3.1, b2.1, b1.1]
  have z5 : IsZip g5 z TI TO .ellipsis := (b5.2 _ Da.TOz.symm).trans ((b4.2 _ Da.i2z.symm).trans ((b3.2 _ Da.TOz.symm).trans ((b2.2 _ Da.i1z.symm).trans z1)))
  have kp : ∀ c o, c ≠ z → c ≠ TO → c ≠ i1 → c ≠ i2 → s.heap.get? c = some o → g5.get? c = some o := fun c o c1 c2 c3 c4 e =>
    (b5.2 _ c2).trans ((b4.2 _ c4).trans ((b3.2 _ c2).trans ((b2.2 _ c3).trans ((b1.2 _ c1).trans e))))
  have s15 : S1 (k1 + 1) g5 := P1.keep _ _ _ s12 fun c hc o e => (b5.2 c (n1 c hc).2.1).trans ((b4.2 c (n1 c hc).2.2).trans ((b3.2 c (n1 c hc).2.1).trans e))
  have s25 : S2 (k2 + 1) g5 := P2.keep _ _ _ s24 fun c hc o e => (b5.2 c (n2 c hc).2.1).trans e
  have zl : z < g5.objs.size := Heap.lt_size z5
  show wpAny _ _ (Builtin.SmallTypes.ownedTupleHandOut (.ref z) (.ref g5.objs.size) >>= _) _ _ _
  refine wpAny_bind ?_
  unfold Builtin.SmallTypes.ownedTupleHandOut
  have z6 : IsZip (g5.push { cls := .type "tuple", data := .seq #[x, y] }) z TI TO .ellipsis := Heap.get?_push_of_some _ z5
  refine wpAny_bind (wpAny_setField_rec z6 (by simp) fun g7 z7 b7 => ?_)
  have z7 : IsZip g7 z TI TO (rawInt g5.objs.size) := z7
  refine wpAny_setField_rec z7 (by simp) fun g8 z8 b8 => ?_
  have z8 : IsZip g8 z TI TO (rawInt g5.objs.size) := z8
  have up : ∀ c o, c ≠ z → g5.get? c = some o → g8.get? c = some o := fun c o c1 e => (b8.2 _ c1).trans ((b7.2 _ c1).trans (Heap.get?_push_of_some _ e))
  have t8 : IsPair g8 g5.objs.size x y := (b8.2 _ (Nat.ne_of_gt zl)).trans ((b7.2 _ (Nat.ne_of_gt zl)).trans (Heap.get?_push_size _ rfl))
  have l8 : g8.objs.size = g5.objs.size + 1 := by rw [b8.1, b7.1, Heap.size_push]
  rw [hsz] at z8 t8 l8
  refine wpAny_pure ⟨_, rfl, ?_⟩
  show Q (.ref g5.objs.size) _
  rw [hsz]
  exact q g8 z8 (up _ _ Da.TOz t5) (P1.keep _ _ _ s15 fun c hc o e => up c o (n1 c hc).1 e) (P2.keep _ _ _ s25 fun c hc o e => up c o (n2 c hc).1 e) t8 l8 fun c o c1 c2 c3 c4 e => up c o c1 (kp c o c1 c2 c3 c4 e)
/-- later pairs, while an earlier tuple is still out -/
theorem zip_later {f : Bool} {oT : Obj} {Q : Value → Shared → Prop} (Da : ZipApart z TI TO i1 i2 l1 l2) (P1 : Sd prog w i1 l1 xs S1) (P2 : Sd prog w i2 l2 ys S2) (hz : IsZipHeld s.heap z TI TO T f) (hT : s.heap.get? T = some oT) (hTI : IsPair s.heap TI (.ref i1) (.ref i2))
    (h1 : S1 k1 s.heap) (h2 : S2 k2 s.heap) (hx : xs[k1]? = some x) (hy : ys[k2]? = some y)
    (q : ∀ g, IsZipHeld g z TI TO T true → S1 (k1 + 1) g → S2 (k2 + 1) g → IsPair g s.heap.objs.size x y → g.objs.size = s.heap.objs.size + 1 →
      (∀ c o, c ≠ z → c ≠ i1 → c ≠ i2 → s.heap.get? c = some o → g.get? c = some o) → Q (.ref s.heap.objs.size) { s with heap := g }) :
    wpAny (model prog w) A (Builtin.«zip.__next__» ⟨[.ref z], []⟩) (fun fin s' => ∃ v, fin = .done (.ret v) ∧ Q v s') E s := by
  show wpAny _ _ (field (.ref z) 2 >>= _) _ _ _
  refine wpAny_bind (wpAny_field hz rfl (x := .bool false) rfl ?_)
  show wpAny _ _ (field (.ref z) 3 >>= _) _ _ _
  refine wpAny_bind (wpAny_field hz rfl (x := .ref TI) rfl (wpAny_bind (wpAny_seqItems hTI rfl ?_)))
  show wpAny _ _ (Builtin.SmallTypes.ownedTupleIsFree (.ref z) >>= _) _ _ _
  refine wpAny_bind (wpAny_tupleHeld_zip hz hT fun g1 z1 b1 => ?_)
  simp only [Bool.false_eq_true, if_false]
  refine wpAny_bind ?_
  rw [← Array.forIn_toList]
  simp only [List.forIn_cons, List.forIn_nil]
  have n1 : ∀ c, c = i1 ∨ c = l1 → c ≠ z ∧ c ≠ i2 := fun c h => by rcases h with h | h <;> subst h <;> exact ⟨by first | exact Da.i1z | exact Da.l1z, by first | exact Da.i12 | exact Da.l1i2⟩
  have n2 : ∀ c, c = i2 ∨ c = l2 → c ≠ z ∧ c ≠ i1 := fun c h => by rcases h with h | h <;> subst h <;> exact ⟨by first | exact Da.i2z | exact Da.l2z, by first | exact Da.i12.symm | exact Da.l2i1⟩
  refine wpAny_bind (wpAny_bind (wpAny_holding ?_))
  show wpAny _ _ (Builtin.SmallTypes.nextOf (.ref i1) >>= _) _ _ _
  refine wpAny_bind (P1.item _ _ { s with heap := g1 } k1 x _ (P1.keep _ _ _ h1 fun c hc o e => (b1.2 c (n1 c hc).1).trans e) hx fun g2 s12 b2 => wpAny_pure (wpAny_pure ?_))
  refine wpAny_bind (wpAny_bind (wpAny_holding ?_))
  show wpAny _ _ (Builtin.SmallTypes.nextOf (.ref i2) >>= _) _ _ _
  refine wpAny_bind (P2.item _ _ { s with heap := g2 } k2 y _ (P2.keep _ _ _ h2 fun c hc o e => (b2.2 c (n2 c hc).2).trans ((b1.2 c (n2 c hc).1).trans e)) hy fun g3 s23 b3 => wpAny_pure (wpAny_pure (wpAny_pure ?_)))
  show wpAny _ _ (newTuple [x, y] >>= _) _ _ _
  refine wpAny_bind (wpAny_newTuple ?_)
  have hsz : g3.objs.size = s.heap.objs.size := by rw [b3.1, b2.1, b1.1]
  have z3 : IsZipHeld g3 z TI TO T true := (b3.2 _ Da.i2z.symm).trans ((b2.2 _ Da.i1z.symm).trans z1)
  have kp : ∀ c o, c ≠ z → c ≠ i1 → c ≠ i2 → s.heap.get? c = some o → g3.get? c = some o := fun c o c1 c2 c3 e => (b3.2 _ c3).trans ((b2.2 _ c2).trans ((b1.2 _ c1).trans e))
  have s13 : S1 (k1 + 1) g3 := P1.keep _ _ _ s12 fun c hc o e => (b3.2 c (n1 c hc).2).trans e
  refine wpAny_pure ⟨_, rfl, ?_⟩
  show Q (.ref g3.objs.size) _
  have hp : IsPair (g3.push { cls := .type "tuple", data := .seq #[x, y] }) g3.objs.size x y := Heap.get?_push_size _ rfl
  have l4 : (g3.push { cls := .type "tuple", data := .seq #[x, y] }).objs.size = g3.objs.size + 1 := Heap.size_push ..
  rw [hsz] at hp l4 ⊢
  exact q _ (Heap.get?_push_of_some _ z3) (P1.keep _ _ _ s13 fun c hc o e => Heap.get?_push_of_some _ e) (P2.keep _ _ _ s23 fun c hc o e => Heap.get?_push_of_some _ e) hp l4 fun c o c1 c2 c3 e => Heap.get?_push_of_some _ (kp c o c1 c2 c3 e)
/-- the end, either way -/
theorem zip_stop {a b : Value} {Q : Fin → Shared → Prop} (hh : A.handled = none) (Da : ZipApart z TI TO i1 i2 l1 l2) (P1 : Sd prog w i1 l1 xs S1) (P2 : Sd prog w i2 l2 ys S2) (hz : IsZip s.heap z TI TO .none) (hTI : IsPair s.heap TI (.ref i1) (.ref i2)) (hTO : IsPair s.heap TO a b)
    (h1 : S1 k1 s.heap) (h2 : S2 k2 s.heap) (hend : xs[k1]? = none ∨ ys[k2]? = none)
    (q : ∀ g e, (∀ c o, c ≠ z → c ≠ TO → c ≠ i1 → c ≠ i2 → s.heap.get? c = some o → g.get? c = some o) → (∃ o, g.get? e = some o ∧ o.cls = .type "StopIteration") → E (.ref e) { s with heap := g }) :
    wpAny (model prog w) A (Builtin.«zip.__next__» ⟨[.ref z], []⟩) Q E s := by
  show wpAny _ _ (field (.ref z) 2 >>= _) _ _ _
  refine wpAny_bind (wpAny_field hz rfl (x := .bool false) rfl ?_)
  show wpAny _ _ (field (.ref z) 3 >>= _) _ _ _
  refine wpAny_bind (wpAny_field hz rfl (x := .ref TI) rfl (wpAny_bind (wpAny_seqItems hTI rfl ?_)))
  show wpAny _ _ (Builtin.SmallTypes.ownedTupleIsFree (.ref z) >>= _) _ _ _
  refine wpAny_bind ?_
  unfold Builtin.SmallTypes.ownedTupleIsFree
  refine wpAny_bind (wpAny_field hz rfl (x := .none) rfl (wpAny_pure ?_))
  simp only [if_true]
  refine wpAny_bind (wpAny_rule (wpAny_bind (wpAny_field hz rfl (x := .ref TO) rfl ?_)))
  refine wpAny_bind (wpAny_setField_rec hz (by simp) fun g1 z1 b1 => ?_)
  have z1 : IsZip g1 z TI TO .ellipsis := z1
  refine wpAny_bind ?_
  simp only [List.zipIdx_cons, List.zipIdx_nil, List.forIn_cons, List.forIn_nil]
  have n1 : ∀ c, c = i1 ∨ c = l1 → c ≠ z := fun c h => by rcases h with h | h <;> subst h <;> first | exact Da.i1z | exact Da.l1z
  have n2 : ∀ c, c = i2 ∨ c = l2 → c ≠ z ∧ c ≠ TO ∧ c ≠ i1 := fun c h => by rcases h with h | h <;> subst h <;> exact ⟨by first | exact Da.i2z | exact Da.l2z, by first | exact Da.TOi2.symm | exact Da.l2TO, by first | exact Da.i12.symm | exact Da.l2i1⟩
  refine wpAny_bind (wpAny_bind (wpAny_onRaise ?_))
  show wpAny _ _ (Builtin.SmallTypes.nextOf (.ref i1) >>= _) _ _ _
  have h11 : S1 k1 g1 := P1.keep _ _ _ h1 fun c hc o e => (b1.2 c (n1 c hc)).trans e
  cases hx : xs[k1]? with
  | none =>
    refine wpAny_bind (P1.stop _ _ { s with heap := g1 } k1 _ hh h11 hx fun g2 e b2 he => ?_)
    obtain ⟨oe, hoe, hce⟩ := he
    have z2 : IsZip g2 z TI TO .ellipsis := b2 _ _ Da.i1z.symm z1
    have ez : e ≠ z := fun x => by subst x; rw [z2] at hoe; cases hoe; simp at hce
    exact wpAny_setField_rec z2 (by simp) fun g3 _ b3 => q g3 e (fun c o c1 _ c3 _ x => (b3.2 _ c1).trans (b2 _ _ c3 ((b1.2 _ c1).trans x))) ⟨oe, (b3.2 _ ez).trans hoe, hce⟩
  | some x =>
    have hy : ys[k2]? = none := by rcases hend with h | h; rw [hx] at h; cases h; exact h
    refine wpAny_bind (P1.item _ _ { s with heap := g1 } k1 x _ h11 hx fun g2 s12 b2 => wpAny_pure ?_)
    have t2 : IsPair g2 TO a b := (b2.2 _ Da.TOi1).trans ((b1.2 _ Da.TOz).trans hTO)
    refine wpAny_bind (wpAny_seqItems t2 rfl ?_)
    refine wpAny_bind (wpAny_updateSeq_pair t2 fun g3 t3 b3 => ?_)
    refine wpAny_bind (wpAny_letGo (wpAny_pure ?_))
    refine wpAny_bind (wpAny_bind (wpAny_onRaise ?_))
    show wpAny _ _ (Builtin.SmallTypes.nextOf (.ref i2) >>= _) _ _ _
    refine wpAny_bind (P2.stop _ _ { s with heap := g3 } k2 _ hh (P2.keep _ _ _ h2 fun c hc o e => (b3.2 c (n2 c hc).2.1).trans ((b2.2 c (n2 c hc).2.2).trans ((b1.2 c (n2 c hc).1).trans e))) hy fun g4 e b4 he => ?_)
    obtain ⟨oe, hoe, hce⟩ := he
    have z4 : IsZip g4 z TI TO .ellipsis := b4 _ _ Da.i2z.symm ((b3.2 _ Da.TOz.symm).trans ((b2.2 _ Da.i1z.symm).trans z1))
    have ez : e ≠ z := fun x => by subst x; rw [z4] at hoe; cases hoe; simp at hce
    exact wpAny_setField_rec z4 (by simp) fun g5 _ b5 => q g5 e (fun c o c1 c2 c3 c4 x => (b5.2 _ c1).trans (b4 _ _ c4 ((b3.2 _ c2).trans ((b2.2 _ c3).trans ((b1.2 _ c1).trans x))))) ⟨oe, (b5.2 _ ez).trans hoe, hce⟩
theorem zip_stopH {f : Bool} {oT : Obj} {Q : Fin → Shared → Prop} (hh : A.handled = none) (Da : ZipApart z TI TO i1 i2 l1 l2) (P1 : Sd prog w i1 l1 xs S1) (P2 : Sd prog w i2 l2 ys S2) (hz : IsZipHeld s.heap z TI TO T f) (hT : s.heap.get? T = some oT) (hTI : IsPair s.heap TI (.ref i1) (.ref i2))
    (h1 : S1 k1 s.heap) (h2 : S2 k2 s.heap) (hend : xs[k1]? = none ∨ ys[k2]? = none)
    (q : ∀ g e, (∀ c o, c ≠ z → c ≠ i1 → c ≠ i2 → s.heap.get? c = some o → g.get? c = some o) → (∃ o, g.get? e = some o ∧ o.cls = .type "StopIteration") → E (.ref e) { s with heap := g }) :
    wpAny (model prog w) A (Builtin.«zip.__next__» ⟨[.ref z], []⟩) Q E s := by
  show wpAny _ _ (field (.ref z) 2 >>= _) _ _ _
  refine wpAny_bind (wpAny_field hz rfl (x := .bool false) rfl ?_)
  show wpAny _ _ (field (.ref z) 3 >>= _) _ _ _
  refine wpAny_bind (wpAny_field hz rfl (x := .ref TI) rfl (wpAny_bind (wpAny_seqItems hTI rfl ?_)))
  show wpAny _ _ (Builtin.SmallTypes.ownedTupleIsFree (.ref z) >>= _) _ _ _
  refine wpAny_bind (wpAny_tupleHeld_zip hz hT fun g1 z1 b1 => ?_)
  simp only [Bool.false_eq_true, if_false]
  refine wpAny_bind ?_
  rw [← Array.forIn_toList]
  simp only [List.forIn_cons, List.forIn_nil]
  have n1 : ∀ c, c = i1 ∨ c = l1 → c ≠ z := fun c h => by rcases h with h | h <;> subst h <;> first | exact Da.i1z | exact Da.l1z
  have n2 : ∀ c, c = i2 ∨ c = l2 → c ≠ z ∧ c ≠ i1 := fun c h => by rcases h with h | h <;> subst h <;> exact ⟨by first | exact Da.i2z | exact Da.l2z, by first | exact Da.i12.symm | exact Da.l2i1⟩
  refine wpAny_bind (wpAny_bind (wpAny_holding ?_))
  show wpAny _ _ (Builtin.SmallTypes.nextOf (.ref i1) >>= _) _ _ _
  have h11 : S1 k1 g1 := P1.keep _ _ _ h1 fun c hc o e => (b1.2 c (n1 c hc)).trans e
  cases hx : xs[k1]? with
  | none =>
    exact wpAny_bind (P1.stop _ _ { s with heap := g1 } k1 _ hh h11 hx fun g2 e b2 he => q g2 e (fun c o c1 c2 _ x => b2 _ _ c2 ((b1.2 _ c1).trans x)) he)
  | some x =>
    have hy : ys[k2]? = none := by rcases hend with h | h; rw [hx] at h; cases h; exact h
    refine wpAny_bind (P1.item _ _ { s with heap := g1 } k1 x _ h11 hx fun g2 s12 b2 => wpAny_pure (wpAny_pure ?_))
    refine wpAny_bind (wpAny_bind (wpAny_holding ?_))
    show wpAny _ _ (Builtin.SmallTypes.nextOf (.ref i2) >>= _) _ _ _
    exact wpAny_bind (P2.stop _ _ { s with heap := g2 } k2 _ hh (P2.keep _ _ _ h2 fun c hc o e => (b2.2 c (n2 c hc).2).trans ((b1.2 c (n2 c hc).1).trans e)) hy fun g3 e b3 he => q g3 e (fun c o c1 c2 c3 x => b3 _ _ c3 ((b2.2 _ c2).trans ((b1.2 _ c1).trans x))) he)
end
end Co
end

section
set_option Elab.async false
set_option linter.all false
set_option maxRecDepth 100000
set_option autoImplicit false
namespace Co
open PySem PyProof.Rows
variable [Tbs]

section
variable {prog : Program} {w : World} {A : Around} {E : Value → Shared → Prop} {s : Shared}
/-! ### zip(a list, a tuple) made -/
abbrev zm1 (h : Heap) (l1 : Addr) : Heap := h.push { cls := .type "list_iterator", data := .fields #[.ref l1, .int 0 0] }
abbrev zm2 (h : Heap) (l1 l2 : Addr) : Heap := (zm1 h l1).push { cls := .type "tuple_iterator", data := .fields #[.ref l2, .int 0 0] }
abbrev zm3 (h : Heap) (l1 l2 : Addr) : Heap := (zm2 h l1 l2).push { cls := .type "tuple", data := .seq #[.ref h.objs.size, .ref (zm1 h l1).objs.size] }
abbrev zm4 (h : Heap) (l1 l2 : Addr) : Heap := (zm3 h l1 l2).push { cls := .type "tuple", data := .seq #[.none, .none] }
abbrev zm5 (h : Heap) (l1 l2 : Addr) : Heap := (zm4 h l1 l2).push { cls := .type "zip", data := .fields #[.none, .bool false, .bool false, .ref (zm2 h l1 l2).objs.size, .ref (zm3 h l1 l2).objs.size] }
theorem meets_zip_lt (l1 l2 : Addr) (xs ys : Array Value) :
    Meets (Builtin.«zip.__new__» ⟨[.type "zip", .ref l1, .ref l2], []⟩) (fun _ R s => s.heap.IsList l1 xs ∧ s.heap.IsTuple l2 ys ∧
      R (.ok (.ret (.ref (zm4 s.heap l1 l2).objs.size))) { s with heap := zm5 s.heap l1 l2 }) :=
  .of_wp fun prog w A R s h => by
    obtain ⟨hp, g, d, tk, os⟩ := s; obtain ⟨hl1, hl2, h⟩ := h
    have hsub := sub_zip
    have e1 : Heap.IsList (Shared.heap ⟨hp, g, d, tk, os⟩) l1 xs := hl1
    have e2 : Heap.IsTuple (Shared.heap ⟨hp.push { cls := .type "list_iterator", data := .fields #[.ref l1, .int 0 0] }, g, d, tk, os⟩) l2 ys := Heap.IsTuple.push hl2 _
    wp_walk using wpAny_pyIter_list e1, wpAny_pyIter_tuple e2
    exact ⟨_, rfl, h⟩
theorem call_zip_lt {l1 l2 : Addr} {xs ys : Array Value} {Q : Value → Shared → Prop} (hl1 : s.heap.IsList l1 xs) (hl2 : s.heap.IsTuple l2 ys)
    (h : ∀ g, IsZip g (s.heap.objs.size + 4) (s.heap.objs.size + 2) (s.heap.objs.size + 3) .none → IsPair g (s.heap.objs.size + 2) (.ref s.heap.objs.size) (.ref (s.heap.objs.size + 1)) →
      IsPair g (s.heap.objs.size + 3) .none .none → g.IsListIter s.heap.objs.size l1 0 → g.IsTupleIter (s.heap.objs.size + 1) l2 0 → g.objs.size = s.heap.objs.size + 5 →
      (∀ c o, s.heap.get? c = some o → g.get? c = some o) → Q (.ref (s.heap.objs.size + 4)) { s with heap := g }) :
    wpAny (model prog w) A (call (.type "zip") [.ref l1, .ref l2]) Q E s := by
  refine callType_new F.called_zip (by decide) (F.typeCall_zip_2 _ _) (F.newCall_zip_2 _ _) (fun obj => F.args_object_init_3 obj _ _) F.entry_zip_new (meets_zip_lt l1 l2 xs ys) ⟨hl1, hl2, ?_⟩
  have e1 : (zm1 s.heap l1).objs.size = s.heap.objs.size + 1 := Heap.size_push ..
  have e2 : (zm2 s.heap l1 l2).objs.size = s.heap.objs.size + 2 := by rw [Heap.size_push, e1]
  have e3 : (zm3 s.heap l1 l2).objs.size = s.heap.objs.size + 3 := by rw [Heap.size_push, e2]
  have e4 : (zm4 s.heap l1 l2).objs.size = s.heap.objs.size + 4 := by rw [Heap.size_push, e3]
  have e5 : (zm5 s.heap l1 l2).objs.size = s.heap.objs.size + 5 := by rw [Heap.size_push, e4]
  have up : ∀ {h : Heap} {c : Addr} {o o' : Obj}, h.get? c = some o → (h.push o').get? c = some o := fun z => Heap.get?_push_of_some _ z
  have g5 : (zm5 s.heap l1 l2).get? (zm4 s.heap l1 l2).objs.size = some _ := Heap.get?_push_size _ rfl
  have g4 : (zm5 s.heap l1 l2).get? (zm3 s.heap l1 l2).objs.size = some _ := up (Heap.get?_push_size _ rfl)
  have g3 : (zm5 s.heap l1 l2).get? (zm2 s.heap l1 l2).objs.size = some _ := up (up (Heap.get?_push_size _ rfl))
  have g2 : (zm5 s.heap l1 l2).get? (zm1 s.heap l1).objs.size = some _ := up (up (up (Heap.get?_push_size _ rfl)))
  have g1 : (zm5 s.heap l1 l2).get? s.heap.objs.size = some _ := up (up (up (up (Heap.get?_push_size _ rfl))))
  show _ ∧ _
  rw [e2, e3, e4] at g5
  rw [e1, e2] at g3
  rw [e3] at g4
  rw [e1] at g2
  rw [e4]
  exact ⟨⟨_, g5, rfl⟩, h _ g5 g3 g4 ⟨_, g1, rfl, rfl⟩ ⟨_, g2, rfl, rfl⟩ e5 fun c o x => up (up (up (up (up x))))⟩
/-- a list or a tuple -/
def IsSq (b : Bool) (h : Heap) (l : Addr) (xs : Array Value) : Prop := if b = true then h.IsList l xs else h.IsTuple l xs
/-- a zip just made -/
structure ZNew (prog : Program) (w : World) (s : Shared) (z TI TO i1 i2 l1 l2 : Addr) (xs ys : Array Value) (S1 S2 : Nat → Heap → Prop) (g : Heap) : Prop where
  p1 : Sd prog w i1 l1 xs S1
  p2 : Sd prog w i2 l2 ys S2
  ap : ZipApart z TI TO i1 i2 l1 l2
  hz : IsZip g z TI TO .none
  ti : IsPair g TI (.ref i1) (.ref i2)
  to : IsPair g TO .none .none
  s1 : S1 0 g
  s2 : S2 0 g
  kp : ∀ c o, s.heap.get? c = some o → g.get? c = some o
  ge : s.heap.objs.size ≤ z ∧ s.heap.objs.size ≤ TI ∧ s.heap.objs.size ≤ TO ∧ s.heap.objs.size ≤ i1 ∧ s.heap.objs.size ≤ i2
theorem apart_new {n l1 l2 : Nat} (h1 : l1 < n) (h2 : l2 < n) : ZipApart (n + 4) (n + 2) (n + 3) n (n + 1) l1 l2 := by
  constructor <;> (intro (e : (_ : Nat) = _); omega)
theorem IsList.lt {h : Heap} {l : Addr} {xs : Array Value} (x : h.IsList l xs) : l < h.objs.size := let ⟨_, e, _⟩ := x; Heap.lt_size e
theorem IsTuple.lt {h : Heap} {l : Addr} {xs : Array Value} (x : h.IsTuple l xs) : l < h.objs.size := let ⟨_, e, _⟩ := x; Heap.lt_size e
theorem call_zip_any {b1 b2 : Bool} {l1 l2 : Addr} {xs ys : Array Value} {Q : Value → Shared → Prop} (hb : b1 = true ∨ b2 = false) (hl1 : IsSq b1 s.heap l1 xs) (hl2 : IsSq b2 s.heap l2 ys)
    (h : ∀ z TI TO i1 i2 S1 S2 g, ZNew prog w s z TI TO i1 i2 l1 l2 xs ys S1 S2 g → Q (.ref z) { s with heap := g }) : wpAny (model prog w) A (call (.type "zip") [.ref l1, .ref l2]) Q E s := by
  cases b1 with
  | true =>
    have hl1 : s.heap.IsList l1 xs := hl1
    cases b2 with
    | true =>
      have hl2 : s.heap.IsList l2 ys := hl2
      exact call_zip_2 hl1 hl2 fun g a1 a2 a3 a4 a5 a6 a7 => h _ _ _ _ _ _ _ g ⟨sd_list _ _ xs, sd_list _ _ ys, apart_new (IsList.lt hl1) (IsList.lt hl2), a1, a2, a3, ⟨a4, hl1.at fun o z => a7 _ o z⟩, ⟨a5, hl2.at fun o z => a7 _ o z⟩, a7, by omega⟩
    | false =>
      have hl2 : s.heap.IsTuple l2 ys := hl2
      exact call_zip_lt hl1 hl2 fun g a1 a2 a3 a4 a5 a6 a7 => h _ _ _ _ _ _ _ g ⟨sd_list _ _ xs, sd_tuple _ _ ys, apart_new (IsList.lt hl1) (IsTuple.lt hl2), a1, a2, a3, ⟨a4, hl1.at fun o z => a7 _ o z⟩, ⟨a5, hl2.at fun o z => a7 _ o z⟩, a7, by omega⟩
  | false =>
    have hl1 : s.heap.IsTuple l1 xs := hl1
    cases b2 with
    | true => rcases hb with z | z <;> cases z
    | false =>
      have hl2 : s.heap.IsTuple l2 ys := hl2
      exact RZ.call_zipT hl1 hl2 fun g a1 a2 a3 a4 a5 a6 a7 => h _ _ _ _ _ _ _ g ⟨sd_tuple _ _ xs, sd_tuple _ _ ys, apart_new (IsTuple.lt hl1) (IsTuple.lt hl2), a1, a2, a3, ⟨a4, hl1.at fun o z => a7 _ o z⟩, ⟨a5, hl2.at fun o z => a7 _ o z⟩, a7, by omega⟩
end
section
variable {prog : Program} {w : World} {A : Around} {E : Value → Shared → Prop} {s : Shared} {z TI TO i1 i2 l1 l2 T : Addr} {xs ys : Array Value} {S1 S2 : Nat → Heap → Prop} {k1 k2 : Nat} {x y : Value}
/-! ### next(zip) -/
/-- where a zip stands whose tuples may be out; off: addresses that its tuple is not -/
def Zat (z TI TO i1 i2 : Addr) (S1 S2 : Nat → Heap → Prop) (d : Addr) (i : Nat) (h : Heap) : Prop := IsPair h TI (.ref i1) (.ref i2) ∧ S1 i h ∧ S2 i h ∧
  ((IsZip h z TI TO .none ∧ ∃ a b, IsPair h TO a b) ∨ ∃ T f oT, IsZipHeld h z TI TO T f ∧ h.get? T = some oT ∧ T ≠ z ∧ T ≠ i1 ∧ T ≠ i2 ∧ T ≠ d)
theorem zat_item {d : Addr} {k : Nat} {Q : Option Value → Shared → Prop} (Da : ZipApart z TI TO i1 i2 l1 l2) (P1 : Sd prog w i1 l1 xs S1) (P2 : Sd prog w i2 l2 ys S2) (st : Zat z TI TO i1 i2 S1 S2 d k s.heap) (hd : d < s.heap.objs.size) (hx : xs[k]? = some x) (hy : ys[k]? = some y)
    (q : ∀ g, Zat z TI TO i1 i2 S1 S2 d (k + 1) g → IsPair g s.heap.objs.size x y → (∀ c o, c ≠ z → c ≠ TO → c ≠ i1 → c ≠ i2 → s.heap.get? c = some o → g.get? c = some o) → Q (some (.ref s.heap.objs.size)) { s with heap := g }) :
    wpAny (model prog w) A (pyNext (.ref z)) Q E s := by
  obtain ⟨hTI, h1, h2, hz⟩ := st
  have lt : ∀ {c : Addr} {o : Obj}, s.heap.get? c = some o → s.heap.objs.size ≠ c := fun e => Nat.ne_of_gt (Heap.lt_size e)
  have m1 : s.heap.objs.size ≠ i1 := let ⟨o, e⟩ := (P1.has _ _ h1).1; lt e
  have m2 : s.heap.objs.size ≠ i2 := let ⟨o, e⟩ := (P2.has _ _ h2).1; lt e
  rcases hz with ⟨hz, a, b, hTO⟩ | ⟨T, f, oT, hz, hT, r1, r2, r3, r4⟩
  · have ty : s.TypeIs (.ref z) "zip" := ⟨_, hz, rfl⟩
    unfold pyNext
    refine wpAny_bind (wpAny_attempt (wpAny_callSpecial?_slot (name := Str.ofString "__next__") ty F.slot_zip_next (wpAny_call_entry F.slot_zip_next ty F.entry_zip_next
      (zip_first Da P1 P2 hz hTI hTO h1 h2 hx hy fun g a1 a2 a3 a4 a5 a6 kp => wpAny_pure ?_) (F.args_zip_next_1 _))))
    exact q g ⟨kp _ _ Da.TIz Da.TITO Da.TIi1 Da.TIi2 hTI, a3, a4, .inr ⟨s.heap.objs.size, false, _, a1, a5, lt hz, m1, m2, Nat.ne_of_gt hd⟩⟩ a5 kp
  · have ty : s.TypeIs (.ref z) "zip" := ⟨_, hz, rfl⟩
    unfold pyNext
    refine wpAny_bind (wpAny_attempt (wpAny_callSpecial?_slot (name := Str.ofString "__next__") ty F.slot_zip_next (wpAny_call_entry F.slot_zip_next ty F.entry_zip_next
      (zip_later Da P1 P2 hz hT hTI h1 h2 hx hy fun g a1 a3 a4 a5 a6 kp => wpAny_pure ?_) (F.args_zip_next_1 _))))
    exact q g ⟨kp _ _ Da.TIz Da.TIi1 Da.TIi2 hTI, a3, a4, .inr ⟨T, true, oT, a1, kp _ _ r1 r2 r3 hT, r1, r2, r3, r4⟩⟩ a5 fun c o c1 _ c3 c4 e => kp c o c1 c3 c4 e
theorem zat_stop {d : Addr} {k : Nat} {Q : Option Value → Shared → Prop} (hh : A.handled = none) (Da : ZipApart z TI TO i1 i2 l1 l2) (P1 : Sd prog w i1 l1 xs S1) (P2 : Sd prog w i2 l2 ys S2) (st : Zat z TI TO i1 i2 S1 S2 d k s.heap) (hend : xs[k]? = none ∨ ys[k]? = none)
    (q : ∀ g, (∀ c o, c ≠ z → c ≠ TO → c ≠ i1 → c ≠ i2 → s.heap.get? c = some o → g.get? c = some o) → Q none { s with heap := g }) : wpAny (model prog w) A (pyNext (.ref z)) Q E s := by
  obtain ⟨hTI, h1, h2, hz⟩ := st
  rcases hz with ⟨hz, a, b, hTO⟩ | ⟨T, f, oT, hz, hT, r1, r2, r3, r4⟩
  · have ty : s.TypeIs (.ref z) "zip" := ⟨_, hz, rfl⟩
    unfold pyNext
    refine wpAny_bind (wpAny_attempt (wpAny_callSpecial?_slot (name := Str.ofString "__next__") ty F.slot_zip_next (wpAny_call_entry F.slot_zip_next ty F.entry_zip_next
      (zip_stop hh Da P1 P2 hz hTI hTO h1 h2 hend fun g e kp he => ?_) (F.args_zip_next_1 _))))
    obtain ⟨o, ho, hc⟩ := he
    exact wpAny_bind (wpAny_isInstance (T := "StopIteration") (b := true) ⟨o, ho, hc⟩ isSubtype_stop (wpAny_pure (q _ kp)))
  · have ty : s.TypeIs (.ref z) "zip" := ⟨_, hz, rfl⟩
    unfold pyNext
    refine wpAny_bind (wpAny_attempt (wpAny_callSpecial?_slot (name := Str.ofString "__next__") ty F.slot_zip_next (wpAny_call_entry F.slot_zip_next ty F.entry_zip_next
      (zip_stopH hh Da P1 P2 hz hT hTI h1 h2 hend fun g e kp he => ?_) (F.args_zip_next_1 _))))
    obtain ⟨o, ho, hc⟩ := he
    exact wpAny_bind (wpAny_isInstance (T := "StopIteration") (b := true) ⟨o, ho, hc⟩ isSubtype_stop (wpAny_pure (q _ fun c o c1 _ c3 c4 e => kp c o c1 c3 c4 e)))
theorem Zat.keep {d : Addr} {i : Nat} {h g : Heap} (P1 : Sd prog w i1 l1 xs S1) (P2 : Sd prog w i2 l2 ys S2) (st : Zat z TI TO i1 i2 S1 S2 d i h) (nd : d ≠ z ∧ d ≠ TI ∧ d ≠ TO ∧ d ≠ i1 ∧ d ≠ i2 ∧ d ≠ l1 ∧ d ≠ l2) (kp : ∀ b o, b ≠ d → h.get? b = some o → g.get? b = some o) : Zat z TI TO i1 i2 S1 S2 d i g := by
  obtain ⟨hTI, h1, h2, hz⟩ := st
  obtain ⟨d1, d2, d3, d4, d5, d6, d7⟩ := nd
  refine ⟨kp _ _ d2.symm hTI, P1.keep _ _ _ h1 fun b hb o e => kp b o (by rcases hb with rfl | rfl; exact d4.symm; exact d6.symm) e, P2.keep _ _ _ h2 fun b hb o e => kp b o (by rcases hb with rfl | rfl; exact d5.symm; exact d7.symm) e, ?_⟩
  rcases hz with ⟨hz, a, b, hTO⟩ | ⟨T, f, oT, hz, hT, r1, r2, r3, r4⟩
  · exact .inl ⟨kp _ _ d1.symm hz, a, b, kp _ _ d3.symm hTO⟩
  · exact .inr ⟨T, f, oT, kp _ _ d1.symm hz, kp _ _ r4 hT, r1, r2, r3, r4⟩
theorem min_none {n : Nat} (hn : n = min xs.size ys.size) : xs[n]? = none ∨ ys[n]? = none := by
  rcases Nat.le_total xs.size ys.size with h | h
  · exact .inl (Array.getElem?_eq_none (by omega))
  · exact .inr (Array.getElem?_eq_none (by omega))
/-! ### dict(zip(..)) -/
theorem pairs_zip (Da : ZipApart z TI TO i1 i2 l1 l2) (P1 : Sd prog w i1 l1 xs S1) (P2 : Sd prog w i2 l2 ys S2) :
    PairArg prog w "zip" z [z, TI, TO, i1, i2, l1, l2] [z, TO, i1, i2] (min xs.size ys.size) (fun i k v => xs[i]? = some k ∧ ys[i]? = some v)
      (fun h => IsZip h z TI TO .none ∧ IsPair h TI (.ref i1) (.ref i2) ∧ (∃ a b, IsPair h TO a b) ∧ S1 0 h ∧ S2 0 h) where
  type := fun s ok => ⟨_, ok.1, rfl⟩
  notDict := by decide
  keep := fun h g ok kp => by
    obtain ⟨hz, hTI, ⟨a, b, hTO⟩, h1, h2⟩ := ok
    exact ⟨kp _ _ hz, kp _ _ hTI, ⟨a, b, kp _ _ hTO⟩, P1.keep _ _ _ h1 fun c _ o e => kp c o e, P2.keep _ _ _ h2 fun c _ o e => kp c o e⟩
  there := fun h ok b hb => by
    obtain ⟨hz, hTI, ⟨a, c, hTO⟩, h1, h2⟩ := ok
    simp only [List.mem_cons, List.not_mem_nil, or_false] at hb
    rcases hb with rfl | rfl | rfl | rfl | rfl | rfl | rfl
    · exact ⟨_, hz⟩
    · exact ⟨_, hTI⟩
    · exact ⟨_, hTO⟩
    · exact (P1.has _ _ h1).1
    · exact (P2.has _ _ h2).1
    · exact (P1.has _ _ h1).2
    · exact (P2.has _ _ h2).2
  sub := fun b hb => by simp at hb ⊢; rcases hb with rfl | rfl | rfl | rfl <;> simp
  noKeys := fun A s Q E hA ok h => getAttrOr_miss_zip ok.1 rfl rfl rfl zip_no_keys (by decide +kernel) hA h
  iter := fun A s d Q E hA ok hd hdf h => by
    obtain ⟨hz, hTI, ⟨a, b, hTO⟩, h1, h2⟩ := ok
    simp only [List.mem_cons, List.not_mem_nil, or_false, not_or] at hdf
    refine wpAny_pyIter_zip hz (h z [z, TO, i1, i2] (Zat z TI TO i1 i2 S1 S2 d) s.heap s.toks ?_ ⟨hTI, h1, h2, .inl ⟨hz, a, b, hTO⟩⟩ (fun _ _ e => e) fun b hb => .inl hb)
    exact {
      off := fun hm => by
        simp only [List.mem_cons, List.not_mem_nil, or_false] at hm
        rcases hm with e | e | e | e
        · exact hdf.1 e
        · exact hdf.2.2.1 e
        · exact hdf.2.2.2.1 e
        · exact hdf.2.2.2.2.1 e
      frame := fun i h g st kp => st.keep P1 P2 hdf kp
      item := fun i s1 Q1 E1 hi st hds q => by
        have ex := Array.getElem?_eq_getElem (xs := xs) (i := i) (by omega)
        have ey := Array.getElem?_eq_getElem (xs := ys) (i := i) (by omega)
        refine zat_item Da P1 P2 st hds ex ey fun g st' p kp => ?_
        exact q s1.heap.objs.size _ _ g s1.toks ⟨ex, ey⟩ (.inl ⟨_, p, rfl, _, rfl⟩) st' fun c o hc e => kp c o (fun x => hc (by simp [x])) (fun x => hc (by simp [x])) (fun x => hc (by simp [x])) (fun x => hc (by simp [x])) e
      done := fun s1 Q1 E1 st q => zat_stop hA Da P1 P2 st (min_none rfl) fun g kp => q g s1.toks fun c o hc e => kp c o (fun x => hc (by simp [x])) (fun x => hc (by simp [x])) (fun x => hc (by simp [x])) (fun x => hc (by simp [x])) e }
end
end Co
end

section
set_option Elab.async false
set_option linter.all false
set_option maxRecDepth 100000
set_option autoImplicit false
namespace Co
open PySem PyProof.Rows
variable [Tbs]

section
variable {prog : Program} {w : World} {A : Around} {E : Value → Shared → Prop} {s : Shared} {z TI TO i1 i2 l1 l2 S : Addr} {xs ys : Array Value} {S1 S2 : Nat → Heap → Prop}
theorem zip_nolen : typeLookup (.type "zip") "__len__" = pure none := am_miss_of_fast (by decide +kernel)
theorem zip_nohint : typeLookup (.type "zip") "__length_hint__" = pure none := am_miss_of_fast (by decide +kernel)
theorem hint_zip {r : Addr} {Q : Bool → Shared → Prop} (hT : s.TypeIs (.ref r) "zip") (h : Q true s) : wpAny (model prog w) A (Builtin.List.listLengthHint (.ref r)) Q E s := by
  unfold Builtin.List.listLengthHint
  refine wpAny_bind (wpAny_specialOf hT zip_nolen ?_)
  exact wpAny_bind (wpAny_specialOf hT zip_nohint (wpAny_pure h))
/-- the tuples drawn so far -/
structure Drw (xs ys : Array Value) (lo : Addr) (h : Heap) (as : List Addr) : Prop where
  above : ∀ a ∈ as, lo ≤ a
  nd : as.Nodup
  pairs : ∀ (j : Nat) (a : Addr), as[j]? = some a → ∃ x y, xs[j]? = some x ∧ ys[j]? = some y ∧ IsPair h a x y
theorem Drw.keep {lo : Addr} {h g : Heap} {as : List Addr} (d : Drw xs ys lo h as) (kp : ∀ b o, lo ≤ b → h.get? b = some o → g.get? b = some o) : Drw xs ys lo g as :=
  ⟨d.above, d.nd, fun j a hj => let ⟨x, y, e1, e2, e3⟩ := d.pairs j a hj; ⟨x, y, e1, e2, kp _ _ (d.above a (List.mem_of_getElem? hj)) e3⟩⟩
theorem zl_loop (Da : ZipApart z TI TO i1 i2 l1 l2) (P1 : Sd prog w i1 l1 xs S1) (P2 : Sd prog w i2 l2 ys S2) (hh : A.handled = none) (res : Value) {lo : Addr} {h0 : Heap} {R : Result → Shared → Prop} (nS : S ≠ z ∧ S ≠ TI ∧ S ≠ TO ∧ S ≠ i1 ∧ S ≠ i2 ∧ S ≠ l1 ∧ S ≠ l2)
    (bz : z < lo ∧ TO < lo ∧ i1 < lo ∧ i2 < lo ∧ S < lo) (hn : min xs.size ys.size ≤ sizeLine)
    (hR : ∀ g tk acc c as, (∀ b o, b ≠ S → b ≠ z → b ≠ TO → b ≠ i1 → b ≠ i2 → h0.get? b = some o → g.get? b = some o) → g.get? S = some { cls := .type "list", dict := none, data := .seq acc c, slots := #[] } → as.length = min xs.size ys.size → Drw xs ys lo g as → acc.toList = as.map Value.ref →
      R (.ok (.ret res)) { s with heap := g, toks := tk }) :
    ∀ (k i : Nat) (h : Heap) (tk c : Nat) (acc : Array Value) (as : List Addr), min xs.size ys.size - i = k → i ≤ min xs.size ys.size → Zat z TI TO i1 i2 S1 S2 S i h → (∀ b o, b ≠ S → b ≠ z → b ≠ TO → b ≠ i1 → b ≠ i2 → h0.get? b = some o → h.get? b = some o) →
      h.get? S = some { cls := .type "list", dict := none, data := .seq acc c, slots := #[] } → acc.toList = as.map Value.ref → as.length = i → Drw xs ys lo h as → lo ≤ h.objs.size →
      codeAny (model prog w) A (.builtin "list.extend.loop" ⟨[.ref S, .ref z, res], []⟩) R { s with heap := h, toks := tk } := by
  obtain ⟨b1, b2, b3, b4, b5⟩ := bz
  have off : ∀ b : Addr, lo ≤ b → b ≠ S ∧ b ≠ z ∧ b ≠ TO ∧ b ≠ i1 ∧ b ≠ i2 := fun b hb => ⟨Nat.ne_of_gt (Nat.lt_of_lt_of_le b5 hb), Nat.ne_of_gt (Nat.lt_of_lt_of_le b1 hb), Nat.ne_of_gt (Nat.lt_of_lt_of_le b2 hb), Nat.ne_of_gt (Nat.lt_of_lt_of_le b3 hb), Nat.ne_of_gt (Nat.lt_of_lt_of_le b4 hb)⟩
  intro k
  induction k with
  | zero =>
    intro i h tk c acc as hk hi st keep hS hacc hal dr hlo
    refine codeAny_builtin PySem.F.entry_extend_loop ?_
    rw [Around.under_plainId PySem.F.plain_extend_loop _]
    show wpAny _ A.in1 (pyNext (.ref z) >>= _) _ _ _
    refine wpAny_bind (zat_stop (s := { s with heap := h, toks := tk }) (A := A.in1) hh Da P1 P2 st (min_none (by omega)) fun g kp => ?_)
    refine wpAny_pure (hR g tk acc c as (fun b o h1 h2 h3 h4 h5 e => kp b o h2 h3 h4 h5 (keep b o h1 h2 h3 h4 h5 e)) (kp S _ nS.1 nS.2.2.1 nS.2.2.2.1 nS.2.2.2.2.1 hS) (by omega) (dr.keep fun b o hb e => ?_) hacc)
    obtain ⟨_, o1, o2, o3, o4⟩ := off b hb
    exact kp b o o1 o2 o3 o4 e
  | succ k ih =>
    intro i h tk c acc as hk hi st keep hS hacc hal dr hlo
    have hlt : i < min xs.size ys.size := by omega
    have ex := Array.getElem?_eq_getElem (xs := xs) (i := i) (by omega)
    have ey := Array.getElem?_eq_getElem (xs := ys) (i := i) (by omega)
    have hsz : acc.size = i := by rw [← Array.length_toList, hacc, List.length_map, hal]
    have Sl : S < h.objs.size := Heap.lt_size hS
    refine codeAny_builtin PySem.F.entry_extend_loop ?_
    rw [Around.under_plainId PySem.F.plain_extend_loop _]
    show wpAny _ A.in1 (pyNext (.ref z) >>= _) _ _ _
    refine wpAny_bind (zat_item (s := { s with heap := h, toks := tk }) Da P1 P2 st Sl ex ey fun g st' p kp => ?_)
    dsimp only at p kp ⊢
    have hS' := kp S _ nS.1 nS.2.2.1 nS.2.2.2.1 nS.2.2.2.2.1 hS
    have up : ∀ b o, b ≠ S → g.get? b = some o → (g.update S (Obj.mapSeq (·.push (Value.ref h.objs.size)))).get? b = some o := fun b o hb e => (Heap.get?_update_other _ _ (Ne.symm hb)).trans e
    have all : ∀ b o, lo ≤ b → h.get? b = some o → (g.update S (Obj.mapSeq (·.push (Value.ref h.objs.size)))).get? b = some o := fun b o hb e => by
      obtain ⟨o0, o1, o2, o3, o4⟩ := off b hb
      exact up b o o0 (kp b o o1 o2 o3 o4 e)
    have new : IsPair (g.update S (Obj.mapSeq (·.push (Value.ref h.objs.size)))) h.objs.size xs[i] ys[i] := up _ _ (off _ hlo).1 p
    show wpAny _ A.in1 (updateSeq S (·.push (Value.ref h.objs.size)) >>= _) _ _ _
    refine wpAny_bind ?_
    refine wpAny_updateSeq hS' rfl (wpAny_pure ⟨plainId_quiet PySem.F.plain_extend_loop _, ih (i + 1) _ tk _ (acc.push (Value.ref h.objs.size)) (as ++ [h.objs.size]) (by omega) hlt (st'.keep P1 P2 nS up)
      (fun b o h1 h2 h3 h4 h5 e => up b o h1 (kp b o h2 h3 h4 h5 (keep b o h1 h2 h3 h4 h5 e))) (Heap.get?_update_self _ hS' rfl) (by rw [Array.toList_push, hacc, List.map_append]; rfl) (by rw [List.length_append, hal]; rfl) ⟨?_, ?_, ?_⟩ ?_⟩) (by rw [hsz]; omega) (by show (acc.push (Value.ref h.objs.size)).size ≤ sizeLine + 1; rw [Array.size_push, hsz]; omega)
    · intro a ha
      rcases List.mem_append.mp ha with ha | ha
      · exact dr.above a ha
      · rw [List.mem_singleton.mp ha]; exact hlo
    · refine List.nodup_append.mpr ⟨dr.nd, List.pairwise_singleton _ _, fun a ha b hb => ?_⟩
      rw [List.mem_singleton.mp hb]
      obtain ⟨j, hj⟩ := List.mem_iff_getElem?.mp ha
      obtain ⟨x, y, _, _, e⟩ := dr.pairs j a hj
      exact Nat.ne_of_lt (Heap.lt_size e)
    · intro j b hj
      rcases Nat.lt_trichotomy j as.length with h1 | h1 | h1
      · rw [List.getElem?_append_left h1] at hj
        obtain ⟨x, y, e1, e2, e3⟩ := dr.pairs j b hj
        exact ⟨x, y, e1, e2, all b _ (dr.above b (List.mem_of_getElem? hj)) e3⟩
      · subst h1
        have hb : h.objs.size = b := by simpa using hj
        subst hb
        subst hal
        exact ⟨_, _, ex, ey, new⟩
      · rw [List.getElem?_eq_none (by rw [List.length_append, List.length_singleton]; omega)] at hj
        cases hj
    · exact Nat.le_of_lt (Nat.lt_of_le_of_lt hlo (Heap.lt_size new))
theorem list_zip {Q : Value → Shared → Prop} (Da : ZipApart z TI TO i1 i2 l1 l2) (P1 : Sd prog w i1 l1 xs S1) (P2 : Sd prog w i2 l2 ys S2) (hh : A.handled = none) (hz : IsZip s.heap z TI TO .none) (hTI : IsPair s.heap TI (.ref i1) (.ref i2)) {a b : Value} (hTO : IsPair s.heap TO a b) (h1 : S1 0 s.heap) (h2 : S2 0 s.heap)
    (hn : min xs.size ys.size ≤ sizeLine)
    (hQ : ∀ g tk acc c as, (∀ b o, b ≠ z → b ≠ TO → b ≠ i1 → b ≠ i2 → s.heap.get? b = some o → g.get? b = some o) → g.get? s.heap.objs.size = some { cls := .type "list", dict := none, data := .seq acc c, slots := #[] } → as.length = min xs.size ys.size → Drw xs ys (s.heap.objs.size + 1) g as → acc.toList = as.map Value.ref →
      Q (.ref s.heap.objs.size) { s with heap := g, toks := tk }) : wpAny (model prog w) A (call (.type "list") [.ref z]) Q E s := by
  refine callType_codes (Q₁ := fun obj s₁ => obj = .ref s.heap.objs.size ∧ s₁ = { s with heap := s.heap.push { cls := .type "list", data := .seq #[] } }) PySem.F.called_list (PySem.F.typeCall_list_1 _) PySem.F.entry_list_init
    (code_list_new _ ⟨rfl, rfl⟩) fun obj t ht => ?_
  obtain ⟨rfl, rfl⟩ := ht
  have hS : (s.heap.push { cls := .type "list", data := .seq #[] }).get? s.heap.objs.size = some { cls := .type "list", data := .seq #[] } := Heap.get?_push_size _ rfl
  have lz := Heap.lt_size hz
  have lI := Heap.lt_size hTI
  have lO := Heap.lt_size hTO
  have li1 : i1 < s.heap.objs.size := let ⟨o, e⟩ := (P1.has _ _ h1).1; Heap.lt_size e
  have li2 : i2 < s.heap.objs.size := let ⟨o, e⟩ := (P2.has _ _ h2).1; Heap.lt_size e
  have ll1 : l1 < s.heap.objs.size := let ⟨o, e⟩ := (P1.has _ _ h1).2; Heap.lt_size e
  have ll2 : l2 < s.heap.objs.size := let ⟨o, e⟩ := (P2.has _ _ h2).2; Heap.lt_size e
  refine ⟨⟨_, hS, rfl⟩, PySem.F.args_list_init_2 _ _, ?_⟩
  show wpAny _ _ (do let old ← Builtin.List.listItems (.ref s.heap.objs.size); Builtin.List.listUpdate (.ref s.heap.objs.size) (fun _ => #[]); letGo old.toList.reverse; Builtin.List.listExtendWith (.ref s.heap.objs.size) (.ref z) .none) _ _ _
  refine wpAny_bind ?_
  unfold Builtin.List.listItems
  refine wpAny_bind (wpAny_seqItems hS rfl (wpAny_pure ?_))
  show wpAny _ _ (updateSeq s.heap.objs.size (fun _ => #[]) >>= fun _ => letGo (#[] : Array Value).toList.reverse >>= fun _ => Builtin.List.listExtendWith (.ref s.heap.objs.size) (.ref z) .none) _ _ _
  refine wpAny_bind (wpAny_updateSeq hS rfl ?_)
  have hS2 := Heap.get?_update_self (Obj.mapSeq (fun _ => (#[] : Array Value))) hS rfl
  have oth : ∀ b o, s.heap.get? b = some o → ((s.heap.push { cls := .type "list", data := .seq #[] }).update s.heap.objs.size (Obj.mapSeq (fun _ => (#[] : Array Value)))).get? b = some o :=
    fun b o e => (Heap.get?_update_other _ _ (Nat.ne_of_gt (Heap.lt_size e))).trans (Heap.get?_push_of_some _ e)
  refine wpAny_bind (wpAny_letGo ?_)
  unfold Builtin.List.listExtendWith
  have hz2 := oth _ _ hz
  refine wpAny_bind (wpAny_typeOf (T := "zip") ⟨_, hz2, rfl⟩ ?_)
  have n1 : Builtin.List.listSameRef (.ref s.heap.objs.size) (.ref z) = false := by simp [Builtin.List.listSameRef]; exact Nat.ne_of_gt lz
  have n2 : (Value.type "zip" == Value.type "list") = false := by decide
  have n3 : (Value.type "zip" == Value.type "tuple") = false := by decide
  simp only [n1, n2, n3, Bool.or_false, Bool.false_eq_true, if_false]
  refine wpAny_bind (wpAny_pyIter_zip hz2 ?_)
  refine wpAny_bind (wpAny_holding (hint_zip ⟨_, hz2, rfl⟩ ?_))
  have go : ∀ (h : Heap) (c tk : Nat), (∀ b o, s.heap.get? b = some o → h.get? b = some o) → h.get? s.heap.objs.size = some { cls := .type "list", data := .seq #[] c } →
      codeAny (model prog w) A.in1 (.builtin "list.extend.loop" ⟨[.ref s.heap.objs.size, .ref z, .none], []⟩) (wants (fun r s' => r = .none ∧ Q (.ref s.heap.objs.size) s') E) { s with heap := h, toks := tk } := by
    intro h c tk kp hSh
    refine zl_loop (A := A.in1) (s := s) (R := wants (fun r s' => r = .none ∧ Q (.ref s.heap.objs.size) s') E) (S := s.heap.objs.size) (h0 := s.heap) (lo := s.heap.objs.size + 1) Da P1 P2 hh .none ⟨Nat.ne_of_gt lz, Nat.ne_of_gt lI, Nat.ne_of_gt lO, Nat.ne_of_gt li1, Nat.ne_of_gt li2, Nat.ne_of_gt ll1, Nat.ne_of_gt ll2⟩
      ⟨Nat.lt_succ_of_lt lz, Nat.lt_succ_of_lt lO, Nat.lt_succ_of_lt li1, Nat.lt_succ_of_lt li2, Nat.lt_succ_self _⟩ hn (fun g tk acc c as kp' hS' hl dr hacc => ?_) _ 0 h tk c #[] [] rfl (Nat.zero_le _) ⟨kp _ _ hTI, P1.keep _ _ _ h1 fun b _ o e => kp b o e, P2.keep _ _ _ h2 fun b _ o e => kp b o e, .inl ⟨kp _ _ hz, a, b, kp _ _ hTO⟩⟩
      (fun b o _ _ _ _ _ e => kp b o e) hSh rfl rfl ⟨fun _ ha => (by cases ha), List.nodup_nil, fun j b hj => (by simp at hj)⟩ (Heap.lt_size hSh)
    exact ⟨rfl, hQ g tk acc c as (fun b o h1 h2 h3 h4 e => kp' b o (Nat.ne_of_lt (Heap.lt_size e)) h1 h2 h3 h4 e) hS' hl dr hacc⟩
  refine wpAny_ite_split (fun _ => ?_) (fun _ => wpAny_pure ⟨plainId_quiet PySem.F.plain_extend_loop _, go _ _ _ oth hS2⟩)
  refine wpAny_bind (wpAny_rule (wpAny_bind ?_))
  show wpAny _ _ (updateSeq s.heap.objs.size (·.push .none) >>= fun _ => updateSeq s.heap.objs.size (·.pop)) _ _ _
  refine wpAny_bind (wpAny_updateSeq hS2 rfl ?_)
  have hS3 := Heap.get?_update_self (Obj.mapSeq (·.push Value.none)) hS2 rfl
  refine wpAny_updateSeq (hz := by seq_fits) hS3 rfl ?_
  have hS4 := Heap.get?_update_self (Obj.mapSeq (·.pop)) hS3 rfl
  refine wpAny_pure ⟨plainId_quiet PySem.F.plain_extend_loop _, go _ _ _ (fun b o e => ?_) hS4⟩
  have nb : s.heap.objs.size ≠ b := Nat.ne_of_gt (Heap.lt_size e)
  exact (Heap.get?_update_other _ _ nb).trans ((Heap.get?_update_other _ _ nb).trans (oth b o e))
end
end Co
end

section
set_option Elab.async false
set_option linter.all false
set_option maxRecDepth 100000
set_option autoImplicit false
namespace Co
open PySem PySem.Spec L2 PyProof.Rows
variable [Tbs]

def seqD : D → Option (Bool × List D)
  | .list ds => some (true, ds)
  | .tuple ds => some (false, ds)
  | _ => none
def zipOk (b1 b2 : Bool) : Bool := b1 || !b2
def pairL (ds es : List D) : List D := ds.zipWith (fun d e => .tuple [d, e]) es
def dictL (ds es : List D) : List (D × D) := (ds.zip es).foldl (fun acc p => putD acc p.1 p.2) []
/-- list(zip(a, b)) -/
def dLzip (f g : Den R) : Den R := fun ρ s => (f ρ s).bind fun a => (g ρ a.2).bind fun b => match seqD a.1.2, seqD b.1.2 with
  | some (b1, ds), some (b2, es) => if zipOk b1 b2 = true then some ((.fr, .list (pairL ds es)), b.2) else none
  | _, _ => none
/-- dict(zip(a, b)) -/
def dDzip (f g : Den R) : Den R := fun ρ s => (f ρ s).bind fun a => (g ρ a.2).bind fun b => match seqD a.1.2, seqD b.1.2 with
  | some (b1, ds), some (b2, es) => if zipOk b1 b2 = true ∧ ds.all (fun d => (sKey d).isSome) = true then some ((.fr, .dict (dictL ds es)), b.2) else none
  | _, _ => none
section
variable {X : Cx} {c : Cel} {pins : List (Addr × Obj)} {σ : L2.St} {H : Hp} {s : Shared}
theorem PO.sq {v : V} {d : D} {b : Bool} {ds : List D} (I : Inv X pins σ H s) (h : PO (wd X) H v d) (hd : seqD d = some (b, ds)) : ∃ l vs its, v = .ref l ∧ PFs X.K H vs ds ∧ Vals vs its ∧ IsSq b s.heap l its.toArray ∧ vs.length ≤ sizeLine := by
  unfold seqD at hd
  split at hd
  · cases hd
    obtain ⟨l, vs, rfl, h1, q1⟩ := h.list
    obtain ⟨its, rv, hl, z⟩ := I.list (.inl h1)
    exact ⟨l, vs, its, rfl, q1, rv, hl.isList, z⟩
  · cases hd
    obtain ⟨l, vs, rfl, h1, q1⟩ := h.tup
    obtain ⟨its, rv, hl, z⟩ := I.tuple h1
    exact ⟨l, vs, its, rfl, q1, rv, hl, z⟩
  · cases hd
theorem zipOk_or {b1 b2 : Bool} (h : zipOk b1 b2 = true) : b1 = true ∨ b2 = false := by
  cases b1 <;> cases b2 <;> first | exact .inl rfl | exact .inr rfl | cases h
variable {a b : Expr} {f g : Den R} {p1 p2 p3 pos : Pos}
/-- zip(a, b), made to be drained at once -/
theorem zip_run {ds es : List D} {b1 b2 : Bool} {ra rb : R} {st s1 s2 : D} {ρ : Rho} {R' : Value → Shared → Prop} (hc : X.calm = true) (hg : Gl X "zip") (hm : X.mg "zip" = none) (ha : PE X a (tD (wd X) c f)) (hb : PE X b (tD (wd X) c g))
    (hs : starEach [a, b] X.env = (false, eval a X.env) :: starEach [b] X.env) (hs2 : starEach [b] X.env = [(false, eval b X.env)]) (I : Inv X pins σ H s) (E : Est (wd X) c ρ st σ H)
    (h1 : f ρ st = some (ra, s1)) (h2 : g ρ s1 = some (rb, s2)) (e1 : seqD ra.2 = some (b1, ds)) (e2 : seqD rb.2 = some (b2, es)) (ok : zipOk b1 b2 = true)
    (q : ∀ (z TI TO i1 i2 l1 l2 : Addr) (S1 S2 : Nat → Heap → Prop) (H2 : Hp) (t : Shared) (g : Heap) (vs ws : List V) (its jts : List Value), Ext c.fp H H2 → CelOk (wd X) c s2 H2 → Inv X pins σ H2 { t with heap := g } → ZNew X.prog X.w t z TI TO i1 i2 l1 l2 its.toArray jts.toArray S1 S2 g → PFs X.K H2 vs ds → PFs X.K H2 ws es → Vals vs its → Vals ws jts →
      (∀ x ∈ [z, TO, i1, i2], FpOk X pins H2 x) → vs.length ≤ sizeLine → R' (.ref z) { t with heap := g }) :
    wpAny (model X.prog X.w) X.A (eval (.Call (.Name "zip" p1) [a, b] [] pos) X.env) R' X.xe s := by
  refine Call_ (ld_blt I hg hm PyProof.Rows.boot_zip (PyProof.Rows.callWith_type1 (thn ((pa_cons ha (pa_cons hb pa_nil hs2) hs).run pos pins s σ H (fun us H2 => ∃ x y, us = [x, y] ∧ Ext c.fp H H2 ∧ CelOk (wd X) c s2 H2 ∧ PO (wd X) H2 x ra.2 ∧ PO (wd X) H2 y rb.2) I ?_) fun us t ⟨vs, H2, I2, rv, x, y, ev, e12, k2, px, py⟩ => ?_) hs (back_any (by rw [hs2]; rfl) pos)))
  · exact ⟨ρ, st, ra, s1, E, h1, fun x H1 e1 k1 x1 => ⟨ρ, s1, rb, s2, E.ext e1 k1, h2, fun y H2 e2 k2 y2 => ⟨x, y, rfl, e1.trans e2, k2, x1.po_ext e2, y2.po⟩⟩⟩
  · subst ev
    obtain ⟨l1, vs, its, rfl, q1, r1, sq1, z1⟩ := px.sq I2 e1
    obtain ⟨l2, ws, jts, rfl, q2, r2, sq2, z2⟩ := py.sq I2 e2
    cases rv with
    | cons rx rr =>
      cases rr with
      | cons ry rr =>
        cases rr
        cases rx
        cases ry
        refine call_zip_any (zipOk_or ok) sq1 sq2 fun z TI TO i1 i2 S1 S2 g N => ?_
        have I3 : Inv X pins σ H2 { t with heap := g } := I2.kept (t' := t.toks) N.kp
        refine q z TI TO i1 i2 l1 l2 S1 S2 H2 t g vs ws its jts e12 k2 I3 N q1 q2 r1 r2 (fun x hx => ?_) z1
        obtain ⟨g1, g2, g3, g4, g5⟩ := N.ge
        have hx' : t.heap.objs.size ≤ x := by
          simp only [List.mem_cons, List.not_mem_nil, or_false] at hx
          rcases hx with rfl | rfl | rfl | rfl <;> assumption
        exact I2.fpOk hx' (I2.hok.fresh hx')
theorem pairL_len (ds es : List D) : (pairL ds es).length = min ds.length es.length := by unfold pairL; simp
/-- new pairs, tracked one by one -/
theorem track_pairs {s0 : Shared} {h : Heap} (hfp : ∀ (b : Addr) (H' : Hp), h.objs.size ≤ b → H' b = none → FpOk X pins H' b) : ∀ (as : List Addr) (vs ws : List V) (ds es : List D) (its jts : List Value) (H : Hp), Inv X pins σ H s0 → PFs X.K H vs ds → PFs X.K H ws es → Vals vs its → Vals ws jts → as.length = min ds.length es.length → as.Nodup →
    (∀ a ∈ as, h.objs.size ≤ a ∧ H a = none) → (∀ (j : Nat) (a : Addr), as[j]? = some a → ∃ x y, its[j]? = some x ∧ jts[j]? = some y ∧ IsPair s0.heap a x y) →
    ∃ H', Inv X pins σ H' s0 ∧ Same H H' ∧ PFs X.K H' (as.map V.ref) (pairL ds es) ∧ ∀ b, b ∉ as → H' b = H b
  | [], vs, ws, ds, es, its, jts, H, I, q1, q2, r1, r2, hl, nd, fr, pr => by
    have e : pairL ds es = [] := List.eq_nil_of_length_eq_zero (by rw [pairL_len]; exact hl.symm)
    rw [e]
    exact ⟨H, I, .refl H, .nil, fun _ _ => rfl⟩
  | a :: as, vs, ws, ds, es, its, jts, H, I, q1, q2, r1, r2, hl, nd, fr, pr => by
    cases q1 with
    | nil => simp at hl
    | @cons v vs d ds p1 q1 =>
      cases q2 with
      | nil => simp at hl
      | @cons w ws e es p2 q2 =>
        cases r1 with
        | @cons _ x _ its rx r1 =>
          cases r2 with
          | @cons _ y _ jts ry r2 =>
            rw [List.nodup_cons] at nd
            obtain ⟨fa, na⟩ := fr a (by simp)
            obtain ⟨x', y', e1, e2, hp⟩ := pr 0 a rfl
            cases e1; cases e2
            have I1 : Inv X pins σ (upd H a (.tup [v, w])) s0 := I.take (h' := s0.heap) (t' := s0.toks) (fun b ob _ z => z) (hfp a H fa na) ⟨by show 2 ≤ sizeLine; decide, [x, y], .cons rx (.cons ry .nil), _, hp, rfl, _, rfl⟩
            have sm := same_new (o := .tup [v, w]) na
            have pe : Pers H (upd H a (.tup [v, w])) := .of sm
            obtain ⟨H', I', sm', pf, out⟩ := track_pairs hfp as vs ws ds es its jts _ I1 (PFs.pers pe _ _ q1) (PFs.pers pe _ _ q2) r1 r2 (by simp at hl; omega) nd.2
              (fun b hb => ⟨(fr b (by simp [hb])).1, by rw [upd_ne (fun z => nd.1 (by rw [← z]; exact hb))]; exact (fr b (by simp [hb])).2⟩)
              (fun j b hj => by obtain ⟨x', y', e1, e2, e3⟩ := pr (j + 1) b (by simpa using hj); exact ⟨x', y', by simpa using e1, by simpa using e2, e3⟩)
            refine ⟨H', I', sm.trans sm', .cons ?_ pf, fun b hb => ?_⟩
            · have pa : PF X.K (upd H a (.tup [v, w])) (.ref a) (.tuple [d, e]) := PF.tup (.inl (.inl upd_same)) (.cons (PF.pers pe _ _ p1) (.cons (PF.pers pe _ _ p2) .nil))
              exact PF.pers (.of sm') _ _ pa
            · rw [List.mem_cons, not_or] at hb
              rw [out b hb.2, upd_ne hb.1]
theorem vals_refs : ∀ as : List Addr, Vals (as.map V.ref) (as.map Value.ref)
  | [] => .nil
  | a :: as => .cons rfl (vals_refs as)
theorem vals_len {vs : List V} {us : List Value} (h : Vals vs us) : vs.length = us.length := h.length
theorem ce_lzip (hc : X.calm = true) (hg : Gl X "zip") (hm : X.mg "zip" = none) (hg2 : Gl X "list") (hm2 : X.mg "list" = none) (ha : PE X a (tD (wd X) c f)) (hb : PE X b (tD (wd X) c g))
    (hs : starEach [a, b] X.env = (false, eval a X.env) :: starEach [b] X.env) (hs2 : starEach [b] X.env = [(false, eval b X.env)]) :
    PE X (.Call (.Name "list" p2) [.Call (.Name "zip" p1) [a, b] [] p3] [] pos) (tD (wd X) c (dLzip f g)) := by
  refine ⟨fun pins s σ H Q I h => ?_⟩
  obtain ⟨ρ, st, r, st', E, hf, q⟩ := h
  obtain ⟨⟨ra, s1⟩, h1, hf⟩ := bind_some hf
  obtain ⟨⟨rb, s2⟩, h2, hf⟩ := bind_some hf
  dsimp only at hf
  split at hf
  · rename_i b1 ds b2 es e1 e2
    split at hf
    · rename_i ok
      cases hf
      refine Call_ (ld_blt I hg2 hm2 boot_list (PyProof.Rows.callWith_type1 (args_cons (zip_run hc hg hm ha hb hs hs2 I E h1 h2 e1 e2 ok fun z TI TO i1 i2 l1 l2 S1 S2 H2 t g vs ws its jts e12 k2 I2 N q1 q2 r1 r2 fp zl => args_nil ?_) rfl) rfl))
      have m1 := q1.length
      have m2 := q2.length
      have m3 := r1.length
      have m4 := r2.length
      refine list_zip (s := { t with heap := g }) N.ap N.p1 N.p2 (I.ok.hd hc) N.hz N.ti N.to N.s1 N.s2 (by simp only [List.size_toArray]; omega) fun g2 tk acc cc as kp hS hl dr hacc => ?_
      simp only [List.size_toArray] at hl
      have fr : H2 g.objs.size = none := I2.hok.fresh (Nat.le_refl _)
      have I3 : Inv X pins σ H2 { t with heap := g2, toks := tk } := Inv.turnedL (s := { t with heap := g }) (h' := g2) (t' := tk) (ch := [z, TO, i1, i2]) I2 (fun b o hb e => kp b o (fun x => hb (by simp [x])) (fun x => hb (by simp [x])) (fun x => hb (by simp [x])) (fun x => hb (by simp [x])) e) fp
      have hfp : ∀ (b : Addr) (H' : Hp), g.objs.size ≤ b → H' b = none → FpOk X pins H' b := fun b H' hb hn => I2.fpOk hb hn
      obtain ⟨H3, I4, sm, pf, out⟩ := track_pairs hfp as vs ws ds es its jts H2 I3 q1 q2 r1 r2 (by omega) dr.nd (fun a ha => ⟨Nat.le_of_lt (dr.above a ha), I2.hok.fresh (Nat.le_of_lt (dr.above a ha))⟩) (fun j a hj => by
        obtain ⟨x, y, e1, e2, e3⟩ := dr.pairs j a hj
        exact ⟨x, y, by simpa using e1, by simpa using e2, e3⟩)
      have nS : g.objs.size ∉ as := fun hm => absurd (dr.above _ hm) (Nat.not_succ_le_self _)
      have fr3 : H3 g.objs.size = none := (out _ nS).trans fr
      have I5 : Inv X pins σ (upd H3 g.objs.size (.lst (as.map V.ref))) { t with heap := g2, toks := tk } := I4.take (h' := g2) (t' := tk) (fun b ob _ z => z) (hfp _ H3 (Nat.le_refl _) fr3) ⟨by rw [List.length_map]; omega, acc.toList, cc, by rw [hacc]; exact vals_refs as, by rw [Array.toArray_toList]; exact hS⟩
      have sm5 := sm.trans (same_new (o := .lst (as.map V.ref)) fr3)
      have ext5 : Ext c.fp H (upd H3 g.objs.size (.lst (as.map V.ref))) := e12.trans (.of sm5)
      have nfp := k2.not_fp fr
      exact ⟨.ref g.objs.size, _, I5, rfl, q _ _ ext5 (k2.same sm5) ⟨_, rfl, none_back (W := wd X) e12 fr nfp, nfp, as.map V.ref, upd_same, PFs.pers (.of (same_new fr3)) _ _ pf⟩⟩
    · cases hf
  · cases hf
/-! ### dict(zip(..)) -/
theorem kvs_merge {W : Wd} {H : Hp} {ps : List (D × D)} {qs : List (Key × V)} (h : KVs W.K H ps qs) : ∀ {kvs : List (D × D)} {xs : List (Key × V)}, KVs W.K H kvs xs → KVs W.K H (ps.foldl (fun acc p => putD acc p.1 p.2) kvs) (mergeK xs qs) := by
  unfold KVs at h
  induction h with
  | nil => intro kvs xs z; exact z
  | @cons p q ps qs r t ih => intro kvs xs z; exact ih (z.put r.1.1 r.1.2 r.2)
theorem keyIs_rel {k : Key} {u : Value} (r : RelV (kV k) u) : keyIs k u = true := by
  cases k with
  | inl i => obtain ⟨t, e⟩ := (show ∃ t, u = Value.int i t from r); subst e; exact keyIs_int i t
  | inr x => obtain ⟨t, e⟩ := (show ∃ t, u = Value.str x t from r); subst e; exact keyIs_str x t
theorem boot_dict' : bootBuiltins (Str.ofString "dict") = some (.type "dict") := by decide +kernel
theorem zip_keys {K : PySem.W.Frag} {H : Hp} : ∀ {ds es : List D} {vs ws : List V} {its jts : List Value}, PFs K H vs ds → PFs K H ws es → Vals vs its → Vals ws jts → ds.all (fun d => (sKey d).isSome) = true →
    ∃ (qs : List (Key × V)) (rs : List (Key × Value)), Paired (fun (p : D × D) (q : Key × V) => (sKey p.1 = some q.1 ∧ PF K H (kV q.1) p.1) ∧ PF K H q.2 p.2) (ds.zip es) qs ∧ KV qs rs ∧ rs.length = min its.length jts.length ∧ ∀ (i : Nat) (x y : Value), its[i]? = some x → jts[i]? = some y → ∃ k, rs[i]? = some (k, y) ∧ keyIs k x = true
  | [], es, _, ws, _, jts, .nil, q2, .nil, r2, _ => ⟨[], [], .nil, .nil, by simp, fun i x y h => by simp at h⟩
  | d :: ds, [], _, _, _, _, q1, .nil, r1, .nil, _ => ⟨[], [], .nil, .nil, by simp, fun i x y _ h => by simp at h⟩
  | d :: ds, e :: es, _, _, _, _, .cons p1 q1, .cons p2 q2, .cons rx r1, .cons ry r2, hk => by
    rw [List.all_cons, Bool.and_eq_true] at hk
    obtain ⟨k, hkk⟩ := Option.isSome_iff_exists.mp hk.1
    obtain ⟨qs, rs, h1, h2, h3, h4⟩ := zip_keys q1 q2 r1 r2 hk.2
    have ev := sKey_val p1 hkk
    subst ev
    refine ⟨(k, _) :: qs, (k, _) :: rs, .cons ⟨⟨hkk, p1⟩, p2⟩ h1, .cons ⟨rfl, ry⟩ h2, by simp [h3], fun i x y hx hy => ?_⟩
    cases i with
    | zero =>
      simp at hx hy
      subst hx; subst hy
      exact ⟨k, rfl, keyIs_rel rx⟩
    | succ i =>
      obtain ⟨k', a1, a2⟩ := h4 i x y (by simpa using hx) (by simpa using hy)
      exact ⟨k', by simpa using a1, a2⟩
theorem ce_dzip (hc : X.calm = true) (hg : Gl X "zip") (hm : X.mg "zip" = none) (hg2 : Gl X "dict") (hm2 : X.mg "dict" = none) (ha : PE X a (tD (wd X) c f)) (hb : PE X b (tD (wd X) c g))
    (hs : starEach [a, b] X.env = (false, eval a X.env) :: starEach [b] X.env) (hs2 : starEach [b] X.env = [(false, eval b X.env)]) :
    PE X (.Call (.Name "dict" p2) [.Call (.Name "zip" p1) [a, b] [] p3] [] pos) (tD (wd X) c (dDzip f g)) := by
  refine ⟨fun pins s σ H Q I h => ?_⟩
  obtain ⟨ρ, st, r, st', E, hf, q⟩ := h
  obtain ⟨⟨ra, s1⟩, h1, hf⟩ := bind_some hf
  obtain ⟨⟨rb, s2⟩, h2, hf⟩ := bind_some hf
  dsimp only at hf
  split at hf
  · rename_i b1 ds b2 es e1 e2
    split at hf
    · rename_i ok
      cases hf
      refine Call_ (ld_blt I hg2 hm2 boot_dict' (PyProof.Rows.callWith_type1 (args_cons (zip_run hc hg hm ha hb hs hs2 I E h1 h2 e1 e2 ok.1 fun z TI TO i1 i2 l1 l2 S1 S2 H2 t g vs ws its jts e12 k2 I2 N q1 q2 r1 r2 fp zl => args_nil ?_) rfl) rfl))
      have m1 := q1.length
      have m2 := q2.length
      have m3 := r1.length
      have m4 := r2.length
      obtain ⟨qs, rs, a1, a2, a3, a4⟩ := zip_keys q1 q2 r1 r2 ok.2
      refine call_dict_pairs (s := { t with heap := g }) (knd := mixKind X.prog X.w) (kvs := rs) (pairs_zip N.ap N.p1 N.p2) (I.ok.hd hc) ⟨N.hz, N.ti, ⟨_, _, N.to⟩, N.s1, N.s2⟩ ⟨by simp only [List.size_toArray]; exact a3, fun i key v hr => ?_⟩ (by simp only [List.size_toArray]; omega) fun g2 tk dd kp => ?_
      · obtain ⟨k, z1, z2⟩ := a4 i key v (by simpa using hr.1) (by simpa using hr.2)
        exact ⟨k, z1, z2⟩
      · have fr : H2 g.objs.size = none := I2.hok.fresh (Nat.le_refl _)
        have I3 : Inv X pins σ H2 { t with heap := g2, toks := tk } := Inv.turnedL (s := { t with heap := g }) (h' := g2) (t' := tk) (ch := [z, TO, i1, i2]) I2 (fun b o hb e => kp b o hb e) fp
        have kv2 : KVs X.K H2 (dictL ds es) (mergeK [] qs) := kvs_merge (W := wd X) a1 .nil
        have lq : qs.length = min ds.length es.length := by rw [← Paired.length a1, List.length_zip]
        have big : (g.objs.size == sysModules) = false := beq_eq_false_iff_ne.mpr (Nat.ne_of_gt I2.big)
        have sm := same_new (o := .dK (mergeK [] qs)) fr
        have I4 : Inv X pins σ (upd H2 g.objs.size (.dK (mergeK [] qs))) { t with heap := g2, toks := tk } := I3.take (h' := g2) (t' := tk) (fun b ob _ z => z) (I2.fpOk (Nat.le_refl _) fr) (dk_new (by have := length_mergeK qs []; rw [List.length_nil] at this; omega) big (a2.merge .nil) dd)
        have nfp := k2.not_fp fr
        exact ⟨.ref g.objs.size, _, I4, rfl, q _ _ (e12.trans (.of sm)) (k2.same sm) ⟨_, rfl, none_back (W := wd X) e12 fr nfp, nfp, .inl ⟨_, upd_same, kv2.pers (W := wd X) (.of sm)⟩⟩⟩
    · cases hf
  · cases hf
end
end Co
end

section
set_option Elab.async false
set_option linter.all false
set_option maxRecDepth 100000
set_option autoImplicit false
namespace Co
open PySem PySem.Spec L2 PyProof.Rows
variable [Tbs]

/-! ### lambda x: (len(x), x), called -/
/-- what the lambda leans on -/
structure LamL (x : Str) (scope : Scope) : Prop where
  kind : scope.kind = .function
  co : scope.isCoroutine = false
  gen : scope.isGenerator = false
  nocell : ∀ y ∈ scope.names, y.2 ≠ .cell
  nofree : ∀ y ∈ scope.names, y.2 ≠ .free
  loc : scope.names.lookup x = some .local
  len : scope.names.lookup ("len" : Str) = some .globalImplicit
  dbg : (x == ("__debug__" : Str)) = false
def lenBody (x : Str) (m : Nat) (p1 p2 p3 p4 p5 : Pos) : Expr := .Tuple [.Call (.Name "len" p1) [.Name x p2] [] p3, .Name x p4] m p5
section
variable {prog : Program} {w : World} {A : Around} {s : Shared} {mg : Str → Option Value} {base : Heap} {K : PySem.W.Frag} {x q : Str} {scope : Scope} {params : Arguments} {f c' t : Addr} {pm ctv : Value} {p1 p2 p3 p4 p5 : Pos} {its : Array Value} {m : Nat}
theorem lam_len (L : LamL x scope) (M : L2.Mod K mg base) (hb : ∀ b o, base.get? b = some o → s.heap.get? b = some o) (hm : mg "len" = none) (hd : A.depth < recursionLimit)
    (hf : s.heap.get? f = some (PySem.W.kla_obj "<lambda>" q params (lenBody x m p1 p2 p3 p4 p5) scope [] pm c' ctv)) (hc : s.heap.CodeRec (.ref c') q)
    (hbind : bindArgs (PySem.W.kla_fn "<lambda>" q params (lenBody x m p1 p2 p3 p4 p5) scope [] pm (.ref c') ctv) ⟨[.ref t], []⟩ = pure [(x, .ref t)]) (ht : IsTup s.heap t its) (hz : (its.size : Int) < 2 ^ 63)
    {Q : Value → Shared → Prop} {E : Value → Shared → Prop}
    (h : ∀ h' tk p k, (∀ b o, s.heap.get? b = some o → h'.get? b = some o) → h'.get? p = some { cls := .type "tuple", data := .seq #[.int its.size k, .ref t] } → Q (.ref p) { s with heap := h', toks := tk }) :
    wpAny (model prog w) A (call (.ref f) [.ref t]) Q E s := by
  have lim : s.heap.NoLimit := M.nolimit.keeps hb
  have rc : codeAny (model prog w) A (.call (.ref f) ⟨[.ref t], []⟩) (fun r s' => match r with | .ok (.ret v) => Q v s' | _ => False) s := by
    refine PySem.W.kla_callFunE hd hf rfl L.co L.gen rfl hc ?_
    rw [hbind]
    refine wpAny_pure (wpAny_newFunctionEnv L.nocell (fun y hy => by rw [List.mem_singleton.mp hy]; exact L.loc) (fun h₁ hns hsb => ⟨lim.fresh _ hsb, ?_⟩) L.kind)
    have kp : ∀ b o, s.heap.get? b = some o → h₁.get? b = some o := fun b o e => hsb.extBut b o (Nat.ne_of_lt (Heap.lt_size e)) (Heap.get?_push_of_some _ e)
    have hx : (fun y => ([(x, Value.ref t)] : List (Str × Value)).reverse.lookup y) x = some (.ref t) := by simp
    refine PySem.W.kla_codeExpr (wpAny_Tuple_spliced (args_cons (env := PySem.W.envX q scope s.heap.objs.size f (.ref c') []) (wpAny_Call_Name_kw ?_)))
    obtain ⟨mb, b1, b2⟩ := M.blt
    refine Calls.Name_function_global L.kind L.len (Calls.loadGlobal_builtin (M.glob.keeps fun b o e => kp b o (hb b o e)) hm (b1.keeps fun b o e => kp b o (hb b o e)) ((b2 "len" (by decide)).trans PySem.boot_len) ?_) (by decide)
    refine PyProof.Rows.callWith_builtin1 (args_cons (wpAny_Name (wpAny_loadName_local L.kind L.loc hns hx (args_nil ?_)) L.dbg)) rfl rfl
    refine len_tuple (ht.keeps kp) hz ?_
    refine args_cons (wpAny_Name (wpAny_loadName_local L.kind L.loc hns hx (args_nil ⟨by show 2 ≤ sizeLine; decide, ?_⟩)) L.dbg)
    exact h _ _ _ _ (fun b o e => Heap.get?_push_of_some _ (kp b o e)) (Heap.get?_push_size _ rfl)
  refine wpAny_call (codeAny_mono rc fun r s' hq => ?_)
  cases r with
  | error e => exact hq.elim
  | ok fl =>
    cases fl with
    | ret u => exact hq
    | next => exact hq.elim
    | brk => exact hq.elim
    | cont => exact hq.elim
end
end Co
end

section
set_option Elab.async false
set_option linter.all false
set_option maxRecDepth 100000
set_option autoImplicit false
namespace Co
open PySem PySem.Spec L2 PyProof.Rows
variable [Tbs]

/-! ### a lambda is made: all but its table stays -/
section
variable {X : Cx} {pins : List (Addr × Obj)} {σ : L2.St} {H : Hp} {s : Shared}
theorem lam_mk {c P : Addr} {q : Str} {params : Arguments} {body : Expr} {scope : Scope} {pos : Pos} {E Q : Value → Shared → Prop} (I : Inv X pins σ H s) (TB : LamX.TabB X.base X.mg c P) (hcode : X.env.code = .ref c) (hq : X.env.qual ++ "<lambda>" = q) (hm : (P, q) ∈ Tbs.T) (hu : ∀ p ∈ Tbs.T, p.1 = P → p.2 = q) (hT : LamX.Tabs Tbs.T H)
    (hdef : defaultsOf params X.env = ([], [])) (hfree : ∀ y ∈ scope.names, y.2 ≠ .free)
    (go : ∀ (f c' : Addr) (pm ctv : Value) (G : Hp) (s' : Shared), Inv X pins σ G s' → (∀ b o, b ≠ P → H b = some o → G b = some o) → Pers H G → LamX.Tabs Tbs.T G →
      s'.heap.get? f = some (PySem.W.kla_obj "<lambda>" q params body scope [] pm c' ctv) → G c' = some (LamX.CodeO c' q) → Q (.ref f) s') :
    wpAny (model X.prog X.w) X.A (eval (.Lambda params body scope pos) X.env) Q E s := by
  subst hq
  have tP := hT _ hm
  obtain ⟨ps, hP, ht, ha⟩ := tP
  have hP : H P = some (.tbl ps) := hP
  have bP := TB.bm.keeps I.bk
  have oP : s.heap.get? P = some { cls := .none, data := .fields ps } := I.hok P _ hP
  have ec : cloFrom X.env.cells scope.names [] = [] := by
    have : ∀ (l : List (Str × NameKind)), (∀ y ∈ l, y.2 ≠ .free) → ∀ cs, cloFrom cs l [] = [] := by
      intro l
      induction l with
      | nil => intro _ _; rfl
      | cons y l ih =>
        intro h cs
        obtain ⟨n, k⟩ := y
        have hk := h (n, k) (List.mem_cons_self ..)
        have hl := ih (fun z hz => h z (List.mem_cons_of_mem _ hz)) cs
        cases k <;> first | exact hl | exact absurd rfl hk
    exact this _ hfree _
  have hcl := closure_ok (env := X.env) (scope := scope) (fun y hy e => absurd e (hfree y hy))
  refine PySem.W.kla_eval hdef ?_
  cases hc : codeAmong pos ps.toList with
  | some cv =>
    obtain ⟨c', rfl, hco⟩ := ha pos cv hc
    refine PySem.W.kla_makeFunctionHit (mg := X.mg) hcl I.ok.glob (I.mod.glob.keeps I.bk) hcode (TB.code.keeps I.bk) oP ht hc bP fun ctv g tk up _ => ?_
    exact go g.objs.size c' _ ctv H _ (I.kept fun b o z => Heap.get?_push_of_some _ (up b o z)) (fun _ _ _ z => z) (.refl H) hT (by rw [ec]; exact Heap.get?_push_size _ rfl) hco
  | none =>
    refine PySem.W.kla_makeFunction (mg := X.mg) hcl I.ok.glob (I.mod.glob.keeps I.bk) hcode (TB.code.keeps I.bk) oP ht hc TB.gP bP fun c' ctv g tk up lo hi rec tab => ?_
    obtain ⟨c2, oc, fs, t, ee, g1, g2, g3⟩ := rec
    cases ee
    have nC := I.hok.fresh lo
    have J := LamX.inv_table (t' := tk) (more := #[rawInt pos.line, rawInt pos.col, .ref c']) (h' := g.push (PySem.W.kla_obj "<lambda>" (X.env.qual ++ "<lambda>") params body scope (cloFrom X.env.cells scope.names []) ((X.mg "__name__").getD .none) c' ctv)) I hP
      (fun b o nb z => Heap.get?_push_of_some _ (up b o nb z)) (Heap.get?_push_of_some _ tab) lo ⟨oc, fs, t, Heap.get?_push_of_some _ g1, g2, g3⟩
    have st : ∀ b o, b ≠ P → H b = some o → upd (upd H P (.tbl (ps ++ #[rawInt pos.line, rawInt pos.col, .ref c']))) c' (LamX.CodeO c' (X.env.qual ++ "<lambda>")) b = some o := fun b o nb z => by rw [upd_ne (ne_of_none z nC), upd_ne nb, z]
    have pe : Pers H (upd (upd H P (.tbl (ps ++ #[rawInt pos.line, rawInt pos.col, .ref c']))) c' (LamX.CodeO c' (X.env.qual ++ "<lambda>"))) :=
      ⟨fun b xs z => st b _ (fun w => by rw [w, hP] at z; cases z) z, fun b o u z => st b _ (fun w => by rw [w, hP] at z; cases z) z⟩
    have nt : ∀ b r, H b = some (LamX.CodeO b r) → b ≠ P := fun b r z w => by
      rw [w, hP] at z
      exact LamX.codeO_ne _ (Option.some.inj z).symm
    refine go g.objs.size c' _ ctv _ _ J st pe (fun p hp => ?_) (by rw [ec]; exact Heap.get?_push_size _ rfl) upd_same
    by_cases hb : p.1 = P
    · rw [hu p hp hb, hb]
      have el : (ps ++ #[rawInt pos.line, rawInt pos.col, .ref c']).toList = ps.toList ++ [rawInt pos.line, rawInt pos.col, .ref c'] := by simp
      refine ⟨_, (upd_ne (ne_of_none hP nC)).trans upd_same, by rw [el]; exact PySem.TriplesOk_snoc _ _ _ _ ht, fun p' cv z => ?_⟩
      rw [el] at z
      rcases LamX.among_app _ ht z with z | rfl
      · obtain ⟨c0, e1, e2⟩ := ha p' cv z
        exact ⟨c0, e1, st _ _ (nt _ _ e2) e2⟩
      · exact ⟨c', rfl, upd_same⟩
    · obtain ⟨ps', a1, a2, a3⟩ := hT p hp
      refine ⟨ps', st _ _ hb a1, a2, fun p' cv z => ?_⟩
      obtain ⟨c0, e1, e2⟩ := a3 p' cv z
      exact ⟨c0, e1, st _ _ (nt _ _ e2) e2⟩
end
end Co
end

section
set_option Elab.async false
set_option linter.all false
set_option maxRecDepth 100000
set_option autoImplicit false
namespace Co
open PySem PySem.Spec L2 PyProof.Rows
variable [Tbs]

/-! ### sorted(e, key=lambda x: (len(x), x)), over tuples of whole numbers -/
def isI : D → Bool
  | .int _ => true
  | _ => false
def isIs : D → Bool
  | .tuple es => es.all isI && decide (es.length ≤ sizeLine)
  | _ => false
def lenKey : D → D
  | .tuple es => .tuple [.int es.length, .tuple es]
  | d => d
def sortLn (ds : List D) : Option R := if ds.all isIs = true ∧ ds.length ≤ sizeLine then some (.fr, .list (ds.mergeSort (PySem.W.dataLe false lenKey))) else none
def dSortL (f : Den R) : Den R := fun ρ s => match f ρ s with
  | some ((_, .list ds), s') => (sortLn ds).map fun r => (r, s')
  | _ => none
theorem reads_ints {h : Heap} : ∀ {es : List D} {us : List Value} {as : List Addr}, es.all isI = true → ReadsAll h us es as → as = []
  | [], _, _, _, r => by cases r; rfl
  | d :: es, _, _, he, r => by
    rw [List.all_cons, Bool.and_eq_true] at he
    cases r with
    | cons r t =>
      have i := reads_ints he.2 t
      subst i
      cases d with
      | int i => cases r; rfl
      | _ => cases he.1
theorem ints_alike : ∀ (es fs : List D), es.all isI = true → fs.all isI = true → PySem.W.alikeAll es fs = true
  | [], [], _, _ => by unfold PySem.W.alikeAll; rfl
  | [], _ :: _, _, _ => by unfold PySem.W.alikeAll; rfl
  | _ :: _, [], _, _ => by unfold PySem.W.alikeAll; rfl
  | d :: es, e :: fs, h1, h2 => by
    rw [List.all_cons, Bool.and_eq_true] at h1 h2
    unfold PySem.W.alikeAll
    have := ints_alike es fs h1.2 h2.2
    cases d with
    | int i =>
      cases e with
      | int j => simpa [PySem.W.alike] using this
      | _ => cases h2.1
    | _ => cases h1.1
theorem keys_alike {ds : List D} (h : ds.all isIs = true) : PySem.W.AllAlike (ds.map lenKey) := by
  rw [List.all_eq_true] at h
  intro d hd e he
  obtain ⟨d', hd', rfl⟩ := List.mem_map.mp hd
  obtain ⟨e', he', rfl⟩ := List.mem_map.mp he
  have h1 := h _ hd'
  have h2 := h _ he'
  cases d' with
  | tuple es =>
    cases e' with
    | tuple fs =>
      unfold isIs at h1 h2
      rw [Bool.and_eq_true] at h1 h2
      have := ints_alike es fs h1.1 h2.1
      unfold lenKey
      simp [PySem.W.alike, PySem.W.alikeAll, this]
    | _ => cases h2
  | _ => cases h1
theorem keys_sortable {ds : List D} (h : ds.all isIs = true) : PySem.W.Sortable (ds.map lenKey) := by
  rw [List.all_eq_true] at h
  refine .inl fun d hd => ?_
  obtain ⟨d', hd', rfl⟩ := List.mem_map.mp hd
  have h1 := h _ hd'
  cases d' with
  | tuple es => exact ⟨_, _, rfl⟩
  | _ => cases h1
theorem ints_depth : ∀ (es : List D), es.all isI = true → PyData.depthAll es ≤ 1
  | [], _ => by unfold PyData.depthAll; decide
  | d :: es, h => by
    rw [List.all_cons, Bool.and_eq_true] at h
    have := ints_depth es h.2
    cases d with
    | int i =>
      unfold PyData.depthAll
      simp [PyData.depth]
      omega
    | _ => cases h.1
theorem key_depth {d : D} (h : isIs d = true) : (lenKey d).depth ≤ 10 := by
  cases d with
  | tuple es =>
    unfold isIs at h
    rw [Bool.and_eq_true] at h
    have := ints_depth es h.1
    unfold lenKey
    simp [PyData.depth, PyData.depthAll]
    omega
  | _ => cases h
theorem CelOk.but {W : Wd} {c : Cel} {s : D} {H H' : Hp} {P : Addr} {ps : Array Value} (h : CelOk W c s H) (hP : H P = some (.tbl ps)) (k : ∀ b o, b ≠ P → H b = some o → H' b = some o) (pe : Pers H H') (t : LamX.Tabs Tbs.T H') : CelOk W c s H' := by
  have ob : ∀ a d, Ob W H a d → Ob W H' a d := fun a d o => by
    obtain ⟨u, hu, mu⟩ := o.some
    refine o.pers pe ((k _ _ (fun w => ?_) hu).trans hu.symm)
    rw [w, hP] at hu
    cases hu
    exact mu
  obtain ⟨_, h⟩ := h
  refine ⟨t, ?_⟩
  cases c with
  | no => trivial
  | bag b => exact ⟨h.1, ob _ _ h.2⟩
  | pl C x dx kd =>
    obtain ⟨hh, m, w, kvs, vh, vm, vw, rfl, hx, p1, p2, p3, o⟩ := h
    exact ⟨hh, m, w, kvs, vh, vm, vw, rfl, k _ _ (fun w => by rw [w, hP] at hx; cases hx) hx, PF.pers pe _ _ p1, PF.pers pe _ _ p2, PF.pers pe _ _ p3, ob _ _ o⟩
  | scr a =>
    obtain ⟨ns, rfl, fz⟩ := h
    exact ⟨ns, rfl, fz.pers pe⟩
  | scl a =>
    obtain ⟨ns, rfl, fz⟩ := h
    exact ⟨ns, rfl, k _ _ (fun w => by rw [w, hP] at fz; cases fz) fz⟩
section
variable {X : Cx} {c : Cel} {e : Expr} {x : Str} {scope : Scope} {params : Arguments} {p kp lpos pos p1 p2 p3 p4 p5 : Pos} {m : Nat} {cc P : Addr} {q : Str} {k : Nat}
theorem ce_sortL {f : Den R} (he : PE X e (tD (wd X) c f)) (hg : Gl X "sorted") (hm : X.mg "sorted" = none) (hml : X.mg "len" = none) (hr : Room k X.A) (L : LamL x scope) (TB : LamX.TabB X.base X.mg cc P) (hcode : X.env.code = .ref cc) (hq : X.env.qual ++ "<lambda>" = q) (hT : (P, q) ∈ Tbs.T) (hu : ∀ p ∈ Tbs.T, p.1 = P → p.2 = q)
    (hdef : defaultsOf params X.env = ([], [])) (hbind : ∀ (pm cv ctv u : Value), bindArgs (PySem.W.kla_fn "<lambda>" q params (lenBody x m p1 p2 p3 p4 p5) scope [] pm cv ctv) ⟨[u], []⟩ = pure [(x, u)])
    (hs : starEach [e] X.env = (false, eval e X.env) :: starEach [] X.env) :
    PE X (.Call (.Name "sorted" p) [e] [⟨some "key", .Lambda params (lenBody x m p1 p2 p3 p4 p5) scope lpos, kp⟩] pos) (tD (wd X) c (dSortL f)) := by
  refine ⟨fun pins s σ H Q I h => ?_⟩
  obtain ⟨ρ, st, r, st', E, hf, qq⟩ := h
  unfold dSortL at hf
  split at hf
  · rename_i fl ds s1 h1
    cases h2 : sortLn ds with
    | none => rw [h2] at hf; cases hf
    | some r2 =>
      rw [h2] at hf
      cases hf
      unfold sortLn at h2
      split at h2
      · rename_i ok
        cases h2
        obtain ⟨ok1, ok2⟩ := ok
        refine wpAny_Call_Name_kw (ld_blt I hg hm PyProof.Rows.boot_sorted ?_)
        refine PyProof.Rows.callWith_kw (thn ((pa_cons he pa_nil hs).run pos pins s σ H (fun us H1 => ∃ v, us = [v] ∧ Ext c.fp H H1 ∧ CelOk (wd X) c st' H1 ∧ Res (wd X) c H H1 (fl, .list ds) v) I ⟨ρ, st, _, _, E, h1, fun v H1 e1 k1 rs => ⟨v, rfl, e1, k1, rs⟩⟩) fun us s2 ⟨vs, H1, I1, r1, v, ev, e1, k1, rs⟩ => ?_) (by rw [hs]; rfl) (by rw [hs]; rfl) rfl rfl
        subst ev
        show wpAny _ _ (evalAll ((do let v ← eval (.Lambda params (lenBody x m p1 p2 p3 p4 p5) scope lpos) X.env; standAt pos; pure v) :: [])) _ _ s2
        refine wpAny_evalAll_cons (wpAny_bind (lam_mk I1 TB hcode hq hT hu k1.1 hdef L.nofree fun fa c' pm ctv G s3 I2 st2 pe T2 hfa hco => wpAny_bind (wpAny_standAt (wpAny_pure (wpAny_evalAll_nil ?_)))))
        have oP := k1.1 _ hT
        obtain ⟨ps0, hP, _⟩ := oP
        have hP : H1 P = some (.tbl ps0) := hP
        have mP : P ∈ tbA := List.mem_map.mpr ⟨_, hT, rfl⟩
        have eG : Ext c.fp H1 G := ⟨fun b o z nb => st2 b o (fun w => nb (by rw [w]; exact List.mem_append_right _ mP)) z, pe⟩
        obtain ⟨a, vs, rfl, rd, pq⟩ := (rs.po_ext eG).list
        obtain ⟨its, rv, hl, z⟩ := I2.list (.inl rd)
        rw [Vals.ref1 r1]
        have ei := each_of pq rv
        have m1 := pq.length
        have kG : CelOk (wd X) c st' G := k1.but hP st2 pe T2
        obtain ⟨⟨oc, fs, tk0, g1, g2, g3⟩, _, _⟩ := I2.hok c' _ hco
        refine PySem.W.sorted_key_data (f := .ref fa) (b := false) lenKey hl.isList ei (keys_alike ok1) (keys_sortable ok1) ok2 (fun d hd => ?_) (ksk_s1 _ _) (fun _ => ksk_l1 _ _) (fun y => ksk_t1 fa y) (fun u d ⟨v, rv1, pf⟩ hd h tk up => ?_) fun out ep h' tk up _ ho hlen eo => ?_
        · have := key_depth (List.all_eq_true.mp ok1 d hd)
          have := hr.un
          omega
        · have ok3 := List.all_eq_true.mp ok1 d hd
          obtain ⟨as, rd1⟩ := Dp.reads I2 d v u (PF.dp _ _ pf) rv1
          cases pf with
          | @tup _ _ es sq pfs =>
            cases rv1
            obtain ⟨its1, rv2, tu, z1⟩ := I2.tuple sq
            unfold isIs at ok3
            rw [Bool.and_eq_true] at ok3
            have e0 : as = [] := by
              cases rd1 with
              | tuple _ _ _ ra => exact reads_ints ok3.1 ra
            subst e0
            have l1 := pfs.length
            have l2 := rv2.length
            refine lam_len (K := X.K) (base := X.base) (mg := X.mg) L I2.ok.mod (fun b o z => up b o (I2.bk b o z)) hml ?_ (up _ _ hfa) ⟨c', oc, fs, tk0, rfl, up _ _ g1, g2, g3⟩ (hbind _ _ _ _) (tu.keeps up) ?_ fun h2 tk2 p' n' up2 hp => ?_
            · have := hr.dp
              show X.A.depth < _
              omega
            · have := line63
              have := sizeLine_eq
              simp only [List.size_toArray]
              omega
            · refine ⟨h2, tk2, rfl, up2, ?_⟩
              unfold lenKey
              have e5 : ((its1.toArray.size : Nat) : Int) = (es.length : Int) := by simp only [List.size_toArray]; rw [← l2, l1]
              rw [e5] at hp
              exact Reads.tuple hp rfl rfl (ReadsAll.cons (as := []) (Reads.int _ _) (ReadsAll.cons (as := []) (PyProof.Rows.Reads.keeps (fun b o z => up2 b o (up b o z)) rd1) ReadsAll.nil))
          | _ => cases ok3
        · obtain ⟨ws, r3, p3⟩ := of_each eo
          have fr : G (s3.heap.objs.size + 1) = none := I2.hok.fresh (Nat.le_succ _)
          have lw := r3.length
          exact ⟨.ref _, upd G (s3.heap.objs.size + 1) (.lst ws), I2.laid (t' := tk) up (Nat.le_succ _) ⟨by omega, out, ep, r3, ho⟩, rfl, qq _ _ ((e1.trans eG).trans (.of (same_new fr))) (kG.same (same_new fr)) ((Rs.lst fr p3).res (e1.trans eG) kG)⟩
      · cases h2
  · cases hf
end
end Co
namespace Co
open PySem PySem.Spec L2 PyProof.Rows
def parOne (x : Str) (p : Pos) : Arguments := ⟨[], [⟨x, none, p⟩], none, [], [], none, []⟩
theorem bind_one {q : Str} {p : Pos} {body : Expr} {scope : Scope} (pm cv ctv u : Value) : bindArgs (PySem.W.kla_fn "<lambda>" q (parOne "lot" p) body scope [] pm cv ctv) ⟨[u], []⟩ = pure [(("lot" : Str), u)] := rfl
theorem def_one {x : Str} {p : Pos} {env : Env} : defaultsOf (parOne x p) env = ([], []) := rfl
def lamLB (x : Str) (scope : Scope) : Bool := decide (scope.kind = .function) && !scope.isCoroutine && !scope.isGenerator && scope.names.all (fun y => !decide (y.2 = .cell) && !decide (y.2 = .free)) && decide (scope.names.lookup x = some .local) && decide (scope.names.lookup ("len" : Str) = some .globalImplicit) && !(x == ("__debug__" : Str))
theorem lamL_by {x : Str} {scope : Scope} (h : lamLB x scope = true) : LamL x scope := by
  unfold lamLB at h
  simp only [Bool.and_eq_true, Bool.not_eq_true', decide_eq_true_eq, decide_eq_false_iff_not, List.all_eq_true] at h
  obtain ⟨⟨⟨⟨⟨⟨h1, h2⟩, h3⟩, h4⟩, h5⟩, h6⟩, h7⟩ := h
  exact ⟨h1, h2, h3, fun y hy => (h4 y hy).1, fun y hy => (h4 y hy).2, h5, h6, h7⟩
end Co
end

section
set_option Elab.async false
set_option linter.all false
set_option maxRecDepth 100000
set_option autoImplicit false
namespace Co
open PySem PySem.Spec L2 PyProof.Rows

/-! ### sorted(e, key=lambda x: x[0][0]), the keys texts -/
structure LamI (x : Str) (scope : Scope) : Prop where
  kind : scope.kind = .function
  co : scope.isCoroutine = false
  gen : scope.isGenerator = false
  nocell : ∀ y ∈ scope.names, y.2 ≠ .cell
  nofree : ∀ y ∈ scope.names, y.2 ≠ .free
  loc : scope.names.lookup x = some .local
  dbg : (x == ("__debug__" : Str)) = false
def ixBody (x : Str) (m1 m2 : Nat) (p1 p2 p3 p4 p5 : Pos) : Expr := .Subscript (.Subscript (.Name x p1) (.Constant (.int 0) m1 p2) p3) (.Constant (.int 0) m2 p4) p5
section
variable {prog : Program} {w : World} {A : Around} {s : Shared} {mg : Str → Option Value} {base : Heap} {K : PySem.W.Frag} {x q : Str} {scope : Scope} {params : Arguments} {f c' t t1 : Addr} {pm ctv u : Value} {p1 p2 p3 p4 p5 : Pos} {its its1 : Array Value} {m1 m2 : Nat}
theorem lam_ix (L : LamI x scope) (M : L2.Mod K mg base) (hb : ∀ b o, base.get? b = some o → s.heap.get? b = some o) (hd : A.depth < recursionLimit)
    (hf : s.heap.get? f = some (PySem.W.kla_obj "<lambda>" q params (ixBody x m1 m2 p1 p2 p3 p4 p5) scope [] pm c' ctv)) (hc : s.heap.CodeRec (.ref c') q)
    (hbind : bindArgs (PySem.W.kla_fn "<lambda>" q params (ixBody x m1 m2 p1 p2 p3 p4 p5) scope [] pm (.ref c') ctv) ⟨[.ref t], []⟩ = pure [(x, .ref t)]) (ht : IsTup s.heap t its) (hi : its[0]? = some (.ref t1)) (ht1 : IsTup s.heap t1 its1) (hi1 : its1[0]? = some u)
    {Q : Value → Shared → Prop} {E : Value → Shared → Prop}
    (h : ∀ h' tk, (∀ b o, s.heap.get? b = some o → h'.get? b = some o) → Q u { s with heap := h', toks := tk }) :
    wpAny (model prog w) A (call (.ref f) [.ref t]) Q E s := by
  have lim : s.heap.NoLimit := M.nolimit.keeps hb
  have sq : ∀ (its : Array Value) (v : Value), its[0]? = some v → seqIndex? 0 its.size = some 0 := fun its v e => by
    have : 0 < its.size := by
      rcases Nat.eq_zero_or_pos its.size with z | z
      · rw [Array.getElem?_eq_none (by omega)] at e; cases e
      · exact z
    unfold seqIndex?
    simp [this]
  have rc : codeAny (model prog w) A (.call (.ref f) ⟨[.ref t], []⟩) (fun r s' => match r with | .ok (.ret v) => Q v s' | _ => False) s := by
    refine PySem.W.kla_callFunE hd hf rfl L.co L.gen rfl hc ?_
    rw [hbind]
    refine wpAny_pure (wpAny_newFunctionEnv L.nocell (fun y hy => by rw [List.mem_singleton.mp hy]; exact L.loc) (fun h₁ hns hsb => ⟨lim.fresh _ hsb, ?_⟩) L.kind)
    have kp : ∀ b o, s.heap.get? b = some o → h₁.get? b = some o := fun b o e => hsb.extBut b o (Nat.ne_of_lt (Heap.lt_size e)) (Heap.get?_push_of_some _ e)
    have hx : (fun y => ([(x, Value.ref t)] : List (Str × Value)).reverse.lookup y) x = some (.ref t) := by simp
    refine PySem.W.kla_codeExpr (subD_of (env := PySem.W.envX q scope s.heap.objs.size f (.ref c') []) slot_tuple_getitem.lookup (fun _ _ => rfl) (subD_of slot_tuple_getitem.lookup (fun _ _ => rfl) (wpAny_Name (wpAny_loadName_local L.kind L.loc hns hx ?_) L.dbg)))
    refine wpAny_Constant_int ⟨(ht.keeps kp).typeIs, getItem_tuple (ht.keeps kp) (by decide) (by decide) (sq _ _ hi) hi ?_⟩
    refine wpAny_Constant_int ⟨(ht1.keeps kp).typeIs, getItem_tuple (ht1.keeps kp) (by decide) (by decide) (sq _ _ hi1) hi1 ?_⟩
    exact h _ _ kp
  refine wpAny_call (codeAny_mono rc fun r s' hq => ?_)
  cases r with
  | error e => exact hq.elim
  | ok fl =>
    cases fl with
    | ret u => exact hq
    | next => exact hq.elim
    | brk => exact hq.elim
    | cont => exact hq.elim
end
def keyP : D → D
  | .tuple (.tuple (.str x :: _) :: _) => .str x
  | d => d
def isPr : D → Bool
  | .tuple (.tuple (.str _ :: _) :: _) => true
  | _ => false
def sortPr (ds : List D) : Option R := if ds.all isPr = true ∧ ds.length ≤ sizeLine then some (.fr, .list (ds.mergeSort (PySem.W.dataLe false keyP))) else none
def dSortP (f : Den R) : Den R := fun ρ s => match f ρ s with
  | some ((_, .list ds), s') => (sortPr ds).map fun r => (r, s')
  | _ => none
theorem pr_shape {d : D} (h : isPr d = true) : ∃ x es ds, d = .tuple (.tuple (.str x :: es) :: ds) := by
  unfold isPr at h
  split at h
  · exact ⟨_, _, _, rfl⟩
  · cases h
theorem prs_alike {ds : List D} (h : ds.all isPr = true) : PySem.W.AllAlike (ds.map keyP) := by
  rw [List.all_eq_true] at h
  intro d hd e he
  obtain ⟨d', hd', rfl⟩ := List.mem_map.mp hd
  obtain ⟨e', he', rfl⟩ := List.mem_map.mp he
  obtain ⟨x, _, _, rfl⟩ := pr_shape (h _ hd')
  obtain ⟨y, _, _, rfl⟩ := pr_shape (h _ he')
  simp [keyP, PySem.W.alike]
theorem prs_sortable {ds : List D} (h : ds.all isPr = true) : PySem.W.Sortable (ds.map keyP) := by
  rw [List.all_eq_true] at h
  refine sortableB_ok ?_
  unfold sortableB
  rw [Bool.or_eq_true]
  refine .inr ?_
  rw [List.all_eq_true]
  intro d hd
  obtain ⟨d', hd', rfl⟩ := List.mem_map.mp hd
  obtain ⟨x, _, _, rfl⟩ := pr_shape (h _ hd')
  rfl
variable [Tbs]
section
variable {X : Cx} {c : Cel} {e : Expr} {x : Str} {scope : Scope} {params : Arguments} {p kp lpos pos p1 p2 p3 p4 p5 : Pos} {m1 m2 : Nat} {cc P : Addr} {q : Str} {k : Nat}
theorem ce_sortP {f : Den R} (he : PE X e (tD (wd X) c f)) (hg : Gl X "sorted") (hm : X.mg "sorted" = none) (hr : Room k X.A) (L : LamI x scope) (TB : LamX.TabB X.base X.mg cc P) (hcode : X.env.code = .ref cc) (hq : X.env.qual ++ "<lambda>" = q) (hT : (P, q) ∈ Tbs.T) (hu : ∀ p ∈ Tbs.T, p.1 = P → p.2 = q)
    (hdef : defaultsOf params X.env = ([], [])) (hbind : ∀ (pm cv ctv u : Value), bindArgs (PySem.W.kla_fn "<lambda>" q params (ixBody x m1 m2 p1 p2 p3 p4 p5) scope [] pm cv ctv) ⟨[u], []⟩ = pure [(x, u)])
    (hs : starEach [e] X.env = (false, eval e X.env) :: starEach [] X.env) :
    PE X (.Call (.Name "sorted" p) [e] [⟨some "key", .Lambda params (ixBody x m1 m2 p1 p2 p3 p4 p5) scope lpos, kp⟩] pos) (tD (wd X) c (dSortP f)) := by
  refine ⟨fun pins s σ H Q I h => ?_⟩
  obtain ⟨ρ, st, r, st', E, hf, qq⟩ := h
  unfold dSortP at hf
  split at hf
  · rename_i fl ds s1 h1
    cases h2 : sortPr ds with
    | none => rw [h2] at hf; cases hf
    | some r2 =>
      rw [h2] at hf
      cases hf
      unfold sortPr at h2
      split at h2
      · rename_i ok
        cases h2
        obtain ⟨ok1, ok2⟩ := ok
        refine wpAny_Call_Name_kw (ld_blt I hg hm PyProof.Rows.boot_sorted ?_)
        refine PyProof.Rows.callWith_kw (thn ((pa_cons he pa_nil hs).run pos pins s σ H (fun us H1 => ∃ v, us = [v] ∧ Ext c.fp H H1 ∧ CelOk (wd X) c st' H1 ∧ Res (wd X) c H H1 (fl, .list ds) v) I ⟨ρ, st, _, _, E, h1, fun v H1 e1 k1 rs => ⟨v, rfl, e1, k1, rs⟩⟩) fun us s2 ⟨vs, H1, I1, r1, v, ev, e1, k1, rs⟩ => ?_) (by rw [hs]; rfl) (by rw [hs]; rfl) rfl rfl
        subst ev
        show wpAny _ _ (evalAll ((do let v ← eval (.Lambda params (ixBody x m1 m2 p1 p2 p3 p4 p5) scope lpos) X.env; standAt pos; pure v) :: [])) _ _ s2
        refine wpAny_evalAll_cons (wpAny_bind (lam_mk I1 TB hcode hq hT hu k1.1 hdef L.nofree fun fa c' pm ctv G s3 I2 st2 pe T2 hfa hco => wpAny_bind (wpAny_standAt (wpAny_pure (wpAny_evalAll_nil ?_)))))
        have oP := k1.1 _ hT
        obtain ⟨ps0, hP, _⟩ := oP
        have hP : H1 P = some (.tbl ps0) := hP
        have mP : P ∈ tbA := List.mem_map.mpr ⟨_, hT, rfl⟩
        have eG : Ext c.fp H1 G := ⟨fun b o z nb => st2 b o (fun w => nb (by rw [w]; exact List.mem_append_right _ mP)) z, pe⟩
        obtain ⟨a, vs, rfl, rd, pq⟩ := (rs.po_ext eG).list
        obtain ⟨its, rv, hl, z⟩ := I2.list (.inl rd)
        rw [Vals.ref1 r1]
        have ei := each_of pq rv
        have m1 := pq.length
        have kG : CelOk (wd X) c st' G := k1.but hP st2 pe T2
        obtain ⟨⟨oc, fs, tk0, g1, g2, g3⟩, _, _⟩ := I2.hok c' _ hco
        refine PySem.W.sorted_key_data (f := .ref fa) (b := false) keyP hl.isList ei (prs_alike ok1) (prs_sortable ok1) ok2 (fun d hd => ?_) (ksk_s1 _ _) (fun _ => ksk_l1 _ _) (fun y => ksk_t1 fa y) (fun u d ⟨v, rv1, pf⟩ hd h tk up => ?_) fun out ep h' tk up _ ho hlen eo => ?_
        · obtain ⟨y, es, ds, rfl⟩ := pr_shape (List.all_eq_true.mp ok1 d hd)
          have := hr.un
          simp [keyP, PyData.depth]
          omega
        · obtain ⟨y, es, ds, rfl⟩ := pr_shape (List.all_eq_true.mp ok1 d hd)
          cases pf with
          | tup sq pfs =>
            cases rv1
            cases pfs with
            | cons pa pb =>
              cases pa with
              | tup sq1 pfs1 =>
                cases pfs1 with
                | cons pc pd =>
                  cases pc with
                  | str _ sk =>
                    obtain ⟨its1, rv2, tu, z1⟩ := I2.tuple sq
                    obtain ⟨its2, rv3, tu1, z2⟩ := I2.tuple sq1
                    cases rv2 with
                    | cons ra rb =>
                      cases ra
                      cases rv3 with
                      | cons rc rd' =>
                        obtain ⟨tt, rfl⟩ := rc
                        refine lam_ix (u := .str y tt) (K := X.K) (base := X.base) (mg := X.mg) L I2.ok.mod (fun b o z => up b o (I2.bk b o z)) ?_ (up _ _ hfa) ⟨c', oc, fs, tk0, rfl, up _ _ g1, g2, g3⟩ (hbind _ _ _ _) (tu.keeps up) (by simp) (tu1.keeps up) (by simp) fun h2 tk2 up2 => ?_
                        · have := hr.dp
                          show X.A.depth < _
                          omega
                        · exact ⟨h2, tk2, rfl, up2, Reads.str _ _⟩
        · obtain ⟨ws, r3, p3⟩ := of_each eo
          have fr : G (s3.heap.objs.size + 1) = none := I2.hok.fresh (Nat.le_succ _)
          have lw := r3.length
          exact ⟨.ref _, upd G (s3.heap.objs.size + 1) (.lst ws), I2.laid (t' := tk) up (Nat.le_succ _) ⟨by omega, out, ep, r3, ho⟩, rfl, qq _ _ ((e1.trans eG).trans (.of (same_new fr))) (kG.same (same_new fr)) ((Rs.lst fr p3).res (e1.trans eG) kG)⟩
      · cases h2
  · cases hf
end
theorem bind_pair {q : Str} {p : Pos} {body : Expr} {scope : Scope} (pm cv ctv u : Value) : bindArgs (PySem.W.kla_fn "<lambda>" q (parOne "pair" p) body scope [] pm cv ctv) ⟨[u], []⟩ = pure [(("pair" : Str), u)] := rfl
def lamIB (x : Str) (scope : Scope) : Bool := decide (scope.kind = .function) && !scope.isCoroutine && !scope.isGenerator && scope.names.all (fun y => !decide (y.2 = .cell) && !decide (y.2 = .free)) && decide (scope.names.lookup x = some .local) && !(x == ("__debug__" : Str))
theorem lamI_by {x : Str} {scope : Scope} (h : lamIB x scope = true) : LamI x scope := by
  unfold lamIB at h
  simp only [Bool.and_eq_true, Bool.not_eq_true', decide_eq_true_eq, decide_eq_false_iff_not, List.all_eq_true] at h
  obtain ⟨⟨⟨⟨⟨h1, h2⟩, h3⟩, h4⟩, h5⟩, h7⟩ := h
  exact ⟨h1, h2, h3, fun y hy => (h4 y hy).1, fun y hy => (h4 y hy).2, h5, h7⟩
end Co
end

section
set_option Elab.async false
set_option linter.all false
set_option maxRecDepth 100000
set_option autoImplicit false
namespace Co
open PySem PySem.Spec L2 PyProof.Rows
variable [Tbs]

/-! ### the core language -/
inductive Bi where
  | list | tuple | abs | int | max | min | sum | all | any | sorted | len | dict
  deriving DecidableEq
mutual
inductive CE where
  | var (i : Nat)
  | cst (d : D)
  | glob (x : Str)
  | bin (op : Operator) (a b : CE)
  | cmp (op : CmpOp) (a b : CE)
  | chn (op op' : CmpOp) (a b c : CE)
  | nt (a : CE)
  | bo (k : Bool) (as : CEs)
  | ifx (t a b : CE)
  | neg (a : CE)
  | ix (a b : CE)
  | ixc (i : Nat) (b : CE)
  | ixs (i : Nat) (b : CE)
  | lens (i : Nat)
  | sl (a : CE) (lo hi : CO)
  | tup (as : CEs)
  | lst (as : CEs)
  | bi (b : Bi) (as : CEs)
  | isi (a : CE) (ts : List String)
  | lc (own : List (Str × Nat)) (t : Tg) (it : CI) (f : CO) (e : CE)
  | lc2 (own : List (Str × Nat)) (t : Tg) (it : CI) (f : CO) (t1 : Tg) (vs1 : List Nat) (it1 : CI) (f1 : CO) (e : CE)
  | frz (a : CE)
  | call (x : Str) (n : Nat) (as : CAs)
  | idx (a b : CE)
  | dnew
  | dsp (k v : CE)
  | dzip (a b : CE)
  | lzip (a b : CE)
  | srt (a : CE)
  | sset (a : CE)
  | srp (a : CE)
  | get (a k z : CE)
  | bad
inductive CEs where
  | nil
  | cons (a : CE) (as : CEs)
inductive CO where
  | no
  | so (a : CE)
inductive CI where
  | items (a : CE)
  | range (as : CEs)
  | enum (as : CEs)
  | zip (as : CEs)
inductive CAs where
  | nil
  | val (a : CE) (as : CAs)
  | cel (i : Nat) (as : CAs)
end
mutual
inductive CS where
  | set (i : Nat) (e : CE)
  | bind (t : Tg) (e : CE)
  | par (is : List Nat) (es : CEs)
  | aug (i : Nat) (e : CE)
  | app (i : Nat) (e : CE)
  | putL (i : Nat) (e k : CE)
  | putC (i : Nat) (e k : CE)
  | putD (i : Nat) (e k : CE)
  | put2 (i j : Nat) (e e' k k' : CE)
  | drop (e : CE)
  | ret (e : CE)
  | retv (i : Nat)
  | iff (t : CE) (as bs : CSs)
  | fr (t : Tg) (it : CI) (bs : CSs)
  | whl (n : Nat) (t : CE) (bs : CSs)
  | bad
inductive CSs where
  | nil
  | cons (a : CS) (as : CSs)
  | frz (i : Nat) (as : CSs)
end
/-- what the module's names stand for -/
structure Tb where
  f : Str → FD
  g : Str → Option D

/-! ### its meaning -/
def binD : Operator → D → D → Option R
  | .Add => addD
  | .Sub => subD
  | .Mult => mulE
  | .FloorDiv => fdivE
  | .Mod => modD
  | .Pow => powD
  | _ => fun _ _ => none
def cmpD : CmpOp → D → D → Option R
  | .Eq => eqD
  | .NotEq => neD
  | .Lt => ltD
  | .LtE => leD
  | .Gt => gtD
  | .GtE => geD
  | .Is => isD
  | .IsNot => isnotD
  | .In => inE
  | .NotIn => notinE
def Bi.den : Bi → List D → Option R
  | .list => listD
  | .tuple => tupleD
  | .abs => absD
  | .int => intD
  | .max => maxE
  | .min => minE
  | .sum => sumE
  | .all => allD
  | .any => anyD
  | .sorted => sortedE
  | .len => lenD
  | .dict => dictE
def dBo (k : Bool) (f g : Den Bool) : Den Bool := match k with
  | true => dAnd f g
  | false => dOr f g
def dItemsB (b : Bool) (f : Den R) : Den (List D) := match b with
  | true => dItems f
  | false => dItemsE f
def dNone {α : Type} : Den α := fun _ _ => none
def sNone : DenS := fun _ _ => none
def dGlob (d : Option D) : Den R := match d with
  | some d => dC d
  | none => dNone
section
variable (T : Tb)
mutual
def den : CE → Den R
  | .var i => dVar i
  | .cst d => dC d
  | .glob x => dGlob (T.g x)
  | .bin op a b => d2 (binD op) (den a) (den b)
  | .cmp op a b => d2 (cmpD op) (den a) (den b)
  | .chn op op' a b c => dB (dChain (cmpD op) (cmpD op') (den a) (den b) (den c))
  | .nt a => dB (dNot (dT (den a)))
  | .bo k as => dB (denB k as)
  | .ifx t a b => dIf (dT (den t)) (den a) (den b)
  | .neg a => dNeg (den a)
  | .ix a b => d2 idxE (den a) (den b)
  | .ixc i b => dIxC i (den b)
  | .ixs i b => dIxS i (den b)
  | .lens i => dLenS i
  | .sl a lo hi => dSl (den a) (denO lo) (denO hi)
  | .tup as => dTup (dens as)
  | .lst as => dLst (dens as)
  | .bi b as => dCall b.den (dens as)
  | .isi a ts => dIsi ts (den a)
  | .lc own t it f e => dLc t (own.map (·.2)) (denI false it) (denF f) (den e)
  | .lc2 own t it f t1 vs1 it1 f1 e => dLc2 t (own.map (·.2)) (denI false it) (denF f) (denI true it1) t1 vs1 (denF f1) (den e)
  | .frz a => dFrz (den a)
  | .call x n as => dCallF n (T.f x) (denX as)
  | .idx a b => dIndex (den a) (den b)
  | .dnew => dDnew
  | .dsp k v => dDisp1 (den k) (den v)
  | .dzip a b => dDzip (den a) (den b)
  | .lzip a b => dLzip (den a) (den b)
  | .srt a => dSortL (den a)
  | .sset a => dSset (den a)
  | .srp a => dSortP (den a)
  | .get a k z => dGet (den a) (den k) (den z)
  | .bad => dNone
def dens : CEs → Den (List R)
  | .nil => dNil
  | .cons a as => dCons (den a) (dens as)
def denB : Bool → CEs → Den Bool
  | _, .nil => dNone
  | _, .cons a .nil => dT (den a)
  | k, .cons a (.cons a' as) => dBo k (dT (den a)) (denB k (.cons a' as))
def denO : CO → Option (Den R)
  | .no => none
  | .so a => some (den a)
def denF : CO → Den Bool
  | .no => dYes
  | .so a => dT (den a)
def denI : Bool → CI → Den (List D)
  | b, .items a => dItemsB b (den a)
  | _, .range as => dRange (dens as)
  | _, .enum as => dEnum (dens as)
  | _, .zip as => dZip (dens as)
def denX : CAs → Den (List (Option D))
  | .nil => xNil
  | .val a as => xVal (den a) (denX as)
  | .cel i as => xCel i (denX as)
end
mutual
def denS : CS → DenS
  | .set i e => sSet i (den T e)
  | .bind t e => sBind t (den T e)
  | .par is es => sPar is (dens T es)
  | .aug i e => sAug mulI i (den T e)
  | .app i e => sApp i (den T e)
  | .putL i e k => sPutL i (den T e) (den T k)
  | .putC i e k => sPutC i (den T e) (den T k)
  | .putD i e k => sPutD i (den T e) (den T k)
  | .put2 i j e e' k k' => sPut2 i j (den T e) (den T e') (den T k) (den T k')
  | .drop e => sDrop (den T e)
  | .ret e => sRet (den T e)
  | .retv i => sRetv i
  | .iff t as bs => sIf (dT (den T t)) (denSs as) (denSs bs)
  | .fr t it bs => sFor t (denI T true it) (denSs bs)
  | .whl n t bs => whileLoop (dT (den T t)) (denSs bs) n
  | .bad => sNone
def denSs : CSs → DenS
  | .nil => sNil
  | .cons a as => sSeq (denS a) (denSs as)
  | .frz i as => sSeq (sFrz i) (denSs as)
end
end

/-! ### whether a text is one of it -/
structure Gt where
  frees : List Str
  consts : List Str
  fns : List (Str × Nat)
  lam : Bool := false
def glB (sc : Scope) (x : Str) : Bool := decide (sc.names.lookup x = some .globalImplicit)
def visB (sc : Scope) (x : Str) : Bool := match sc.names.lookup x with
  | some .local => true
  | some .cell => true
  | some .free => true
  | _ => false
def okN (x : Str) : Bool := !(x == ("__debug__" : Str)) && !(x == ("__classdict__" : Str)) && !decide (x = ("__name__" : Str))
def slotB (N : List Str) (sc : Scope) (i : Nat) (x : Str) : Bool := decide (N[i]? = some x) && visB sc x && okN x
/-- a test that is asked by its value's truth -/
def plT : Expr → Bool
  | .UnaryOp .Not _ _ => false
  | .BoolOp _ _ _ => false
  | .IfExp _ _ _ _ => false
  | .Compare _ _ _ _ => false
  | _ => true
def nCall0 : Expr → Bool
  | .Call _ _ _ _ => false
  | _ => true
def nst : Expr → Bool
  | .Starred _ _ => false
  | _ => true
def nSet : Expr → Bool
  | .Set _ _ _ => false
  | _ => true
def nSl : Expr → Bool
  | .Slice _ _ _ _ => false
  | .Tuple _ _ _ => false
  | _ => true
def cstB : D → Const → Bool
  | .int i, .int j => decide (i = j)
  | .bool i, .bool j => decide (i = j)
  | .none, .none => true
  | .str x, .str y => decide (x = y) && PyData.strOk x
  | _, _ => false
def Bi.nm : Bi → String
  | .list => "list"
  | .tuple => "tuple"
  | .abs => "abs"
  | .int => "int"
  | .max => "max"
  | .min => "min"
  | .sum => "sum"
  | .all => "all"
  | .any => "any"
  | .sorted => "sorted"
  | .len => "len"
  | .dict => "dict"
def tyB (Γ : Gt) (sc : Scope) (t : String) : Expr → Bool
  | .Name x _ => decide (x = Str.ofString t) && glB sc x && decide (x ∈ Γ.frees) && decide (t ∈ knownTy)
  | _ => false
def subB (as bs : List Nat) : Bool := as.all fun i => decide (i ∈ bs)
def boB : Bool → BoolOp → Bool
  | true, .And => true
  | false, .Or => true
  | _, _ => false
def allC (sc : Scope) (x : Str) : Bool := decide (sc.names.lookup x = some .cell)
/-- a block's names, as it reads them -/
def rl (sc' sc : Scope) : Scope := { sc' with names := sc'.names.map fun p => if (p.2 == NameKind.free && sc.kind == .function && sc.names.lookup p.1 == some .cell) = true then (p.1, NameKind.cell) else p }
def onName (x : Expr) (f : Str → Bool) : Bool := match x with
  | .Name y _ => f y
  | _ => false
theorem onName_ok {x : Expr} {f : Str → Bool} (h : onName x f = true) : ∃ (y : Str) (p : Pos), x = .Name y p ∧ f y = true := by
  unfold onName at h
  split at h
  · exact ⟨_, _, rfl, h⟩
  · cases h
def onCst (x : Expr) (f : Const → Bool) : Bool := match x with
  | .Constant q _ _ => f q
  | _ => false
theorem onCst_ok {x : Expr} {f : Const → Bool} (h : onCst x f = true) : ∃ (q : Const) (m : Nat) (p : Pos), x = .Constant q m p ∧ f q = true := by
  unfold onCst at h
  split at h
  · exact ⟨_, _, _, rfl, h⟩
  · cases h
def onBin (x : Expr) (f : Expr → Operator → Expr → Bool) : Bool := match x with
  | .BinOp y o z _ => f y o z
  | _ => false
theorem onBin_ok {x : Expr} {f : Expr → Operator → Expr → Bool} (h : onBin x f = true) : ∃ (y : Expr) (o : Operator) (z : Expr) (p : Pos), x = .BinOp y o z p ∧ f y o z = true := by
  unfold onBin at h
  split at h
  · exact ⟨_, _, _, _, rfl, h⟩
  · cases h
def onCmp1 (x : Expr) (f : Expr → CmpOp → Expr → Bool) : Bool := match x with
  | .Compare y [o] [z] _ => f y o z
  | _ => false
theorem onCmp1_ok {x : Expr} {f : Expr → CmpOp → Expr → Bool} (h : onCmp1 x f = true) : ∃ (y : Expr) (o : CmpOp) (z : Expr) (p : Pos), x = .Compare y [o] [z] p ∧ f y o z = true := by
  unfold onCmp1 at h
  split at h
  · exact ⟨_, _, _, _, rfl, h⟩
  · cases h
def onCmp2 (x : Expr) (f : Expr → CmpOp → CmpOp → Expr → Expr → Bool) : Bool := match x with
  | .Compare y [o, o'] [z, u] _ => f y o o' z u
  | _ => false
theorem onCmp2_ok {x : Expr} {f : Expr → CmpOp → CmpOp → Expr → Expr → Bool} (h : onCmp2 x f = true) : ∃ (y : Expr) (o : CmpOp) (o' : CmpOp) (z : Expr) (u : Expr) (p : Pos), x = .Compare y [o, o'] [z, u] p ∧ f y o o' z u = true := by
  unfold onCmp2 at h
  split at h
  · exact ⟨_, _, _, _, _, _, rfl, h⟩
  · cases h
def onNot (x : Expr) (f : Expr → Bool) : Bool := match x with
  | .UnaryOp .Not y _ => f y
  | _ => false
theorem onNot_ok {x : Expr} {f : Expr → Bool} (h : onNot x f = true) : ∃ (y : Expr) (p : Pos), x = .UnaryOp .Not y p ∧ f y = true := by
  unfold onNot at h
  split at h
  · exact ⟨_, _, rfl, h⟩
  · cases h
def onNeg (x : Expr) (f : Expr → Bool) : Bool := match x with
  | .UnaryOp .USub y _ => f y
  | _ => false
theorem onNeg_ok {x : Expr} {f : Expr → Bool} (h : onNeg x f = true) : ∃ (y : Expr) (p : Pos), x = .UnaryOp .USub y p ∧ f y = true := by
  unfold onNeg at h
  split at h
  · exact ⟨_, _, rfl, h⟩
  · cases h
def onBool (x : Expr) (f : BoolOp → (List Expr) → Bool) : Bool := match x with
  | .BoolOp o ys _ => f o ys
  | _ => false
theorem onBool_ok {x : Expr} {f : BoolOp → (List Expr) → Bool} (h : onBool x f = true) : ∃ (o : BoolOp) (ys : List Expr) (p : Pos), x = .BoolOp o ys p ∧ f o ys = true := by
  unfold onBool at h
  split at h
  · exact ⟨_, _, _, rfl, h⟩
  · cases h
def onIf (x : Expr) (f : Expr → Expr → Expr → Bool) : Bool := match x with
  | .IfExp u y z _ => f u y z
  | _ => false
theorem onIf_ok {x : Expr} {f : Expr → Expr → Expr → Bool} (h : onIf x f = true) : ∃ (u : Expr) (y : Expr) (z : Expr) (p : Pos), x = .IfExp u y z p ∧ f u y z = true := by
  unfold onIf at h
  split at h
  · exact ⟨_, _, _, _, rfl, h⟩
  · cases h
def onSub (x : Expr) (f : Expr → Expr → Bool) : Bool := match x with
  | .Subscript y z _ => f y z
  | _ => false
theorem onSub_ok {x : Expr} {f : Expr → Expr → Bool} (h : onSub x f = true) : ∃ (y : Expr) (z : Expr) (p : Pos), x = .Subscript y z p ∧ f y z = true := by
  unfold onSub at h
  split at h
  · exact ⟨_, _, _, rfl, h⟩
  · cases h
def onSubN (x : Expr) (f : Str → Expr → Bool) : Bool := match x with
  | .Subscript (.Name y _) z _ => f y z
  | _ => false
theorem onSubN_ok {x : Expr} {f : Str → Expr → Bool} (h : onSubN x f = true) : ∃ (y : Str) (z : Expr) (q : Pos) (p : Pos), x = .Subscript (.Name y q) z p ∧ f y z = true := by
  unfold onSubN at h
  split at h
  · exact ⟨_, _, _, _, rfl, h⟩
  · cases h
def onSl (x : Expr) (f : Expr → (Option Expr) → (Option Expr) → Bool) : Bool := match x with
  | .Subscript y (.Slice l h none _) _ => f y l h
  | _ => false
theorem onSl_ok {x : Expr} {f : Expr → (Option Expr) → (Option Expr) → Bool} (h : onSl x f = true) : ∃ (y : Expr) (l : Option Expr) (h : Option Expr) (q : Pos) (p : Pos), x = .Subscript y (.Slice l h none q) p ∧ f y l h = true := by
  unfold onSl at h
  split at h
  · exact ⟨_, _, _, _, _, rfl, h⟩
  · cases h
def onTup (x : Expr) (f : (List Expr) → Bool) : Bool := match x with
  | .Tuple ys _ _ => f ys
  | _ => false
theorem onTup_ok {x : Expr} {f : (List Expr) → Bool} (h : onTup x f = true) : ∃ (ys : List Expr) (m : Nat) (p : Pos), x = .Tuple ys m p ∧ f ys = true := by
  unfold onTup at h
  split at h
  · exact ⟨_, _, _, rfl, h⟩
  · cases h
def onLst (x : Expr) (f : (List Expr) → Bool) : Bool := match x with
  | .List ys _ => f ys
  | _ => false
theorem onLst_ok {x : Expr} {f : (List Expr) → Bool} (h : onLst x f = true) : ∃ (ys : List Expr) (p : Pos), x = .List ys p ∧ f ys = true := by
  unfold onLst at h
  split at h
  · exact ⟨_, _, rfl, h⟩
  · cases h
def onCall (x : Expr) (f : Str → Expr → (List Expr) → Bool) : Bool := match x with
  | .Call (.Name y _) (z :: zs) [] _ => f y z zs
  | _ => false
theorem onCall_ok {x : Expr} {f : Str → Expr → (List Expr) → Bool} (h : onCall x f = true) : ∃ (y : Str) (z : Expr) (zs : List Expr) (q : Pos) (p : Pos), x = .Call (.Name y q) (z :: zs) [] p ∧ f y z zs = true := by
  unfold onCall at h
  split at h
  · exact ⟨_, _, _, _, _, rfl, h⟩
  · cases h
def onCall1 (x : Expr) (f : Str → Expr → Bool) : Bool := match x with
  | .Call (.Name y _) [z] [] _ => f y z
  | _ => false
theorem onCall1_ok {x : Expr} {f : Str → Expr → Bool} (h : onCall1 x f = true) : ∃ (y : Str) (z : Expr) (q : Pos) (p : Pos), x = .Call (.Name y q) [z] [] p ∧ f y z = true := by
  unfold onCall1 at h
  split at h
  · exact ⟨_, _, _, _, rfl, h⟩
  · cases h
def onCall2 (x : Expr) (f : Str → Expr → Expr → Bool) : Bool := match x with
  | .Call (.Name y _) [z, u] [] _ => f y z u
  | _ => false
theorem onCall2_ok {x : Expr} {f : Str → Expr → Expr → Bool} (h : onCall2 x f = true) : ∃ (y : Str) (z : Expr) (u : Expr) (q : Pos) (p : Pos), x = .Call (.Name y q) [z, u] [] p ∧ f y z u = true := by
  unfold onCall2 at h
  split at h
  · exact ⟨_, _, _, _, _, rfl, h⟩
  · cases h
def onTup2 (x : Expr) (f : Expr → Expr → Bool) : Bool := match x with
  | .Tuple [y, z] _ _ => f y z
  | _ => false
theorem onTup2_ok {x : Expr} {f : Expr → Expr → Bool} (h : onTup2 x f = true) : ∃ (y : Expr) (z : Expr) (m : Nat) (p : Pos), x = .Tuple [y, z] m p ∧ f y z = true := by
  unfold onTup2 at h
  split at h
  · exact ⟨_, _, _, _, rfl, h⟩
  · cases h
def onSrt (x : Expr) (f : Str → Expr → Str → Arguments → Str → Str → Str → Scope → Bool) : Bool := match x with
  | .Call (.Name y _) [z] [⟨some kk, .Lambda ps (.Tuple [.Call (.Name l _) [.Name a _] [] _, .Name b _] _ _) sc' _, _⟩] _ => f y z kk ps l a b sc'
  | _ => false
theorem onSrt_ok {x : Expr} {f : Str → Expr → Str → Arguments → Str → Str → Str → Scope → Bool} (h : onSrt x f = true) : ∃ (y : Str) (z : Expr) (kk : Str) (ps : Arguments) (l a b : Str) (sc' : Scope) (q1 q2 q3 q4 q5 q6 q7 q8 q9 : Pos) (m : Nat), x = .Call (.Name y q1) [z] [⟨some kk, .Lambda ps (.Tuple [.Call (.Name l q2) [.Name a q3] [] q4, .Name b q5] m q6) sc' q7, q8⟩] q9 ∧ f y z kk ps l a b sc' = true := by
  unfold onSrt at h
  split at h
  · exact ⟨_, _, _, _, _, _, _, _, _, _, _, _, _, _, _, _, _, _, rfl, h⟩
  · cases h
def onSrp (x : Expr) (f : Str → Expr → Str → Arguments → Str → Int → Int → Scope → Bool) : Bool := match x with
  | .Call (.Name y _) [z] [⟨some kk, .Lambda ps (.Subscript (.Subscript (.Name a _) (.Constant (.int i) _ _) _) (.Constant (.int j) _ _) _) sc' _, _⟩] _ => f y z kk ps a i j sc'
  | _ => false
theorem onSrp_ok {x : Expr} {f : Str → Expr → Str → Arguments → Str → Int → Int → Scope → Bool} (h : onSrp x f = true) : ∃ (y : Str) (z : Expr) (kk : Str) (ps : Arguments) (a : Str) (i j : Int) (sc' : Scope) (q1 q2 q3 q4 q5 q6 q7 q8 q9 : Pos) (m1 m2 : Nat), x = .Call (.Name y q1) [z] [⟨some kk, .Lambda ps (.Subscript (.Subscript (.Name a q2) (.Constant (.int i) m1 q3) q4) (.Constant (.int j) m2 q5) q6) sc' q7, q8⟩] q9 ∧ f y z kk ps a i j sc' = true := by
  unfold onSrp at h
  split at h
  · exact ⟨_, _, _, _, _, _, _, _, _, _, _, _, _, _, _, _, _, _, _, rfl, h⟩
  · cases h
def onPar1 (x : Arguments) (f : Str → Bool) : Bool := match x with
  | ⟨[], [⟨y, none, _⟩], none, [], [], none, []⟩ => f y
  | _ => false
theorem onPar1_ok {x : Arguments} {f : Str → Bool} (h : onPar1 x f = true) : ∃ (y : Str) (p : Pos), x = parOne y p ∧ f y = true := by
  unfold onPar1 at h
  split at h
  · exact ⟨_, _, rfl, h⟩
  · cases h
def onLc (x : Expr) (f : Expr → Expr → Expr → (List Expr) → Scope → Bool) : Bool := match x with
  | .ListComp elt [⟨tg, iter, ifs, 0⟩] sc' _ => f elt tg iter ifs sc'
  | _ => false
theorem onLc_ok {x : Expr} {f : Expr → Expr → Expr → (List Expr) → Scope → Bool} (h : onLc x f = true) : ∃ (elt : Expr) (tg : Expr) (iter : Expr) (ifs : List Expr) (sc' : Scope) (p : Pos), x = .ListComp elt [⟨tg, iter, ifs, 0⟩] sc' p ∧ f elt tg iter ifs sc' = true := by
  unfold onLc at h
  split at h
  · exact ⟨_, _, _, _, _, _, rfl, h⟩
  · cases h
def onLc2 (x : Expr) (f : Expr → Expr → Expr → (List Expr) → Expr → Expr → (List Expr) → Scope → Bool) : Bool := match x with
  | .ListComp elt [⟨tg, iter, ifs, 0⟩, ⟨tg1, iter1, ifs1, 0⟩] sc' _ => f elt tg iter ifs tg1 iter1 ifs1 sc'
  | _ => false
theorem onLc2_ok {x : Expr} {f : Expr → Expr → Expr → (List Expr) → Expr → Expr → (List Expr) → Scope → Bool} (h : onLc2 x f = true) : ∃ (elt : Expr) (tg : Expr) (iter : Expr) (ifs : List Expr) (tg1 : Expr) (iter1 : Expr) (ifs1 : List Expr) (sc' : Scope) (p : Pos), x = .ListComp elt [⟨tg, iter, ifs, 0⟩, ⟨tg1, iter1, ifs1, 0⟩] sc' p ∧ f elt tg iter ifs tg1 iter1 ifs1 sc' = true := by
  unfold onLc2 at h
  split at h
  · exact ⟨_, _, _, _, _, _, _, _, _, rfl, h⟩
  · cases h
def onMeth1 (x : Expr) (f : Expr → Str → Pos → Expr → Pos → Bool) : Bool := match x with
  | .Call (.Attribute y m ap) [z] [] p => f y m ap z p
  | _ => false
theorem onMeth1_ok {x : Expr} {f : Expr → Str → Pos → Expr → Pos → Bool} (h : onMeth1 x f = true) : ∃ (y : Expr) (m : Str) (ap : Pos) (z : Expr) (p : Pos), x = .Call (.Attribute y m ap) [z] [] p ∧ f y m ap z p = true := by
  unfold onMeth1 at h
  split at h
  · exact ⟨_, _, _, _, _, rfl, h⟩
  · cases h
def onMeth2 (x : Expr) (f : Expr → Str → Pos → Expr → Expr → Pos → Bool) : Bool := match x with
  | .Call (.Attribute y m ap) [z, u] [] p => f y m ap z u p
  | _ => false
theorem onMeth2_ok {x : Expr} {f : Expr → Str → Pos → Expr → Expr → Pos → Bool} (h : onMeth2 x f = true) : ∃ (y : Expr) (m : Str) (ap : Pos) (z u : Expr) (p : Pos), x = .Call (.Attribute y m ap) [z, u] [] p ∧ f y m ap z u p = true := by
  unfold onMeth2 at h
  split at h
  · exact ⟨_, _, _, _, _, _, rfl, h⟩
  · cases h
def onD0 (x : Expr) (f : Bool) : Bool := match x with
  | .Dict [] [] _ => f
  | _ => false
theorem onD0_ok {x : Expr} {f : Bool} (h : onD0 x f = true) : ∃ (p : Pos), x = .Dict [] [] p ∧ f = true := by
  unfold onD0 at h
  split at h
  · exact ⟨_, rfl, h⟩
  · cases h
def onD1 (x : Expr) (f : Expr → Expr → Bool) : Bool := match x with
  | .Dict [some y] [z] _ => f y z
  | _ => false
theorem onD1_ok {x : Expr} {f : Expr → Expr → Bool} (h : onD1 x f = true) : ∃ (y : Expr) (z : Expr) (p : Pos), x = .Dict [some y] [z] p ∧ f y z = true := by
  unfold onD1 at h
  split at h
  · exact ⟨_, _, _, rfl, h⟩
  · cases h
def onNil (x : List Expr) (f : Bool) : Bool := match x with
  | [] => f
  | _ => false
theorem onNil_ok {x : List Expr} {f : Bool} (h : onNil x f = true) : x = [] ∧ f = true := by
  unfold onNil at h
  split at h
  · exact ⟨rfl, h⟩
  · cases h
def onCons (x : List Expr) (f : Expr → (List Expr) → Bool) : Bool := match x with
  | y :: ys => f y ys
  | _ => false
theorem onCons_ok {x : List Expr} {f : Expr → (List Expr) → Bool} (h : onCons x f = true) : ∃ (y : Expr) (ys : List Expr), x = y :: ys ∧ f y ys = true := by
  unfold onCons at h
  split at h
  · exact ⟨_, _, rfl, h⟩
  · cases h
def onOne (x : List Expr) (f : Expr → Bool) : Bool := match x with
  | [y] => f y
  | _ => false
theorem onOne_ok {x : List Expr} {f : Expr → Bool} (h : onOne x f = true) : ∃ (y : Expr), x = [y] ∧ f y = true := by
  unfold onOne at h
  split at h
  · exact ⟨_, rfl, h⟩
  · cases h
def onTwo (x : List Expr) (f : Expr → Expr → (List Expr) → Bool) : Bool := match x with
  | y :: z :: ys => f y z ys
  | _ => false
theorem onTwo_ok {x : List Expr} {f : Expr → Expr → (List Expr) → Bool} (h : onTwo x f = true) : ∃ (y : Expr) (z : Expr) (ys : List Expr), x = y :: z :: ys ∧ f y z ys = true := by
  unfold onTwo at h
  split at h
  · exact ⟨_, _, _, rfl, h⟩
  · cases h
def onNoE (x : Option Expr) (f : Bool) : Bool := match x with
  | none => f
  | _ => false
theorem onNoE_ok {x : Option Expr} {f : Bool} (h : onNoE x f = true) : x = none ∧ f = true := by
  unfold onNoE at h
  split at h
  · exact ⟨rfl, h⟩
  · cases h
def onSoE (x : Option Expr) (f : Expr → Bool) : Bool := match x with
  | some y => f y
  | _ => false
theorem onSoE_ok {x : Option Expr} {f : Expr → Bool} (h : onSoE x f = true) : ∃ (y : Expr), x = some y ∧ f y = true := by
  unfold onSoE at h
  split at h
  · exact ⟨_, rfl, h⟩
  · cases h
def onNameC (x : List Expr) (f : Str → (List Expr) → Bool) : Bool := match x with
  | .Name y _ :: ys => f y ys
  | _ => false
theorem onNameC_ok {x : List Expr} {f : Str → (List Expr) → Bool} (h : onNameC x f = true) : ∃ (y : Str) (ys : List Expr) (p : Pos), x = .Name y p :: ys ∧ f y ys = true := by
  unfold onNameC at h
  split at h
  · exact ⟨_, _, _, rfl, h⟩
  · cases h
def onZip (x : Expr) (f : Str → Str → Expr → Expr → Bool) : Bool := match x with
  | .Call (.Name y _) [.Call (.Name z _) [u, v] [] _] [] _ => f y z u v
  | _ => false
theorem onZip_ok {x : Expr} {f : Str → Str → Expr → Expr → Bool} (h : onZip x f = true) : ∃ (y : Str) (z : Str) (u : Expr) (v : Expr) (q : Pos) (q' : Pos) (p : Pos) (p' : Pos), x = .Call (.Name y q) [.Call (.Name z q') [u, v] [] p] [] p' ∧ f y z u v = true := by
  unfold onZip at h
  split at h
  · exact ⟨_, _, _, _, _, _, _, _, rfl, h⟩
  · cases h
def onSset (x : Expr) (f : Str → Str → Expr → Bool) : Bool := match x with
  | .Call (.Name y _) [.Call (.Name z _) [u] [] _] [] _ => f y z u
  | _ => false
theorem onSset_ok {x : Expr} {f : Str → Str → Expr → Bool} (h : onSset x f = true) : ∃ (y : Str) (z : Str) (u : Expr) (q : Pos) (q' : Pos) (p : Pos) (p' : Pos), x = .Call (.Name y q) [.Call (.Name z q') [u] [] p] [] p' ∧ f y z u = true := by
  unfold onSset at h
  split at h
  · exact ⟨_, _, _, _, _, _, _, rfl, h⟩
  · cases h
def onCallN (x : Expr) (f : Str → Str → Bool) : Bool := match x with
  | .Call (.Name y _) [.Name z _] [] _ => f y z
  | _ => false
theorem onCallN_ok {x : Expr} {f : Str → Str → Bool} (h : onCallN x f = true) : ∃ (y : Str) (z : Str) (q : Pos) (q' : Pos) (p : Pos), x = .Call (.Name y q) [.Name z q'] [] p ∧ f y z = true := by
  unfold onCallN at h
  split at h
  · exact ⟨_, _, _, _, _, rfl, h⟩
  · cases h
def tysB (Γ : Gt) (sc : Scope) (ts : List String) (v : Expr) : Bool := match ts with
  | [t] => tyB Γ sc t v
  | [t, t'] => onTup2 v fun p q => tyB Γ sc t p && tyB Γ sc t' q
  | _ => false
section
variable (Γ : Gt) (N : List Str)
mutual
def mE : Bool → CE → Expr → Scope → Bool
  | b, .var i, x, sc => onName x (fun y => slotB N sc i y) && (!b || plT x)
  | b, .cst d, x, sc => onCst x (fun q => cstB d q) && (!b || plT x)
  | b, .glob g, x, sc => onName x (fun y => decide (y = g) && glB sc y && okN y && decide (y ∈ Γ.consts)) && (!b || plT x)
  | b, .bin op l r, x, sc => onBin x (fun y o z => decide (o = op) && mE false l y sc && mE false r z sc) && (!b || plT x)
  | _, .cmp op l r, x, sc => onCmp1 x (fun y o z => decide (o = op) && mE false l y sc && mE false r z sc && !behindInMarks o z)
  | _, .chn op op' l r q, x, sc => onCmp2 x (fun y o o' z u => decide (o = op) && decide (o' = op') && mE false l y sc && mE false r z sc && mE false q u sc && !lastMarks [o, o'] [z, u])
  | b, .nt a, x, sc => onNot x (fun y => mE b a y sc)
  | b, .bo k as, x, sc => onBool x (fun op ys => boB k op && mBs b as ys sc)
  | b, .ifx t l r, x, sc => onIf x (fun u y z => mE true t u sc && mE false l y sc && mE false r z sc) && (!b || plT x)
  | b, .neg a, x, sc => onNeg x (fun y => mE false a y sc) && (!b || plT x)
  | b, .ix l r, x, sc => onSub x (fun y z => mE false l y sc && mE false r z sc && nSl z) && (!b || plT x)
  | b, .ixc i r, x, sc => onSubN x (fun y z => slotB N sc i y && mE false r z sc && nSl z) && (!b || plT x)
  | b, .ixs i r, x, sc => onSubN x (fun y z => slotB N sc i y && mE false r z sc && nSl z) && (!b || plT x)
  | b, .lens i, x, sc => onCallN x (fun y z => decide (y = ("len" : Str)) && glB sc y && decide (y ∈ Γ.frees) && slotB N sc i z) && (!b || plT x)
  | b, .sl a lo hi, x, sc => onSl x (fun y l h => mE false a y sc && mO lo l sc && mO hi h sc) && (!b || plT x)
  | b, .tup as, x, sc => onTup x (fun ys => mEs as ys sc) && (!b || plT x)
  | b, .lst as, x, sc => onLst x (fun ys => mEs as ys sc) && (!b || plT x)
  | b, .bi k as, x, sc => onCall x (fun y z zs => decide (y = Str.ofString k.nm) && glB sc y && okN y && decide (y ∈ Γ.frees) && mEs as (z :: zs) sc) && (!b || plT x)
  | b, .isi a ts, x, sc => onCall2 x (fun y u v => decide (y = ("isinstance" : Str)) && glB sc y && decide (y ∈ Γ.frees) && mE false a u sc && nst u && tysB Γ sc ts v) && (!b || plT x)
  | b, .lc own t it f e, x, sc => onLc x (fun elt tg iter ifs sc' => mI false tg it iter sc && blkC N sc sc' own && subB t.slots (own.map (·.2)) && matchT N (rl sc' sc) (allC sc') t tg && mF f ifs (rl sc' sc) && mE false e elt (rl sc' sc) && nSet iter) && (!b || plT x)
  | b, .lc2 own t it f t1 vs1 it1 f1 e, x, sc => onLc2 x (fun elt tg iter ifs tg1 iter1 ifs1 sc' => mI false tg it iter sc && blkC N sc sc' own && subB t.slots (own.map (·.2)) && subB vs1 (own.map (·.2)) && subB t1.slots vs1 && matchT N (rl sc' sc) (allC sc') t tg && mF f ifs (rl sc' sc) && mI true tg1 it1 iter1 (rl sc' sc) && matchT N (rl sc' sc) (allC sc') t1 tg1 && mF f1 ifs1 (rl sc' sc) && mE false e elt (rl sc' sc) && nSet iter && nSet iter1) && (!b || plT x)
  | b, .frz a, x, sc => mE false a x sc && !b
  | b, .call g n as, x, sc => onCall x (fun y z zs => decide (y = g) && glB sc y && okN y && decide ((y, n) ∈ Γ.fns) && mAs as (z :: zs) sc) && (!b || plT x)
  | b, .idx l r, x, sc => onMeth1 x (fun y m ap z p => decide (m = ("index" : Str)) && mE false l y sc && mE false r z sc && nst z && nCall0 y && (ap.endLine == p.line)) && (!b || plT x)
  | b, .get l r w, x, sc => onMeth2 x (fun y m ap z u p => decide (m = ("get" : Str)) && mE false l y sc && mE false r z sc && mE false w u sc && nst z && nst u && nCall0 y && (ap.endLine == p.line)) && (!b || plT x)
  | b, .dnew, x, sc => onD0 x true && (!b || plT x)
  | b, .dsp k v, x, sc => onD1 x (fun y z => mE false k y sc && mE false v z sc) && (!b || plT x)
  | b, .srt l, x, sc => onSrt x (fun y z kk ps ln a a' sc' => decide (y = ("sorted" : Str)) && glB sc y && decide (y ∈ Γ.frees) && decide (kk = ("key" : Str)) && onPar1 ps (fun r => decide (r = ("lot" : Str))) && decide (ln = ("len" : Str)) && decide (a = ("lot" : Str)) && decide (a' = ("lot" : Str)) && decide (("len" : Str) ∈ Γ.frees) && lamLB ("lot" : Str) sc' && Γ.lam && mE false l z sc && nst z) && (!b || plT x)
  | b, .dzip l r, x, sc => onZip x (fun y z u v => decide (y = ("dict" : Str)) && glB sc y && decide (y ∈ Γ.frees) && decide (z = ("zip" : Str)) && glB sc z && decide (z ∈ Γ.frees) && mE false l u sc && mE false r v sc && nst u && nst v) && (!b || plT x)
  | b, .lzip l r, x, sc => onZip x (fun y z u v => decide (y = ("list" : Str)) && glB sc y && decide (y ∈ Γ.frees) && decide (z = ("zip" : Str)) && glB sc z && decide (z ∈ Γ.frees) && mE false l u sc && mE false r v sc && nst u && nst v) && (!b || plT x)
  | b, .srp l, x, sc => onSrp x (fun y z kk ps a i j sc' => decide (y = ("sorted" : Str)) && glB sc y && decide (y ∈ Γ.frees) && decide (kk = ("key" : Str)) && onPar1 ps (fun r => decide (r = ("pair" : Str))) && decide (a = ("pair" : Str)) && decide (i = 0) && decide (j = 0) && lamIB ("pair" : Str) sc' && Γ.lam && mE false l z sc && nst z) && (!b || plT x)
  | b, .sset l, x, sc => onSset x (fun y z u => decide (y = ("sorted" : Str)) && glB sc y && decide (y ∈ Γ.frees) && decide (z = ("set" : Str)) && glB sc z && decide (z ∈ Γ.frees) && mE false l u sc && nst u) && (!b || plT x)
  | b, .bad, x, sc => !b || plT x
def mEs : CEs → List Expr → Scope → Bool
  | .nil, xs, sc => onNil xs true
  | .cons a as, xs, sc => onCons xs (fun y ys => mE false a y sc && nst y && mEs as ys sc)
def mBs : Bool → CEs → List Expr → Scope → Bool
  | _, .nil, xs, sc => false
  | b, .cons a .nil, xs, sc => onOne xs (fun y => mE b a y sc)
  | b, .cons a (.cons a' as), xs, sc => onTwo xs (fun y z ys => mE b a y sc && mBs b (.cons a' as) (z :: ys) sc)
def mO : CO → Option Expr → Scope → Bool
  | .no, x, sc => onNoE x true
  | .so a, x, sc => onSoE x (fun y => mE false a y sc)
def mF : CO → List Expr → Scope → Bool
  | .no, x, sc => onNil x true
  | .so a, x, sc => onOne x (fun y => mE true a y sc)
def mI : Bool → Expr → CI → Expr → Scope → Bool
  | _, tg, .items a, x, sc => mE false a x sc
  | _, tg, .range as, x, sc => onCall1 x (fun y z => decide (y = ("range" : Str)) && glB sc y && decide (y ∈ Γ.frees) && mEs as [z] sc)
  | _, tg, .enum as, x, sc => onTup tg (fun _ => onCall1 x (fun y z => decide (y = ("enumerate" : Str)) && glB sc y && decide (y ∈ Γ.frees) && mEs as [z] sc))
  | _, tg, .zip as, x, sc => onTup tg (fun _ => onCall2 x (fun y z u => decide (y = ("zip" : Str)) && glB sc y && decide (y ∈ Γ.frees) && mEs as [z, u] sc))
def mAs : CAs → List Expr → Scope → Bool
  | .nil, xs, sc => onNil xs true
  | .val a as, xs, sc => onCons xs (fun y ys => mE false a y sc && nst y && mAs as ys sc)
  | .cel i as, xs, sc => onNameC xs (fun y ys => slotB N sc i y && mAs as ys sc)
end
end
end Co
end

section
set_option Elab.async false
set_option linter.all false
set_option maxRecDepth 100000
set_option autoImplicit false
namespace Co
open PySem PySem.Spec L2 PyProof.Rows
variable [Tbs]

/-! ### small facts of texts -/
theorem nst_star {a : Expr} {es : List Expr} {env : Env} (h : nst a = true) : starEach (a :: es) env = (false, eval a env) :: starEach es env := by
  cases a <;> first | rfl | cases h
theorem plT_true {a : Expr} (h : plT a = true) (env : Env) (whole : Sem Value) : isTrue a env whole = (do let v ← whole; standAt a.pos; holding [v] (truthy v)) := by
  cases a <;> first | rfl | cases h | (rename_i op _ _; cases op <;> first | rfl | cases h)
theorem nSl_plain {a : Expr} (h : nSl a = true) : PlainIx a := by
  cases a <;> first | exact fun _ _ => rfl | cases h
theorem nSet_fold {a : Expr} {env : Env} (h : nSet a = true) (x : Value) : foldedSetIterable a env x = pure x := by
  cases a <;> first | rfl | cases h
theorem nCall0_base {a : Expr} {m : Str} {env : Env} {w : Sem Value} (h : nCall0 a = true) : attributeBase a m env w = w := by
  cases a <;> first | rfl | cases h
theorem visB_ok {sc : Scope} {x : Str} (h : visB sc x = true) : Vis sc x := by
  unfold visB at h
  split at h
  · exact .inl (by assumption)
  · exact .inr (.inl (by assumption))
  · exact .inr (.inr (by assumption))
  · cases h
structure OkN (x : Str) : Prop where
  a : (x == ("__debug__" : Str)) = false
  b : (x == ("__classdict__" : Str)) = false
  c : x ≠ ("__name__" : Str)
theorem okN_ok {x : Str} (h : okN x = true) : OkN x := by
  unfold okN at h
  rw [Bool.and_eq_true, Bool.and_eq_true] at h
  exact ⟨by simpa using h.1.1, by simpa using h.1.2, by simpa using h.2⟩
theorem slotB_ok {N : List Str} {sc : Scope} {i : Nat} {x : Str} (h : slotB N sc i x = true) : N[i]? = some x ∧ Vis sc x ∧ OkN x := by
  unfold slotB at h
  rw [Bool.and_eq_true, Bool.and_eq_true, decide_eq_true_eq] at h
  exact ⟨h.1.1, visB_ok h.1.2, okN_ok h.2⟩
theorem subB_ok {as bs : List Nat} (h : subB as bs = true) : ∀ i ∈ as, i ∈ bs := fun i hi => by
  unfold subB at h
  rw [List.all_eq_true] at h
  exact of_decide_eq_true (h i hi)

/-! ### where a def's text is read -/
structure Good (Γ : Gt) (T : Tb) (k : Nat) (X : Cx) : Prop where
  nd : X.N.Nodup
  calm : X.calm = true
  room : Room k X.A
  kind : X.env.scope.kind = .function
  pass : PassesOwn (model X.prog X.w) X.A X.env X.xe
  free : ∀ x ∈ Γ.frees, X.mg x = none
  cst : ∀ x ∈ Γ.consts, ∀ d, T.g x = some d → ∃ v u, X.mg x = some u ∧ RelV v u ∧ ∀ H, PF X.K H v d
  fns : ∀ x n, (x, n) ∈ Γ.fns → ∃ f fd ps, X.mg x = some (.ref f) ∧ PySem.W.keepIn X.K (.ref f) = true ∧ Binds X.K fd ps [] ∧ ps.length = n ∧ FnOk X.prog X.w X.K X.mg X.base CX0 k f fd ps (spD (wd X) n (T.f x))
  lam : Γ.lam = true → ∃ cc P, LamX.TabB X.base X.mg cc P ∧ X.env.code = .ref cc ∧ (P, X.env.qual ++ "<lambda>") ∈ Tbs.T ∧ ∀ p ∈ Tbs.T, p.1 = P → p.2 = X.env.qual ++ "<lambda>"
theorem rl_eq {sc : Scope} {env : Env} : relabel sc env = rl sc env.scope := rfl
theorem Good.blk {Γ : Gt} {T : Tb} {k : Nat} {X : Cx} (g : Good Γ T k X) {s : Shared} {H : Hp} {sc : Scope} {C : Addr} {cl : List (Str × Addr)} {fp : List Addr} (hk : sc.kind = .function) : Good Γ T k (X.blk s H sc (compEnvC sc cl C X.env) fp) :=
  ⟨g.nd, g.calm, g.room, hk, .never, g.free, g.cst, g.fns, g.lam⟩
section
variable {X : Cx} {k : Nat}
theorem none_op {f : Value → Value → Sem Value} {W : Wd} : OpR X f (r2 W fun _ _ => none) := by
  intro pins s σ H x y v u Q I rx ry h
  obtain ⟨_, _, _, _, _, z, _⟩ := h
  cases z
theorem bin_ok (op : Operator) : OpR X (binaryOp op) (r2 (wd X) (binD op)) := by
  cases op with
  | Add => exact op_addD
  | Sub => exact op_subD
  | Mult => exact op_mulE
  | FloorDiv => exact op_fdivE
  | Mod => exact op_modD
  | Pow => exact op_powD
  | _ => exact none_op
theorem cmp_ok (hr : Room k X.A) (op : CmpOp) : OpR X (compareOp op) (r2 (wd X) (cmpD op)) := by
  cases op with
  | Eq => exact op_eqDD hr
  | NotEq => exact op_neDD hr
  | Lt => exact op_ltDD hr
  | LtE => exact op_leDD
  | Gt => exact op_gtDD
  | GtE => exact op_geDD
  | Is => exact op_isDD
  | IsNot => exact op_isnotDD
  | In => exact op_inE hr
  | NotIn => exact op_notinE hr
theorem inD_pf {d e : D} {r : R} (h : inD d e = some r) : r.1 = .pf := by
  unfold inD at h
  split at h
  · split at h
    · cases h; rfl
    · cases h
  · split at h
    · cases h; rfl
    · cases h
  · split at h
    · cases h; rfl
    · cases h
  · cases h
theorem notR_pf {o : Option R} {r : R} (ho : ∀ r, o = some r → r.1 = .pf) (h : notR o = some r) : r.1 = .pf := by
  unfold notR at h
  split at h
  · rename_i fl b
    have := ho _ rfl
    cases h
    exact this
  · cases h
theorem cmp_pf (op : CmpOp) (d e : D) (r : R) (h : cmpD op d e = some r) : r.1 = .pf := by
  cases op with
  | Eq => have h : eqD d e = some r := h; unfold eqD at h; split at h <;> cases h; rfl
  | NotEq => have h : neD d e = some r := h; unfold neD at h; split at h <;> cases h; rfl
  | Lt =>
    have h : ltD d e = some r := h
    unfold ltD at h
    split at h
    · cases h; rfl
    · split at h <;> cases h; rfl
  | LtE => have h : leD d e = some r := h; unfold leD at h; split at h <;> cases h; rfl
  | Gt => have h : gtD d e = some r := h; unfold gtD at h; split at h <;> cases h; rfl
  | GtE => have h : geD d e = some r := h; unfold geD at h; split at h <;> cases h; rfl
  | Is => have h : isD d e = some r := h; unfold isD at h; split at h <;> cases h <;> rfl
  | IsNot => have h : isnotD d e = some r := h; unfold isnotD at h; split at h <;> cases h <;> rfl
  | In =>
    have h : inE d e = some r := h
    unfold inE at h
    split at h
    · split at h <;> cases h; rfl
    · exact inD_pf h
  | NotIn =>
    have h : notinE d e = some r := h
    unfold notinE at h
    split at h
    · split at h <;> cases h; rfl
    · exact notR_pf (fun r => inD_pf) h
def Bi.val : Bi → Value
  | .list => .type "list"
  | .tuple => .type "tuple"
  | .abs => .builtin "abs"
  | .int => .type "int"
  | .max => .builtin "max"
  | .min => .builtin "min"
  | .sum => .builtin "sum"
  | .all => .builtin "all"
  | .any => .builtin "any"
  | .sorted => .builtin "sorted"
  | .len => .builtin "len"
  | .dict => .type "dict"
theorem bi_ok (hc : X.calm = true) (hr : Room k X.A) (b : Bi) : CallR X b.val (rN (wd X) b.den) := by
  cases b with
  | list => exact b_list
  | tuple => exact b_tuple
  | abs => exact b_abs
  | int => exact b_int
  | max => exact b_maxE hc hr
  | min => exact b_minE hc hr
  | sum => exact b_sumE hc
  | all => exact b_all hc
  | any => exact b_any hc
  | sorted => exact b_sortedE hc hr
  | len => exact b_len
  | dict => exact b_dict hc hr
theorem bi_boot : ∀ b : Bi, bootBuiltins (.ofString b.nm) = some b.val := by
  intro b
  cases b <;> decide +kernel
theorem ty_boot : ∀ t ∈ knownTy, bootBuiltins (.ofString t) = some (.type t) := by
  decide +kernel
theorem ce_bi {c : Cel} {b : Bi} {f : Den (List R)} {y : Str} {z : Expr} {zs : List Expr} {p1 pos : Pos} (hc : X.calm = true) (hr : Room k X.A) (hy : y = .ofString b.nm) (hg : Gl X y) (hm : X.mg y = none) (hn : OkN y) (ha : PA X (z :: zs) (tDA (wd X) c f))
    (hs : starEach (z :: zs) X.env = (false, eval z X.env) :: starEach zs X.env) (hs2 : (starEach zs X.env).any (·.1) = false) : PE X (.Call (.Name y p1) (z :: zs) [] pos) (tD (wd X) c (dCall b.den f)) := by
  subst hy
  have bo := bi_boot b
  have ok := bi_ok hc hr b
  cases b with
  | list => exact ce_callTy ok hg hm bo hn.c hn.a ha hs hs2
  | tuple => exact ce_callTy ok hg hm bo hn.c hn.a ha hs hs2
  | int => exact ce_callTy ok hg hm bo hn.c hn.a ha hs hs2
  | abs => exact ce_callB ok hg hm bo hn.c hn.a ha hs hs2
  | max => exact ce_callB ok hg hm bo hn.c hn.a ha hs hs2
  | min => exact ce_callB ok hg hm bo hn.c hn.a ha hs hs2
  | sum => exact ce_callB ok hg hm bo hn.c hn.a ha hs hs2
  | all => exact ce_callB ok hg hm bo hn.c hn.a ha hs hs2
  | any => exact ce_callB ok hg hm bo hn.c hn.a ha hs hs2
  | sorted => exact ce_callB ok hg hm bo hn.c hn.a ha hs hs2
  | len => exact ce_callB ok hg hm bo hn.c hn.a ha hs hs2
  | dict => exact ce_callTy ok hg hm bo hn.c hn.a ha hs hs2
end
theorem dT_dB (h : Den Bool) : dT (dB h) = h := by
  funext ρ s
  unfold dT dB
  cases h ρ s with
  | none => rfl
  | some x => rfl
end Co
end

section
set_option Elab.async false
set_option linter.all false
set_option maxRecDepth 100000
set_option autoImplicit false
namespace Co
open PySem PySem.Spec L2 PyProof.Rows
variable [Tbs]

/-! ### a text that is one of the core language does what it means -/
section
variable {Γ : Gt} {T : Tb} {k : Nat} {c : Cel} {X : Cx}
/-- as a value, as a test -/
def Snd (X : Cx) (c : Cel) (b : Bool) (x : Expr) (f : Den R) : Prop := match b with
  | false => PE X x (tD (wd X) c f)
  | true => PT X x (tDT (wd X) c (dT f))
theorem Snd.of {b kk : Bool} {x : Expr} {f : Den R} (h : (kk && (!b || plT x)) = true) (hE : kk = true → PE X x (tD (wd X) c f)) : Snd X c b x f := by
  rw [Bool.and_eq_true] at h
  cases b with
  | false => exact hE h.1
  | true => exact ct_val (hE h.1) (fun w => plT_true (by simpa using h.2) X.env w)
theorem gl_ok {x : Str} (h : glB X.env.scope x = true) : Gl X x := of_decide_eq_true (p := X.env.scope.names.lookup x = some .globalImplicit) h
theorem and_true {a b : Bool} (h : (a && b) = true) : a = true ∧ b = true := by rw [Bool.and_eq_true] at h; exact h
theorem ny {a : Bool} (h : (!a) = true) : a = false := by simpa using h
/-- what is known of a row of operands -/
def AllN : List Expr → Prop
  | [] => True
  | x :: xs => nst x = true ∧ AllN xs
theorem AllN.any : ∀ {xs : List Expr} {env : Env}, AllN xs → (starEach xs env).any (·.1) = false
  | [], _, _ => rfl
  | x :: xs, env, h => by
    rw [nst_star h.1, List.any_cons, AllN.any h.2]
    rfl
theorem ty_ok (g : Good Γ T k X) {t : String} {v : Expr} (h : tyB Γ X.env.scope t v = true) : t ∈ knownTy ∧ nst v = true ∧ PE X v (tC (.ty t)) := by
  unfold tyB at h
  split at h
  · rename_i x p
    obtain ⟨h, h4⟩ := and_true h
    obtain ⟨h, h3⟩ := and_true h
    obtain ⟨h1, h2⟩ := and_true h
    have e := of_decide_eq_true h1
    subst e
    have ht := of_decide_eq_true h4
    have hn : ∀ t ∈ knownTy, (Str.ofString t) ≠ ("__name__" : Str) ∧ ((Str.ofString t) == ("__debug__" : Str)) = false := by decide +kernel
    exact ⟨ht, rfl, ce_ty (gl_ok h2) (g.free _ (of_decide_eq_true h3)) (ty_boot t ht) (hn t ht).1 (hn t ht).2⟩
  · cases h
theorem blk_kind {N : List Str} {sc sc' : Scope} {own : List (Str × Nat)} (h : blkC N sc sc' own = true) : sc'.kind = .function := (blkOk_by h).kind
/-- a comprehension's target -/
theorem blk_tg (g : Good Γ T k X) {sc' : Scope} {own : List (Str × Nat)} {t : Tg} {tg : Expr} (hm : matchT X.N (rl sc' X.env.scope) (allC sc') t tg = true) (s : Shared) (H : Hp) (C : Addr) (cl : List (Str × Addr)) (fp : List Addr) :
    PG (X.blk s H sc' (compEnvC sc' cl C X.env) fp) tg (gD (wd X) c t) :=
  cg (X := X.blk s H sc' (compEnvC sc' cl C X.env) fp) (all := allC sc') g.calm g.nd (fun x h => by
    show (sc'.names.lookup x == some .cell) = true
    rw [of_decide_eq_true h]; rfl) t tg hm
mutual
theorem sE : ∀ (e : CE) {X : Cx} (g : Good Γ T k X) (b : Bool) (x : Expr), mE Γ X.N b e x X.env.scope = true → Snd X c b x (den T e)
  | .var i, X, g, b, x, h => by
    rw [mE] at h
    refine Snd.of h fun h => ?_
    obtain ⟨y, p, rfl, h⟩ := onName_ok h
    obtain ⟨h1, h2, h3⟩ := slotB_ok h
    exact ce_var h1 h2 h3.a h3.b
  | .cst d, X, g, b, x, h => by
    rw [mE] at h
    refine Snd.of h fun h => ?_
    obtain ⟨q, m, p, rfl, h⟩ := onCst_ok h
    have h : cstB d q = true := h
    unfold cstB at h
    split at h
    · rw [of_decide_eq_true h]; exact ce_int
    · rw [of_decide_eq_true h]; exact ce_bl
    · exact ce_non
    · obtain ⟨h1, h2⟩ := and_true h
      rw [← of_decide_eq_true h1]; exact ce_str h2
    · cases h
  | .glob y, X, g, b, x, h => by
    rw [mE] at h
    refine Snd.of h fun h => ?_
    obtain ⟨y', p, rfl, h⟩ := onName_ok h
    obtain ⟨h, h4⟩ := and_true h
    obtain ⟨h, h3⟩ := and_true h
    obtain ⟨h1, h2⟩ := and_true h
    have e := of_decide_eq_true h1
    subst e
    rw [den]
    unfold dGlob
    split
    · rename_i d hd
      obtain ⟨v, u, m1, m2, m3⟩ := g.cst _ (of_decide_eq_true h4) d hd
      exact ce_glob (gl_ok h2) m1 m2 (okN_ok h3).a m3
    · exact ⟨fun pins s σ H Q I h => by obtain ⟨_, _, _, _, _, z, _⟩ := h; cases z⟩
  | .bin op l r, X, g, b, x, h => by
    rw [mE] at h
    refine Snd.of h fun h => ?_
    obtain ⟨y, o, z, p, rfl, h⟩ := onBin_ok h
    obtain ⟨h, h3⟩ := and_true h
    obtain ⟨h1, h2⟩ := and_true h
    rw [of_decide_eq_true h1]
    exact ce_bin (bin_ok op) (sE l g false _ h2) (sE r g false _ h3)
  | .cmp op l r, X, g, b, x, h => by
    rw [mE] at h
    obtain ⟨y, o, z, p, rfl, h⟩ := onCmp1_ok h
    obtain ⟨h, h4⟩ := and_true h
    obtain ⟨h, h3⟩ := and_true h
    obtain ⟨h1, h2⟩ := and_true h
    have e := of_decide_eq_true h1
    subst e
    have a1 := sE l g false _ h2
    have a2 := sE r g false _ h3
    cases b with
    | false => exact ce_cmp (cmp_ok g.room _) a1 a2 (ny h4)
    | true => exact ct_cmp (cmp_ok g.room _) a1 a2 (ny h4)
  | .chn op op' l r q, X, g, b, x, h => by
    rw [mE] at h
    obtain ⟨y, o, o', z, u, p, rfl, h⟩ := onCmp2_ok h
    obtain ⟨h, h6⟩ := and_true h
    obtain ⟨h, h5⟩ := and_true h
    obtain ⟨h, h4⟩ := and_true h
    obtain ⟨h, h3⟩ := and_true h
    obtain ⟨h1, h2⟩ := and_true h
    have e := of_decide_eq_true h1
    have e' := of_decide_eq_true h2
    subst e; subst e'
    have a1 := sE l g false _ h3
    have a2 := sE r g false _ h4
    have a3 := sE q g false _ h5
    rw [den]
    cases b with
    | false => exact ce_chain (cmp_pf _) (cmp_pf _) (cmp_ok g.room _) (cmp_ok g.room _) a1 a2 a3 (ny h6)
    | true =>
      show PT _ _ (tDT _ _ (dT (dB _)))
      rw [dT_dB]
      exact ct_chain (cmp_pf _) (cmp_pf _) (cmp_ok g.room _) (cmp_ok g.room _) a1 a2 a3 (ny h6)
  | .nt a, X, g, b, x, h => by
    rw [mE] at h
    obtain ⟨y, p, rfl, h⟩ := onNot_ok h
    have a1 := sE a g b _ h
    rw [den]
    cases b with
    | false => exact ce_not a1
    | true =>
      show PT _ _ (tDT _ _ (dT (dB _)))
      rw [dT_dB]
      exact ct_not a1
  | .bo kk as, X, g, b, x, h => by
    rw [mE] at h
    obtain ⟨o, ys, p, rfl, h⟩ := onBool_ok h
    obtain ⟨h1, h2⟩ := and_true h
    rw [den]
    cases b with
    | false => exact (sB as g kk false _ _ _ h1 h2).1 rfl
    | true =>
      show PT _ _ (tDT _ _ (dT (dB _)))
      rw [dT_dB]
      exact ((sB as g kk true _ _ _ h1 h2).2 rfl).pt
  | .ifx t l r, X, g, b, x, h => by
    rw [mE] at h
    refine Snd.of h fun h => ?_
    obtain ⟨u, y, z, p, rfl, h⟩ := onIf_ok h
    obtain ⟨h, h3⟩ := and_true h
    obtain ⟨h1, h2⟩ := and_true h
    exact ce_if (sE t g true _ h1) (sE l g false _ h2) (sE r g false _ h3)
  | .neg a, X, g, b, x, h => by
    rw [mE] at h
    refine Snd.of h fun h => ?_
    obtain ⟨y, p, rfl, h⟩ := onNeg_ok h
    exact ce_neg (sE a g false _ h)
  | .ix l r, X, g, b, x, h => by
    rw [mE] at h
    refine Snd.of h fun h => ?_
    obtain ⟨y, z, p, rfl, h⟩ := onSub_ok h
    obtain ⟨h, h3⟩ := and_true h
    obtain ⟨h1, h2⟩ := and_true h
    exact ce_ix (ix_E g.room) (sE l g false _ h1) (sE r g false _ h2) (nSl_plain h3)
  | .ixc i r, X, g, b, x, h => by
    rw [mE] at h
    refine Snd.of h fun h => ?_
    obtain ⟨y, z, q, p, rfl, h⟩ := onSubN_ok h
    obtain ⟨h, h3⟩ := and_true h
    obtain ⟨h1, h2⟩ := and_true h
    obtain ⟨s1, s2, s3⟩ := slotB_ok h1
    exact ce_ixC s1 s2 s3.a s3.b (sE r g false _ h2) (nSl_plain h3)
  | .ixs i r, X, g, b, x, h => by
    rw [mE] at h
    refine Snd.of h fun h => ?_
    obtain ⟨y, z, q, p, rfl, h⟩ := onSubN_ok h
    obtain ⟨h, h3⟩ := and_true h
    obtain ⟨h1, h2⟩ := and_true h
    obtain ⟨s1, s2, s3⟩ := slotB_ok h1
    exact ce_ixS s1 s2 s3.a s3.b (sE r g false _ h2) (nSl_plain h3)
  | .lens i, X, g, b, x, h => by
    rw [mE] at h
    refine Snd.of h fun h => ?_
    obtain ⟨y, z, q, q', p, rfl, h⟩ := onCallN_ok h
    obtain ⟨h, h4⟩ := and_true h
    obtain ⟨h, h3⟩ := and_true h
    obtain ⟨h1, h2⟩ := and_true h
    have e := of_decide_eq_true h1
    subst e
    obtain ⟨s1, s2, s3⟩ := slotB_ok h4
    exact ce_lenS s1 s2 s3.a s3.b (gl_ok h2) (g.free _ (of_decide_eq_true h3))
  | .sl a lo hi, X, g, b, x, h => by
    rw [mE] at h
    refine Snd.of h fun h => ?_
    obtain ⟨y, l, hh, q, p, rfl, h⟩ := onSl_ok h
    obtain ⟨h, h3⟩ := and_true h
    obtain ⟨h1, h2⟩ := and_true h
    exact ce_slice (sE a g false _ h1) (sO lo g _ h2) (sO hi g _ h3)
  | .tup as, X, g, b, x, h => by
    rw [mE] at h
    refine Snd.of h fun h => ?_
    obtain ⟨ys, m, p, rfl, h⟩ := onTup_ok h
    exact ce_tup (sEs as g _ h).1
  | .lst as, X, g, b, x, h => by
    rw [mE] at h
    refine Snd.of h fun h => ?_
    obtain ⟨ys, p, rfl, h⟩ := onLst_ok h
    exact ce_lst (sEs as g _ h).1
  | .bi kk as, X, g, b, x, h => by
    rw [mE] at h
    refine Snd.of h fun h => ?_
    obtain ⟨y, z, zs, q, p, rfl, h⟩ := onCall_ok h
    obtain ⟨h, h5⟩ := and_true h
    obtain ⟨h, h4⟩ := and_true h
    obtain ⟨h, h3⟩ := and_true h
    obtain ⟨h1, h2⟩ := and_true h
    obtain ⟨a1, a2⟩ := sEs as g _ h5
    exact ce_bi g.calm g.room (of_decide_eq_true h1) (gl_ok h2) (g.free _ (of_decide_eq_true h4)) (okN_ok h3) a1 (nst_star a2.1) a2.2.any
  | .isi a ts, X, g, b, x, h => by
    rw [mE] at h
    refine Snd.of h fun h => ?_
    obtain ⟨y, u, v, q, p, rfl, h⟩ := onCall2_ok h
    obtain ⟨h, h6⟩ := and_true h
    obtain ⟨h, h5⟩ := and_true h
    obtain ⟨h, h4⟩ := and_true h
    obtain ⟨h, h3⟩ := and_true h
    obtain ⟨h1, h2⟩ := and_true h
    have e := of_decide_eq_true h1
    subst e
    have hg := gl_ok h2
    have hm := g.free _ (of_decide_eq_true h3)
    unfold tysB at h6
    split at h6
    · obtain ⟨t1, t2, t3⟩ := ty_ok g h6
      exact ce_isi t1 hg hm (sE a g false _ h4) t3 (nst_star h5) (nst_star t2)
    · obtain ⟨v1, v2, m, q2, rfl, h6⟩ := onTup2_ok h6
      obtain ⟨h6, h7⟩ := and_true h6
      obtain ⟨t1, t2, t3⟩ := ty_ok g h6
      obtain ⟨u1, u2, u3⟩ := ty_ok g h7
      exact ce_isi2 t1 u1 hg hm (sE a g false _ h4) t3 u3 (nst_star h5) (nst_star t2) (nst_star u2)
    · cases h6
  | .lc own t it f e, X, g, b, x, h => by
    rw [mE] at h
    refine Snd.of h fun h => ?_
    obtain ⟨elt, tg, iter, ifs, sc', p, rfl, h⟩ := onLc_ok h
    obtain ⟨h, h7⟩ := and_true h
    obtain ⟨h, h6⟩ := and_true h
    obtain ⟨h, h5⟩ := and_true h
    obtain ⟨h, h4⟩ := and_true h
    obtain ⟨h, h3⟩ := and_true h
    obtain ⟨h1, h2⟩ := and_true h
    have gb := fun (s : Shared) (H : Hp) (C : Addr) (cl : List (Str × Addr)) (fp : List Addr) => g.blk (s := s) (H := H) (C := C) (cl := cl) (fp := fp) (blk_kind h2)
    exact ce_lc g.calm g.nd (sI it g false _ _ h1) (blkOk_by h2) (subB_ok h3) (blk_tg (own := own) g h4) (fun s H C cl fp => sF f (gb s H C cl fp) _ h5) (fun s H C cl fp => sE e (gb s H C cl fp) false _ h6) (nSet_fold h7)
  | .lc2 own t it f t1 vs1 it1 f1 e, X, g, b, x, h => by
    rw [mE] at h
    refine Snd.of h fun h => ?_
    obtain ⟨elt, tg, iter, ifs, tg1, iter1, ifs1, sc', p, rfl, h⟩ := onLc2_ok h
    obtain ⟨h, h13⟩ := and_true h
    obtain ⟨h, h12⟩ := and_true h
    obtain ⟨h, h11⟩ := and_true h
    obtain ⟨h, h10⟩ := and_true h
    obtain ⟨h, h9⟩ := and_true h
    obtain ⟨h, h8⟩ := and_true h
    obtain ⟨h, h7⟩ := and_true h
    obtain ⟨h, h6⟩ := and_true h
    obtain ⟨h, h5⟩ := and_true h
    obtain ⟨h, h4⟩ := and_true h
    obtain ⟨h, h3⟩ := and_true h
    obtain ⟨h1, h2⟩ := and_true h
    have gb := fun (s : Shared) (H : Hp) (C : Addr) (cl : List (Str × Addr)) (fp : List Addr) => g.blk (s := s) (H := H) (C := C) (cl := cl) (fp := fp) (blk_kind h2)
    exact ce_lc2 g.calm g.nd (sI it g false _ _ h1) (blkOk_by h2) (subB_ok h3) (subB_ok h4) (subB_ok h5) (blk_tg (own := own) g h6) (fun s H C cl fp => sF f (gb s H C cl fp) _ h7) (fun s H C cl fp => sI it1 (gb s H C cl fp) true _ _ h8)
      (blk_tg (own := own) g h9) (fun s H C cl fp => sF f1 (gb s H C cl fp) _ h10) (fun s H C cl fp => sE e (gb s H C cl fp) false _ h11) (nSet_fold h12) (fun env => nSet_fold h13)
  | .frz a, X, g, b, x, h => by
    rw [mE] at h
    obtain ⟨h1, h2⟩ := and_true h
    cases b with
    | false => exact ce_frz (sE a g false _ h1)
    | true => cases h2
  | .call y n as, X, g, b, x, h => by
    rw [mE] at h
    refine Snd.of h fun h => ?_
    obtain ⟨y', z, zs, q, p, rfl, h⟩ := onCall_ok h
    obtain ⟨h, h5⟩ := and_true h
    obtain ⟨h, h4⟩ := and_true h
    obtain ⟨h, h3⟩ := and_true h
    obtain ⟨h1, h2⟩ := and_true h
    have e := of_decide_eq_true h1
    subst e
    obtain ⟨f, fd, ps, m1, m2, m3, rfl, m5⟩ := g.fns _ _ (of_decide_eq_true h4)
    obtain ⟨a1, a2⟩ := sX as g _ h5
    exact ce_call m5 g.room (gl_ok h2) m1 m2 m3 a1 (okN_ok h3).a (nst_star a2.1) a2.2.any
  | .idx l r, X, g, b, x, h => by
    rw [mE] at h
    refine Snd.of h fun h => ?_
    obtain ⟨y, m, ap, z, p, rfl, h⟩ := onMeth1_ok h
    obtain ⟨h, h6⟩ := and_true h
    obtain ⟨h, h5⟩ := and_true h
    obtain ⟨h, h4⟩ := and_true h
    obtain ⟨h, h3⟩ := and_true h
    obtain ⟨h1, h2⟩ := and_true h
    have e := of_decide_eq_true h1
    subst e
    exact ce_index g.room (sE l g false _ h2) (sE r g false _ h3) (nCall0_base h5) (nst_star h4) h6
  | .get l r w, X, g, b, x, h => by
    rw [mE] at h
    refine Snd.of h fun h => ?_
    obtain ⟨y, m, ap, z, u, p, rfl, h⟩ := onMeth2_ok h
    obtain ⟨h, h8⟩ := and_true h
    obtain ⟨h, h7⟩ := and_true h
    obtain ⟨h, h6⟩ := and_true h
    obtain ⟨h, h5⟩ := and_true h
    obtain ⟨h, h4⟩ := and_true h
    obtain ⟨h, h3⟩ := and_true h
    obtain ⟨h1, h2⟩ := and_true h
    have e := of_decide_eq_true h1
    subst e
    have st : starEach [z, u] X.env = [(false, eval z X.env), (false, eval u X.env)] := by
      rw [nst_star h5, nst_star h6]
      rfl
    exact ce_get g.room (sE l g false _ h2) (sE r g false _ h3) (sE w g false _ h4) ⟨nCall0_base h7, by rw [st]; rfl, h8, by rw [st]; rfl⟩
  | .dnew, X, g, b, x, h => by
    rw [mE] at h
    refine Snd.of h fun h => ?_
    obtain ⟨p, rfl, h⟩ := onD0_ok h
    exact ce_dnew
  | .dsp kk v, X, g, b, x, h => by
    rw [mE] at h
    refine Snd.of h fun h => ?_
    obtain ⟨y, z, p, rfl, h⟩ := onD1_ok h
    obtain ⟨h1, h2⟩ := and_true h
    exact ce_disp1 (sE kk g false _ h1) (sE v g false _ h2)
  | .srt l, X, g, b, x, h => by
    rw [mE] at h
    refine Snd.of h fun h => ?_
    obtain ⟨y, z, kk, ps, ln, a, a', sc', q1, q2, q3, q4, q5, q6, q7, q8, q9, m, rfl, h⟩ := onSrt_ok h
    obtain ⟨h, h13⟩ := and_true h
    obtain ⟨h, h12⟩ := and_true h
    obtain ⟨h, h11⟩ := and_true h
    obtain ⟨h, h10⟩ := and_true h
    obtain ⟨h, h9⟩ := and_true h
    obtain ⟨h, h8⟩ := and_true h
    obtain ⟨h, h7⟩ := and_true h
    obtain ⟨h, h6⟩ := and_true h
    obtain ⟨h, h5⟩ := and_true h
    obtain ⟨h, h4⟩ := and_true h
    obtain ⟨h, h3⟩ := and_true h
    obtain ⟨h1, h2⟩ := and_true h
    obtain ⟨r, pp, rfl, h5⟩ := onPar1_ok h5
    have e := of_decide_eq_true h1
    have e4 := of_decide_eq_true h4
    have e5 := of_decide_eq_true h5
    have e6 := of_decide_eq_true h6
    have e7 := of_decide_eq_true h7
    have e8 := of_decide_eq_true h8
    subst e e4 e5 e6 e7 e8
    obtain ⟨cc, P, TB, hcode, hT, hu⟩ := g.lam h11
    exact ce_sortL (sE l g false _ h12) (gl_ok h2) (g.free _ (of_decide_eq_true h3)) (g.free _ (of_decide_eq_true h9)) g.room (lamL_by h10) TB hcode rfl hT hu def_one bind_one (nst_star h13)
  | .dzip l r, X, g, b, x, h => by
    rw [mE] at h
    refine Snd.of h fun h => ?_
    obtain ⟨y, z, u, v, q, q', p, p', rfl, h⟩ := onZip_ok h
    obtain ⟨h, h10⟩ := and_true h
    obtain ⟨h, h9⟩ := and_true h
    obtain ⟨h, h8⟩ := and_true h
    obtain ⟨h, h7⟩ := and_true h
    obtain ⟨h, h6⟩ := and_true h
    obtain ⟨h, h5⟩ := and_true h
    obtain ⟨h, h4⟩ := and_true h
    obtain ⟨h, h3⟩ := and_true h
    obtain ⟨h1, h2⟩ := and_true h
    have e := of_decide_eq_true h1
    have e' := of_decide_eq_true h4
    subst e; subst e'
    exact ce_dzip g.calm (gl_ok h5) (g.free _ (of_decide_eq_true h6)) (gl_ok h2) (g.free _ (of_decide_eq_true h3)) (sE l g false _ h7) (sE r g false _ h8) (nst_star h9) (nst_star h10)
  | .lzip l r, X, g, b, x, h => by
    rw [mE] at h
    refine Snd.of h fun h => ?_
    obtain ⟨y, z, u, v, q, q', p, p', rfl, h⟩ := onZip_ok h
    obtain ⟨h, h10⟩ := and_true h
    obtain ⟨h, h9⟩ := and_true h
    obtain ⟨h, h8⟩ := and_true h
    obtain ⟨h, h7⟩ := and_true h
    obtain ⟨h, h6⟩ := and_true h
    obtain ⟨h, h5⟩ := and_true h
    obtain ⟨h, h4⟩ := and_true h
    obtain ⟨h, h3⟩ := and_true h
    obtain ⟨h1, h2⟩ := and_true h
    have e := of_decide_eq_true h1
    have e' := of_decide_eq_true h4
    subst e; subst e'
    exact ce_lzip g.calm (gl_ok h5) (g.free _ (of_decide_eq_true h6)) (gl_ok h2) (g.free _ (of_decide_eq_true h3)) (sE l g false _ h7) (sE r g false _ h8) (nst_star h9) (nst_star h10)
  | .srp l, X, g, b, x, h => by
    rw [mE] at h
    refine Snd.of h fun h => ?_
    obtain ⟨y, z, kk, ps, a, i, j, sc', q1, q2, q3, q4, q5, q6, q7, q8, q9, m1, m2, rfl, h⟩ := onSrp_ok h
    obtain ⟨h, h12⟩ := and_true h
    obtain ⟨h, h11⟩ := and_true h
    obtain ⟨h, h10⟩ := and_true h
    obtain ⟨h, h9⟩ := and_true h
    obtain ⟨h, h8⟩ := and_true h
    obtain ⟨h, h7⟩ := and_true h
    obtain ⟨h, h6⟩ := and_true h
    obtain ⟨h, h5⟩ := and_true h
    obtain ⟨h, h4⟩ := and_true h
    obtain ⟨h, h3⟩ := and_true h
    obtain ⟨h1, h2⟩ := and_true h
    obtain ⟨r, pp, rfl, h5⟩ := onPar1_ok h5
    have e := of_decide_eq_true h1
    have e4 := of_decide_eq_true h4
    have e5 := of_decide_eq_true h5
    have e6 := of_decide_eq_true h6
    have e7 := of_decide_eq_true h7
    have e8 := of_decide_eq_true h8
    subst e e4 e5 e6 e7 e8
    obtain ⟨cc, P, TB, hcode, hT, hu⟩ := g.lam h10
    exact ce_sortP (sE l g false _ h11) (gl_ok h2) (g.free _ (of_decide_eq_true h3)) g.room (lamI_by h9) TB hcode rfl hT hu def_one bind_pair (nst_star h12)
  | .sset l, X, g, b, x, h => by
    rw [mE] at h
    refine Snd.of h fun h => ?_
    obtain ⟨y, z, u, q, q', p, p', rfl, h⟩ := onSset_ok h
    obtain ⟨h, h8⟩ := and_true h
    obtain ⟨h, h7⟩ := and_true h
    obtain ⟨h, h6⟩ := and_true h
    obtain ⟨h, h5⟩ := and_true h
    obtain ⟨h, h4⟩ := and_true h
    obtain ⟨h, h3⟩ := and_true h
    obtain ⟨h1, h2⟩ := and_true h
    have e := of_decide_eq_true h1
    have e' := of_decide_eq_true h4
    subst e; subst e'
    exact ce_sset g.calm g.room (gl_ok h2) (g.free _ (of_decide_eq_true h3)) (gl_ok h5) (g.free _ (of_decide_eq_true h6)) (sE l g false _ h7) (nst_star h8)
  | .bad, X, g, b, x, h => by
    rw [mE] at h
    cases b with
    | false => exact ⟨fun pins s σ H Q I h => by obtain ⟨_, _, _, _, _, z, _⟩ := h; cases z⟩
    | true => exact ⟨fun pins s σ H Q I h => by obtain ⟨_, _, _, _, _, z, _⟩ := h; cases z⟩
theorem sEs : ∀ (as : CEs) {X : Cx} (g : Good Γ T k X) (xs : List Expr), mEs Γ X.N as xs X.env.scope = true → PA X xs (tDA (wd X) c (dens T as)) ∧ AllN xs
  | .nil, X, g, xs, h => by
    rw [mEs] at h
    obtain ⟨rfl, h⟩ := onNil_ok h
    exact ⟨ca_nil, trivial⟩
  | .cons a as, X, g, xs, h => by
    rw [mEs] at h
    obtain ⟨y, ys, rfl, h⟩ := onCons_ok h
    obtain ⟨h, h3⟩ := and_true h
    obtain ⟨h1, h2⟩ := and_true h
    obtain ⟨a1, a2⟩ := sEs as g _ h3
    exact ⟨ca_cons (sE a g false _ h1) a1 (nst_star h2), h2, a2⟩
theorem sB : ∀ (as : CEs) {X : Cx} (g : Good Γ T k X) (kk : Bool) (b : Bool) (op : BoolOp) (xs : List Expr) (pos : Pos), boB kk op = true → mBs Γ X.N b as xs X.env.scope = true →
    (b = false → PE X (.BoolOp op xs pos) (tD (wd X) c (dB (denB T kk as)))) ∧ (b = true → PW X (.BoolOp op xs pos) (tDT (wd X) c (denB T kk as)))
  | .nil, X, g, kk, b, op, xs, pos, ho, h => by rw [mBs] at h; cases h
  | .cons a .nil, X, g, kk, b, op, xs, pos, ho, h => by
    rw [mBs] at h
    obtain ⟨y, rfl, h⟩ := onOne_ok h
    have a1 := sE a g b _ h
    have e : denB T kk (.cons a .nil) = dT (den T a) := by cases kk <;> rw [denB]
    rw [e]
    refine ⟨fun z => ?_, fun z => ?_⟩
    · subst z; exact ce_one a1
    · subst z
      cases kk with
      | true => cases op with
        | And => exact cw_and1 a1
        | Or => cases ho
      | false => cases op with
        | And => cases ho
        | Or => exact cw_or1 a1
  | .cons a (.cons a' as), X, g, kk, b, op, xs, pos, ho, h => by
    rw [mBs] at h
    obtain ⟨y, z, ys, rfl, h⟩ := onTwo_ok h
    obtain ⟨h1, h2⟩ := and_true h
    have a1 := sE a g b _ h1
    obtain ⟨b1, b2⟩ := sB (.cons a' as) g kk b op _ pos ho h2
    rw [denB]
    refine ⟨fun z => ?_, fun z => ?_⟩
    · subst z
      cases kk with
      | true => cases op with
        | And => exact ce_and a1 (b1 rfl)
        | Or => cases ho
      | false => cases op with
        | And => cases ho
        | Or => exact ce_or a1 (b1 rfl)
    · subst z
      cases kk with
      | true => cases op with
        | And => exact cw_and a1 (b2 rfl)
        | Or => cases ho
      | false => cases op with
        | And => cases ho
        | Or => exact cw_or a1 (b2 rfl)
theorem sO : ∀ (o : CO) {X : Cx} (g : Good Γ T k X) (x : Option Expr), mO Γ X.N o x X.env.scope = true → L2.PO X x (tDP (wd X) c (dPart (denO T o)))
  | .no, X, g, x, h => by
    rw [mO] at h
    obtain ⟨rfl, h⟩ := onNoE_ok h
    rw [denO]; exact co_none
  | .so a, X, g, x, h => by
    rw [mO] at h
    obtain ⟨y, rfl, h⟩ := onSoE_ok h
    rw [denO]; exact co_some (sE a g false _ h)
theorem sF : ∀ (o : CO) {X : Cx} (g : Good Γ T k X) (x : List Expr), mF Γ X.N o x X.env.scope = true → PTs X x (tDT (wd X) c (denF T o))
  | .no, X, g, x, h => by
    rw [mF] at h
    obtain ⟨rfl, h⟩ := onNil_ok h
    rw [denF]; exact ct_yes
  | .so a, X, g, x, h => by
    rw [mF] at h
    obtain ⟨y, rfl, h⟩ := onOne_ok h
    rw [denF]; exact pts_one (sE a g true _ h)
theorem sI : ∀ (o : CI) {X : Cx} (g : Good Γ T k X) (b : Bool) (tg x : Expr), mI Γ X.N b tg o x X.env.scope = true → PI X tg x (tI (wd X) c b (denI T b o))
  | .items a, X, g, b, tg, x, h => by
    rw [mI] at h
    cases b with
    | true => rw [denI]; exact ci_val (sE a g false _ h)
    | false => rw [denI]; exact ci_own (sE a g false _ h)
  | .range as, X, g, b, tg, x, h => by
    rw [mI] at h
    obtain ⟨y, z, q, p, rfl, h⟩ := onCall1_ok h
    obtain ⟨h, h4⟩ := and_true h
    obtain ⟨h, h3⟩ := and_true h
    obtain ⟨h1, h2⟩ := and_true h
    have e := of_decide_eq_true h1
    subst e
    obtain ⟨a1, a2⟩ := sEs as g _ h4
    cases b with
    | true => rw [denI]; exact ci_range (gl_ok h2) (g.free _ (of_decide_eq_true h3)) a1 (nst_star a2.1)
    | false => rw [denI]; exact (ci_range (gl_ok h2) (g.free _ (of_decide_eq_true h3)) a1 (nst_star a2.1)).weak
  | .enum as, X, g, b, tg, x, h => by
    rw [mI] at h
    obtain ⟨ts, m, p0, rfl, h⟩ := onTup_ok h
    obtain ⟨y, z, q, p, rfl, h⟩ := onCall1_ok h
    obtain ⟨h, h4⟩ := and_true h
    obtain ⟨h, h3⟩ := and_true h
    obtain ⟨h1, h2⟩ := and_true h
    have e := of_decide_eq_true h1
    subst e
    obtain ⟨a1, a2⟩ := sEs as g _ h4
    cases b with
    | true => rw [denI]; exact ci_enum (gl_ok h2) (g.free _ (of_decide_eq_true h3)) a1 (nst_star a2.1)
    | false => rw [denI]; exact (ci_enum (gl_ok h2) (g.free _ (of_decide_eq_true h3)) a1 (nst_star a2.1)).weak
  | .zip as, X, g, b, tg, x, h => by
    rw [mI] at h
    obtain ⟨ts, m, p0, rfl, h⟩ := onTup_ok h
    obtain ⟨y, z, u, q, p, rfl, h⟩ := onCall2_ok h
    obtain ⟨h, h4⟩ := and_true h
    obtain ⟨h, h3⟩ := and_true h
    obtain ⟨h1, h2⟩ := and_true h
    have e := of_decide_eq_true h1
    subst e
    obtain ⟨a1, a2⟩ := sEs as g _ h4
    cases b with
    | true => rw [denI]; exact ci_zip (gl_ok h2) (g.free _ (of_decide_eq_true h3)) a1 (nst_star a2.1) a2.2.any
    | false => rw [denI]; exact (ci_zip (gl_ok h2) (g.free _ (of_decide_eq_true h3)) a1 (nst_star a2.1) a2.2.any).weak
theorem sX : ∀ (as : CAs) {X : Cx} (g : Good Γ T k X) (xs : List Expr), mAs Γ X.N as xs X.env.scope = true → PA X xs (tDX (wd X) c (denX T as)) ∧ AllN xs
  | .nil, X, g, xs, h => by
    rw [mAs] at h
    obtain ⟨rfl, h⟩ := onNil_ok h
    exact ⟨cx_nil, trivial⟩
  | .val a as, X, g, xs, h => by
    rw [mAs] at h
    obtain ⟨y, ys, rfl, h⟩ := onCons_ok h
    obtain ⟨h, h3⟩ := and_true h
    obtain ⟨h1, h2⟩ := and_true h
    obtain ⟨a1, a2⟩ := sX as g _ h3
    exact ⟨cx_val (sE a g false _ h1) a1 (nst_star h2), h2, a2⟩
  | .cel i as, X, g, xs, h => by
    rw [mAs] at h
    obtain ⟨y, ys, p, rfl, h⟩ := onNameC_ok h
    obtain ⟨h1, h2⟩ := and_true h
    obtain ⟨s1, s2, s3⟩ := slotB_ok h1
    obtain ⟨a1, a2⟩ := sX as g _ h2
    exact ⟨cx_cel s1 s2 s3.a s3.b a1, rfl, a2⟩
end
end
end Co
end

section
set_option Elab.async false
set_option linter.all false
set_option maxRecDepth 100000
set_option autoImplicit false
namespace Co
open PySem PySem.Spec L2 PyProof.Rows
variable [Tbs]

/-! ### statements: whether a text is one of the core language -/
def onAsgN (x : Stmt) (f : Str → Pos → Expr → Pos → Bool) : Bool := match x with
  | .Assign [.Name y py] v p => f y py v p
  | _ => false
theorem onAsgN_ok {x : Stmt} {f : Str → Pos → Expr → Pos → Bool} (h : onAsgN x f = true) : ∃ (y : Str) (py : Pos) (v : Expr) (p : Pos), x = .Assign [.Name y py] v p ∧ f y py v p = true := by
  unfold onAsgN at h
  split at h
  · exact ⟨_, _, _, _, rfl, h⟩
  · cases h
def onAsgT (x : Stmt) (f : (List Expr) → Expr → Bool) : Bool := match x with
  | .Assign [.Tuple ts _ _] v _ => f ts v
  | _ => false
theorem onAsgT_ok {x : Stmt} {f : (List Expr) → Expr → Bool} (h : onAsgT x f = true) : ∃ (ts : List Expr) (v : Expr) (m : Nat) (q : Pos) (p : Pos), x = .Assign [.Tuple ts m q] v p ∧ f ts v = true := by
  unfold onAsgT at h
  split at h
  · exact ⟨_, _, _, _, _, rfl, h⟩
  · cases h
def onAsgTT (x : Stmt) (f : (List Expr) → (List Expr) → Bool) : Bool := match x with
  | .Assign [.Tuple ts _ _] (.Tuple vs _ _) _ => f ts vs
  | _ => false
theorem onAsgTT_ok {x : Stmt} {f : (List Expr) → (List Expr) → Bool} (h : onAsgTT x f = true) : ∃ (ts : List Expr) (vs : List Expr) (m : Nat) (q : Pos) (m' : Nat) (q' : Pos) (p : Pos), x = .Assign [.Tuple ts m q] (.Tuple vs m' q') p ∧ f ts vs = true := by
  unfold onAsgTT at h
  split at h
  · exact ⟨_, _, _, _, _, _, _, rfl, h⟩
  · cases h
def onAug (x : Stmt) (f : Str → Expr → Bool) : Bool := match x with
  | .AugAssign (.Name y _) .Mult v _ => f y v
  | _ => false
theorem onAug_ok {x : Stmt} {f : Str → Expr → Bool} (h : onAug x f = true) : ∃ (y : Str) (v : Expr) (q : Pos) (p : Pos), x = .AugAssign (.Name y q) .Mult v p ∧ f y v = true := by
  unfold onAug at h
  split at h
  · exact ⟨_, _, _, _, rfl, h⟩
  · cases h
def onApp (x : Stmt) (f : Str → Str → Pos → Expr → Pos → Bool) : Bool := match x with
  | .Expr (.Call (.Attribute (.Name y _) m p2) [v] [] p3) _ => f y m p2 v p3
  | _ => false
theorem onApp_ok {x : Stmt} {f : Str → Str → Pos → Expr → Pos → Bool} (h : onApp x f = true) : ∃ (y : Str) (m : Str) (p2 : Pos) (v : Expr) (p3 : Pos) (q : Pos) (p : Pos), x = .Expr (.Call (.Attribute (.Name y q) m p2) [v] [] p3) p ∧ f y m p2 v p3 = true := by
  unfold onApp at h
  split at h
  · exact ⟨_, _, _, _, _, _, _, rfl, h⟩
  · cases h
def onPut (x : Stmt) (f : Str → Expr → Expr → Bool) : Bool := match x with
  | .Assign [.Subscript (.Name y _) ix _] v _ => f y ix v
  | _ => false
theorem onPut_ok {x : Stmt} {f : Str → Expr → Expr → Bool} (h : onPut x f = true) : ∃ (y : Str) (ix : Expr) (v : Expr) (q : Pos) (q' : Pos) (p : Pos), x = .Assign [.Subscript (.Name y q) ix q'] v p ∧ f y ix v = true := by
  unfold onPut at h
  split at h
  · exact ⟨_, _, _, _, _, _, rfl, h⟩
  · cases h
def onPut2 (x : Stmt) (f : Str → Expr → Str → Expr → Expr → Expr → Bool) : Bool := match x with
  | .Assign [.Tuple [.Subscript (.Name y _) ix _, .Subscript (.Name z _) iz _] _ _] (.Tuple [v, u] _ _) _ => f y ix z iz v u
  | _ => false
theorem onPut2_ok {x : Stmt} {f : Str → Expr → Str → Expr → Expr → Expr → Bool} (h : onPut2 x f = true) : ∃ (y : Str) (ix : Expr) (z : Str) (iz : Expr) (v : Expr) (u : Expr) (q1 : Pos) (q2 : Pos) (q3 : Pos) (q4 : Pos) (m : Nat) (q : Pos) (m' : Nat) (q' : Pos) (p : Pos), x = .Assign [.Tuple [.Subscript (.Name y q1) ix q2, .Subscript (.Name z q3) iz q4] m q] (.Tuple [v, u] m' q') p ∧ f y ix z iz v u = true := by
  unfold onPut2 at h
  split at h
  · exact ⟨_, _, _, _, _, _, _, _, _, _, _, _, _, _, _, rfl, h⟩
  · cases h
def onDrop (x : Stmt) (f : Expr → Bool) : Bool := match x with
  | .Expr v _ => f v
  | _ => false
theorem onDrop_ok {x : Stmt} {f : Expr → Bool} (h : onDrop x f = true) : ∃ (v : Expr) (p : Pos), x = .Expr v p ∧ f v = true := by
  unfold onDrop at h
  split at h
  · exact ⟨_, _, rfl, h⟩
  · cases h
def onRet (x : Stmt) (f : Expr → Bool) : Bool := match x with
  | .Return (some v) _ => f v
  | _ => false
theorem onRet_ok {x : Stmt} {f : Expr → Bool} (h : onRet x f = true) : ∃ (v : Expr) (p : Pos), x = .Return (some v) p ∧ f v = true := by
  unfold onRet at h
  split at h
  · exact ⟨_, _, rfl, h⟩
  · cases h
def onRetN (x : Stmt) (f : Str → Bool) : Bool := match x with
  | .Return (some (.Name y _)) _ => f y
  | _ => false
theorem onRetN_ok {x : Stmt} {f : Str → Bool} (h : onRetN x f = true) : ∃ (y : Str) (q : Pos) (p : Pos), x = .Return (some (.Name y q)) p ∧ f y = true := by
  unfold onRetN at h
  split at h
  · exact ⟨_, _, _, rfl, h⟩
  · cases h
def onIfS (x : Stmt) (f : Expr → (List Stmt) → (List Stmt) → Bool) : Bool := match x with
  | .If t xs ys _ => f t xs ys
  | _ => false
theorem onIfS_ok {x : Stmt} {f : Expr → (List Stmt) → (List Stmt) → Bool} (h : onIfS x f = true) : ∃ (t : Expr) (xs : List Stmt) (ys : List Stmt) (p : Pos), x = .If t xs ys p ∧ f t xs ys = true := by
  unfold onIfS at h
  split at h
  · exact ⟨_, _, _, _, rfl, h⟩
  · cases h
def onFor (x : Stmt) (f : Expr → Expr → (List Stmt) → Bool) : Bool := match x with
  | .For tg it xs [] _ => f tg it xs
  | _ => false
theorem onFor_ok {x : Stmt} {f : Expr → Expr → (List Stmt) → Bool} (h : onFor x f = true) : ∃ (tg : Expr) (it : Expr) (xs : List Stmt) (p : Pos), x = .For tg it xs [] p ∧ f tg it xs = true := by
  unfold onFor at h
  split at h
  · exact ⟨_, _, _, _, rfl, h⟩
  · cases h
def onWhl (x : Stmt) (f : Expr → (List Stmt) → Bool) : Bool := match x with
  | .While t xs [] _ => f t xs
  | _ => false
theorem onWhl_ok {x : Stmt} {f : Expr → (List Stmt) → Bool} (h : onWhl x f = true) : ∃ (t : Expr) (xs : List Stmt) (p : Pos), x = .While t xs [] p ∧ f t xs = true := by
  unfold onWhl at h
  split at h
  · exact ⟨_, _, _, rfl, h⟩
  · cases h
def onNilS (x : List Stmt) (f : Bool) : Bool := match x with
  | [] => f
  | _ => false
theorem onNilS_ok {x : List Stmt} {f : Bool} (h : onNilS x f = true) : x = [] ∧ f = true := by
  unfold onNilS at h
  split at h
  · exact ⟨rfl, h⟩
  · cases h
def onConsS (x : List Stmt) (f : Stmt → (List Stmt) → Bool) : Bool := match x with
  | y :: ys => f y ys
  | _ => false
theorem onConsS_ok {x : List Stmt} {f : Stmt → (List Stmt) → Bool} (h : onConsS x f = true) : ∃ (y : Stmt) (ys : List Stmt), x = y :: ys ∧ f y ys = true := by
  unfold onConsS at h
  split at h
  · exact ⟨_, _, rfl, h⟩
  · cases h
def storeB (N : List Str) (sc : Scope) (i : Nat) (y : Str) : Bool := decide (N[i]? = some y) && stB sc true y
def nComp : Expr → Bool
  | .ListComp _ _ _ _ => false
  | .SetComp _ _ _ _ => false
  | .DictComp _ _ _ _ _ => false
  | _ => true
def nDict : Expr → Bool
  | .SetComp _ _ _ _ => true
  | .DictComp _ _ _ _ _ => true
  | _ => false
def nTup : Expr → Bool
  | .Tuple _ _ _ => false
  | _ => true
def isLc : CE → Bool
  | .lc _ _ _ _ _ => true
  | .lc2 _ _ _ _ _ _ _ _ _ => true
  | _ => false
/-- a list comprehension that is stored within its own frame -/
def swE (sc : Scope) (y : Str) (py : Pos) : Expr → Bool
  | .ListComp _ _ sc' p => (sc.names.lookup y == some .local) && (py.line == p.line) && !(sc'.names.any fun q => q.1 == y && (q.2 == .local || q.2 == .cell))
  | _ => false
def CEs.len : CEs → Nat
  | .nil => 0
  | .cons _ as => as.len + 1
def namesB (N : List Str) (sc : Scope) : List Nat → List Expr → Bool
  | [], [] => true
  | i :: is, .Name y _ :: ts => storeB N sc i y && namesB N sc is ts
  | _, _ => false
def swP (vs : List Expr) : Bool := vs.all (foldedForSure 8) || !vs.all (constantsAlone 8)
def ndB (is : List Nat) : Bool := decide is.Nodup
section
variable (Γ : Gt) (N : List Str)
mutual
def mS : CS → Stmt → Scope → Bool
  | .set i e, st, sc => onAsgN st (fun y py v p => storeB N sc i y && mE Γ N false e v sc && !nDict v && (!swE sc y py v || isLc e))
  | .bind t e, st, sc => onAsgT st (fun ts v => mE Γ N false e v sc && nTup v && (match t with
    | .tup tt => matchTs N sc (fun _ => true) tt ts
    | _ => false))
  | .par is es, st, sc => onAsgTT st (fun ts vs => namesB N sc is ts && ndB is && decide (is.length ≤ 30) && swP vs && mEs Γ N es vs sc && decide (es.len = is.length))
  | .aug i e, st, sc => onAug st (fun y v => storeB N sc i y && mE Γ N false e v sc)
  | .app i e, st, sc => onApp st (fun y m p2 v p3 => decide (m = ("append" : Str)) && slotB N sc i y && mE Γ N false e v sc && nst v && (p2.endLine == p3.line))
  | .putL i e k, st, sc => onPut st (fun y ix v => slotB N sc i y && mE Γ N false e v sc && mE Γ N false k ix sc && nSl ix)
  | .putC i e k, st, sc => onPut st (fun y ix v => slotB N sc i y && mE Γ N false e v sc && mE Γ N false k ix sc && nSl ix)
  | .putD i e k, st, sc => onPut st (fun y ix v => slotB N sc i y && mE Γ N false e v sc && mE Γ N false k ix sc && nSl ix)
  | .put2 i j e e' k k', st, sc => onPut2 st (fun y ix z iz v u => slotB N sc i y && slotB N sc j z && mE Γ N false e v sc && mE Γ N false e' u sc && mE Γ N false k ix sc && mE Γ N false k' iz sc && nSl ix && nSl iz && nst v && nst u)
  | .drop e, st, sc => onDrop st (fun v => mE Γ N false e v sc && nComp v)
  | .ret e, st, sc => onRet st (fun v => mE Γ N false e v sc)
  | .retv i, st, sc => onRetN st (fun y => slotB N sc i y)
  | .iff t as bs, st, sc => onIfS st (fun x xs ys => mE Γ N true t x sc && mSs as xs sc && mSs bs ys sc)
  | .fr t it bs, st, sc => onFor st (fun tg x xs => mI Γ N true tg it x sc && matchT N sc (fun _ => true) t tg && mSs bs xs sc && nSet x)
  | .whl n t bs, st, sc => onWhl st (fun x xs => mE Γ N true t x sc && mSs bs xs sc)
  | .bad, st, sc => true
def mSs : CSs → List Stmt → Scope → Bool
  | .nil, xs, sc => onNilS xs true
  | .cons a as, xs, sc => onConsS xs (fun y ys => mS a y sc && mSs as ys sc)
  | .frz i as, xs, sc => mSs as xs sc
end
end

/-! ### .. and does what it means -/
theorem nComp_sw {v : Expr} {t : Option Expr} {l : Nat} {env : Env} (h : nComp v = true) : swapsWith v t l env = pure false := by
  cases v <;> first | rfl | cases h
theorem swE_ok {v : Expr} {y : Str} {py : Pos} {l : Nat} {env : Env} (hk : env.scope.kind = .function) (hd : nDict v = false) : swapsWith v (some (.Name y py)) l env = pure (swE env.scope y py v) := by
  cases v <;> first | rfl | cases hd | skip
  have hb : env.blockKind = .function := by unfold Env.blockKind; rw [hk]; rfl
  unfold swapsWith swE
  simp only [hb, Expr.pos, Env.kindOf]
  have e : (ScopeKind.function == ScopeKind.function) = true := rfl
  rw [e, Bool.true_and]
theorem nTup_sw {v : Expr} {ts : List Expr} {m : Nat} {q : Pos} {env : Env} (h : nTup v = true) : swappedStores [.Tuple ts m q] v env = pure none := by
  cases v <;> first | rfl | cases h
theorem tup_sw {v : Expr} {ts : List Expr} {m : Nat} {q : Pos} {l : Nat} {env : Env} : swapsWithSole [.Tuple ts m q] v l env = pure false := by
  cases v <;> rfl
theorem sub_sw {v a b : Expr} {q : Pos} {l : Nat} {env : Env} : swapsWithSole [.Subscript a b q] v l env = pure false := by
  cases v <;> rfl
theorem sub_st {v a b : Expr} {q : Pos} {env : Env} : swappedStores [.Subscript a b q] v env = pure none := by
  cases v <;> rfl
theorem sub_asg {a b : Expr} {q : Pos} {env : Env} (h : nSl b = true) (v : Value) : assign (.Subscript a b q) env v = (do
      let ov ← holding [v] (eval a env)
      let iv ← holding [v, ov] (eval b env)
      standAt q
      holding [v, ov, iv] (setItem ov iv v)
      release [v, ov, iv] []) := by
  cases b <;> first | rfl | cases h
end Co
end

section
set_option Elab.async false
set_option linter.all false
set_option maxRecDepth 100000
set_option autoImplicit false
namespace Co
open PySem PySem.Spec L2 PyProof.Rows
variable [Tbs]

section
variable {Γ : Gt} {T : Tb} {k : Nat} {c : Cel} {G : Hp} {X : Cx}
theorem storeB_ok {N : List Str} {sc : Scope} {i : Nat} {y : Str} (h : storeB N sc i y = true) : N[i]? = some y ∧ Loc sc y := by
  unfold storeB at h
  obtain ⟨h1, h2⟩ := and_true h
  exact ⟨of_decide_eq_true h1, (stB_loc h2).1⟩
theorem namesB_ok (hfn : ∀ x, X.fn x = true) : ∀ {is : List Nat} {ts : List Expr}, namesB X.N X.env.scope is ts = true → ∃ xs, Nms X is ts xs
  | [], [], _ => ⟨[], .nil⟩
  | [], _ :: _, h => by cases h
  | _ :: _, [], h => by cases h
  | i :: is, t :: ts, h => by
    cases t with
    | Name y p =>
      have h : (storeB X.N X.env.scope i y && namesB X.N X.env.scope is ts) = true := h
      obtain ⟨h1, h2⟩ := and_true h
      obtain ⟨a, b⟩ := storeB_ok h1
      obtain ⟨xs, r⟩ := namesB_ok hfn h2
      exact ⟨y :: xs, .cons a b (.inl (hfn y)) r⟩
    | _ => cases h
theorem nms_filter {p : Str → Pos → Bool} : ∀ {is : List Nat} {ts : List Expr} {xs : List Str}, Nms X is ts xs → (ts.filterMap fun t => match t with
    | .Name id pos => if p id pos then some id else none
    | _ => none).length = ts.length → (ts.filterMap fun t => match t with
    | .Name id pos => if p id pos then some id else none
    | _ => none) = xs
  | _, _, _, .nil, _ => rfl
  | _, _, _, @Nms.cons _ i x q is ts xs h1 h2 h3 t, h => by
    rw [List.filterMap_cons] at h ⊢
    dsimp only at h ⊢
    by_cases z : p x q = true
    · rw [if_pos z] at h ⊢
      dsimp only at h ⊢
      rw [nms_filter t (by simpa using h)]
    · rw [if_neg z] at h
      dsimp only at h
      have := List.length_filterMap_le (fun t => match t with
        | Expr.Name id pos => if p id pos then some id else none
        | _ => none) ts
      rw [List.length_cons] at h
      omega
theorem swP_ok {is : List Nat} {ts vs : List Expr} {xs : List Str} {m m' : Nat} {q q' : Pos} (hm : Nms X is ts xs) (h : swP vs = true) :
    swappedStores [.Tuple ts m q] (.Tuple vs m' q') X.env = pure (some xs) ∨ swappedStores [.Tuple ts m q] (.Tuple vs m' q') X.env = pure none := by
  unfold swP at h
  unfold swappedStores
  dsimp only
  split
  · exact .inr rfl
  · split
    · exact .inr rfl
    · split
      · exact .inr rfl
      · rename_i h1 h2 h3
        split
        · exact .inr rfl
        · rename_i h4
          split
          · rename_i h5
            rw [h5] at h
            simp [h4] at h
          · refine .inl ?_
            have hl := h3
            simp only [Bool.or_eq_true, bne_iff_ne, ne_eq, not_or, Decidable.not_not] at hl
            have := nms_filter (p := fun id pos => X.env.kindOf id == some .local && pos.line == (ts.head?.map (·.pos.line)).getD 0) hm hl.1
            exact congrArg (fun z => pure (some z)) this
theorem cq_all (g : Good Γ T k X) : ∀ (es : CEs) (vs : List Expr) (is : List Nat), mEs Γ X.N es vs X.env.scope = true → es.len = is.length → PA X vs (tSq (wd X) c G is (dens T es))
  | .nil, vs, is, h, hl => by
    rw [mEs] at h
    obtain ⟨rfl, _⟩ := onNil_ok h
    cases is with
    | nil => rw [dens]; exact cq_nil
    | cons i is => cases hl
  | .cons a as, vs, is, h, hl => by
    rw [mEs] at h
    obtain ⟨y, ys, rfl, h⟩ := onCons_ok h
    obtain ⟨h, h3⟩ := and_true h
    obtain ⟨h1, h2⟩ := and_true h
    cases is with
    | nil => cases hl
    | cons i is =>
      rw [dens]
      exact cq_cons (sE a g false _ h1) (cq_all g as ys is h3 (by have : as.len + 1 = is.length + 1 := hl; omega)) (nst_star h2)
/-- a comprehension stored in its own frame -/
theorem set_lc (g : Good Γ T k X) {i : Nat} {e : CE} {y : Str} {py p : Pos} {v : Expr} (he : isLc e = true) (hi : X.N[i]? = some y) (h : mE Γ X.N false e v X.env.scope = true) (hs : swE X.env.scope y py v = true) (hd : nDict v = false) :
    PS X (.Assign [.Name y py] v p) (tS (wd X) c G (sSet i (den T e))) := by
  have sw := swE_ok (y := y) (py := py) (l := p.line) g.kind hd
  rw [hs] at sw
  have yl : X.env.scope.names.lookup y = some .local := by
    cases v with
    | ListComp elt gs sc' pp =>
      unfold swE at hs
      obtain ⟨hs, _⟩ := and_true hs
      obtain ⟨hs, _⟩ := and_true hs
      simpa using hs
    | _ => cases hs
  cases e with
  | lc own t it f e =>
    rw [mE] at h
    obtain ⟨h, _⟩ := and_true h
    obtain ⟨elt, tg, iter, ifs, sc', pp, rfl, h⟩ := onLc_ok h
    obtain ⟨h, h7⟩ := and_true h
    obtain ⟨h, h6⟩ := and_true h
    obtain ⟨h, h5⟩ := and_true h
    obtain ⟨h, h4⟩ := and_true h
    obtain ⟨h, h3⟩ := and_true h
    obtain ⟨h1, h2⟩ := and_true h
    have gb := fun (s : Shared) (H : Hp) (C : Addr) (cl : List (Str × Addr)) (fp : List Addr) => g.blk (s := s) (H := H) (C := C) (cl := cl) (fp := fp) (blk_kind h2)
    rw [den]
    exact cs_setLc g.calm g.nd hi yl sw (sI it g false _ _ h1) (blkOk_by h2) (subB_ok h3) (blk_tg (own := own) g h4) (fun s H C cl fp => sF f (gb s H C cl fp) _ h5) (fun s H C cl fp => sE e (gb s H C cl fp) false _ h6) (nSet_fold h7)
  | lc2 own t it f t1 vs1 it1 f1 e =>
    rw [mE] at h
    obtain ⟨h, _⟩ := and_true h
    obtain ⟨elt, tg, iter, ifs, tg1, iter1, ifs1, sc', pp, rfl, h⟩ := onLc2_ok h
    obtain ⟨h, h13⟩ := and_true h
    obtain ⟨h, h12⟩ := and_true h
    obtain ⟨h, h11⟩ := and_true h
    obtain ⟨h, h10⟩ := and_true h
    obtain ⟨h, h9⟩ := and_true h
    obtain ⟨h, h8⟩ := and_true h
    obtain ⟨h, h7⟩ := and_true h
    obtain ⟨h, h6⟩ := and_true h
    obtain ⟨h, h5⟩ := and_true h
    obtain ⟨h, h4⟩ := and_true h
    obtain ⟨h, h3⟩ := and_true h
    obtain ⟨h1, h2⟩ := and_true h
    have gb := fun (s : Shared) (H : Hp) (C : Addr) (cl : List (Str × Addr)) (fp : List Addr) => g.blk (s := s) (H := H) (C := C) (cl := cl) (fp := fp) (blk_kind h2)
    rw [den]
    exact cs_setLc2 g.calm g.nd hi yl sw (sI it g false _ _ h1) (blkOk_by h2) (subB_ok h3) (subB_ok h4) (subB_ok h5) (blk_tg (own := own) g h6) (fun s H C cl fp => sF f (gb s H C cl fp) _ h7) (fun s H C cl fp => sI it1 (gb s H C cl fp) true _ _ h8)
        (blk_tg (own := own) g h9) (fun s H C cl fp => sF f1 (gb s H C cl fp) _ h10) (fun s H C cl fp => sE e (gb s H C cl fp) false _ h11) (nSet_fold h12) (fun env => nSet_fold h13)
  | _ => cases he
mutual
theorem sS : ∀ (a : CS) {X : Cx} (g : Good Γ T k X) (hfn : ∀ x, X.fn x = true) (st : Stmt), mS Γ X.N a st X.env.scope = true → PS X st (tS (wd X) c G (denS T a))
  | .set i e, X, g, hfn, st, h => by
    rw [mS] at h
    obtain ⟨y, py, v, p, rfl, h⟩ := onAsgN_ok h
    obtain ⟨h, h4⟩ := and_true h
    obtain ⟨h, h3⟩ := and_true h
    obtain ⟨h1, h2⟩ := and_true h
    obtain ⟨s1, s2⟩ := storeB_ok h1
    have hd := ny h3
    rw [denS]
    cases hs : swE X.env.scope y py v with
    | false =>
      have sw := swE_ok (y := y) (py := py) (l := p.line) g.kind hd
      rw [hs] at sw
      exact cs_set g.nd s1 s2 (.inl (hfn y)) (sE e g false _ h2) sw
    | true =>
      rw [hs] at h4
      exact set_lc g h4 s1 h2 hs hd
  | .bind t e, X, g, hfn, st, h => by
    rw [mS] at h
    obtain ⟨ts, v, m, q, p, rfl, h⟩ := onAsgT_ok h
    obtain ⟨h, h3⟩ := and_true h
    obtain ⟨h1, h2⟩ := and_true h
    rw [denS]
    cases t with
    | tup tt => exact cs_bind (sE e g false _ h1) (cg (all := fun _ => true) g.calm g.nd (fun x _ => hfn x) (.tup tt) (.Tuple ts m q) h3) tup_sw (nTup_sw h2) rfl
    | one _ => cases h3
  | .par is es, X, g, hfn, st, h => by
    rw [mS] at h
    obtain ⟨ts, vs, m, q, m', q', p, rfl, h⟩ := onAsgTT_ok h
    obtain ⟨h, h6⟩ := and_true h
    obtain ⟨h, h5⟩ := and_true h
    obtain ⟨h, h4⟩ := and_true h
    obtain ⟨h, h3⟩ := and_true h
    obtain ⟨h1, h2⟩ := and_true h
    obtain ⟨xs, nm⟩ := namesB_ok hfn h1
    rw [denS]
    exact cs_par g.calm g.nd nm (of_decide_eq_true h2) (of_decide_eq_true h3) (cq_all g es vs is h5 (of_decide_eq_true h6)) (swP_ok nm h4)
  | .aug i e, X, g, hfn, st, h => by
    rw [mS] at h
    obtain ⟨y, v, q, p, rfl, h⟩ := onAug_ok h
    obtain ⟨h1, h2⟩ := and_true h
    obtain ⟨s1, s2⟩ := storeB_ok h1
    rw [denS]
    exact cs_augMul g.nd s1 s2 (.inl (hfn y)) (sE e g false _ h2)
  | .app i e, X, g, hfn, st, h => by
    rw [mS] at h
    obtain ⟨y, m, p2, v, p3, q, p, rfl, h⟩ := onApp_ok h
    obtain ⟨h, h5⟩ := and_true h
    obtain ⟨h, h4⟩ := and_true h
    obtain ⟨h, h3⟩ := and_true h
    obtain ⟨h1, h2⟩ := and_true h
    have e1 := of_decide_eq_true h1
    subst e1
    obtain ⟨s1, s2, s3⟩ := slotB_ok h2
    rw [denS]
    exact cs_app s1 s2 s3.a s3.b (sE e g false _ h3) rfl (nst_star h4) h5
  | .putL i e kk, X, g, hfn, st, h => by
    rw [mS] at h
    obtain ⟨y, ix, v, q, q', p, rfl, h⟩ := onPut_ok h
    obtain ⟨h, h4⟩ := and_true h
    obtain ⟨h, h3⟩ := and_true h
    obtain ⟨h1, h2⟩ := and_true h
    obtain ⟨s1, s2, s3⟩ := slotB_ok h1
    rw [denS]
    exact cs_putL s1 s2 s3.a s3.b (sE e g false _ h2) (sE kk g false _ h3) (sub_asg h4) sub_sw sub_st
  | .putC i e kk, X, g, hfn, st, h => by
    rw [mS] at h
    obtain ⟨y, ix, v, q, q', p, rfl, h⟩ := onPut_ok h
    obtain ⟨h, h4⟩ := and_true h
    obtain ⟨h, h3⟩ := and_true h
    obtain ⟨h1, h2⟩ := and_true h
    obtain ⟨s1, s2, s3⟩ := slotB_ok h1
    rw [denS]
    exact cs_putC s1 s2 s3.a s3.b (sE e g false _ h2) (sE kk g false _ h3) (sub_asg h4) sub_sw sub_st
  | .putD i e kk, X, g, hfn, st, h => by
    rw [mS] at h
    obtain ⟨y, ix, v, q, q', p, rfl, h⟩ := onPut_ok h
    obtain ⟨h, h4⟩ := and_true h
    obtain ⟨h, h3⟩ := and_true h
    obtain ⟨h1, h2⟩ := and_true h
    obtain ⟨s1, s2, s3⟩ := slotB_ok h1
    rw [denS]
    exact cs_putD g.room s1 s2 s3.a s3.b (sE e g false _ h2) (sE kk g false _ h3) (sub_asg h4) sub_sw sub_st
  | .put2 i j e e' kk kk', X, g, hfn, st, h => by
    rw [mS] at h
    obtain ⟨y, ix, z, iz, v, u, q1, q2, q3, q4, m, q, m', q', p, rfl, h⟩ := onPut2_ok h
    obtain ⟨h, h10⟩ := and_true h
    obtain ⟨h, h9⟩ := and_true h
    obtain ⟨h, h8⟩ := and_true h
    obtain ⟨h, h7⟩ := and_true h
    obtain ⟨h, h6⟩ := and_true h
    obtain ⟨h, h5⟩ := and_true h
    obtain ⟨h, h4⟩ := and_true h
    obtain ⟨h, h3⟩ := and_true h
    obtain ⟨h1, h2⟩ := and_true h
    obtain ⟨s1, s2, s3⟩ := slotB_ok h1
    obtain ⟨t1, t2, t3⟩ := slotB_ok h2
    rw [denS]
    exact cs_put2 g.calm g.room s1 s2 s3.a s3.b t1 t2 t3.a t3.b (sE e g false _ h3) (sE e' g false _ h4) (sE kk g false _ h5) (sE kk' g false _ h6) (nst_star h9) (nst_star h10) (sub_asg h7) (sub_asg h8)
  | .drop e, X, g, hfn, st, h => by
    rw [mS] at h
    obtain ⟨v, p, rfl, h⟩ := onDrop_ok h
    obtain ⟨h1, h2⟩ := and_true h
    rw [denS]
    exact cs_drop (sE e g false _ h1) (nComp_sw h2)
  | .ret e, X, g, hfn, st, h => by
    rw [mS] at h
    obtain ⟨v, p, rfl, h⟩ := onRet_ok h
    rw [denS]
    exact cs_ret (sE e g false _ h)
  | .retv i, X, g, hfn, st, h => by
    rw [mS] at h
    obtain ⟨y, q, p, rfl, h⟩ := onRetN_ok h
    obtain ⟨s1, s2, s3⟩ := slotB_ok h
    rw [denS]
    exact cs_retv s1 s2 s3.a s3.b
  | .iff t as bs, X, g, hfn, st, h => by
    rw [mS] at h
    obtain ⟨x, xs, ys, p, rfl, h⟩ := onIfS_ok h
    obtain ⟨h, h3⟩ := and_true h
    obtain ⟨h1, h2⟩ := and_true h
    rw [denS]
    exact cs_if (sE t g true _ h1) (sSs as g hfn _ h2) (sSs bs g hfn _ h3)
  | .fr t it bs, X, g, hfn, st, h => by
    rw [mS] at h
    obtain ⟨tg, x, xs, p, rfl, h⟩ := onFor_ok h
    obtain ⟨h, h4⟩ := and_true h
    obtain ⟨h, h3⟩ := and_true h
    obtain ⟨h1, h2⟩ := and_true h
    rw [denS]
    exact cs_for g.pass g.calm (sI it g true _ _ h1) (cg (all := fun _ => true) g.calm g.nd (fun x _ => hfn x) t tg h2) (sSs bs g hfn _ h3) (nSet_fold h4)
  | .whl n t bs, X, g, hfn, st, h => by
    rw [mS] at h
    obtain ⟨x, xs, p, rfl, h⟩ := onWhl_ok h
    obtain ⟨h1, h2⟩ := and_true h
    rw [denS]
    exact cs_while n g.pass (sE t g true _ h1) (sSs bs g hfn _ h2)
  | .bad, X, g, hfn, st, h => ⟨fun pins s σ H D I h => by obtain ⟨_, _, _, _, _, z, _⟩ := h; rw [denS] at z; cases z⟩
theorem sSs : ∀ (a : CSs) {X : Cx} (g : Good Γ T k X) (hfn : ∀ x, X.fn x = true) (st : List Stmt), mSs Γ X.N a st X.env.scope = true → PSs X st (tS (wd X) c G (denSs T a))
  | .nil, X, g, hfn, st, h => by
    rw [mSs] at h
    obtain ⟨rfl, _⟩ := onNilS_ok h
    rw [denSs]
    exact cs_nil
  | .cons a as, X, g, hfn, st, h => by
    rw [mSs] at h
    obtain ⟨y, ys, rfl, h⟩ := onConsS_ok h
    obtain ⟨h1, h2⟩ := and_true h
    rw [denSs]
    exact cs_cons (sS a g hfn _ h1) (sSs as g hfn _ h2)
  | .frz i as, X, g, hfn, st, h => by
    rw [mSs] at h
    rw [denSs]
    exact cs_frz (sSs as g hfn _ h)
end
end
end Co
end

section
set_option Elab.async false
set_option linter.all false
set_option maxRecDepth 100000
set_option autoImplicit false
namespace Co
open PySem PySem.Spec L2 PyProof.Rows
variable [Tbs]

/-! ### the module's defs, level by level -/
structure Glo (Γ : Gt) (T : Tb) (k : Nat) (P : Program) (w : World) (K : PySem.W.Frag) (mg : Str → Option Value) (base : Heap) : Prop where
  free : ∀ x ∈ Γ.frees, mg x = none
  cst : ∀ x ∈ Γ.consts, ∀ d, T.g x = some d → ∃ v u, mg x = some u ∧ RelV v u ∧ ∀ H, PF K H v d
  fns : ∀ x n, (x, n) ∈ Γ.fns → ∃ f fd ps, mg x = some (.ref f) ∧ PySem.W.keepIn K (.ref f) = true ∧ Binds K fd ps [] ∧ ps.length = n ∧ FnOk P w K mg base CX0 k f fd ps (spD ⟨P, w, K⟩ n (T.f x))
structure En where
  x : Str
  n : Nat
  F : Tb → FD
def noFD : FD := fun _ _ => none
def tabF (es : List En) (T : Tb) (x : Str) : FD := match es.find? fun e => decide (e.x = x) with
  | some e => e.F T
  | none => noFD
def tab (es : List En) (g : Str → Option D) : Nat → Tb
  | 0 => ⟨fun _ => noFD, g⟩
  | k + 1 => ⟨tabF es (tab es g k), g⟩
/-- what is to be shown of one def -/
structure EnOk (Γ : Gt) (e : En) (P : Program) (w : World) (K : PySem.W.Frag) (mg : Str → Option Value) (base : Heap) (f : Addr) (fd : FuncData) (ps : List Str) : Prop where
  gl : mg e.x = some (.ref f)
  kp : PySem.W.keepIn K (.ref f) = true
  bd : Binds K fd ps []
  ln : ps.length = e.n
  ok : ∀ k T, Glo Γ T k P w K mg base → FnOk P w K mg base CX0 (k + 1) f fd ps (spD ⟨P, w, K⟩ e.n (e.F T))
section
variable {P : Program} {w : World} {K : PySem.W.Frag} {mg : Str → Option Value} {base : Heap} {Γ : Gt}
theorem fn_none {k n : Nat} {f : Addr} {fd : FuncData} {ps : List Str} : FnOk P w K mg base CX0 k f fd ps (spD ⟨P, w, K⟩ n noFD) := by
  have no : ∀ vs H Q E, ¬ spD ⟨P, w, K⟩ n noFD vs H Q E := fun vs H Q E h => by
    obtain ⟨_, _, _, _, _, _, _, _, z, _⟩ := h
    cases z
  exact ⟨fun vs H Q E h => absurd h (no vs H Q E), fun A outer s H args us vs Q E _ _ _ _ h => absurd h (no vs H Q E)⟩
theorem tab_ok {es : List En} {g : Str → Option D} (hfns : Γ.fns = es.map fun e => (e.x, e.n)) (hnd : (es.map (·.x)).Nodup) (free : ∀ x ∈ Γ.frees, mg x = none)
    (cst : ∀ x ∈ Γ.consts, ∀ d, g x = some d → ∃ v u, mg x = some u ∧ RelV v u ∧ ∀ H, PF K H v d) (he : ∀ e ∈ es, ∃ f fd ps, EnOk Γ e P w K mg base f fd ps) : ∀ k, Glo Γ (tab es g k) k P w K mg base := by
  have find : ∀ (es : List En), (es.map (·.x)).Nodup → ∀ e ∈ es, (es.find? fun d => decide (d.x = e.x)) = some e := by
    intro es
    induction es with
    | nil => intro _ e h; cases h
    | cons a r ih =>
      intro hn e h
      rw [List.map_cons, List.nodup_cons] at hn
      rw [List.find?_cons]
      cases h with
      | head => rw [decide_eq_true rfl]
      | tail _ h =>
        have ne : ¬ a.x = e.x := fun z => hn.1 (by rw [z]; exact List.mem_map.mpr ⟨e, h, rfl⟩)
        rw [decide_eq_false ne]
        exact ih hn.2 e h
  have mem : ∀ x n, (x, n) ∈ Γ.fns → ∃ e ∈ es, e.x = x ∧ e.n = n := fun x n h => by
    rw [hfns] at h
    obtain ⟨e, h1, h2⟩ := List.mem_map.mp h
    cases h2
    exact ⟨e, h1, rfl, rfl⟩
  intro k
  induction k with
  | zero =>
    refine ⟨free, cst, fun x n h => ?_⟩
    obtain ⟨e, h1, rfl, rfl⟩ := mem x n h
    obtain ⟨f, fd, ps, ok⟩ := he e h1
    exact ⟨f, fd, ps, ok.gl, ok.kp, ok.bd, ok.ln, fn_none⟩
  | succ k ih =>
    refine ⟨free, cst, fun x n h => ?_⟩
    obtain ⟨e, h1, rfl, rfl⟩ := mem x n h
    obtain ⟨f, fd, ps, ok⟩ := he e h1
    refine ⟨f, fd, ps, ok.gl, ok.kp, ok.bd, ok.ln, ?_⟩
    have z : (tab es g (k + 1)).f e.x = e.F (tab es g k) := by
      show tabF es (tab es g k) e.x = _
      unfold tabF
      rw [find es hnd e h1]
    rw [z]
    exact ok.ok k _ ih
/-- a def of the core language -/
def coreEn (x : Str) (ps N : List Str) (body : CSs) : En := ⟨x, ps.length, fun T => fnD N.length (denSs T body)⟩
theorem Glo.good {T : Tb} {k : Nat} (g : Glo Γ T k P w K mg base) {N ps : List Str} {qual : Str} {scope : Scope} {f : Addr} {cdv : Value} {A : Around} {outer : List Env} {s : Shared} {H : Hp} {E : XK} (S : FnScope N ps scope) (hr : Room k (A.deeper (envOfC qual scope s.heap.objs.size f cdv))) :
    Good { Γ with lam := false } T k (cxOf CX0 P w K mg base N qual scope f cdv A outer s H E).nox :=
  ⟨S.nd, rfl, hr, S.kind, .never, g.free, g.cst, g.fns, fun z => by cases z⟩
theorem Glo.goodL {T : Tb} {k : Nat} (g : Glo Γ T k P w K mg base) {N ps : List Str} {qual : Str} {scope : Scope} {f : Addr} {cc PP : Addr} {A : Around} {outer : List Env} {s : Shared} {H : Hp} {E : XK} (S : FnScope N ps scope) (hr : Room k (A.deeper (envOfC qual scope s.heap.objs.size f (.ref cc))))
    (TB : LamX.TabB base mg cc PP) (hT : (PP, qual ++ ".<locals>." ++ "<lambda>") ∈ Tbs.T) (hu : ∀ p ∈ Tbs.T, p.1 = PP → p.2 = qual ++ ".<locals>." ++ "<lambda>") :
    Good { Γ with lam := true } T k (cxOf CX0 P w K mg base N qual scope f (.ref cc) A outer s H E).nox :=
  ⟨S.nd, rfl, hr, S.kind, .never, g.free, g.cst, g.fns, fun _ => ⟨cc, PP, TB, rfl, hT, hu⟩⟩
theorem core_ok {x : Str} {params : Arguments} {body : List Stmt} {scope : Scope} {kws : List (Str × V)} {f : Addr} {fd : FuncData} {N ps : List Str} {core : CSs} (F : FunD K x x params body scope [] kws f fd) (S : FnScope N ps scope) (hm : mSs { Γ with lam := false } N core body scope = true) (m : mg x = some (.ref f))
    (bd : Binds K fd ps []) : EnOk Γ (coreEn x ps N core) P w K mg base f fd ps :=
  ⟨m, F.kp, bd, rfl, fun k T g => fn_den F S fun A outer s H E c G hr => sSs core (g.good S hr) (fun _ => rfl) body hm⟩
theorem core_okL {x : Str} {params : Arguments} {body : List Stmt} {scope : Scope} {kws : List (Str × V)} {f : Addr} {fd : FuncData} {N ps : List Str} {core : CSs} (F : FunD K x x params body scope [] kws f fd) (S : FnScope N ps scope) (hm : mSs { Γ with lam := true } N core body scope = true) (m : mg x = some (.ref f))
    (bd : Binds K fd ps []) {cc PP : Addr} (hcode : fd.code = .ref cc) (TB : LamX.TabB base mg cc PP) (hT : (PP, x ++ ".<locals>." ++ "<lambda>") ∈ Tbs.T) (hu : ∀ p ∈ Tbs.T, p.1 = PP → p.2 = x ++ ".<locals>." ++ "<lambda>") : EnOk Γ (coreEn x ps N core) P w K mg base f fd ps :=
  ⟨m, F.kp, bd, rfl, fun k T g => fn_den F S fun A outer s H E c G hr => by
    rw [hcode] at hr ⊢
    exact sSs core (g.goodL S hr TB hT hu) (fun _ => rfl) body hm⟩
end
end Co
end

section
set_option Elab.async false
set_option linter.all false
set_option maxRecDepth 100000
set_option autoImplicit false
namespace Co
open PySem PySem.Spec L2 PyProof.Rows
variable [Tbs]

/-! ### a comprehension whose items are new lists of their own: the bags -/
def lcfLoop (t : Tg) (elt : Den R) (ρ : Rho) : List D → List D → D → Option (List D × D)
  | [], acc, s => some (acc, s)
  | d :: ds, acc, s => (bindT t d ρ).bind fun ρ1 => (elt ρ1 s).bind fun x => match x.1 with
    | (.fr, .list es) => lcfLoop t elt ρ ds (acc ++ [.list es]) x.2
    | _ => none
def dLcF (t : Tg) (vs : List Nat) (g : Den (List D)) (elt : Den R) : Den (List D) := fun ρ s => (g ρ s).bind fun x => lcfLoop t elt (wipeR ρ vs) x.1 [] x.2
/-- new lists at bs, each to itself -/
structure Bags (W : Wd) (c : Cel) (H H' : Hp) (bs : List Addr) (ds : List D) : Prop where
  nd : bs.Nodup
  new : ∀ b ∈ bs, H b = none ∧ b ∉ c.fp
  ob : Paired (fun b d => Ob W H' b d ∧ ∃ es, d = .list es) bs ds
theorem Bags.ext {W : Wd} {c : Cel} {H H1 H2 : Hp} {bs : List Addr} {ds : List D} (B : Bags W c H H1 bs ds) (e : Ext c.fp H1 H2) : Bags W c H H2 bs ds := by
  refine ⟨B.nd, B.new, ?_⟩
  have gen : ∀ (bs : List Addr) (ds : List D), (∀ b ∈ bs, b ∉ c.fp) → Paired (fun b d => Ob W H1 b d ∧ ∃ es, d = .list es) bs ds → Paired (fun b d => Ob W H2 b d ∧ ∃ es, d = .list es) bs ds := by
    intro bs ds hn h
    induction h with
    | nil => exact .nil
    | cons r t ih => exact .cons ⟨r.1.ext e (hn _ (by simp)), r.2⟩ (ih fun b hb => hn b (by simp [hb]))
  exact gen bs ds (fun b hb => (B.new b hb).2) B.ob
def tB (W : Wd) (c : Cel) (f : Den (List D)) : TE := fun σ H Q => ∃ ρ s ds s', Est W c ρ s σ H ∧ f ρ s = some (ds, s') ∧ ∀ L bs H', Ext c.fp H H' → CelOk W c s' H' → H L = none → L ∉ c.fp → L ∉ bs → H' L = some (.lst (bs.map V.ref)) → Bags W c H H' bs ds → Q (.ref L) H'
section
variable {X : Cx} {c : Cel}
theorem lcf_imp {t : Tg} {g : Den (List PyData)} {f : Den R} {vs : List Nat} (hv : ∀ i ∈ t.slots, i ∈ vs) (σ : L2.St) (H : Hp) (Q : VK) (h : tB (wd X) c (dLcF t vs g f) σ H Q) :
    tLc (tI (wd X) c false g) (gD (wd X) c t) (tDT (wd X) c dYes) (tD (wd X) c f) vs σ H Q := by
  obtain ⟨ρ, s, ds', s', E, hf, q⟩ := h
  obtain ⟨⟨ds, s1⟩, h1, h2⟩ := bind_some hf
  refine ⟨ρ, s, ds, s1, E, h1, fun J H1 e1 k1 ⟨hz, n, G, Y, w, hn, hG, hY⟩ => fun D hD => ?_⟩
  have nD : D ∉ c.fp := k1.not_fp hD
  have hD0 : H D = none := none_back (W := wd X) e1 hD nD
  refine lc_it w (fun i H3 => ∃ acc s3 bs, lcfLoop t f (wipeR ρ vs) (ds.drop i) acc s3 = some (ds', s') ∧ acc.length ≤ i ∧ H3 D = some (.lst (bs.map V.ref)) ∧ D ∉ bs ∧ Bags (wd X) c H H3 bs acc ∧ CelOk (wd X) c s3 H3 ∧ Ext c.fp H H3 ∧ Ext c.fp H1 H3) ?_ ?_ ?_ ?_
  · exact ⟨[], s1, [], h2, Nat.le_refl _, upd_same, by simp, ⟨List.nodup_nil, fun b hb => (by cases hb), .nil⟩, k1.same (same_new hD), e1.trans (.of (same_new hD)), .of (same_new hD)⟩
  · rintro i H3 _ ⟨acc, s3, bs, _, _, _, _, _, _, _, e3⟩
    exact hG H3 e3
  · rintro i x H3 H4 hi ⟨acc, s3, bs, hl, ha, hw, nb, B, k3, e3, e13⟩ y
    obtain ⟨d, hd, sm, pd⟩ := hY i H3 x H4 hi e13 y
    rw [drop_get hd] at hl
    unfold lcfLoop at hl
    obtain ⟨ρ1, hb, hl⟩ := bind_some hl
    obtain ⟨⟨r, s4⟩, hf4, hl⟩ := bind_some hl
    have k4 : CelOk (wd X) c s3 H4 := k3.same sm
    have e34 : Ext c.fp H3 H4 := .of sm
    have E4 : Est (wd X) c (wipeR ρ vs) s3 (L2.wipe σ vs) H4 := (E.wipe vs).ext (e3.trans e34) k4
    refine ⟨wipeR ρ vs, s3, d, ρ1, E4, pd, hb, fun σ2 E5 hw5 => ⟨?_, ρ1, s3, true, s3, E5, rfl, fun H5 e5 k5 => ?_⟩⟩
    · rw [hw5 vs hv]
      exact wipe_wipe σ vs
    · show (if true = true then _ else _)
      rw [if_pos rfl]
      refine ⟨ρ1, s3, r, s4, E5.ext e5 k5, hf4, fun v H6 e6 k6 r6 => ?_⟩
      dsimp only at hl
      split at hl
      · rename_i es
        obtain ⟨a, rfl, na, nfa, oa⟩ := r6
        have e36 := (e34.trans e5).trans e6
        have hD6 : H6 D = some (.lst (bs.map V.ref)) := e36.keep D _ hw nD
        have lb := Paired.length B.ob
        have hD5 : H5 D = some (.lst (bs.map V.ref)) := (e34.trans e5).keep D _ hw nD
        have aD : a ≠ D := fun z => by rw [z, hD5] at na; cases na
        have B6 := B.ext e36
        have mu : Mut (H6 D) ∨ H6 D = none := by rw [hD6]; exact .inl trivial
        have pe : Pers H6 (L2.upd H6 D (.lst ((bs ++ [a]).map V.ref))) := pers_upd mu
        have nab : a ∉ bs := fun hm => by
          obtain ⟨j, hj⟩ := List.mem_iff_getElem?.mp hm
          obtain ⟨y, _, oy, _⟩ := paired_get (B.ext (e34.trans e5)).ob j a hj
          obtain ⟨u, hu, _⟩ := oy.some
          rw [na] at hu; cases hu
        have ga : H a = none := none_back (W := wd X) ((e3.trans e34).trans e5) na nfa
        refine ⟨bs.map V.ref, hD6, by rw [List.length_map]; omega, acc ++ [.list es], s4, bs ++ [a], hl, by rw [List.length_append]; simp; exact ha, by rw [upd_same, List.map_append]; rfl, ?_, ⟨?_, ?_, ?_⟩, k6.upd nD (.inl ⟨_, hD6⟩), ext_upd (e3.trans e36) hD0 mu, ext_upd (e13.trans e36) hD mu⟩
        · simp only [List.mem_append, List.mem_singleton, not_or]
          exact ⟨nb, fun z => aD z.symm⟩
        · exact List.nodup_append.mpr ⟨B.nd, List.pairwise_singleton _ _, fun x hx y hy => by rw [List.mem_singleton.mp hy]; exact fun z => nab (by rw [← z]; exact hx)⟩
        · intro b hb
          rcases List.mem_append.mp hb with hb | hb
          · exact B.new b hb
          · rw [List.mem_singleton.mp hb]; exact ⟨ga, nfa⟩
        · have up : ∀ (b : Addr) (d : PyData), b ≠ D → Ob (wd X) H6 b d → Ob (wd X) (L2.upd H6 D (.lst (bs.map V.ref ++ [V.ref a]))) b d := fun b d hb o => o.pers (by rw [show bs.map V.ref ++ [V.ref a] = (bs ++ [a]).map V.ref by simp]; exact pe) (by rw [upd_ne hb])
          have gen : ∀ (bs : List Addr) (ds : List PyData), D ∉ bs → Paired (fun b d => Ob (wd X) H6 b d ∧ ∃ es, d = .list es) bs ds → Paired (fun b d => Ob (wd X) (L2.upd H6 D (.lst (_ : List V))) b d ∧ ∃ es, d = .list es) bs ds := fun bs' ds' hn h => by
            induction h with
            | nil => exact .nil
            | cons r t ih =>
              rw [List.mem_cons, not_or] at hn
              exact .cons ⟨up _ _ (Ne.symm hn.1) r.1, r.2⟩ (ih hn.2)
          exact Paired.snoc (gen bs acc nb B6.ob) ⟨up _ _ aD oa, es, rfl⟩
      · cases hl
  · rintro H3 ⟨acc, s3, bs, hl, ha, hw, nb, B, k3, e3, _⟩
    rw [hn, List.drop_length] at hl
    unfold lcfLoop at hl
    cases hl
    exact q D bs H3 e3 k3 hD0 nD nb hw B
end
end Co
end

section
set_option Elab.async false
set_option linter.all false
set_option maxRecDepth 100000
set_option autoImplicit false
namespace Co
open PySem PySem.Spec L2 PyProof.Rows
variable [Tbs]

/-! ### statements keep the number of slots -/
mutual
theorem bindT_len : ∀ (t : Tg) {d : D} {ρ ρ' : Rho}, bindT t d ρ = some ρ' → ρ'.length = ρ.length
  | .one i, d, ρ, ρ', h => by cases h; simp
  | .tup ts, .tuple ds, ρ, ρ', h => by
    rw [bindT] at h
    split at h
    · exact bindTs_len ts h
    · cases h
  | .tup ts, .none, ρ, ρ', h => by simp [bindT] at h
  | .tup ts, .bool _, ρ, ρ', h => by simp [bindT] at h
  | .tup ts, .int _, ρ, ρ', h => by simp [bindT] at h
  | .tup ts, .str _, ρ, ρ', h => by simp [bindT] at h
  | .tup ts, .list _, ρ, ρ', h => by simp [bindT] at h
  | .tup ts, .dict _, ρ, ρ', h => by simp [bindT] at h
theorem bindTs_len : ∀ (t : Tgs) {d : List D} {ρ ρ' : Rho}, bindTs t d ρ = some ρ' → ρ'.length = ρ.length
  | .nil, [], ρ, ρ', h => by cases h; rfl
  | .nil, _ :: _, ρ, ρ', h => by cases h
  | .cons t ts, [], ρ, ρ', h => by cases h
  | .cons t ts, d :: ds, ρ, ρ', h => by
    unfold bindTs at h
    obtain ⟨ρ1, h1, h2⟩ := bind_some h
    rw [bindTs_len ts h2, bindT_len t h1]
end
theorem putAll_len : ∀ (is : List Nat) (rs : List R) {ρ ρ' : Rho}, putAll ρ is rs = some ρ' → ρ'.length = ρ.length
  | [], [], ρ, ρ', h => by cases h; rfl
  | [], _ :: _, ρ, ρ', h => by cases h
  | _ :: _, [], ρ, ρ', h => by cases h
  | i :: is, r :: rs, ρ, ρ', h => by
    unfold putAll at h
    obtain ⟨e, _, h⟩ := bind_some h
    rw [putAll_len is rs h]; simp
def KeepN (f : DenS) : Prop := ∀ ρ s ρ' s', f ρ s = some (.nx ρ', s') → ρ'.length = ρ.length
theorem keep_for {t : Tg} {b : DenS} (hb : KeepN b) : ∀ (ds : List D) ρ s ρ' s', forLoop t b ds ρ s = some (.nx ρ', s') → ρ'.length = ρ.length
  | [], ρ, s, ρ', s', h => by cases h; rfl
  | d :: ds, ρ, s, ρ', s', h => by
    unfold forLoop at h
    obtain ⟨ρ1, h1, h⟩ := bind_some h
    obtain ⟨⟨o, s1⟩, h2, h⟩ := bind_some h
    cases o with
    | nx ρ2 =>
      rw [keep_for hb ds ρ2 s1 ρ' s' h, hb _ _ _ _ h2, bindT_len t h1]
    | rt r => cases h
theorem keep_while {t : Den Bool} {b : DenS} (hb : KeepN b) : ∀ (n : Nat) ρ s ρ' s', whileLoop t b n ρ s = some (.nx ρ', s') → ρ'.length = ρ.length
  | 0, ρ, s, ρ', s', h => by cases h
  | n + 1, ρ, s, ρ', s', h => by
    unfold whileLoop at h
    obtain ⟨⟨z, s1⟩, h1, h⟩ := bind_some h
    cases z with
    | false => cases h; rfl
    | true =>
      have h : (b ρ s1 >>= fun x => match x.1 with
        | .nx ρ2 => whileLoop t b n ρ2 x.2
        | .rt r => some (.rt r, x.2)) = some (.nx ρ', s') := h
      obtain ⟨⟨o, s2⟩, h2, h⟩ := bind_some h
      cases o with
      | nx ρ2 => rw [keep_while hb n ρ2 s2 ρ' s' h, hb _ _ _ _ h2]
      | rt r => cases h
theorem stD_len {i : Nat} {e : D} {g : Den R} {ρ ρ' : Rho} {s s' : D} (h : sStD i e g ρ s = some (ρ', s')) : ρ'.length = ρ.length := by
  unfold sStD at h
  split at h
  · split at h
    · split at h
      · cases h; simp
      · cases h
    · cases h
  · cases h
mutual
theorem denS_len (T : Tb) : ∀ (a : CS), KeepN (denS T a)
  | .set i e => fun ρ s ρ' s' h => by
    rw [denS] at h
    obtain ⟨⟨r, s1⟩, _, h⟩ := bind_some h
    obtain ⟨en, _, h⟩ := bind_some h
    cases h; simp
  | .bind t e => fun ρ s ρ' s' h => by
    rw [denS] at h
    unfold sBind at h
    split at h
    · rename_i d s1 _
      cases z : bindT t d ρ with
      | none => rw [z] at h; cases h
      | some ρ1 => rw [z] at h; cases h; exact bindT_len t z
    · cases h
  | .par is es => fun ρ s ρ' s' h => by
    rw [denS] at h
    obtain ⟨⟨rs, s1⟩, _, h⟩ := bind_some h
    obtain ⟨ρ1, h1, h⟩ := bind_some h
    cases h
    exact putAll_len is rs h1
  | .aug i e => fun ρ s ρ' s' h => by
    rw [denS] at h
    unfold sAug at h
    split at h
    · rename_i n _
      split at h
      · rename_i m s1 _
        cases z : mulI n m with
        | none => rw [z] at h; cases h
        | some y => rw [z] at h; cases h; simp
      · cases h
    · cases h
  | .app i e => fun ρ s ρ' s' h => by
    rw [denS] at h
    unfold sApp at h
    split at h
    · split at h
      · split at h <;> cases h; simp
      · cases h
    · cases h
  | .putL i e k => fun ρ s ρ' s' h => by
    rw [denS] at h
    unfold sPutL at h
    split at h
    · split at h
      · rename_i ds _
        split at h
        · rename_i kk s2 _
          cases z : ixN ds.length kk with
          | none => rw [z] at h; cases h
          | some y => rw [z] at h; cases h; simp
        · cases h
      · cases h
    · cases h
  | .putC i e k => fun ρ s ρ' s' h => by
    rw [denS] at h
    unfold sPutC at h
    split at h
    · split at h
      · split at h
        · rename_i kk ds _
          cases z : ixN ds.length kk with
          | none => rw [z] at h; cases h
          | some y => rw [z] at h; cases h; rfl
        · cases h
      · cases h
    · cases h
  | .put2 i j e e' k k' => fun ρ s ρ' s' h => by
    rw [denS] at h
    unfold sPut2 at h
    split at h
    · split at h
      · split at h
        · rename_i z1
          split at h
          · rename_i z2
            cases h
            rw [stD_len z2, stD_len z1]
          · cases h
        · cases h
      · cases h
    · cases h
  | .putD i e k => fun ρ s ρ' s' h => by
    rw [denS] at h
    unfold sPutD at h
    split at h
    · split at h
      · split at h
        · split at h <;> cases h; simp
        · cases h
      · cases h
    · cases h
  | .drop e => fun ρ s ρ' s' h => by
    rw [denS] at h
    unfold sDrop at h
    cases z : den T e ρ s with
    | none => rw [z] at h; cases h
    | some y => rw [z] at h; cases h; rfl
  | .ret e => fun ρ s ρ' s' h => by
    rw [denS] at h
    unfold sRet at h
    split at h <;> cases h
  | .retv i => fun ρ s ρ' s' h => by
    rw [denS] at h
    unfold sRetv at h
    split at h <;> cases h
  | .iff t as bs => fun ρ s ρ' s' h => by
    rw [denS] at h
    obtain ⟨⟨z, s1⟩, _, h⟩ := bind_some h
    cases z with
    | true => exact denSs_len T as _ _ _ _ h
    | false => exact denSs_len T bs _ _ _ _ h
  | .fr t it bs => fun ρ s ρ' s' h => by
    rw [denS] at h
    obtain ⟨⟨ds, s1⟩, _, h⟩ := bind_some h
    exact keep_for (denSs_len T bs) ds ρ s1 ρ' s' h
  | .whl n t bs => fun ρ s ρ' s' h => by
    rw [denS] at h
    exact keep_while (denSs_len T bs) n ρ s ρ' s' h
  | .bad => fun ρ s ρ' s' h => by rw [denS] at h; cases h
theorem denSs_len (T : Tb) : ∀ (a : CSs), KeepN (denSs T a)
  | .nil => fun ρ s ρ' s' h => by rw [denSs] at h; cases h; rfl
  | .cons a as => fun ρ s ρ' s' h => by
    rw [denSs] at h
    obtain ⟨⟨o, s1⟩, h1, h⟩ := bind_some h
    cases o with
    | nx ρ1 => rw [denSs_len T as _ _ _ _ h, denS_len T a _ _ _ _ h1]
    | rt r => cases h
  | .frz i as => fun ρ s ρ' s' h => by
    rw [denSs] at h
    obtain ⟨⟨o, s1⟩, h1, h⟩ := bind_some h
    unfold sFrz at h1
    split at h1
    · cases h1
      rw [denSs_len T as _ _ _ _ h]; simp
    · cases h1
end
end Co
end

section
set_option Elab.async false
set_option linter.all false
set_option maxRecDepth 100000
set_option autoImplicit false
namespace Co
open PySem PySem.Spec L2 PyProof.Rows
variable [Tbs]

def onBags (x : List Stmt) (f : Expr → Expr → Expr → Scope → Bool) : Bool := match x with
  | [.Return (some (.ListComp elt [⟨tg, iter, [], 0⟩] sc' _)) _] => f elt tg iter sc'
  | _ => false
theorem onBags_ok {x : List Stmt} {f : Expr → Expr → Expr → Scope → Bool} (h : onBags x f = true) : ∃ (elt : Expr) (tg : Expr) (iter : Expr) (sc' : Scope) (q : Pos) (p : Pos), x = [.Return (some (.ListComp elt [⟨tg, iter, [], 0⟩] sc' q)) p] ∧ f elt tg iter sc' = true := by
  unfold onBags at h
  split at h
  · exact ⟨_, _, _, _, _, _, rfl, h⟩
  · cases h
def onLaw (x : List Stmt) (f : Str → Str → Str → Int → (List Stmt) → Bool) : Bool := match x with
  | [.For (.Name bg _) (.Call (.Name y _) [.Name sx _, .Constant (.int l) _ _] [] _) xs [] _, .Return (some (.Constant (.bool true) _ _)) _] => f bg y sx l xs
  | _ => false
theorem onLaw_ok {x : List Stmt} {f : Str → Str → Str → Int → (List Stmt) → Bool} (h : onLaw x f = true) : ∃ (bg : Str) (y : Str) (sx : Str) (l : Int) (xs : List Stmt) (a : Pos) (b : Pos) (c : Pos) (m : Nat) (d : Pos) (e : Pos) (f' : Pos) (m' : Nat) (g : Pos) (h' : Pos), x = [.For (.Name bg a) (.Call (.Name y b) [.Name sx c, .Constant (.int l) m d] [] e) xs [] f', .Return (some (.Constant (.bool true) m' g)) h'] ∧ f bg y sx l xs = true := by
  unfold onLaw at h
  split at h
  · exact ⟨_, _, _, _, _, _, _, _, _, _, _, _, _, _, _, rfl, h⟩
  · cases h

/-! ### the def that makes the bags -/
structure BagsC where
  own : List (Str × Nat)
  t : Tg
  it : CI
  e : CE
def BagsC.den (T : Tb) (b : BagsC) : Den (List D) := dLcF b.t (b.own.map (·.2)) (denI T false b.it) (Co.den T b.e)
def mBags (Γ : Gt) (N : List Str) (b : BagsC) (body : List Stmt) (sc : Scope) : Bool := onBags body fun elt tg iter sc' => mI Γ N false tg b.it iter sc && blkC N sc sc' b.own && subB b.t.slots (b.own.map (·.2)) && matchT N (rl sc' sc) (allC sc') b.t tg && mE Γ N false b.e elt (rl sc' sc) && nSet iter
def spBg (W : Wd) (n : Nat) (F : List (Option D) → D → Option (List D × D)) : Sp := fun vs H Q _ => ∃ c s as ds s', vs.length = n ∧ Paired (ArgOk W c H) vs as ∧ CelOk W c s H ∧ F as s = some (ds, s') ∧
  ∀ L bs H', Ext c.fp H H' → CelOk W c s' H' → H L = none → L ∉ c.fp → L ∉ bs → H' L = some (.lst (bs.map V.ref)) → Bags W c H H' bs ds → Q (.ref L) H'
theorem ce_lcF {X : Cx} {c : Cel} {tg iter elt : Expr} {scope : Scope} {own : List (Str × Nat)} {pos : Pos} {t : Tg} {g : Den (List D)} {f : Den R} (hc : X.calm = true) (hN : X.N.Nodup) (hi : PI X tg iter (tI (wd X) c false g)) (ok : BlkOk X.N X.env.scope scope own) (hv : ∀ i ∈ t.slots, i ∈ own.map (·.2))
    (hg : ∀ (s : Shared) (H : Hp) (C : Addr) (cl : List (Str × Addr)) (fp : List Addr), PG (X.blk s H scope (compEnvC scope cl C X.env) fp) tg (gD (wd X) c t))
    (he : ∀ (s : Shared) (H : Hp) (C : Addr) (cl : List (Str × Addr)) (fp : List Addr), PE (X.blk s H scope (compEnvC scope cl C X.env) fp) elt (tD (wd X) c f)) (hs : ∀ x, foldedSetIterable iter X.env x = pure x) :
    PE X (.ListComp elt [⟨tg, iter, [], 0⟩] scope pos) (tB (wd X) c (dLcF t (own.map (·.2)) g f)) := (pe_lc hc hN hi ok hg (fun s H C cl fp => ct_yes) he hs).imp (lcf_imp hv)
section
variable {P : Program} {w : World} {K : PySem.W.Frag} {mg : Str → Option Value} {base : Heap} {Γ : Gt} {x : Str} {params : Arguments} {body : List Stmt} {scope : Scope} {kws : List (Str × V)} {f : Addr} {fd : FuncData} {N ps : List Str}
theorem bags_fn {b : BagsC} (F : FunD K x x params body scope [] kws f fd) (S : FnScope N ps scope) (hm : mBags { Γ with lam := false } N b body scope = true) {k : Nat} {T : Tb} (g : Glo Γ T k P w K mg base) :
    FnOk P w K mg base CX0 (k + 1) f fd ps (spBg ⟨P, w, K⟩ ps.length (fun as => b.den T (rho0 N.length as))) := by
  unfold mBags at hm
  obtain ⟨elt, tg, iter, sc', q, p, rfl, h⟩ := onBags_ok hm
  obtain ⟨h, h6⟩ := and_true h
  obtain ⟨h, h5⟩ := and_true h
  obtain ⟨h, h4⟩ := and_true h
  obtain ⟨h, h3⟩ := and_true h
  obtain ⟨h1, h2⟩ := and_true h
  refine F.ok S (fun vs H Q E h => ?_) (fun cdv A outer s H vs Q E hr h => ?_)
  · obtain ⟨c, s, as, ds, s', hl, _⟩ := h
    exact hl
  · obtain ⟨c, st, as, ds, st', hl, ok, ck, hf, q⟩ := h
    have gd := g.good (f := f) (cdv := cdv) (A := A) (outer := outer) (s := s) (H := H) (E := E) S hr
    have pl : ps.length ≤ N.length := by
      have := congrArg List.length S.pre
      rw [List.length_take] at this
      omega
    have gb := fun (s' : Shared) (H' : Hp) (C : Addr) (cl : List (Str × Addr)) (fp : List Addr) => gd.blk (s := s') (H := H') (C := C) (cl := cl) (fp := fp) (blk_kind h2)
    refine ⟨_, PSs.nox (pss_one (ps_ret (ce_lcF (c := c) (own := b.own) gd.calm gd.nd (sI b.it gd false _ _ h1) (blkOk_by h2) (subB_ok h3) (blk_tg (own := b.own) gd h4) (fun s' H' C cl fp => sE b.e (gb s' H' C cl fp) false _ h5) (nSet_fold h6)))), ?_⟩
    exact ⟨rho0 N.length as, st, ds, st', est0 (N := N) (by omega) ok ck, hf, q⟩
end

/-! ### the law: over all bags -/
theorem tb_at {H : Hp} (t : LamX.Tabs Tbs.T H) {a : Addr} (h : a ∈ tbA) : ∃ ps, H a = some (.tbl ps) := by
  obtain ⟨p, hp, rfl⟩ := List.mem_map.mp h
  obtain ⟨ps, e, _⟩ := t p hp
  exact ⟨ps, e⟩
theorem ob_tbA {W : Wd} {H : Hp} {a : Addr} {d : D} (t : LamX.Tabs Tbs.T H) (o : Ob W H a d) : a ∉ tbA := fun h => by
  obtain ⟨ps, e⟩ := tb_at t h
  obtain ⟨u, e2, m⟩ := o.some
  rw [e] at e2
  cases e2
  exact m
def mLaw (Γ : Gt) (N : List Str) (bn : Str) (lim : Int) (bs : Nat) (core : CSs) (body : List Stmt) (sc : Scope) : Bool := onLaw body fun bg y sx l xs => decide (y = bn) && glB sc y && okN y && slotB N sc 0 sx && decide (l = lim) && storeB N sc bs bg && mSs Γ N core xs sc
def rhoB (n bs : Nat) : Rho := (List.replicate n none).set bs (some .cell)
def spLaw (K : PySem.W.Frag) : Sp := fun vs H Q _ => ∃ (a : Addr) (ns : List Int), vs = [.ref a] ∧ SqL K H a (ns.map V.int) ∧ LamX.Tabs Tbs.T H ∧ ns.length ≤ 63 ∧ ∀ H', Q (.bl true) H'
theorem rhoB_slot {n bs i : Nat} {e : Ent} (h : (rhoB n bs)[i]? = some (some e)) : i = bs ∧ e = .cell ∧ bs < n := by
  unfold rhoB at h
  by_cases hi : bs = i
  · subst hi
    by_cases hb : bs < n
    · rw [List.getElem?_set_self (by simpa using hb)] at h
      cases h
      exact ⟨rfl, rfl, hb⟩
    · rw [List.getElem?_eq_none (by simpa using hb)] at h
      cases h
  · rw [List.getElem?_set_ne hi, List.getElem?_replicate] at h
    split at h <;> cases h
section
variable {P : Program} {w : World} {K : PySem.W.Frag} {mg : Str → Option Value} {base : Heap} {Γ : Gt} {params : Arguments} {body : List Stmt} {scope : Scope} {kws : List (Str × V)} {f fb : Addr} {fd fdb : FuncData} {N psb : List Str} {x bn : Str}
theorem law_fnG {lb' : Bool} {lim : Int} {bs k : Nat} {core : CSs} {T : Tb} {FB : List (Option D) → D → Option (List D × D)} (F : FunD K x x params body scope [] kws f fd) (S : FnScope N ["script"] scope) (hm : mLaw { Γ with lam := lb' } N bn lim bs core body scope = true)
    (hgd : ∀ (A : Around) (outer : List Env) (s : Shared) (H : Hp) (E : XK), Room k (A.deeper (envOfC x scope s.heap.objs.size f fd.code)) → Good { Γ with lam := lb' } T k (cxOf CX0 P w K mg base N x scope f fd.code A outer s H E).nox)
    (mb : mg bn = some (.ref fb)) (kb : PySem.W.keepIn K (.ref fb) = true) (bb : Binds K fdb psb []) (lb : psb.length = 2) (ob : FnOk P w K mg base CX0 k fb fdb psb (spBg ⟨P, w, K⟩ 2 FB))
    (pure : ∀ ns : List Int, ns.length ≤ 63 → ∃ ds, FB [none, some (.int lim)] (.tuple [.list (ns.map .int)]) = some (ds, .tuple [.list (ns.map .int)]) ∧ ∀ d ∈ ds, ∃ ρ' s', denSs T core (rhoB N.length bs) d = some (.nx ρ', s')) :
    FnOk P w K mg base CX0 (k + 1) f fd ["script"] (spLaw K) := by
  unfold mLaw at hm
  obtain ⟨bg, y, sx, l, xs, p1, p2, p3, m1, p4, p5, p6, m2, p7, p8, rfl, h⟩ := onLaw_ok hm
  obtain ⟨h, h7⟩ := and_true h
  obtain ⟨h, h6⟩ := and_true h
  obtain ⟨h, h5⟩ := and_true h
  obtain ⟨h, h4⟩ := and_true h
  obtain ⟨h, h3⟩ := and_true h
  obtain ⟨h1, h2⟩ := and_true h
  have ey := of_decide_eq_true h1
  subst ey
  have el := of_decide_eq_true h5
  subst el
  obtain ⟨t1, t2, t3⟩ := slotB_ok h4
  obtain ⟨u1, u2⟩ := storeB_ok h6
  refine fun_okC F S (fun vs H Q E h => ?_) (fun A outer s H vs Q E hr h => ?_)
  · obtain ⟨a, ns, rfl, _⟩ := h
    rfl
  · obtain ⟨a, ns, rfl, fz, ht, hn, q⟩ := h
    obtain ⟨c, hcv, hck⟩ : ∃ c : Cel, c.v = .ref a ∧ CelOk ⟨P, w, K⟩ c (.tuple [.list (ns.map .int)]) H := by
      rcases fz with (fz | fz) | fz
      · exact ⟨.scl a, rfl, ht, ns, rfl, fz⟩
      · exact ⟨.scr a, rfl, ht, ns, rfl, .inl fz⟩
      · exact ⟨.scr a, rfl, ht, ns, rfl, .inr fz⟩
    have gd := hgd A outer s H E hr
    obtain ⟨ds, hFB, hds⟩ := pure ns hn
    have pl : 1 ≤ N.length := by
      have := congrArg List.length S.pre
      rw [List.length_take] at this
      simp at this
      omega
    have hbs : bs < N.length := (List.getElem?_eq_some_iff.mp u1).1
    let X := (cxOf CX0 P w K mg base N x scope f fd.code A outer s H E).nox
    have args : PA X [.Name sx p3, .Constant (.int l) m1 p4] (tDX (wd X) c (xCel 0 (xVal (dC (.int l)) xNil))) := cx_cel t1 t2 t3.a t3.b (cx_val ce_int cx_nil rfl)
    have bodyJ : PSs X xs (fun D σ H => ∃ b, tS (wd X) (.bag b) H (denSs T core) D σ H) := ⟨fun pins st σ H D I h => by
      obtain ⟨b, h⟩ := h
      exact (sSs (c := .bag b) (G := H) core gd (fun _ => rfl) xs h7).run pins st σ H D I h⟩
    have callJ : PE X (.Call (.Name y p2) [.Name sx p3, .Constant (.int l) m1 p4] [] p5) (tCall (spBg ⟨P, w, K⟩ 2 FB) [] E0 (tDX (wd X) c (xCel 0 (xVal (dC (.int l)) xNil)))) :=
      pe_call (E := E0) ob gd.room (of_decide_eq_true (p := scope.names.lookup y = some .globalImplicit) h2) mb kb bb .nil pass0 args (okN_ok h3).a rfl rfl
    refine ⟨_, PSs.nox (pss_cons (ps_for .never rfl (pi_list callJ) (pg_name (i := bs) S.nd u1 u2 (.inl rfl)) bodyJ (fun _ => rfl)) (pss_one (ps_ret pe_bl))), ?_⟩
    have E0 : Est ⟨P, w, K⟩ c (rho0 N.length [none]) (.tuple [.list (ns.map .int)]) (L2.start N [.ref a]) H := est0 (N := N) (vs := [.ref a]) (as := [none]) pl (.cons ⟨hcv.symm, fun z => by cases z⟩ .nil) hck
    refine ⟨rho0 N.length [none], _, [none, some (.int l)], .tuple [.list (ns.map .int)], E0, ?_, fun vs H1 e1 k1 ok1 => ?_⟩
    · have r0 : (rho0 N.length [none])[0]? = some (some .cell) := by unfold rho0; rfl
      show (match (rho0 N.length [none])[0]? with
        | some (some .cell) => _
        | _ => none) = _
      rw [r0]
      rfl
    · show spBg ⟨P, w, K⟩ 2 FB (vs ++ []) H1 _ _
      rw [List.append_nil]
      refine ⟨c, _, _, ds, _, Paired.length ok1, ok1, k1, hFB, fun L bs' H2 e2 k2 nL _ nLb hL B => ?_⟩
      refine ⟨L, rfl, ⟨_, .inl (.inl hL)⟩, ?_⟩
      have lb' := Paired.length B.ob
      refine for_it (g := gName bs) (tb := fun D σ H => ∃ b, tS (wd X) (Cel.bag b) H (denSs T core) D σ H) (D := { nx := tRet (tC (V.bl true)) { nx := fun x H' => Q V.non H', rt := Q }, rt := Q }) (σ := L2.start N [V.ref a]) (H := H2) (walk_list (K := K) (a := L) (xs := bs'.map V.ref)) (fun i σ3 H3 => σ3.length = N.length ∧ LamX.Tabs Tbs.T H3 ∧ H3 L = some (.lst (bs'.map V.ref)) ∧ ∀ (j : Nat) (b : Addr) (d : D), i ≤ j → bs'[j]? = some b → ds[j]? = some d → Ob ⟨P, w, K⟩ H3 b d) ?_ ?_ ?_ ?_
      · refine ⟨by unfold L2.start; simp; omega, k2.1, hL, fun j b d _ hj hd => ?_⟩
        obtain ⟨y, h1, h2, _⟩ := paired_get B.ob j b hj
        rw [hd] at h1; cases h1
        exact h2
      · rintro i σ3 H3 _ ⟨_, _, h, _⟩
        exact .inl (.inl h)
      · rintro i v σ3 H3 H4 hi ⟨ls, lt, hl, hob⟩ ⟨rfl, hv⟩
        rw [List.getElem?_map] at hv
        cases hb : bs'[i]? with
        | none => rw [hb] at hv; cases hv
        | some b =>
          rw [hb] at hv
          cases hv
          have hi' : i < ds.length := by rw [← lb']; exact (List.getElem?_eq_some_iff.mp hb).1
          have hd : ds[i]? = some ds[i] := List.getElem?_eq_getElem hi'
          obtain ⟨ρ', s', hcore⟩ := hds ds[i] (List.getElem_mem hi')
          obtain ⟨y, hy, _, es, hes⟩ := paired_get B.ob i b hb
          rw [hd] at hy; cases hy
          have o1 := hob i b _ (Nat.le_refl _) hb hd
          refine ⟨b, rhoB N.length bs, ds[i], .nx ρ', s', ⟨⟨fun j e he => ?_, fun j j' d1 d2 a' h1 => ?_, ⟨lt, ⟨es, hes⟩, o1⟩, by simp [rhoB, ls]⟩, .refl _ _, fun j d a' h1 => ?_⟩, hcore, fun σ5 H5 S5 p5 => ?_⟩
          · obtain ⟨rfl, rfl, hb'⟩ := rhoB_slot he
            exact ⟨.ref b, by rw [List.getElem?_set_self (by rw [ls]; exact hb')], rfl, fun z => by cases z⟩
          · obtain ⟨_, z, _⟩ := rhoB_slot h1; cases z
          · obtain ⟨_, z, _⟩ := rhoB_slot h1; cases z
          · have nLb' : L ∉ (Cel.bag b).fp := fun hm => by
              have : L = b ∨ L ∈ tbA := by simpa [Cel.fp, Cel.f0] using hm
              rcases this with this | z
              rotate_left
              · obtain ⟨ps, z⟩ := tb_at lt z
                rw [hl] at z; cases z
              exact nLb (by rw [this]; exact List.mem_of_getElem? hb)
            refine ⟨by rw [← S5.est.len, denSs_len T core _ _ _ _ hcore]; simp [rhoB], S5.est.cell.1, S5.ext.keep L _ hl nLb', fun j b' d hj hjb hjd => ?_⟩
            have nb : b' ∉ (Cel.bag b).fp := fun hm => by
              have e : b' = b ∨ b' ∈ tbA := by simpa [Cel.fp, Cel.f0] using hm
              rcases e with e | z
              rotate_left
              · exact ob_tbA lt (hob j b' d (by omega) hjb hjd) z
              subst e
              have := (List.getElem?_inj (List.getElem?_eq_some_iff.mp hjb).1 B.nd).mp (hjb.trans hb.symm)
              omega
            exact (hob j b' d (by omega) hjb hjd).ext S5.ext nb
      · rintro σ3 H3 _
        exact q H3
theorem law_fn {lim : Int} {bs k : Nat} {core : CSs} {T : Tb} {FB : List (Option D) → D → Option (List D × D)} (F : FunD K x x params body scope [] kws f fd) (S : FnScope N ["script"] scope) (hm : mLaw { Γ with lam := false } N bn lim bs core body scope = true) (g : Glo Γ T k P w K mg base)
    (mb : mg bn = some (.ref fb)) (kb : PySem.W.keepIn K (.ref fb) = true) (bb : Binds K fdb psb []) (lb : psb.length = 2) (ob : FnOk P w K mg base CX0 k fb fdb psb (spBg ⟨P, w, K⟩ 2 FB))
    (pure : ∀ ns : List Int, ns.length ≤ 63 → ∃ ds, FB [none, some (.int lim)] (.tuple [.list (ns.map .int)]) = some (ds, .tuple [.list (ns.map .int)]) ∧ ∀ d ∈ ds, ∃ ρ' s', denSs T core (rhoB N.length bs) d = some (.nx ρ', s')) :
    FnOk P w K mg base CX0 (k + 1) f fd ["script"] (spLaw K) := law_fnG (Γ := Γ) (lb' := false) F S hm (fun A outer s H E hr => g.good S hr) mb kb bb lb ob pure
theorem law_fnL {lim : Int} {bs k : Nat} {core : CSs} {T : Tb} {FB : List (Option D) → D → Option (List D × D)} (F : FunD K x x params body scope [] kws f fd) (S : FnScope N ["script"] scope) (hm : mLaw { Γ with lam := true } N bn lim bs core body scope = true) (g : Glo Γ T k P w K mg base)
    {cc PP : Addr} (hcode : fd.code = .ref cc) (TB : LamX.TabB base mg cc PP) (hT : (PP, x ++ ".<locals>." ++ "<lambda>") ∈ Tbs.T) (hu : ∀ p ∈ Tbs.T, p.1 = PP → p.2 = x ++ ".<locals>." ++ "<lambda>")
    (mb : mg bn = some (.ref fb)) (kb : PySem.W.keepIn K (.ref fb) = true) (bb : Binds K fdb psb []) (lb : psb.length = 2) (ob : FnOk P w K mg base CX0 k fb fdb psb (spBg ⟨P, w, K⟩ 2 FB))
    (pure : ∀ ns : List Int, ns.length ≤ 63 → ∃ ds, FB [none, some (.int lim)] (.tuple [.list (ns.map .int)]) = some (ds, .tuple [.list (ns.map .int)]) ∧ ∀ d ∈ ds, ∃ ρ' s', denSs T core (rhoB N.length bs) d = some (.nx ρ', s')) :
    FnOk P w K mg base CX0 (k + 1) f fd ["script"] (spLaw K) := law_fnG (Γ := Γ) (lb' := true) F S hm (fun A outer s H E hr => by
      rw [hcode] at hr ⊢
      exact g.goodL S hr TB hT hu) mb kb bb lb ob pure
end
end Co
end

section
set_option Elab.async false
set_option linter.all false
set_option maxRecDepth 100000
set_option autoImplicit false
namespace Co
open PySem PySem.Spec L2 PyProof.Rows

/-! ### loops of the core language, plain -/
theorem lcLoop_st {t : Tg} {test : Den Bool} {f : Den R} {ρ : Rho} {ds : List D} (I : Nat → List D → D → Prop)
    (hb : ∀ (i : Nat) (d : D) (acc : List D) (s : D), ds[i]? = some d → I i acc s → ∃ ρ1 b s1, bindT t d ρ = some ρ1 ∧ test ρ1 s = some (b, s1) ∧ ((b = true ∧ ∃ e s2, f ρ1 s1 = some ((.pf, e), s2) ∧ I (i + 1) (acc ++ [e]) s2) ∨ (b = false ∧ I (i + 1) acc s1))) :
    ∀ (es : List D) (i : Nat) (acc : List D) (s : D), ds.drop i = es → i ≤ ds.length → I i acc s → ∃ out s', lcLoop t test f ρ es acc s = some (out, s') ∧ I ds.length out s'
  | [], i, acc, s, he, hi, h => by
    have : i = ds.length := by
      have := congrArg List.length he
      simp at this
      omega
    subst this
    exact ⟨acc, s, rfl, h⟩
  | d :: es, i, acc, s, he, hi, h => by
    have hd : ds[i]? = some d := by
      have := congrArg (fun l => l[0]?) he
      simpa using this
    have hl : i < ds.length := (List.getElem?_eq_some_iff.mp hd).1
    have he' : ds.drop (i + 1) = es := by
      rw [← List.drop_drop, he]
      rfl
    obtain ⟨ρ1, b, s1, h1, h2, h3⟩ := hb i d acc s hd h
    rcases h3 with ⟨rfl, e, s2, h3, h4⟩ | ⟨rfl, h4⟩
    · obtain ⟨out, s', h5, h6⟩ := lcLoop_st I hb es (i + 1) (acc ++ [e]) s2 he' (by omega) h4
      refine ⟨out, s', ?_, h6⟩
      unfold lcLoop
      simp [h1, h2, h3, h5]
    · obtain ⟨out, s', h5, h6⟩ := lcLoop_st I hb es (i + 1) acc s1 he' (by omega) h4
      refine ⟨out, s', ?_, h6⟩
      unfold lcLoop
      simp [h1, h2, h5]
/-- a comprehension whose pieces may change the state -/
theorem lc_st {t : Tg} {vs : List Nat} {g : Den (List D)} {test : Den Bool} {f : Den R} {ρ : Rho} {s s1 : D} {ds : List D} (hg : g ρ s = some (ds, s1)) (I : Nat → List D → D → Prop) (h0 : I 0 [] s1)
    (hb : ∀ (i : Nat) (d : D) (acc : List D) (s : D), ds[i]? = some d → I i acc s → ∃ ρ1 b s1, bindT t d (wipeR ρ vs) = some ρ1 ∧ test ρ1 s = some (b, s1) ∧ ((b = true ∧ ∃ e s2, f ρ1 s1 = some ((.pf, e), s2) ∧ I (i + 1) (acc ++ [e]) s2) ∨ (b = false ∧ I (i + 1) acc s1))) :
    ∃ out s', dLc t vs g test f ρ s = some ((.fr, .list out), s') ∧ I ds.length out s' := by
  obtain ⟨out, s', h1, h2⟩ := lcLoop_st I hb ds 0 [] s1 rfl (Nat.zero_le _) h0
  refine ⟨out, s', ?_, h2⟩
  unfold dLc
  simp [hg, h1]
theorem lcLoop_pure {t : Tg} {test : Den Bool} {f : Den R} {ρ : Rho} {s : D} (p : D → Bool) (h : D → D) :
    ∀ (ds acc : List D), (∀ d ∈ ds, ∃ ρ1, bindT t d ρ = some ρ1 ∧ test ρ1 s = some (p d, s) ∧ (p d = true → f ρ1 s = some ((.pf, h d), s))) → lcLoop t test f ρ ds acc s = some (acc ++ (ds.filter p).map h, s)
  | [], acc, _ => by unfold lcLoop; simp
  | d :: ds, acc, hb => by
    obtain ⟨ρ1, h1, h2, h3⟩ := hb d (List.mem_cons_self ..)
    have ih := fun acc => lcLoop_pure p h ds acc fun e he => hb e (List.mem_cons_of_mem _ he)
    unfold lcLoop
    cases hp : p d with
    | true =>
      rw [hp] at h2
      simp [h1, h2, h3 hp, ih, List.filter_cons, hp]
    | false =>
      rw [hp] at h2
      simp [h1, h2, ih, List.filter_cons, hp]
/-- a comprehension whose pieces leave the state -/
theorem lc_pure {t : Tg} {vs : List Nat} {g : Den (List D)} {test : Den Bool} {f : Den R} {ρ : Rho} {s s1 : D} {ds : List D} (p : D → Bool) (h : D → D) (hg : g ρ s = some (ds, s1))
    (hb : ∀ d ∈ ds, ∃ ρ1, bindT t d (wipeR ρ vs) = some ρ1 ∧ test ρ1 s1 = some (p d, s1) ∧ (p d = true → f ρ1 s1 = some ((.pf, h d), s1))) :
    dLc t vs g test f ρ s = some ((.fr, .list ((ds.filter p).map h)), s1) := by
  unfold dLc
  simp [hg, lcLoop_pure p h ds [] hb]
theorem lc_map {t : Tg} {vs : List Nat} {g : Den (List D)} {f : Den R} {ρ : Rho} {s s1 : D} {ds : List D} (h : D → D) (hg : g ρ s = some (ds, s1))
    (hb : ∀ d ∈ ds, ∃ ρ1, bindT t d (wipeR ρ vs) = some ρ1 ∧ f ρ1 s1 = some ((.pf, h d), s1)) : dLc t vs g dYes f ρ s = some ((.fr, .list (ds.map h)), s1) := by
  have := lc_pure (test := dYes) (fun _ => true) h hg fun d hd => by
    obtain ⟨ρ1, h1, h2⟩ := hb d hd
    exact ⟨ρ1, h1, rfl, fun _ => h2⟩
  rw [this, List.filter_eq_self.mpr fun _ _ => rfl]
theorem inLoop_pure {t : Tg} {f : Den R} {ρ : Rho} {s : D} (h : D → D) :
    ∀ (ds acc : List D), (∀ d ∈ ds, ∃ ρ1, bindT t d ρ = some ρ1 ∧ f ρ1 s = some ((.pf, h d), s)) → acc.length + ds.length ≤ sizeLine → inLoop t dYes f ρ ds acc s = some (acc ++ ds.map h, s)
  | [], acc, _, _ => by unfold inLoop; simp
  | d :: ds, acc, hb, hl => by
    obtain ⟨ρ1, h1, h2⟩ := hb d (List.mem_cons_self ..)
    rw [List.length_cons] at hl
    have ih := inLoop_pure h ds (acc ++ [h d]) (fun e he => hb e (List.mem_cons_of_mem _ he)) (by simp; omega)
    unfold inLoop
    have : acc.length < sizeLine := by omega
    simp [h1, h2, dYes, this]
    rw [ih]
    simp
theorem outLoop_pure {t t1 : Tg} {vs1 : List Nat} {g1 : Den (List D)} {f : Den R} {ρ : Rho} {s : D} (es : D → List D) (h : D → D → D) :
    ∀ (ds acc : List D), (∀ d ∈ ds, ∃ ρ1, bindT t d ρ = some ρ1 ∧ g1 ρ1 s = some (es d, s) ∧ ∀ e ∈ es d, ∃ ρ2, bindT t1 e (wipeR ρ1 vs1) = some ρ2 ∧ f ρ2 s = some ((.pf, h d e), s)) →
      acc.length + (ds.flatMap fun d => (es d).map (h d)).length ≤ sizeLine → outLoop t dYes g1 t1 vs1 dYes f ρ ds acc s = some (acc ++ ds.flatMap fun d => (es d).map (h d), s)
  | [], acc, _, _ => by unfold outLoop; simp
  | d :: ds, acc, hb, hl => by
    obtain ⟨ρ1, h1, h2, h3⟩ := hb d (List.mem_cons_self ..)
    rw [List.flatMap_cons, List.length_append, List.length_map] at hl
    have i1 := inLoop_pure (ρ := wipeR ρ1 vs1) (t := t1) (f := f) (s := s) (h d) (es d) acc h3 (by omega)
    have ih := outLoop_pure es h ds (acc ++ (es d).map (h d)) (fun e he => hb e (List.mem_cons_of_mem _ he)) (by simp only [List.length_append, List.length_map]; omega)
    unfold outLoop
    simp [h1, h2, dYes, i1]
    rw [ih]
    simp
theorem lc2_pure {t t1 : Tg} {vs vs1 : List Nat} {g g1 : Den (List D)} {f : Den R} {ρ : Rho} {s s1 : D} {ds : List D} (es : D → List D) (h : D → D → D) (hg : g ρ s = some (ds, s1))
    (hb : ∀ d ∈ ds, ∃ ρ1, bindT t d (wipeR ρ vs) = some ρ1 ∧ g1 ρ1 s1 = some (es d, s1) ∧ ∀ e ∈ es d, ∃ ρ2, bindT t1 e (wipeR ρ1 vs1) = some ρ2 ∧ f ρ2 s1 = some ((.pf, h d e), s1))
    (hl : (ds.flatMap fun d => (es d).map (h d)).length ≤ sizeLine) : dLc2 t vs g dYes g1 t1 vs1 dYes f ρ s = some ((.fr, .list (ds.flatMap fun d => (es d).map (h d))), s1) := by
  unfold dLc2
  simp [hg, outLoop_pure es h ds [] hb (by simpa using hl)]
theorem forLoop_nx {t : Tg} {body : DenS} {ds : List D} (I : Nat → Rho → D → Prop)
    (hb : ∀ (i : Nat) (d : D) (ρ : Rho) (s : D), ds[i]? = some d → I i ρ s → ∃ ρ1 ρ2 s2, bindT t d ρ = some ρ1 ∧ body ρ1 s = some (.nx ρ2, s2) ∧ I (i + 1) ρ2 s2) :
    ∀ (es : List D) (i : Nat) (ρ : Rho) (s : D), ds.drop i = es → i ≤ ds.length → I i ρ s → ∃ ρ' s', forLoop t body es ρ s = some (.nx ρ', s') ∧ I ds.length ρ' s'
  | [], i, ρ, s, he, hi, h => by
    have : i = ds.length := by
      have := congrArg List.length he
      simp at this
      omega
    subst this
    exact ⟨ρ, s, rfl, h⟩
  | d :: es, i, ρ, s, he, hi, h => by
    have hd : ds[i]? = some d := by
      have := congrArg (fun l => l[0]?) he
      simpa using this
    have hl : i < ds.length := (List.getElem?_eq_some_iff.mp hd).1
    have he' : ds.drop (i + 1) = es := by
      rw [← List.drop_drop, he]
      rfl
    obtain ⟨ρ1, ρ2, s2, h1, h2, h3⟩ := hb i d ρ s hd h
    obtain ⟨ρ', s', h5, h6⟩ := forLoop_nx I hb es (i + 1) ρ2 s2 he' (by omega) h3
    refine ⟨ρ', s', ?_, h6⟩
    unfold forLoop
    simp [h1, h2, h5]
theorem for_nx {t : Tg} {g : Den (List D)} {body : DenS} {ρ : Rho} {s s1 : D} {ds : List D} (hg : g ρ s = some (ds, s1)) (I : Nat → Rho → D → Prop) (h0 : I 0 ρ s1)
    (hb : ∀ (i : Nat) (d : D) (ρ : Rho) (s : D), ds[i]? = some d → I i ρ s → ∃ ρ1 ρ2 s2, bindT t d ρ = some ρ1 ∧ body ρ1 s = some (.nx ρ2, s2) ∧ I (i + 1) ρ2 s2) :
    ∃ ρ' s', sFor t g body ρ s = some (.nx ρ', s') ∧ I ds.length ρ' s' := by
  obtain ⟨ρ', s', h1, h2⟩ := forLoop_nx I hb ds 0 ρ s1 rfl (Nat.zero_le _) h0
  refine ⟨ρ', s', ?_, h2⟩
  unfold sFor
  simp [hg, h1]
theorem lcf_st {t : Tg} {vs : List Nat} {g : Den (List D)} {f : Den R} {ρ : Rho} {s : D} {P : D → Prop} :
    ∀ (ds acc : List D), (∀ d ∈ ds, ∃ ρ1 es, bindT t d (wipeR ρ vs) = some ρ1 ∧ f ρ1 s = some ((.fr, .list es), s) ∧ P (.list es)) → (∀ d ∈ acc, P d) → ∃ out, lcfLoop t f (wipeR ρ vs) ds acc s = some (out, s) ∧ ∀ d ∈ out, P d
  | [], acc, _, ha => ⟨acc, rfl, ha⟩
  | d :: ds, acc, hb, ha => by
    obtain ⟨ρ1, es, h1, h2, h3⟩ := hb d (List.mem_cons_self ..)
    obtain ⟨out, h4, h5⟩ := lcf_st (g := g) ds (acc ++ [.list es]) (fun e he => hb e (List.mem_cons_of_mem _ he)) (fun e he => by
      rcases List.mem_append.mp he with he | he
      · exact ha e he
      · rw [List.mem_singleton.mp he]; exact h3)
    refine ⟨out, ?_, h5⟩
    unfold lcfLoop
    simp [h1, h2, h4]
theorem atI_nat {α : Type} {xs : List α} {i : Int} {x : α} (h0 : 0 ≤ i) (h : xs[i.toNat]? = some x) : atI xs i = some x := by
  have hl := (List.getElem?_eq_some_iff.mp h).1
  have h1 : i < (xs.length : Int) := by omega
  unfold atI ixN
  rw [if_pos h0, if_pos h1]
  exact h
theorem atI_0 {α : Type} {x : α} {xs : List α} : atI (x :: xs) 0 = some x := atI_nat (by decide) rfl
theorem atI_1 {α : Type} {x y : α} {xs : List α} : atI (x :: y :: xs) 1 = some y := atI_nat (by decide) rfl
theorem atI_2 {α : Type} {x y z : α} {xs : List α} : atI (x :: y :: z :: xs) 2 = some z := atI_nat (by decide) rfl
theorem ixN_21 : ixN 2 1 = some 1 := rfl
/-! ### statements, one behind the other -/
theorem run_cons {T : Tb} {a : CS} {as : CSs} {ρ ρ1 : Rho} {s s1 : D} {o : Option (Out × D)} (h : denS T a ρ s = some (.nx ρ1, s1)) (h2 : denSs T as ρ1 s1 = o) : denSs T (.cons a as) ρ s = o := by
  rw [denSs]
  unfold sSeq
  simp [h, h2]
theorem run_ret {T : Tb} {a : CS} {as : CSs} {ρ : Rho} {s s1 : D} {r : R} (h : denS T a ρ s = some (.rt r, s1)) : denSs T (.cons a as) ρ s = some (.rt r, s1) := by
  rw [denSs]
  unfold sSeq
  simp [h]
theorem run_frz {T : Tb} {i : Nat} {as : CSs} {ρ : Rho} {s : D} {ds : List D} {o : Option (Out × D)} (h : ρ[i]? = some (some (.own (.list ds)))) (h2 : denSs T as (ρ.set i (some (.val (.list ds)))) s = o) : denSs T (.frz i as) ρ s = o := by
  rw [denSs]
  unfold sSeq sFrz
  simp [h, h2]
theorem run_nil {T : Tb} {ρ : Rho} {s : D} : denSs T .nil ρ s = some (.nx ρ, s) := by
  rw [denSs]
  rfl
theorem fn_rt {body : DenS} {n : Nat} {as : List (Option D)} {s s1 : D} {r : R} (h : body (rho0 n as) s = some (.rt r, s1)) (hl : r.1 ≠ .ln) : fnD n body as s = some (r, s1) := by
  unfold fnD
  rw [h]
  simp [hl]
theorem fn_nx {body : DenS} {n : Nat} {as : List (Option D)} {s s1 : D} {ρ : Rho} (h : body (rho0 n as) s = some (.nx ρ, s1)) : fnD n body as s = some ((.pf, .none), s1) := by
  unfold fnD
  rw [h]
theorem range_get {n i : Nat} {d : D} (h : ((List.range n).map fun i => PyData.int (i : Nat))[i]? = some d) : i < n ∧ d = .int i := by
  rw [List.getElem?_map] at h
  by_cases hi : i < n
  · rw [List.getElem?_range hi] at h
    cases h
    exact ⟨hi, rfl⟩
  · rw [List.getElem?_eq_none (by simpa using hi)] at h
    cases h
theorem putD_mem {kvs : List (D × D)} {k v : D} {p : D × D} (h : p ∈ putD kvs k v) : p.1 = k ∨ ∃ q ∈ kvs, q.1 = p.1 := by
  unfold putD at h
  split at h
  · obtain ⟨q, hq, e⟩ := List.mem_map.mp h
    refine .inr ⟨q, hq, ?_⟩
    rw [← e]
    split <;> rfl
  · rcases List.mem_append.mp h with h | h
    · exact .inr ⟨p, h, rfl⟩
    · rw [List.mem_singleton.mp h]
      exact .inl rfl
theorem putD_len1 {kvs : List (D × D)} {k v : D} : (putD kvs k v).length ≤ kvs.length + 1 := by
  unfold putD
  split <;> simp
theorem putD_pos {kvs : List (D × D)} {k v : D} : 0 < (putD kvs k v).length := by
  unfold putD
  split
  · rename_i h
    rw [List.length_map]
    cases kvs with
    | nil => simp at h
    | cons a r => simp
  · simp
theorem rangeE {n : Int} (h0 : 0 ≤ n) (h1 : n ≤ 16777216) {f : Den (List R)} {ρ : Rho} {s s1 : D} {fl : Fl} (h : f ρ s = some ([(fl, .int n)], s1)) : dRange f ρ s = some ((List.range n.toNat).map fun i => .int (i : Nat), s1) := by
  unfold dRange
  rw [h]
  simp only []
  rw [if_pos ⟨h0, h1⟩]
theorem srt_mem {ds : List D} {d : D} : d ∈ srt ds ↔ d ∈ ds := by
  unfold srt
  exact List.mem_mergeSort
theorem srt_len {ds : List D} : (srt ds).length = ds.length := by
  unfold srt
  exact List.length_mergeSort ds
/-! ### rows that rise strictly -/
def Up (ds : List D) : Prop := ds.Nodup ∧ ds.Pairwise fun a b => PySem.W.dataLt b a = false
theorem Up.sub {as bs : List D} (h : as.Sublist bs) (u : Up bs) : Up as := ⟨u.1.sublist h, u.2.sublist h⟩
theorem Up.srt {ds : List D} (h : ds.Nodup) : Up (srt ds) := ⟨((List.mergeSort_perm _ _).nodup_iff).mpr h, srt_up ds⟩
theorem Up.one {as bs : List D} (ha : Up as) (hb : Up bs) (hm : ∀ d, d ∈ as ↔ d ∈ bs) (al : ∀ a ∈ as, ∀ b ∈ as, PySem.W.alike a b = true) (hk : ∀ a ∈ as, ∃ k, a = NestedKey.data k) : as = bs :=
  sorted_one ha.2 hb.2 ((List.perm_ext_iff_of_nodup ha.1 hb.1).mpr hm) fun a h1 b h2 l1 l2 => by
    obtain ⟨k, rfl⟩ := hk a h1
    obtain ⟨l, rfl⟩ := hk b h2
    rw [lt_anti (al _ h1 _ h2) l2 l1]
theorem putD_keys {kvs : List (D × D)} {k v : D} (hk : keyEq k k = true) (h : (kvs.map (·.1)).Nodup) : ((putD kvs k v).map (·.1)).Nodup := by
  unfold putD
  split
  · rw [List.map_map]
    have e : kvs.map ((fun x : D × D => x.1) ∘ fun p => if keyEq p.1 k = true then (p.1, v) else p) = kvs.map (·.1) := List.map_congr_left fun p _ => by
      show (if keyEq p.1 k = true then (p.1, v) else p).1 = _
      split <;> rfl
    rw [e]
    exact h
  · rename_i hn
    rw [List.map_append, List.nodup_append]
    refine ⟨h, by simp, fun a ha b hb e => hn ?_⟩
    obtain ⟨p, hp, rfl⟩ := List.mem_map.mp ha
    simp only [List.map_cons, List.map_nil, List.mem_singleton] at hb
    rw [List.any_eq_true]
    exact ⟨p, hp, by rw [e, hb]; exact hk⟩
theorem nks_of : ∀ (ds : List D), (∀ d ∈ ds, ∃ k, nk d = some k) → ∃ ks, nks ds = some ks ∧ ∀ k ∈ ks, ∃ d ∈ ds, nk d = some k
  | [], _ => ⟨[], rfl, fun k hk => (by cases hk)⟩
  | d :: ds, h => by
    obtain ⟨k, hk⟩ := h d (List.mem_cons_self ..)
    obtain ⟨ks, e1, e2⟩ := nks_of ds fun e he => h e (List.mem_cons_of_mem _ he)
    refine ⟨k :: ks, by rw [nks, hk, e1]; rfl, fun l hl => ?_⟩
    rcases List.mem_cons.mp hl with rfl | hl
    · exact ⟨d, List.mem_cons_self .., hk⟩
    · obtain ⟨e, he, q⟩ := e2 l hl
      exact ⟨e, List.mem_cons_of_mem _ he, q⟩
/-- what may be a member of a set, and be sorted -/
structure SsOk (qs : List D) : Prop where
  key : ∀ d ∈ qs, ∃ k, nk d = some k
  kind : (∀ d ∈ qs, ∀ k, nk d = some k → tkB k = true) ∨ (∀ d ∈ qs, ∀ k, nk d = some k → numB k = true)
  alike : ∀ d ∈ qs, ∀ e ∈ qs, PySem.W.alike d e = true
  srtb : (∀ d ∈ qs, tupB d = true) ∨ (∀ d ∈ qs, flatB d = true)
  low : ∀ d ∈ qs, d.depth ≤ 100
  self : ∀ d ∈ qs, PyData.eqv d d = true
theorem nk_back {d : D} {k : NestedKey} (h : nk d = some k) : d = k.data := nk_data d k h
/-- sorted(set(vs)), all vs among qs that rise -/
theorem sset_of {vs qs : List D} (hq : Up qs) (ok : SsOk qs) (hs : ∀ d ∈ vs, d ∈ qs) (hl : qs.length < 63) : ssetE vs = some (.fr, .list (qs.filter fun q => vs.any fun v => PyData.eqv v q)) := by
  obtain ⟨ks, e1, e2⟩ := nks_of vs fun d hd => ok.key d (hs d hd)
  have ev : vs = ks.map NestedKey.data := by rw [nks_data vs ks e1, datas_map]
  have sub : ∀ d ∈ (dedK ks).map NestedKey.data, d ∈ vs := fun d hd => by
    obtain ⟨k, hk, rfl⟩ := List.mem_map.mp hd
    rw [ev]
    exact List.mem_map.mpr ⟨k, (dedK_mem ks k).mp hk, rfl⟩
  have sup : ∀ d ∈ vs, d ∈ (dedK ks).map NestedKey.data := fun d hd => by
    rw [ev] at hd
    obtain ⟨k, hk, rfl⟩ := List.mem_map.mp hd
    exact List.mem_map.mpr ⟨k, (dedK_mem ks k).mpr hk, rfl⟩
  have nd : ((dedK ks).map NestedKey.data).Nodup := List.pairwise_map.mpr ((dedK_nd ks).imp fun {a b} h e => h (data_inj _ _ e))
  have one : srt ((dedK ks).map NestedKey.data) = qs.filter fun q => vs.any fun v => PyData.eqv v q := by
    refine Up.one (Up.srt nd) (hq.sub (List.filter_sublist ..)) (fun d => ?_) (fun a ha b hb => ok.alike a (hs a (sub a (srt_mem.mp ha))) b (hs b (sub b (srt_mem.mp hb)))) fun a ha => ?_
    · rw [srt_mem, List.mem_filter, List.any_eq_true]
      constructor
      · intro hd
        exact ⟨hs d (sub d hd), d, sub d hd, ok.self d (hs d (sub d hd))⟩
      · rintro ⟨h1, v, hv, h2⟩
        obtain ⟨k, hk⟩ := ok.key d h1
        obtain ⟨l, hl'⟩ := ok.key v (hs v hv)
        have e1 := nk_back hk
        have e2 := nk_back hl'
        rw [e1, e2] at h2
        rw [e1, ← eqv_data l k h2, ← e2]
        exact sup v hv
    · obtain ⟨k, hk, rfl⟩ := List.mem_map.mp (srt_mem.mp ha)
      exact ⟨k, rfl⟩
  have len : (dedK ks).length < 63 := by
    refine Nat.lt_of_le_of_lt ?_ hl
    obtain ⟨kq, g1, g2⟩ := nks_of qs ok.key
    have eq : qs = kq.map NestedKey.data := by rw [nks_data qs kq g1, datas_map]
    have : (dedK ks).length ≤ kq.length := nd_len _ _ (dedK_nd ks) fun k hk => by
      have : k.data ∈ qs := hs _ (sub _ (List.mem_map.mpr ⟨k, hk, rfl⟩))
      rw [eq] at this
      obtain ⟨l, hl', e⟩ := List.mem_map.mp this
      rw [← data_inj _ _ e]
      exact hl'
    rw [eq, List.length_map]
    exact this
  unfold ssetE
  rw [e1]
  dsimp only
  rw [if_pos, one]
  refine ⟨?_, len, ?_, ?_, Nat.le_trans (depth_le (n := 100) _ fun d hd => ok.low d (hs d hd)) (Nat.le_refl _)⟩
  · rw [Bool.or_eq_true, List.all_eq_true, List.all_eq_true]
    exact ok.kind.imp (fun z k hk => by obtain ⟨d, hd, e⟩ := e2 k hk; exact z d (hs d hd) k e) fun z k hk => by obtain ⟨d, hd, e⟩ := e2 k hk; exact z d (hs d hd) k e
  · unfold alikeB
    rw [List.all_eq_true]
    intro d hd
    rw [List.all_eq_true]
    exact fun e he => ok.alike d (hs d hd) e (hs e he)
  · unfold sortableB
    rw [Bool.or_eq_true, List.all_eq_true, List.all_eq_true]
    exact ok.srtb.imp (fun z d hd => z d (hs d hd)) fun z d hd => z d (hs d hd)
theorem sset_any {vs : List D} (ok : SsOk vs) (hl : vs.length < 63) : ∃ us, ssetE vs = some (.fr, .list us) ∧ Up us ∧ us.length ≤ vs.length ∧ ∀ d, d ∈ us ↔ d ∈ vs := by
  obtain ⟨ks, e1, e2⟩ := nks_of vs ok.key
  have ev : vs = ks.map NestedKey.data := by rw [nks_data vs ks e1, datas_map]
  have nd : ((dedK ks).map NestedKey.data).Nodup := List.pairwise_map.mpr ((dedK_nd ks).imp fun {a b} h e => h (data_inj _ _ e))
  have ll : (dedK ks).length ≤ vs.length := by
    rw [ev, List.length_map]
    exact nd_len _ _ (dedK_nd ks) fun k hk => (dedK_mem ks k).mp hk
  refine ⟨srt ((dedK ks).map NestedKey.data), ?_, Up.srt nd, by rw [srt_len, List.length_map]; exact ll, fun d => ?_⟩
  · unfold ssetE
    rw [e1]
    dsimp only
    rw [if_pos]
    refine ⟨?_, by omega, ?_, ?_, depth_le (n := 100) _ ok.low⟩
    · rw [Bool.or_eq_true, List.all_eq_true, List.all_eq_true]
      exact ok.kind.imp (fun z k hk => by obtain ⟨d, hd, e⟩ := e2 k hk; exact z d hd k e) fun z k hk => by obtain ⟨d, hd, e⟩ := e2 k hk; exact z d hd k e
    · unfold alikeB
      rw [List.all_eq_true]
      intro d hd
      rw [List.all_eq_true]
      exact fun e he => ok.alike d hd e he
    · unfold sortableB
      rw [Bool.or_eq_true, List.all_eq_true, List.all_eq_true]
      exact ok.srtb
  · rw [srt_mem, ev]
    constructor
    · intro h
      obtain ⟨k, hk, rfl⟩ := List.mem_map.mp h
      exact List.mem_map.mpr ⟨k, (dedK_mem ks k).mp hk, rfl⟩
    · intro h
      obtain ⟨k, hk, rfl⟩ := List.mem_map.mp h
      exact List.mem_map.mpr ⟨k, (dedK_mem ks k).mpr hk, rfl⟩
theorem sIx_pos {n d : Nat} {v : Int} (h : 0 ≤ v) : HT.sIx n d (some v) = min v.toNat n := by
  show (if v < 0 then (v + (n : Int)).toNat else min v.toNat n) = _
  rw [if_neg (by omega)]
theorem cut_to {α : Type} {xs : List α} {v : Int} (h : 0 ≤ v) : cut xs none (some v) = xs.take v.toNat := by
  unfold cut
  rw [sIx_pos h, show HT.sIx xs.length 0 none = 0 from rfl, List.drop_zero, Nat.sub_zero]
  rcases Nat.le_total v.toNat xs.length with z | z
  · rw [Nat.min_eq_left z]
  · rw [Nat.min_eq_right z, List.take_of_length_le (Nat.le_refl _), List.take_of_length_le z]
theorem cut_from {α : Type} {xs : List α} {v : Int} (h : 0 ≤ v) : cut xs (some v) none = xs.drop v.toNat := by
  unfold cut
  rw [sIx_pos h, show HT.sIx xs.length xs.length none = xs.length from rfl]
  rcases Nat.le_total v.toNat xs.length with z | z
  · rw [Nat.min_eq_left z]
    rw [List.take_of_length_le (by simp)]
  · rw [Nat.min_eq_right z]
    simp
    exact z
/-! ### comprehensions by their texts -/
theorem den_map {T : Tb} {own : List (Str × Nat)} {t : Tg} {it : CI} {e : CE} {ρ : Rho} {s s1 : D} {ds : List D} (h : D → D) (hg : denI T false it ρ s = some (ds, s1))
    (hb : ∀ d ∈ ds, ∃ ρ1, bindT t d (wipeR ρ (own.map (·.2))) = some ρ1 ∧ den T e ρ1 s1 = some ((.pf, h d), s1)) : den T (.lc own t it .no e) ρ s = some ((.fr, .list (ds.map h)), s1) := by
  rw [den, denF]
  exact lc_map h hg hb
theorem den_filt {T : Tb} {own : List (Str × Nat)} {t : Tg} {it : CI} {c e : CE} {ρ : Rho} {s s1 : D} {ds : List D} (p : D → Bool) (h : D → D) (hg : denI T false it ρ s = some (ds, s1))
    (hb : ∀ d ∈ ds, ∃ ρ1, bindT t d (wipeR ρ (own.map (·.2))) = some ρ1 ∧ dT (den T c) ρ1 s1 = some (p d, s1) ∧ (p d = true → den T e ρ1 s1 = some ((.pf, h d), s1))) : den T (.lc own t it (.so c) e) ρ s = some ((.fr, .list ((ds.filter p).map h)), s1) := by
  rw [den, denF]
  exact lc_pure p h hg hb
theorem den_lc2 {T : Tb} {own : List (Str × Nat)} {t t1 : Tg} {vs1 : List Nat} {it it1 : CI} {e : CE} {ρ : Rho} {s s1 : D} {ds : List D} (es : D → List D) (h : D → D → D) (hg : denI T false it ρ s = some (ds, s1))
    (hb : ∀ d ∈ ds, ∃ ρ1, bindT t d (wipeR ρ (own.map (·.2))) = some ρ1 ∧ denI T true it1 ρ1 s1 = some (es d, s1) ∧ ∀ x ∈ es d, ∃ ρ2, bindT t1 x (wipeR ρ1 vs1) = some ρ2 ∧ den T e ρ2 s1 = some ((.pf, h d x), s1))
    (hl : (ds.flatMap fun d => (es d).map (h d)).length ≤ sizeLine) : den T (.lc2 own t it .no t1 vs1 it1 .no e) ρ s = some ((.fr, .list (ds.flatMap fun d => (es d).map (h d))), s1) := by
  rw [den, denF]
  exact lc2_pure es h hg hb hl
theorem st_ret {T : Tb} {e : CE} {ρ : Rho} {s s1 : D} {r : R} (h : den T e ρ s = some (r, s1)) (hl : r.1 ≠ .ln) : denS T (.ret e) ρ s = some (.rt r, s1) := by
  rw [denS]
  unfold sRet
  obtain ⟨f, d⟩ := r
  cases f with
  | pf => rw [h]
  | fr => rw [h]
  | ln => exact absurd rfl hl
theorem st_fr {T : Tb} {e : CE} {i : Nat} {ρ : Rho} {s s1 d : D} (h : den T e ρ s = some ((.fr, d), s1)) : denS T (.set i e) ρ s = some (.nx (ρ.set i (some (.own d))), s1) := by
  rw [denS]
  unfold sSet
  simp [h, Co.ent]
theorem st_pf {T : Tb} {e : CE} {i : Nat} {ρ : Rho} {s s1 d : D} (h : den T e ρ s = some ((.pf, d), s1)) : denS T (.set i e) ρ s = some (.nx (ρ.set i (some (.val d))), s1) := by
  rw [denS]
  unfold sSet
  simp [h, Co.ent]
theorem den_frz {T : Tb} {e : CE} {ρ : Rho} {s s1 : D} {ds : List D} (h : den T e ρ s = some ((.fr, .list ds), s1)) : den T (.frz e) ρ s = some ((.pf, .list ds), s1) := by
  rw [den]
  unfold dFrz
  rw [h]
theorem den_frzP {T : Tb} {e : CE} {ρ : Rho} {s s1 d : D} (h : den T e ρ s = some ((.pf, d), s1)) : den T (.frz e) ρ s = some ((.pf, d), s1) := by
  rw [den]
  unfold dFrz
  rw [h]
theorem st_for {T : Tb} {t : Tg} {it : CI} {bs : CSs} {ρ : Rho} {s s1 : D} {ds : List D} (hg : denI T true it ρ s = some (ds, s1)) (I : Nat → Rho → D → Prop) (h0 : I 0 ρ s1)
    (hb : ∀ (i : Nat) (d : D) (ρ : Rho) (s : D), ds[i]? = some d → I i ρ s → ∃ ρ1 ρ2 s2, bindT t d ρ = some ρ1 ∧ denSs T bs ρ1 s = some (.nx ρ2, s2) ∧ I (i + 1) ρ2 s2) :
    ∃ ρ' s', denS T (.fr t it bs) ρ s = some (.nx ρ', s') ∧ I ds.length ρ' s' := by
  rw [denS]
  exact for_nx hg I h0 hb
theorem bls_map {α : Type} (p : α → Bool) : ∀ l : List α, bls? (l.map fun d => .bool (p d)) = some (l.map p)
  | [] => rfl
  | d :: l => by
    rw [List.map_cons, bls?, bls_map p l]
    rfl
theorem all_map {α : Type} (p : α → Bool) (l : List α) : allD [.list (l.map fun d => .bool (p d))] = some (.pf, .bool (l.all p)) := by
  unfold allD
  simp only []
  rw [bls_map]
  simp
theorem any_map {α : Type} (p : α → Bool) (l : List α) : anyD [.list (l.map fun d => .bool (p d))] = some (.pf, .bool (l.any p)) := by
  unfold anyD
  simp only []
  rw [bls_map]
  simp
theorem den_all {T : Tb} {e : CE} {ρ : Rho} {s s1 : D} {α : Type} {l : List α} (p : α → Bool) (h : den T e ρ s = some ((.fr, .list (l.map fun d => .bool (p d))), s1)) : den T (.bi .all (.cons e .nil)) ρ s = some ((.pf, .bool (l.all p)), s1) := by
  rw [den, dens, dens]
  unfold dCall dCons dNil
  simp [h, Bi.den, all_map]
theorem den_any {T : Tb} {e : CE} {ρ : Rho} {s s1 : D} {α : Type} {l : List α} (p : α → Bool) (h : den T e ρ s = some ((.fr, .list (l.map fun d => .bool (p d))), s1)) : den T (.bi .any (.cons e .nil)) ρ s = some ((.pf, .bool (l.any p)), s1) := by
  rw [den, dens, dens]
  unfold dCall dCons dNil
  simp [h, Bi.den, any_map]
theorem eqv_str {x y : Str} : PyData.eqv (.str x) (.str y) = decide (x = y) := by
  rw [PyData.eqv]
  rfl
theorem any_str {l : List Str} {x : Str} : ((l.map PyData.str).any fun y => PyData.eqv y (.str x)) = decide (x ∈ l) := by
  rw [Bool.eq_iff_iff, List.any_eq_true, decide_eq_true_eq]
  constructor
  · rintro ⟨d, hd, he⟩
    obtain ⟨y, hy, rfl⟩ := List.mem_map.mp hd
    rw [eqv_str, decide_eq_true_eq] at he
    rw [← he]; exact hy
  · intro h
    exact ⟨_, List.mem_map.mpr ⟨x, h, rfl⟩, by rw [eqv_str, decide_eq_true_eq]⟩
theorem min_low {a b : Nat} (h : b ≤ 100) : min a b ≤ 100 := Nat.le_trans (Nat.min_le_right _ _) h
theorem str_depth (x : Str) : (PyData.str x).depth ≤ 1 := by simp [PyData.depth]
theorem in_str {l : List Str} {x : Str} : inE (.str x) (.list (l.map .str)) = some (.pf, .bool (decide (x ∈ l))) := by
  have h : min (PyData.depthAll (l.map PyData.str)) (PyData.str x).depth ≤ 100 := min_low (Nat.le_trans (str_depth x) (by decide))
  show (if isDict (.str x) = false ∧ min (PyData.depthAll (l.map PyData.str)) (PyData.str x).depth ≤ 100 then some (Fl.pf, PyData.bool ((l.map PyData.str).any fun y => PyData.eqv y (.str x))) else none) = _
  rw [if_pos ⟨rfl, h⟩, any_str]
theorem in_strT {l : List Str} {x : Str} : inE (.str x) (.tuple (l.map .str)) = some (.pf, .bool (decide (x ∈ l))) := by
  have h : min (PyData.depthAll (l.map PyData.str)) (PyData.str x).depth ≤ 100 := min_low (Nat.le_trans (str_depth x) (by decide))
  show (if isDict (.str x) = false ∧ min (PyData.depthAll (l.map PyData.str)) (PyData.str x).depth ≤ 100 then some (Fl.pf, PyData.bool ((l.map PyData.str).any fun y => PyData.eqv y (.str x))) else none) = _
  rw [if_pos ⟨rfl, h⟩, any_str]
theorem notin_str {l : List Str} {x : Str} : notinE (.str x) (.list (l.map .str)) = some (.pf, .bool (!decide (x ∈ l))) := by
  show notR (inE (.str x) (.list (l.map .str))) = _
  rw [in_str]
  rfl
theorem notin_strT {l : List Str} {x : Str} : notinE (.str x) (.tuple (l.map .str)) = some (.pf, .bool (!decide (x ∈ l))) := by
  show notR (inE (.str x) (.tuple (l.map .str))) = _
  rw [in_strT]
  rfl
theorem zip_next {R : Str → Str → Prop} : ∀ {l : List Str}, l.Pairwise R → ∀ d ∈ zipL (l.map PyData.str) ((l.map PyData.str).drop 1), ∃ a b, d = .tuple [.str a, .str b] ∧ R a b
  | [], _, d, hd => by simp [zipL] at hd
  | [x], _, d, hd => by simp [zipL] at hd
  | x :: y :: l, h, d, hd => by
    have hd' : d ∈ PyData.tuple [.str x, .str y] :: zipL ((y :: l).map PyData.str) (((y :: l).map PyData.str).drop 1) := hd
    rcases List.mem_cons.mp hd' with e | hd
    · exact ⟨x, y, e, (List.pairwise_cons.mp h).1 y (List.mem_cons_self ..)⟩
    · exact zip_next (List.pairwise_cons.mp h).2 d hd
/-! ### tests, piece by piece -/
section
variable {T : Tb} {a b t : CE} {as : CEs} {ρ : Rho} {s s1 s2 : D} {x y : Bool} {o : Option (Bool × D)}
theorem t_of {fl : Fl} (h : den T a ρ s = some ((fl, .bool x), s1)) : dT (den T a) ρ s = some (x, s1) := by
  unfold dT
  rw [h]
theorem e_nt (h : dT (den T a) ρ s = some (x, s1)) : den T (.nt a) ρ s = some ((.pf, .bool (!x)), s1) := by
  rw [den]
  unfold dB dNot
  rw [h]
  rfl
theorem t_nt (h : dT (den T a) ρ s = some (x, s1)) : dT (den T (.nt a)) ρ s = some (!x, s1) := t_of (e_nt h)
theorem b_one {k : Bool} (h : dT (den T a) ρ s = some (x, s1)) : denB T k (.cons a .nil) ρ s = some (x, s1) := by
  rw [denB]
  exact h
theorem b_orF (h : dT (den T a) ρ s = some (false, s1)) (h2 : denB T false (.cons b as) ρ s1 = o) : denB T false (.cons a (.cons b as)) ρ s = o := by
  rw [denB]
  unfold dBo dOr
  simp [h, h2]
theorem b_orT (h : dT (den T a) ρ s = some (true, s1)) : denB T false (.cons a (.cons b as)) ρ s = some (true, s1) := by
  rw [denB]
  unfold dBo dOr
  simp [h]
theorem b_andT (h : dT (den T a) ρ s = some (true, s1)) (h2 : denB T true (.cons b as) ρ s1 = o) : denB T true (.cons a (.cons b as)) ρ s = o := by
  rw [denB]
  unfold dBo dAnd
  simp [h, h2]
theorem b_andF (h : dT (den T a) ρ s = some (false, s1)) : denB T true (.cons a (.cons b as)) ρ s = some (false, s1) := by
  rw [denB]
  unfold dBo dAnd
  simp [h]
theorem e_bo {k : Bool} (h : denB T k as ρ s = some (x, s1)) : den T (.bo k as) ρ s = some ((.pf, .bool x), s1) := by
  rw [den]
  unfold dB
  rw [h]
  rfl
theorem t_bo {k : Bool} (h : denB T k as ρ s = some (x, s1)) : dT (den T (.bo k as)) ρ s = some (x, s1) := t_of (e_bo h)
theorem st_ifT {bs cs : CSs} {o : Option (Out × D)} (h : dT (den T t) ρ s = some (true, s1)) (h2 : denSs T bs ρ s1 = o) : denS T (.iff t bs cs) ρ s = o := by
  rw [denS]
  unfold sIf
  simp [h, h2]
theorem st_ifF {bs cs : CSs} {o : Option (Out × D)} (h : dT (den T t) ρ s = some (false, s1)) (h2 : denSs T cs ρ s1 = o) : denS T (.iff t bs cs) ρ s = o := by
  rw [denS]
  unfold sIf
  simp [h, h2]
theorem e_call {f : Str} {n : Nat} {cs : CAs} {xs : List (Option D)} {r : R} (h : denX T cs ρ s = some (xs, s1)) (h2 : T.f f xs s1 = some (r, s2)) (hl : r.1 ≠ .ln) (hn : xs.length = n) : den T (.call f n cs) ρ s = some (r, s2) := by
  rw [den]
  unfold dCallF
  simp [h, h2, hl, hn]
theorem e_2 {op : CmpOp} {ra rb r : R} (h1 : den T a ρ s = some (ra, s1)) (h2 : den T b ρ s1 = some (rb, s2)) (h3 : cmpD op ra.2 rb.2 = some r) : den T (.cmp op a b) ρ s = some (r, s2) := by
  rw [den]
  unfold d2
  simp [h1, h2, h3]
end
end Co
end

section
set_option Elab.async false
set_option linter.all false
set_option maxRecDepth 100000
set_option autoImplicit false
namespace G4
open PySem PySem.Spec L2 PyProof.Rows Co
def n_all_rows : List Str := [("parts" : Str), ("found" : Str), ("part" : Str), ("row" : Str), ("one" : Str)]
def e_all_rows_1 : CE := (.lc2 [(("row" : Str), 3), (("one" : Str), 4)] (.one 3) (.items (.var 1)) .no (.one 4) [4] (.items (.var 2)) .no (.frz (.bin .Add (.var 3) (.tup (.cons (.var 4) .nil)))))
def c_all_rows_1 : CS := (.set 1 e_all_rows_1)
def b_all_rows_1 : CSs := (.cons c_all_rows_1 (.frz 1 .nil))
def c_all_rows_2 : CS := (.set 1 (.frz (.lst (.cons (.tup .nil) .nil))))
def c_all_rows_3 : CS := (.fr (.one 2) (.items (.var 0)) b_all_rows_1)
def c_all_rows_4 : CS := (.ret (.var 1))
def c_all_rows : CSs := (.cons c_all_rows_2 (.cons c_all_rows_3 (.cons c_all_rows_4 .nil)))
def n_worlds : List Str := [("house" : Str), ("sorts" : Str), ("weights" : Str), ("some" : Str), ("row" : Str)]
def e_worlds_1 : CE := (.lc [(("row" : Str), 4)] (.one 4) (.items (.ix (.var 0) (.cst (.int 1)))) .no (.ix (.var 4) (.cst (.int 1))))
def e_worlds_2 : CE := (.lc [(("row" : Str), 4)] (.one 4) (.items (.ix (.var 0) (.cst (.int 0)))) .no (.ix (.var 4) (.cst (.int 1))))
def e_worlds_3 : CE := (.lc2 [(("weights" : Str), 2), (("some" : Str), 3)] (.one 2) (.items (.frz (.call ("all_rows" : Str) 1 (.val (.frz e_worlds_2) .nil)))) .no (.one 3) [3] (.items (.var 1)) .no (.tup (.cons (.var 2) (.cons (.var 3) .nil))))
def c_worlds_1 : CS := (.set 1 (.frz (.call ("all_rows" : Str) 1 (.val (.frz e_worlds_1) .nil))))
def c_worlds_2 : CS := (.ret e_worlds_3)
def c_worlds : CSs := (.cons c_worlds_1 (.cons c_worlds_2 .nil))
def n_sign : List Str := [("number" : Str)]
def c_sign_1 : CS := (.ret (.bin .Sub (.bi .int (.cons (.cmp .Gt (.var 0) (.cst (.int 0))) .nil)) (.bi .int (.cons (.cmp .Lt (.var 0) (.cst (.int 0))) .nil))))
def c_sign : CSs := (.cons c_sign_1 .nil)
def n_outweighs : List Str := [("house" : Str), ("world" : Str), ("weighing" : Str), ("weights" : Str), ("row" : Str), ("one" : Str)]
def e_outweighs_1 : CE := (.lc [(("row" : Str), 4)] (.one 4) (.items (.ix (.var 0) (.cst (.int 0)))) .no (.ix (.var 4) (.cst (.int 0))))
def e_outweighs_2 : CE := (.lc [(("one" : Str), 5)] (.one 5) (.items (.ix (.var 2) (.cst (.int 1)))) .no (.ix (.var 3) (.var 5)))
def e_outweighs_3 : CE := (.lc [(("one" : Str), 5)] (.one 5) (.items (.ix (.var 2) (.cst (.int 2)))) .no (.ix (.var 3) (.var 5)))
def c_outweighs_1 : CS := (.set 3 (.dzip (.frz e_outweighs_1) (.ix (.var 1) (.cst (.int 0)))))
def c_outweighs_2 : CS := (.ret (.bin .Sub (.bi .sum (.cons e_outweighs_2 .nil)) (.bi .sum (.cons e_outweighs_3 .nil))))
def c_outweighs : CSs := (.cons c_outweighs_1 (.cons c_outweighs_2 .nil))
def n_answer : List Str := [("house" : Str), ("world" : Str), ("ahead" : Str), ("weighing" : Str), ("sort" : Str), ("own" : Str), ("more" : Str), ("one" : Str), ("row" : Str)]
def e_answer_1 : CE := (.lc [(("row" : Str), 8)] (.one 8) (.items (.ix (.var 0) (.cst (.int 1)))) .no (.ix (.var 8) (.cst (.int 0))))
def e_answer_2 : CE := (.lc [(("one" : Str), 7)] (.one 7) (.items (.var 2)) (.so (.cmp .Eq (.ix (.var 7) (.cst (.int 0))) (.ix (.var 3) (.cst (.int 0))))) (.var 7))
def c_answer_1 : CS := (.ret (.bin .Sub (.cst (.int 0)) (.call ("sign" : Str) 1 (.val (.var 6) .nil))))
def b_answer_1 : CSs := (.cons c_answer_1 .nil)
def c_answer_2 : CS := (.ret (.call ("sign" : Str) 1 (.val (.bin .Add (.var 6) (.ix (.var 4) (.cst (.int 1)))) .nil)))
def b_answer_2 : CSs := (.cons c_answer_2 .nil)
def c_answer_3 : CS := (.ret (.ifx (.cmp .LtE (.bi .abs (.cons (.var 6) .nil)) (.ix (.var 4) (.cst (.int 1)))) (.cst (.int 0)) (.call ("sign" : Str) 1 (.val (.var 6) .nil))))
def b_answer_3 : CSs := (.cons c_answer_3 .nil)
def c_answer_4 : CS := (.ret (.ifx (.cmp .Eq (.bin .Mod (.bin .Add (.bi .len (.cons (.var 5) .nil)) (.ix (.var 4) (.cst (.int 1)))) (.cst (.int 2))) (.cst (.int 1))) (.bin .Sub (.cst (.int 0)) (.call ("sign" : Str) 1 (.val (.var 6) .nil))) (.call ("sign" : Str) 1 (.val (.var 6) .nil))))
def b_answer_4 : CSs := (.cons c_answer_4 .nil)
def c_answer_5 : CS := (.ret (.ifx (.cmp .NotEq (.var 5) (.lst .nil)) (.call ("sign" : Str) 1 (.val (.call ("outweighs" : Str) 3 (.val (.var 0) (.val (.var 1) (.val (.ix (.var 5) (.neg (.cst (.int 1)))) .nil)))) .nil)) (.cst (.int 0))))
def b_answer_5 : CSs := (.cons c_answer_5 .nil)
def c_answer_6 : CS := (.set 4 (.ix (.ix (.var 1) (.cst (.int 1))) (.idx e_answer_1 (.ix (.var 3) (.cst (.int 0))))))
def c_answer_7 : CS := (.set 5 e_answer_2)
def c_answer_8 : CS := (.set 6 (.call ("outweighs" : Str) 3 (.val (.var 0) (.val (.var 1) (.val (.var 3) .nil)))))
def c_answer_9 : CS := (.iff (.cmp .Eq (.ix (.var 4) (.cst (.int 0))) (.cst (.str ("lies" : Str)))) b_answer_1 .nil)
def c_answer_10 : CS := (.iff (.cmp .Eq (.ix (.var 4) (.cst (.int 0))) (.cst (.str ("leans" : Str)))) b_answer_2 .nil)
def c_answer_11 : CS := (.iff (.cmp .Eq (.ix (.var 4) (.cst (.int 0))) (.cst (.str ("sticks" : Str)))) b_answer_3 .nil)
def c_answer_12 : CS := (.iff (.cmp .Eq (.ix (.var 4) (.cst (.int 0))) (.cst (.str ("turns" : Str)))) b_answer_4 .nil)
def c_answer_13 : CS := (.iff (.cmp .Eq (.ix (.var 4) (.cst (.int 0))) (.cst (.str ("echo" : Str)))) b_answer_5 .nil)
def c_answer_14 : CS := (.ret (.call ("sign" : Str) 1 (.val (.var 6) .nil)))
def c_answer : CSs := (.cons c_answer_6 (.cons c_answer_7 (.frz 5 (.cons c_answer_8 (.cons c_answer_9 (.cons c_answer_10 (.cons c_answer_11 (.cons c_answer_12 (.cons c_answer_13 (.cons c_answer_14 .nil))))))))))
def n_tells : List Str := [("house" : Str), ("world" : Str), ("row" : Str), ("at" : Str), ("weighing" : Str)]
def e_tells_1 : CE := (.lc [(("at" : Str), 3), (("weighing" : Str), 4)] (.tup (.cons (.one 3) (.cons (.one 4) .nil))) (.enum (.cons (.var 2) .nil)) .no (.call ("answer" : Str) 4 (.val (.var 0) (.val (.var 1) (.val (.frz (.sl (.var 2) .no (.so (.var 3)))) (.val (.var 4) .nil))))))
def c_tells_1 : CS := (.ret e_tells_1)
def c_tells : CSs := (.cons c_tells_1 .nil)
def n__law_cell_at : List Str := [("script" : Str), ("k" : Str)]
def c__law_cell_at_1 : CS := (.ret (.ixs 0 (.var 1)))
def b__law_cell_at_1 : CSs := (.cons c__law_cell_at_1 .nil)
def c__law_cell_at_2 : CS := (.iff (.cmp .Lt (.var 1) (.lens 0)) b__law_cell_at_1 .nil)
def c__law_cell_at_3 : CS := (.ret (.cst (.int 0)))
def c__law_cell_at : CSs := (.cons c__law_cell_at_2 (.cons c__law_cell_at_3 .nil))
def n__law_draws : List Str := [("cell" : Str), ("many" : Str), ("size" : Str), ("found" : Str), ("rest" : Str), ("stirred" : Str), ("k" : Str)]
def c__law_draws_1 : CS := (.app 3 (.bin .Mod (.var 4) (.var 2)))
def c__law_draws_2 : CS := (.set 4 (.bin .FloorDiv (.var 4) (.var 2)))
def b__law_draws_1 : CSs := (.cons c__law_draws_1 (.cons c__law_draws_2 .nil))
def c__law_draws_3 : CS := (.app 3 (.bin .Mod (.bin .FloorDiv (.var 5) (.cst (.int 4096))) (.var 2)))
def b__law_draws_2 : CSs := (.cons c__law_draws_3 .nil)
def c__law_draws_4 : CS := (.iff (.cmp .Gt (.var 6) (.cst (.int 2))) b__law_draws_2 .nil)
def b__law_draws_3 : CSs := (.cons c__law_draws_4 .nil)
def c__law_draws_5 : CS := (.set 5 (.bin .Mod (.bin .Add (.bin .Add (.bin .Add (.bin .Mult (.var 5) (.var 5)) (.bin .Mult (.cst (.int 48271)) (.var 5))) (.var 6)) (.cst (.int 1))) (.cst (.int 2305843009213693951))))
def c__law_draws_6 : CS := (.iff (.bo true (.cons (.cmp .Gt (.var 6) (.cst (.int 2))) (.cons (.cmp .Gt (.var 4) (.cst (.int 0))) .nil))) b__law_draws_1 b__law_draws_3)
def b__law_draws_4 : CSs := (.cons c__law_draws_5 (.cons c__law_draws_6 .nil))
def c__law_draws_7 : CS := (.set 3 (.lst .nil))
def c__law_draws_8 : CS := (.set 4 (.bin .Mult (.var 0) (.bi .int (.cons (.cmp .GtE (.var 0) (.bin .Pow (.cst (.int 10)) (.cst (.int 18)))) .nil))))
def c__law_draws_9 : CS := (.set 5 (.bin .Mod (.var 0) (.cst (.int 2305843009213693951))))
def c__law_draws_10 : CS := (.fr (.one 6) (.range (.cons (.bin .Add (.var 1) (.cst (.int 3))) .nil)) b__law_draws_4)
def c__law_draws_11 : CS := (.retv 3)
def c__law_draws : CSs := (.cons c__law_draws_7 (.cons c__law_draws_8 (.cons c__law_draws_9 (.cons c__law_draws_10 (.cons c__law_draws_11 .nil)))))
def n__law_bag : List Str := [("script" : Str), ("k" : Str)]
def c__law_bag_1 : CS := (.ret (.lst (.cons (.frz (.call ("_law_draws" : Str) 3 (.val (.call ("_law_cell_at" : Str) 2 (.cel 0 (.val (.var 1) .nil))) (.val (.cst (.int 400)) (.val (.cst (.int 1000)) .nil))))) (.cons (.cst (.int 0)) .nil))))
def c__law_bag : CSs := (.cons c__law_bag_1 .nil)
def n__law_take : List Str := [("bag" : Str), ("many" : Str)]
def c__law_take_1 : CS := (.putC 0 (.bin .Add (.ixc 0 (.cst (.int 1))) (.cst (.int 1))) (.cst (.int 1)))
def c__law_take_2 : CS := (.ret (.bin .Mod (.ix (.ixc 0 (.cst (.int 0))) (.bin .Mod (.ixc 0 (.cst (.int 1))) (.bi .len (.cons (.ixc 0 (.cst (.int 0))) .nil)))) (.var 1)))
def c__law_take : CSs := (.cons c__law_take_1 (.cons c__law_take_2 .nil))
def n__law_sorts : List Str := [("bag" : Str), ("limit" : Str), ("far" : Str), ("some" : Str), ("found" : Str), ("turn" : Str)]
def c__law_sorts_1 : CS := (.putD 4 (.cst (.bool true)) (.ix (.var 3) (.call ("_law_take" : Str) 2 (.cel 0 (.val (.bi .len (.cons (.var 3) .nil)) .nil)))))
def b__law_sorts_1 : CSs := (.cons c__law_sorts_1 .nil)
def c__law_sorts_2 : CS := (.set 3 (.frz (.lst (.cons (.tup (.cons (.cst (.str ("true" : Str))) .nil)) (.cons (.tup (.cons (.cst (.str ("lies" : Str))) .nil)) (.cons (.tup (.cons (.cst (.str ("echo" : Str))) .nil)) (.cons (.tup (.cons (.cst (.str ("turns" : Str))) (.cons (.cst (.int 0)) .nil))) (.cons (.tup (.cons (.cst (.str ("turns" : Str))) (.cons (.cst (.int 1)) .nil))) .nil))))))))
def c__law_sorts_3 : CS := (.set 3 (.frz (.bin .Add (.var 3) (.lst (.cons (.tup (.cons (.cst (.str ("leans" : Str))) (.cons (.bin .Add (.cst (.int 1)) (.call ("_law_take" : Str) 2 (.cel 0 (.val (.var 2) .nil)))) .nil))) (.cons (.tup (.cons (.cst (.str ("leans" : Str))) (.cons (.bin .Sub (.neg (.cst (.int 1))) (.call ("_law_take" : Str) 2 (.cel 0 (.val (.var 2) .nil)))) .nil))) .nil))))))
def c__law_sorts_4 : CS := (.set 3 (.frz (.bin .Add (.var 3) (.lst (.cons (.tup (.cons (.cst (.str ("sticks" : Str))) (.cons (.bin .Add (.cst (.int 1)) (.call ("_law_take" : Str) 2 (.cel 0 (.val (.var 2) .nil)))) .nil))) .nil)))))
def c__law_sorts_5 : CS := (.set 4 .dnew)
def c__law_sorts_6 : CS := (.fr (.one 5) (.range (.cons (.bin .Add (.cst (.int 1)) (.call ("_law_take" : Str) 2 (.cel 0 (.val (.var 1) .nil)))) .nil)) b__law_sorts_1)
def c__law_sorts_7 : CS := (.ret (.bi .tuple (.cons (.bi .sorted (.cons (.var 4) .nil)) .nil)))
def c__law_sorts : CSs := (.cons c__law_sorts_2 (.cons c__law_sorts_3 (.cons c__law_sorts_4 (.cons c__law_sorts_5 (.cons c__law_sorts_6 (.cons c__law_sorts_7 .nil))))))
def n__law_house : List Str := [("bag" : Str), ("bound" : Str), ("far" : Str), ("name" : Str), ("things" : Str), ("scales" : Str), ("many" : Str), ("some" : Str), ("turn" : Str), ("sorts" : Str)]
def c__law_house_1 : CS := (.putD 7 (.cst (.bool true)) (.bin .Add (.cst (.int 1)) (.call ("_law_take" : Str) 2 (.cel 0 (.val (.var 2) .nil)))))
def b__law_house_1 : CSs := (.cons c__law_house_1 .nil)
def c__law_house_2 : CS := (.iff (.cmp .LtE (.bin .Mult (.var 6) (.bin .Add (.bi .len (.cons (.var 7) .nil)) (.cst (.int 1)))) (.var 1)) b__law_house_1 .nil)
def b__law_house_2 : CSs := (.cons c__law_house_2 .nil)
def c__law_house_3 : CS := (.set 7 (.dsp (.bin .Add (.cst (.int 1)) (.call ("_law_take" : Str) 2 (.cel 0 (.val (.var 2) .nil)))) (.cst (.bool true))))
def c__law_house_4 : CS := (.fr (.one 8) (.range (.cons (.call ("_law_take" : Str) 2 (.cel 0 (.val (.cst (.int 3)) .nil))) .nil)) b__law_house_2)
def c__law_house_5 : CS := (.set 6 (.bin .Mult (.var 6) (.bi .len (.cons (.var 7) .nil))))
def c__law_house_6 : CS := (.app 4 (.tup (.cons (.var 3) (.cons (.bi .tuple (.cons (.bi .sorted (.cons (.var 7) .nil)) .nil)) .nil))))
def b__law_house_3 : CSs := (.cons c__law_house_3 (.cons c__law_house_4 (.cons c__law_house_5 (.cons c__law_house_6 .nil))))
def c__law_house_7 : CS := (.set 9 (.frz (.sl (.var 9) (.so (.cst (.int 1))) .no)))
def b__law_house_4 : CSs := (.cons c__law_house_7 .nil)
def c__law_house_8 : CS := (.set 9 (.call ("_law_sorts" : Str) 3 (.cel 0 (.val (.cst (.int 4)) (.val (.var 2) .nil)))))
def c__law_house_9 : CS := (.whl 100 (.bo true (.cons (.cmp .Gt (.bi .len (.cons (.var 9) .nil)) (.cst (.int 1))) (.cons (.cmp .Gt (.bin .Mult (.var 6) (.bi .len (.cons (.var 9) .nil))) (.var 1)) .nil))) b__law_house_4)
def c__law_house_10 : CS := (.set 6 (.bin .Mult (.var 6) (.bi .len (.cons (.var 9) .nil))))
def c__law_house_11 : CS := (.app 5 (.tup (.cons (.var 3) (.cons (.var 9) .nil))))
def b__law_house_5 : CSs := (.cons c__law_house_8 (.cons c__law_house_9 (.cons c__law_house_10 (.cons c__law_house_11 .nil))))
def c__law_house_12 : CS := (.par [4, 5, 6] (.cons (.lst .nil) (.cons (.lst .nil) (.cons (.cst (.int 1)) .nil))))
def c__law_house_13 : CS := (.fr (.one 3) (.items (.frz (.sl (.lst (.cons (.cst (.str ("ax" : Str))) (.cons (.cst (.str ("bo" : Str))) (.cons (.cst (.str ("cy" : Str))) (.cons (.cst (.str ("di" : Str))) .nil))))) .no (.so (.bin .Add (.cst (.int 1)) (.call ("_law_take" : Str) 2 (.cel 0 (.val (.cst (.int 4)) .nil)))))))) b__law_house_3)
def c__law_house_14 : CS := (.fr (.one 3) (.items (.frz (.sl (.lst (.cons (.cst (.str ("p" : Str))) (.cons (.cst (.str ("q" : Str))) (.cons (.cst (.str ("r" : Str))) .nil)))) .no (.so (.bin .Add (.cst (.int 1)) (.call ("_law_take" : Str) 2 (.cel 0 (.val (.cst (.int 3)) .nil)))))))) b__law_house_5)
def c__law_house_15 : CS := (.ret (.tup (.cons (.bi .tuple (.cons (.var 4) .nil)) (.cons (.bi .tuple (.cons (.var 5) .nil)) .nil))))
def c__law_house : CSs := (.cons c__law_house_12 (.cons c__law_house_13 (.cons c__law_house_14 (.cons c__law_house_15 .nil))))
def n__law_weighing : List Str := [("bag" : Str), ("house" : Str), ("left" : Str), ("right" : Str), ("name" : Str), ("weights" : Str), ("side" : Str)]
def c__law_weighing_1 : CS := (.app 2 (.var 4))
def b__law_weighing_1 : CSs := (.cons c__law_weighing_1 .nil)
def c__law_weighing_2 : CS := (.app 3 (.var 4))
def b__law_weighing_2 : CSs := (.cons c__law_weighing_2 .nil)
def c__law_weighing_3 : CS := (.iff (.cmp .Lt (.var 6) (.cst (.int 4))) b__law_weighing_2 .nil)
def b__law_weighing_3 : CSs := (.cons c__law_weighing_3 .nil)
def c__law_weighing_4 : CS := (.set 6 (.call ("_law_take" : Str) 2 (.cel 0 (.val (.cst (.int 5)) .nil))))
def c__law_weighing_5 : CS := (.iff (.cmp .Lt (.var 6) (.cst (.int 2))) b__law_weighing_1 b__law_weighing_3)
def b__law_weighing_4 : CSs := (.cons c__law_weighing_4 (.cons c__law_weighing_5 .nil))
def c__law_weighing_6 : CS := (.par [2, 3] (.cons (.lst .nil) (.cons (.lst .nil) .nil)))
def c__law_weighing_7 : CS := (.fr (.tup (.cons (.one 4) (.cons (.one 5) .nil))) (.items (.ix (.var 1) (.cst (.int 0)))) b__law_weighing_4)
def c__law_weighing_8 : CS := (.ret (.tup (.cons (.ix (.ix (.ix (.var 1) (.cst (.int 1))) (.call ("_law_take" : Str) 2 (.cel 0 (.val (.bi .len (.cons (.ix (.var 1) (.cst (.int 1))) .nil)) .nil)))) (.cst (.int 0))) (.cons (.bi .tuple (.cons (.var 2) .nil)) (.cons (.bi .tuple (.cons (.var 3) .nil)) .nil)))))
def c__law_weighing : CSs := (.cons c__law_weighing_6 (.cons c__law_weighing_7 (.cons c__law_weighing_8 .nil)))
def n__law_row : List Str := [("bag" : Str), ("house" : Str), ("limit" : Str), ("k" : Str)]
def e__law_row_1 : CE := (.lc [(("k" : Str), 3)] (.one 3) (.range (.cons (.call ("_law_take" : Str) 2 (.cel 0 (.val (.bin .Add (.var 2) (.cst (.int 1))) .nil))) .nil)) .no (.call ("_law_weighing" : Str) 2 (.cel 0 (.val (.var 1) .nil))))
def c__law_row_1 : CS := (.ret e__law_row_1)
def c__law_row : CSs := (.cons c__law_row_1 .nil)
def n__law_turned : List Str := [("world" : Str), ("sort" : Str)]
def e__law_turned_1 : CE := (.lc [(("sort" : Str), 1)] (.one 1) (.items (.ix (.var 0) (.cst (.int 1)))) .no (.ifx (.cmp .Eq (.ix (.var 1) (.cst (.int 0))) (.cst (.str ("leans" : Str)))) (.tup (.cons (.cst (.str ("leans" : Str))) (.cons (.bin .Sub (.cst (.int 0)) (.ix (.var 1) (.cst (.int 1)))) .nil))) (.var 1)))
def c__law_turned_1 : CS := (.ret (.tup (.cons (.ix (.var 0) (.cst (.int 0))) (.cons (.bi .tuple (.cons e__law_turned_1 .nil)) .nil))))
def c__law_turned : CSs := (.cons c__law_turned_1 .nil)
def n__law_both_ways : List Str := [("house" : Str), ("scales" : Str), ("name" : Str), ("sorts" : Str), ("more" : Str), ("sort" : Str)]
def e__law_both_ways_1 : CE := (.lc [(("sort" : Str), 5)] (.one 5) (.items (.var 3)) (.so (.cmp .Eq (.ix (.var 5) (.cst (.int 0))) (.cst (.str ("leans" : Str))))) (.tup (.cons (.cst (.str ("leans" : Str))) (.cons (.bin .Sub (.cst (.int 0)) (.ix (.var 5) (.cst (.int 1)))) .nil))))
def c__law_both_ways_1 : CS := (.set 4 e__law_both_ways_1)
def c__law_both_ways_2 : CS := (.app 1 (.tup (.cons (.var 2) (.cons (.bi .tuple (.cons (.sset (.bin .Add (.bi .list (.cons (.var 3) .nil)) (.var 4))) .nil)) .nil))))
def b__law_both_ways_1 : CSs := (.cons c__law_both_ways_1 (.frz 4 (.cons c__law_both_ways_2 .nil)))
def c__law_both_ways_3 : CS := (.set 1 (.lst .nil))
def c__law_both_ways_4 : CS := (.fr (.tup (.cons (.one 2) (.cons (.one 3) .nil))) (.items (.ix (.var 0) (.cst (.int 1)))) b__law_both_ways_1)
def c__law_both_ways_5 : CS := (.ret (.tup (.cons (.ix (.var 0) (.cst (.int 0))) (.cons (.bi .tuple (.cons (.var 1) .nil)) .nil))))
def c__law_both_ways : CSs := (.cons c__law_both_ways_3 (.cons c__law_both_ways_4 (.cons c__law_both_ways_5 .nil)))
def n__law_plain_house : List Str := [("bag" : Str), ("house" : Str), ("things" : Str), ("sorts" : Str), ("name" : Str), ("some" : Str)]
def e__law_plain_house_1 : CE := (.lc [(("name" : Str), 4), (("some" : Str), 5)] (.tup (.cons (.one 4) (.cons (.one 5) .nil))) (.items (.ix (.var 1) (.cst (.int 0)))) .no (.tup (.cons (.var 4) (.cons (.tup (.cons (.ix (.var 5) (.call ("_law_take" : Str) 2 (.cel 0 (.val (.bi .len (.cons (.var 5) .nil)) .nil)))) .nil)) .nil))))
def e__law_plain_house_2 : CE := (.lc [(("name" : Str), 4), (("some" : Str), 5)] (.tup (.cons (.one 4) (.cons (.one 5) .nil))) (.items (.ix (.var 1) (.cst (.int 1)))) .no (.tup (.cons (.var 4) (.cons (.var 3) .nil))))
def c__law_plain_house_1 : CS := (.set 2 e__law_plain_house_1)
def c__law_plain_house_2 : CS := (.set 3 (.tup (.cons (.tup (.cons (.cst (.str ("echo" : Str))) .nil)) (.cons (.tup (.cons (.cst (.str ("lies" : Str))) .nil)) (.cons (.tup (.cons (.cst (.str ("true" : Str))) .nil)) (.cons (.tup (.cons (.cst (.str ("turns" : Str))) (.cons (.cst (.int 0)) .nil))) (.cons (.tup (.cons (.cst (.str ("turns" : Str))) (.cons (.cst (.int 1)) .nil))) .nil)))))))
def c__law_plain_house_3 : CS := (.ret (.tup (.cons (.bi .tuple (.cons (.var 2) .nil)) (.cons (.bi .tuple (.cons e__law_plain_house_2 .nil)) .nil))))
def c__law_plain_house : CSs := (.cons c__law_plain_house_1 (.frz 2 (.cons c__law_plain_house_2 (.cons c__law_plain_house_3 .nil))))
def n__law_bags : List Str := [("script" : Str), ("limit" : Str), ("k" : Str)]
def n_law : List Str := [("script" : Str), ("bag" : Str), ("house" : Str), ("changed" : Str), ("turn" : Str), ("weights" : Str), ("due" : Str), ("second" : Str), ("row" : Str), ("every" : Str), ("world" : Str), ("told" : Str), ("many" : Str), ("liar" : Str), ("first" : Str), ("counts" : Str), ("early" : Str), ("last" : Str), ("echoes" : Str), ("weighing" : Str), ("count" : Str), ("name" : Str), ("sorts" : Str), ("own" : Str), ("scale" : Str), ("left" : Str), ("right" : Str), ("one" : Str), ("some" : Str), ("at" : Str)]
def e_law_1 : CE := (.lc [(("scale" : Str), 24), (("left" : Str), 25), (("right" : Str), 26)] (.tup (.cons (.one 24) (.cons (.one 25) (.cons (.one 26) .nil)))) (.items (.var 8)) .no (.tup (.cons (.var 24) (.cons (.var 26) (.cons (.var 25) .nil)))))
def e_law_2 : CE := (.lc [(("one" : Str), 27)] (.one 27) (.items (.var 11)) .no (.bin .Sub (.cst (.int 0)) (.var 27)))
def c_law_1 : CS := (.ret (.cst (.bool false)))
def b_law_1 : CSs := (.cons c_law_1 .nil)
def e_law_3 : CE := (.lc [(("at" : Str), 29), (("weighing" : Str), 19)] (.tup (.cons (.one 29) (.cons (.one 19) .nil))) (.enum (.cons (.var 8) .nil)) (.so (.cmp .Eq (.ix (.var 19) (.cst (.int 0))) (.var 21))) (.var 29))
def e_law_4 : CE := (.lc [(("at" : Str), 29)] (.one 29) (.items (.var 23)) .no (.ix (.var 8) (.var 29)))
def e_law_5 : CE := (.lc [(("at" : Str), 29)] (.one 29) (.items (.var 23)) .no (.ix (.var 11) (.var 29)))
def c_law_2 : CS := (.ret (.cst (.bool false)))
def b_law_2 : CSs := (.cons c_law_2 .nil)
def c_law_3 : CS := (.set 23 e_law_3)
def c_law_4 : CS := (.iff (.cmp .NotEq (.call ("tells" : Str) 3 (.val (.var 2) (.val (.var 10) (.val (.frz e_law_4) .nil)))) e_law_5) b_law_2 .nil)
def b_law_3 : CSs := (.cons c_law_3 (.frz 23 (.cons c_law_4 .nil)))
def c_law_5 : CS := (.ret (.cst (.bool false)))
def b_law_4 : CSs := (.cons c_law_5 .nil)
def c_law_6 : CS := (.set 10 (.ix (.var 9) (.call ("_law_take" : Str) 2 (.cel 1 (.val (.bi .len (.cons (.var 9) .nil)) .nil)))))
def c_law_7 : CS := (.set 11 (.frz (.call ("tells" : Str) 3 (.val (.var 2) (.val (.var 10) (.val (.var 8) .nil))))))
def c_law_8 : CS := (.iff (.cmp .NotEq (.call ("tells" : Str) 3 (.val (.var 2) (.val (.call ("_law_turned" : Str) 1 (.val (.var 10) .nil)) (.val (.var 3) .nil)))) e_law_2) b_law_1 .nil)
def c_law_9 : CS := (.fr (.tup (.cons (.one 21) (.cons (.one 22) .nil))) (.items (.ix (.var 2) (.cst (.int 1)))) b_law_3)
def c_law_10 : CS := (.iff (.cmp .NotEq (.call ("tells" : Str) 3 (.val (.var 2) (.val (.var 10) (.val (.frz (.sl (.var 8) .no (.so (.cst (.int 5))))) .nil)))) (.sl (.var 11) .no (.so (.cst (.int 5))))) b_law_4 .nil)
def b_law_5 : CSs := (.cons c_law_6 (.cons c_law_7 (.cons c_law_8 (.cons c_law_9 (.cons c_law_10 .nil)))))
def e_law_6 : CE := (.lc [(("name" : Str), 21), (("some" : Str), 28)] (.tup (.cons (.one 21) (.cons (.one 28) .nil))) (.items (.ix (.var 2) (.cst (.int 0)))) .no (.ix (.var 28) (.cst (.int 0))))
def e_law_7 : CE := (.lc [(("told" : Str), 11)] (.one 11) (.items (.var 6)) .no (.bin .Sub (.cst (.int 0)) (.var 11)))
def c_law_11 : CS := (.ret (.cst (.bool false)))
def b_law_6 : CSs := (.cons c_law_11 .nil)
def c_law_12 : CS := (.set 20 (.get (.var 15) (.ix (.var 19) (.cst (.int 0))) (.cst (.int 0))))
def c_law_13 : CS := (.app 16 (.ifx (.cmp .Eq (.bin .Mod (.var 20) (.cst (.int 2))) (.cst (.int 0))) (.var 11) (.bin .Sub (.cst (.int 0)) (.var 11))))
def c_law_14 : CS := (.app 18 (.get (.var 17) (.ix (.var 19) (.cst (.int 0))) (.cst (.int 0))))
def c_law_15 : CS := (.put2 15 17 (.bin .Add (.var 20) (.cst (.int 1))) (.var 11) (.ix (.var 19) (.cst (.int 0))) (.ix (.var 19) (.cst (.int 0))))
def b_law_7 : CSs := (.cons c_law_12 (.cons c_law_13 (.cons c_law_14 (.cons c_law_15 .nil))))
def e_law_8 : CE := (.lc [(("told" : Str), 11)] (.one 11) (.items (.var 16)) .no (.bin .Sub (.cst (.int 0)) (.var 11)))
def c_law_16 : CS := (.ret (.cst (.bool false)))
def b_law_8 : CSs := (.cons c_law_16 .nil)
def c_law_17 : CS := (.ret (.cst (.bool false)))
def b_law_9 : CSs := (.cons c_law_17 .nil)
def c_law_18 : CS := (.set 2 (.call ("_law_both_ways" : Str) 1 (.val (.call ("_law_house" : Str) 3 (.cel 1 (.val (.cst (.int 60)) (.val (.cst (.int 9)) .nil)))) .nil)))
def c_law_19 : CS := (.par [8, 9] (.cons (.frz (.call ("_law_row" : Str) 3 (.cel 1 (.val (.var 2) (.val (.cst (.int 12)) .nil))))) (.cons (.frz (.call ("worlds" : Str) 1 (.val (.var 2) .nil))) .nil)))
def c_law_20 : CS := (.set 3 e_law_1)
def c_law_21 : CS := (.fr (.one 4) (.range (.cons (.cst (.int 6)) .nil)) b_law_5)
def c_law_22 : CS := (.par [2, 12] (.cons (.call ("_law_plain_house" : Str) 2 (.cel 1 (.val (.var 2) .nil))) (.cons (.bi .len (.cons (.ix (.var 2) (.cst (.int 1))) .nil)) .nil)))
def c_law_23 : CS := (.set 5 (.bi .tuple (.cons e_law_6 .nil)))
def c_law_24 : CS := (.set 6 (.frz (.call ("tells" : Str) 3 (.val (.var 2) (.val (.tup (.cons (.var 5) (.cons (.bin .Mult (.tup (.cons (.tup (.cons (.cst (.str ("true" : Str))) .nil)) .nil)) (.var 12)) .nil))) (.val (.var 8) .nil))))))
def c_law_25 : CS := (.par [13, 14] (.cons (.tup (.cons (.var 5) (.cons (.bin .Mult (.tup (.cons (.tup (.cons (.cst (.str ("lies" : Str))) .nil)) .nil)) (.var 12)) .nil))) (.cons (.tup (.cons (.var 5) (.cons (.bin .Mult (.tup (.cons (.tup (.cons (.cst (.str ("turns" : Str))) (.cons (.cst (.int 0)) .nil))) .nil)) (.var 12)) .nil))) .nil)))
def c_law_26 : CS := (.set 7 (.tup (.cons (.var 5) (.cons (.bin .Mult (.tup (.cons (.tup (.cons (.cst (.str ("turns" : Str))) (.cons (.cst (.int 1)) .nil))) .nil)) (.var 12)) .nil))))
def c_law_27 : CS := (.iff (.cmp .NotEq (.call ("tells" : Str) 3 (.val (.var 2) (.val (.var 13) (.val (.var 8) .nil)))) e_law_7) b_law_6 .nil)
def c_law_28 : CS := (.par [15, 16, 17, 18] (.cons .dnew (.cons (.lst .nil) (.cons .dnew (.cons (.lst .nil) .nil)))))
def c_law_29 : CS := (.fr (.tup (.cons (.one 19) (.cons (.one 11) .nil))) (.zip (.cons (.var 8) (.cons (.var 6) .nil))) b_law_7)
def c_law_30 : CS := (.iff (.bo false (.cons (.cmp .NotEq (.call ("tells" : Str) 3 (.val (.var 2) (.val (.var 14) (.val (.var 8) .nil)))) (.var 16)) (.cons (.cmp .NotEq (.call ("tells" : Str) 3 (.val (.var 2) (.val (.var 7) (.val (.var 8) .nil)))) e_law_8) .nil))) b_law_8 .nil)
def c_law_31 : CS := (.iff (.cmp .NotEq (.call ("tells" : Str) 3 (.val (.var 2) (.val (.tup (.cons (.var 5) (.cons (.bin .Mult (.tup (.cons (.tup (.cons (.cst (.str ("echo" : Str))) .nil)) .nil)) (.var 12)) .nil))) (.val (.var 8) .nil)))) (.var 18)) b_law_9 .nil)
def c_law : CSs := (.cons c_law_18 (.cons c_law_19 (.cons c_law_20 (.frz 3 (.cons c_law_21 (.cons c_law_22 (.cons c_law_23 (.cons c_law_24 (.cons c_law_25 (.cons c_law_26 (.cons c_law_27 (.cons c_law_28 (.cons c_law_29 (.cons c_law_30 (.cons c_law_31 .nil)))))))))))))))
def b_bags : BagsC := ⟨[(("k" : Str), 2)], (.one 2), (.range (.cons (.bi .max (.cons (.cst (.int 1)) (.cons (.bi .min (.cons (.var 1) (.cons (.lens 0) .nil))) .nil))) .nil)), (.call ("_law_bag" : Str) 2 (.cel 0 (.val (.var 2) .nil)))⟩
def ent : List En := [coreEn ("all_rows" : Str) [("parts" : Str)] n_all_rows c_all_rows, coreEn ("worlds" : Str) [("house" : Str)] n_worlds c_worlds, coreEn ("sign" : Str) [("number" : Str)] n_sign c_sign, coreEn ("outweighs" : Str) [("house" : Str), ("world" : Str), ("weighing" : Str)] n_outweighs c_outweighs, coreEn ("answer" : Str) [("house" : Str), ("world" : Str), ("ahead" : Str), ("weighing" : Str)] n_answer c_answer, coreEn ("tells" : Str) [("house" : Str), ("world" : Str), ("row" : Str)] n_tells c_tells, coreEn ("_law_cell_at" : Str) [("script" : Str), ("k" : Str)] n__law_cell_at c__law_cell_at, coreEn ("_law_draws" : Str) [("cell" : Str), ("many" : Str), ("size" : Str)] n__law_draws c__law_draws, coreEn ("_law_bag" : Str) [("script" : Str), ("k" : Str)] n__law_bag c__law_bag, coreEn ("_law_take" : Str) [("bag" : Str), ("many" : Str)] n__law_take c__law_take, coreEn ("_law_sorts" : Str) [("bag" : Str), ("limit" : Str), ("far" : Str)] n__law_sorts c__law_sorts, coreEn ("_law_house" : Str) [("bag" : Str), ("bound" : Str), ("far" : Str)] n__law_house c__law_house, coreEn ("_law_weighing" : Str) [("bag" : Str), ("house" : Str)] n__law_weighing c__law_weighing, coreEn ("_law_row" : Str) [("bag" : Str), ("house" : Str), ("limit" : Str)] n__law_row c__law_row, coreEn ("_law_turned" : Str) [("world" : Str)] n__law_turned c__law_turned, coreEn ("_law_both_ways" : Str) [("house" : Str)] n__law_both_ways c__law_both_ways, coreEn ("_law_plain_house" : Str) [("bag" : Str), ("house" : Str)] n__law_plain_house c__law_plain_house]
def glc (x : Str) : Option D := none
def lvl (k : Nat) : Tb := tab ent glc k
def bagsF (k : Nat) : List (Option D) → D → Option (List D × D) := fun as => b_bags.den (lvl k) (rho0 n__law_bags.length as)
end G4
end

section
set_option Elab.async false
set_option linter.all false
set_option maxRecDepth 100000
set_option autoImplicit false
namespace G4
open PySem L2 Co
theorem f_all_rows (k : Nat) : (lvl (k + 1)).f ("all_rows" : Str) = fnD n_all_rows.length (denSs (lvl k) c_all_rows) := by kernel_rfl
theorem f_worlds (k : Nat) : (lvl (k + 1)).f ("worlds" : Str) = fnD n_worlds.length (denSs (lvl k) c_worlds) := by kernel_rfl
theorem f_sign (k : Nat) : (lvl (k + 1)).f ("sign" : Str) = fnD n_sign.length (denSs (lvl k) c_sign) := by kernel_rfl
theorem f_outweighs (k : Nat) : (lvl (k + 1)).f ("outweighs" : Str) = fnD n_outweighs.length (denSs (lvl k) c_outweighs) := by kernel_rfl
theorem f_answer (k : Nat) : (lvl (k + 1)).f ("answer" : Str) = fnD n_answer.length (denSs (lvl k) c_answer) := by kernel_rfl
theorem f_tells (k : Nat) : (lvl (k + 1)).f ("tells" : Str) = fnD n_tells.length (denSs (lvl k) c_tells) := by kernel_rfl
theorem f__law_cell_at (k : Nat) : (lvl (k + 1)).f ("_law_cell_at" : Str) = fnD n__law_cell_at.length (denSs (lvl k) c__law_cell_at) := by kernel_rfl
theorem f__law_draws (k : Nat) : (lvl (k + 1)).f ("_law_draws" : Str) = fnD n__law_draws.length (denSs (lvl k) c__law_draws) := by kernel_rfl
theorem f__law_bag (k : Nat) : (lvl (k + 1)).f ("_law_bag" : Str) = fnD n__law_bag.length (denSs (lvl k) c__law_bag) := by kernel_rfl
theorem f__law_take (k : Nat) : (lvl (k + 1)).f ("_law_take" : Str) = fnD n__law_take.length (denSs (lvl k) c__law_take) := by kernel_rfl
theorem f__law_sorts (k : Nat) : (lvl (k + 1)).f ("_law_sorts" : Str) = fnD n__law_sorts.length (denSs (lvl k) c__law_sorts) := by kernel_rfl
theorem f__law_house (k : Nat) : (lvl (k + 1)).f ("_law_house" : Str) = fnD n__law_house.length (denSs (lvl k) c__law_house) := by kernel_rfl
theorem f__law_weighing (k : Nat) : (lvl (k + 1)).f ("_law_weighing" : Str) = fnD n__law_weighing.length (denSs (lvl k) c__law_weighing) := by kernel_rfl
theorem f__law_row (k : Nat) : (lvl (k + 1)).f ("_law_row" : Str) = fnD n__law_row.length (denSs (lvl k) c__law_row) := by kernel_rfl
theorem f__law_turned (k : Nat) : (lvl (k + 1)).f ("_law_turned" : Str) = fnD n__law_turned.length (denSs (lvl k) c__law_turned) := by kernel_rfl
theorem f__law_both_ways (k : Nat) : (lvl (k + 1)).f ("_law_both_ways" : Str) = fnD n__law_both_ways.length (denSs (lvl k) c__law_both_ways) := by kernel_rfl
theorem f__law_plain_house (k : Nat) : (lvl (k + 1)).f ("_law_plain_house" : Str) = fnD n__law_plain_house.length (denSs (lvl k) c__law_plain_house) := by kernel_rfl
def sgn (n : Int) : Int := (if 0 < n then 1 else 0) - (if n < 0 then 1 else 0)
theorem ev_sign (k : Nat) (n : Int) (s : D) : (lvl (k + 1)).f ("sign" : Str) [some (.int n)] s = some ((.pf, .int (sgn n)), s) := by
  rw [f_sign]
  simp [n_sign, c_sign_1, c_sign, fnD, rho0, denSs, denS, den, dens, denB, denO, denF, denI, denX, dBo, dAnd, dOr, dB, dT, dNot, dIf, dNeg, dIsi, isDict, instB, tyD, sSeq, sRet, sRetv, sNil, sSet, sIf, sDrop, sApp, sPutL, sPutC, sPutD, sPar, sBind, sFrz, Co.putAll, Co.ent, d2, binD, cmpD, Bi.den, dCall, dCons, dNil, dVar, dC, dGlob, dChain, dTup, dLst, pfs?, dFrz, dCallF, xVal, xCel, xNil, dIxC, dIxS, dLenS, dDnew, dDisp1, leD, gtD, geD, ltD, addD, subD, mulD, mulE, modD, fdivD, fdivE, powD, absD, Co.intD, lenD, tupleD, listD, bindT, bindTs, Tgs.len, wipeR, idxE, idxD, atI_0, atI_1, atI_2, ixN_21, dSl, dPart, sliceD, sgn]
/-! ### draws -/
def Bag (s : D) : Prop := ∃ (ns : List Int) (p : Int), s = .list [.list (ns.map .int), .int p] ∧ 0 < ns.length
theorem ev_take (k : Nat) (m : Int) (s : D) (hs : Bag s) (hm : 0 < m) : ∃ r s', (lvl (k + 1)).f ("_law_take" : Str) [none, some (.int m)] s = some ((.pf, .int r), s') ∧ 0 ≤ r ∧ r < m ∧ Bag s' := by
  obtain ⟨ns, p, rfl, hn⟩ := hs
  have hl : (0 : Int) < ns.length := by omega
  have h1 : 0 ≤ (p + 1) % (ns.length : Int) := Int.emod_nonneg _ (by omega)
  have h2 : (p + 1) % (ns.length : Int) < ns.length := Int.emod_lt_of_pos _ hl
  have h3 : ((p + 1) % (ns.length : Int)).toNat < ns.length := by omega
  refine ⟨ns[((p + 1) % (ns.length : Int)).toNat] % m, .list [.list (ns.map .int), .int (p + 1)], ?_, Int.emod_nonneg _ (by omega), Int.emod_lt_of_pos _ hm, ns, p + 1, rfl, hn⟩
  have a1 : atI (ns.map PyData.int) ((p + 1) % (ns.length : Int)) = some (.int ns[((p + 1) % (ns.length : Int)).toNat]) := by
    unfold atI ixN
    rw [List.length_map]
    simp [h1, h2, h3]
  rw [f__law_take]
  simp [n__law_take, c__law_take_1, c__law_take_2, c__law_take, fnD, rho0, denSs, denS, den, dens, denB, denO, denF, denI, denX, dBo, dAnd, dOr, dB, dT, dNot, dIf, dNeg, dIsi, isDict, instB, tyD, sSeq, sRet, sRetv, sNil, sSet, sIf, sDrop, sApp, sPutL, sPutC, sPutD, sPar, sBind, sFrz, Co.putAll, Co.ent, d2, binD, cmpD, Bi.den, dCall, dCons, dNil, dVar, dC, dGlob, dChain, dTup, dLst, pfs?, dFrz, dCallF, xVal, xCel, xNil, dIxC, dIxS, dLenS, dDnew, dDisp1, leD, gtD, geD, ltD, addD, subD, mulD, mulE, modD, fdivD, fdivE, powD, absD, Co.intD, lenD, tupleD, listD, bindT, bindTs, Tgs.len, wipeR, idxE, idxD, atI_0, atI_1, atI_2, ixN_21, dSl, dPart, sliceD, hn, hm, a1]
end G4
end

section
set_option Elab.async false
set_option linter.all false
set_option maxRecDepth 100000
set_option maxHeartbeats 1000000
set_option autoImplicit false
namespace G4
open PySem L2 Co
theorem ev_cell_at (k : Nat) (ns : List Int) (j : Nat) : ∃ c : Int, (lvl (k + 1)).f ("_law_cell_at" : Str) [none, some (.int j)] (.tuple [.list (ns.map .int)]) = some ((.pf, .int c), .tuple [.list (ns.map .int)]) := by
  rw [f__law_cell_at]
  by_cases h : j < ns.length
  · have a1 : atI (ns.map PyData.int) (j : Int) = some (.int ns[j]) := atI_nat (by omega) (by simp [h])
    refine ⟨ns[j], ?_⟩
    simp [n__law_cell_at, c__law_cell_at_1, b__law_cell_at_1, c__law_cell_at_2, c__law_cell_at_3, c__law_cell_at, fnD, rho0, denSs, denS, den, dens, denB, denO, denF, denI, denX, dBo, dAnd, dOr, dB, dT, dNot, dIf, dNeg, dIsi, isDict, instB, tyD, sSeq, sRet, sRetv, sNil, sSet, sIf, sDrop, sApp, sPutL, sPutC, sPutD, sPar, sBind, sFrz, Co.putAll, Co.ent, d2, binD, cmpD, Bi.den, dCall, dCons, dNil, dVar, dC, dGlob, dChain, dTup, dLst, pfs?, dFrz, dCallF, xVal, xCel, xNil, dIxC, dIxS, dLenS, dDnew, dDisp1, leD, gtD, geD, ltD, addD, subD, mulD, mulE, modD, fdivD, fdivE, powD, absD, Co.intD, lenD, tupleD, listD, bindT, bindTs, Tgs.len, wipeR, idxE, idxD, atI_0, atI_1, atI_2, ixN_21, dSl, dPart, sliceD, h, a1]
  · refine ⟨0, ?_⟩
    simp [n__law_cell_at, c__law_cell_at_1, b__law_cell_at_1, c__law_cell_at_2, c__law_cell_at_3, c__law_cell_at, fnD, rho0, denSs, denS, den, dens, denB, denO, denF, denI, denX, dBo, dAnd, dOr, dB, dT, dNot, dIf, dNeg, dIsi, isDict, instB, tyD, sSeq, sRet, sRetv, sNil, sSet, sIf, sDrop, sApp, sPutL, sPutC, sPutD, sPar, sBind, sFrz, Co.putAll, Co.ent, d2, binD, cmpD, Bi.den, dCall, dCons, dNil, dVar, dC, dGlob, dChain, dTup, dLst, pfs?, dFrz, dCallF, xVal, xCel, xNil, dIxC, dIxS, dLenS, dDnew, dDisp1, leD, gtD, geD, ltD, addD, subD, mulD, mulE, modD, fdivD, fdivE, powD, absD, Co.intD, lenD, tupleD, listD, bindT, bindTs, Tgs.len, wipeR, idxE, idxD, atI_0, atI_1, atI_2, ixN_21, dSl, dPart, sliceD, h]
theorem cmul_l {a b : Int} (h1 : 0 ≤ a) (h2 : a < 18446744073709551616) : cmulB a b = true := by
  unfold cmulB
  rw [Bool.or_eq_true]
  refine .inl (decide_eq_true ⟨by omega, by omega⟩)
theorem cmul_r {a b : Int} (h1 : 0 ≤ b) (h2 : b < 18446744073709551616) : cmulB a b = true := by
  unfold cmulB
  rw [Bool.or_eq_true]
  refine .inr (decide_eq_true ⟨by omega, by omega⟩)
def DrI (c : Int) (i : Nat) (ρ : Rho) (s0 s : D) : Prop := s = s0 ∧ ∃ (ds : List Int) (rest st : Int) (x : Option Ent), ρ = [some (.val (.int c)), some (.val (.int 400)), some (.val (.int 1000)), some (.own (.list (ds.map .int))), some (.val (.int rest)), some (.val (.int st)), x] ∧ ds.length = i - 3 ∧ 0 ≤ st ∧ st < 2305843009213693951
theorem dr_step (k : Nat) (c : Int) (s : D) (i : Nat) (d : D) (ρ : Rho) (s' : D) (hd : ((List.range 403).map fun i => PyData.int (i : Nat))[i]? = some d) (hI : DrI c i ρ s s') :
    ∃ ρ1 ρ2 s2, bindT (.one 6) d ρ = some ρ1 ∧ denSs (lvl k) b__law_draws_4 ρ1 s' = some (.nx ρ2, s2) ∧ DrI c (i + 1) ρ2 s s2 := by
  obtain ⟨hi, rfl⟩ := range_get hd
  obtain ⟨rfl, ds, rest, st, x, rfl, hl, b1, b2⟩ := hI
  have m1 : cmulB st st = true := cmul_l b1 (by omega)
  have m2 : cmulB 48271 st = true := cmul_l (by decide) (by decide)
  have n1 : 0 ≤ (st * st + 48271 * st + (i : Int) + 1) % 2305843009213693951 := Int.emod_nonneg _ (by decide)
  have n2 : (st * st + 48271 * st + (i : Int) + 1) % 2305843009213693951 < 2305843009213693951 := Int.emod_lt_of_pos _ (by decide)
  have z1 : ds.length < sizeLine := by rw [sizeLine_eq]; omega
  refine ⟨[some (.val (.int c)), some (.val (.int 400)), some (.val (.int 1000)), some (.own (.list (ds.map .int))), some (.val (.int rest)), some (.val (.int st)), some (.val (.int i))], ?_⟩
  by_cases g1 : 2 < i
  · have g1' : (2 : Int) < (i : Int) := by omega
    by_cases g2 : 0 < rest
    · refine ⟨[some (.val (.int c)), some (.val (.int 400)), some (.val (.int 1000)), some (.own (.list ((ds ++ [rest % 1000]).map .int))), some (.val (.int (rest / 1000))), some (.val (.int ((st * st + 48271 * st + (i : Int) + 1) % 2305843009213693951))), some (.val (.int i))], s', by rw [bindT]; rfl, ?_, rfl, _, _, _, _, rfl, by simp; omega, n1, n2⟩
      simp [b__law_draws_4, c__law_draws_5, c__law_draws_6, b__law_draws_1, c__law_draws_1, c__law_draws_2, fnD, rho0, denSs, denS, den, dens, denB, denO, denF, denI, denX, dBo, dAnd, dOr, dB, dT, dNot, dIf, dNeg, dIsi, isDict, instB, tyD, sSeq, sRet, sRetv, sNil, sSet, sIf, sDrop, sApp, sPutL, sPutC, sPutD, sPar, sBind, sFrz, Co.putAll, Co.ent, d2, binD, cmpD, Bi.den, dCall, dCons, dNil, dVar, dC, dGlob, dChain, dTup, dLst, pfs?, dFrz, dCallF, xVal, xCel, xNil, dIxC, dIxS, dLenS, dDnew, dDisp1, leD, gtD, geD, ltD, addD, subD, mulD, mulE, modD, fdivD, fdivE, powD, absD, Co.intD, lenD, tupleD, listD, bindT, bindTs, Tgs.len, wipeR, idxE, idxD, atI_0, atI_1, atI_2, ixN_21, dSl, dPart, sliceD, m1, m2, g1, g1', g2, z1]
    · refine ⟨[some (.val (.int c)), some (.val (.int 400)), some (.val (.int 1000)), some (.own (.list ((ds ++ [((st * st + 48271 * st + (i : Int) + 1) % 2305843009213693951) / 4096 % 1000]).map .int))), some (.val (.int rest)), some (.val (.int ((st * st + 48271 * st + (i : Int) + 1) % 2305843009213693951))), some (.val (.int i))], s', by rw [bindT]; rfl, ?_, rfl, _, _, _, _, rfl, by simp; omega, n1, n2⟩
      simp [b__law_draws_4, c__law_draws_5, c__law_draws_6, b__law_draws_3, c__law_draws_4, b__law_draws_2, c__law_draws_3, fnD, rho0, denSs, denS, den, dens, denB, denO, denF, denI, denX, dBo, dAnd, dOr, dB, dT, dNot, dIf, dNeg, dIsi, isDict, instB, tyD, sSeq, sRet, sRetv, sNil, sSet, sIf, sDrop, sApp, sPutL, sPutC, sPutD, sPar, sBind, sFrz, Co.putAll, Co.ent, d2, binD, cmpD, Bi.den, dCall, dCons, dNil, dVar, dC, dGlob, dChain, dTup, dLst, pfs?, dFrz, dCallF, xVal, xCel, xNil, dIxC, dIxS, dLenS, dDnew, dDisp1, leD, gtD, geD, ltD, addD, subD, mulD, mulE, modD, fdivD, fdivE, powD, absD, Co.intD, lenD, tupleD, listD, bindT, bindTs, Tgs.len, wipeR, idxE, idxD, atI_0, atI_1, atI_2, ixN_21, dSl, dPart, sliceD, m1, m2, g1, g1', g2, z1]
  · have g1' : ¬ (2 : Int) < (i : Int) := by omega
    refine ⟨[some (.val (.int c)), some (.val (.int 400)), some (.val (.int 1000)), some (.own (.list (ds.map .int))), some (.val (.int rest)), some (.val (.int ((st * st + 48271 * st + (i : Int) + 1) % 2305843009213693951))), some (.val (.int i))], s', by rw [bindT]; rfl, ?_, rfl, _, _, _, _, rfl, by omega, n1, n2⟩
    simp [b__law_draws_4, c__law_draws_5, c__law_draws_6, b__law_draws_3, c__law_draws_4, b__law_draws_2, c__law_draws_3, fnD, rho0, denSs, denS, den, dens, denB, denO, denF, denI, denX, dBo, dAnd, dOr, dB, dT, dNot, dIf, dNeg, dIsi, isDict, instB, tyD, sSeq, sRet, sRetv, sNil, sSet, sIf, sDrop, sApp, sPutL, sPutC, sPutD, sPar, sBind, sFrz, Co.putAll, Co.ent, d2, binD, cmpD, Bi.den, dCall, dCons, dNil, dVar, dC, dGlob, dChain, dTup, dLst, pfs?, dFrz, dCallF, xVal, xCel, xNil, dIxC, dIxS, dLenS, dDnew, dDisp1, leD, gtD, geD, ltD, addD, subD, mulD, mulE, modD, fdivD, fdivE, powD, absD, Co.intD, lenD, tupleD, listD, bindT, bindTs, Tgs.len, wipeR, idxE, idxD, atI_0, atI_1, atI_2, ixN_21, dSl, dPart, sliceD, m1, m2, g1, g1', z1]
theorem ev_draws (k : Nat) (c : Int) (s : D) : ∃ ds : List Int, (lvl (k + 1)).f ("_law_draws" : Str) [some (.int c), some (.int 400), some (.int 1000)] s = some ((.fr, .list (ds.map .int)), s) ∧ 0 < ds.length := by
  rw [f__law_draws]
  have p1 : powD (.int 10) (.int 18) = some (.pf, .int 1000000000000000000) := by
    show (if (0 : Int) ≤ 18 ∧ (18 : Int) ≤ 1000000 ∧ (10 : Int).natAbs < 2 ^ 64 then some (Fl.pf, PyData.int (10 ^ (18 : Int).toNat)) else none) = _
    rw [if_pos (by decide)]
    rfl
  have e2 : denS (lvl k) c__law_draws_8 [some (.val (.int c)), some (.val (.int 400)), some (.val (.int 1000)), some (.own (.list [])), none, none, none] s = some (.nx [some (.val (.int c)), some (.val (.int 400)), some (.val (.int 1000)), some (.own (.list [])), some (.val (.int (c * (if 1000000000000000000 ≤ c then 1 else 0)))), none, none], s) := by
    by_cases h : 1000000000000000000 ≤ c
    · have m : cmulB c 1 = true := cmul_r (by decide) (by decide)
      simp [c__law_draws_8, denS, sSet, den, d2, binD, dVar, dCall, dens, dCons, dNil, Bi.den, cmpD, dC, p1, geD, Co.intD, h, mulD, mulE, m, Co.ent]
    · have m : cmulB c 0 = true := cmul_r (by decide) (by decide)
      simp [c__law_draws_8, denS, sSet, den, d2, binD, dVar, dCall, dens, dCons, dNil, Bi.den, cmpD, dC, p1, geD, Co.intD, h, mulD, mulE, m, Co.ent]
  obtain ⟨ρ', s', h1, h2⟩ := for_nx (t := .one 6) (g := denI (lvl k) true (.range (.cons (.bin .Add (.var 1) (.cst (.int 3))) .nil))) (body := denSs (lvl k) b__law_draws_4)
    (ρ := [some (.val (.int c)), some (.val (.int 400)), some (.val (.int 1000)), some (.own (.list [])), some (.val (.int (c * (if 1000000000000000000 ≤ c then 1 else 0)))), some (.val (.int (c % 2305843009213693951))), none]) (s := s) (s1 := s) (ds := (List.range 403).map fun i => .int (i : Nat)) (by simp [fnD, rho0, denSs, denS, den, dens, denB, denO, denF, denI, denX, dBo, dAnd, dOr, dB, dT, dNot, dIf, dNeg, dIsi, isDict, instB, tyD, sSeq, sRet, sRetv, sNil, sSet, sIf, sDrop, sApp, sPutL, sPutC, sPutD, sPar, sBind, sFrz, Co.putAll, Co.ent, d2, binD, cmpD, Bi.den, dCall, dCons, dNil, dVar, dC, dGlob, dChain, dTup, dLst, pfs?, dFrz, dCallF, xVal, xCel, xNil, dIxC, dIxS, dLenS, dDnew, dDisp1, leD, gtD, geD, ltD, addD, subD, mulD, mulE, modD, fdivD, fdivE, powD, absD, Co.intD, lenD, tupleD, listD, bindT, bindTs, Tgs.len, wipeR, idxE, idxD, atI_0, atI_1, atI_2, ixN_21, dSl, dPart, sliceD, dRange]) (fun i ρ s' => DrI c i ρ s s')
    ⟨rfl, [], _, _, none, rfl, rfl, Int.emod_nonneg _ (by decide), Int.emod_lt_of_pos _ (by decide)⟩ (dr_step k c s)
  obtain ⟨rfl, ds, rest, st, x, rfl, hl, _⟩ := h2
  rw [List.length_map, List.length_range] at hl
  refine ⟨ds, fn_rt (r := (.fr, .list (ds.map .int))) ?_ (by simp), by omega⟩
  refine run_cons (ρ1 := [some (.val (.int c)), some (.val (.int 400)), some (.val (.int 1000)), some (.own (.list [])), none, none, none]) (s1 := s') (by simp [c__law_draws_7, n__law_draws, fnD, rho0, denSs, denS, den, dens, denB, denO, denF, denI, denX, dBo, dAnd, dOr, dB, dT, dNot, dIf, dNeg, dIsi, isDict, instB, tyD, sSeq, sRet, sRetv, sNil, sSet, sIf, sDrop, sApp, sPutL, sPutC, sPutD, sPar, sBind, sFrz, Co.putAll, Co.ent, d2, binD, cmpD, Bi.den, dCall, dCons, dNil, dVar, dC, dGlob, dChain, dTup, dLst, pfs?, dFrz, dCallF, xVal, xCel, xNil, dIxC, dIxS, dLenS, dDnew, dDisp1, leD, gtD, geD, ltD, addD, subD, mulD, mulE, modD, fdivD, fdivE, powD, absD, Co.intD, lenD, tupleD, listD, bindT, bindTs, Tgs.len, wipeR, idxE, idxD, atI_0, atI_1, atI_2, ixN_21, dSl, dPart, sliceD]) ?_
  refine run_cons e2 ?_
  refine run_cons (ρ1 := [some (.val (.int c)), some (.val (.int 400)), some (.val (.int 1000)), some (.own (.list [])), some (.val (.int (c * (if 1000000000000000000 ≤ c then 1 else 0)))), some (.val (.int (c % 2305843009213693951))), none]) (s1 := s') (by simp [c__law_draws_9, fnD, rho0, denSs, denS, den, dens, denB, denO, denF, denI, denX, dBo, dAnd, dOr, dB, dT, dNot, dIf, dNeg, dIsi, isDict, instB, tyD, sSeq, sRet, sRetv, sNil, sSet, sIf, sDrop, sApp, sPutL, sPutC, sPutD, sPar, sBind, sFrz, Co.putAll, Co.ent, d2, binD, cmpD, Bi.den, dCall, dCons, dNil, dVar, dC, dGlob, dChain, dTup, dLst, pfs?, dFrz, dCallF, xVal, xCel, xNil, dIxC, dIxS, dLenS, dDnew, dDisp1, leD, gtD, geD, ltD, addD, subD, mulD, mulE, modD, fdivD, fdivE, powD, absD, Co.intD, lenD, tupleD, listD, bindT, bindTs, Tgs.len, wipeR, idxE, idxD, atI_0, atI_1, atI_2, ixN_21, dSl, dPart, sliceD]) ?_
  refine run_cons (a := c__law_draws_10) h1 ?_
  exact run_ret (by simp [c__law_draws_11, fnD, rho0, denSs, denS, den, dens, denB, denO, denF, denI, denX, dBo, dAnd, dOr, dB, dT, dNot, dIf, dNeg, dIsi, isDict, instB, tyD, sSeq, sRet, sRetv, sNil, sSet, sIf, sDrop, sApp, sPutL, sPutC, sPutD, sPar, sBind, sFrz, Co.putAll, Co.ent, d2, binD, cmpD, Bi.den, dCall, dCons, dNil, dVar, dC, dGlob, dChain, dTup, dLst, pfs?, dFrz, dCallF, xVal, xCel, xNil, dIxC, dIxS, dLenS, dDnew, dDisp1, leD, gtD, geD, ltD, addD, subD, mulD, mulE, modD, fdivD, fdivE, powD, absD, Co.intD, lenD, tupleD, listD, bindT, bindTs, Tgs.len, wipeR, idxE, idxD, atI_0, atI_1, atI_2, ixN_21, dSl, dPart, sliceD])
theorem ev_bag (k : Nat) (ns : List Int) (j : Nat) : ∃ es, (lvl (k + 2)).f ("_law_bag" : Str) [none, some (.int j)] (.tuple [.list (ns.map .int)]) = some ((.fr, .list es), .tuple [.list (ns.map .int)]) ∧ Bag (.list es) := by
  obtain ⟨c, h1⟩ := ev_cell_at k ns j
  obtain ⟨ds, h2, h3⟩ := ev_draws k c (.tuple [.list (ns.map .int)])
  refine ⟨[.list (ds.map .int), .int 0], ?_, ds, 0, rfl, h3⟩
  rw [f__law_bag]
  have z : 2 ≤ sizeLine := by decide
  simp [n__law_bag, c__law_bag_1, c__law_bag, fnD, rho0, denSs, denS, den, dens, denB, denO, denF, denI, denX, dBo, dAnd, dOr, dB, dT, dNot, dIf, dNeg, dIsi, isDict, instB, tyD, sSeq, sRet, sRetv, sNil, sSet, sIf, sDrop, sApp, sPutL, sPutC, sPutD, sPar, sBind, sFrz, Co.putAll, Co.ent, d2, binD, cmpD, Bi.den, dCall, dCons, dNil, dVar, dC, dGlob, dChain, dTup, dLst, pfs?, dFrz, dCallF, xVal, xCel, xNil, dIxC, dIxS, dLenS, dDnew, dDisp1, leD, gtD, geD, ltD, addD, subD, mulD, mulE, modD, fdivD, fdivE, powD, absD, Co.intD, lenD, tupleD, listD, bindT, bindTs, Tgs.len, wipeR, idxE, idxD, atI_0, atI_1, atI_2, ixN_21, dSl, dPart, sliceD, h1, h2, z]
theorem bags_ok (ns : List Int) : ∃ ds, bagsF 11 [none, some (.int 8)] (.tuple [.list (ns.map .int)]) = some (ds, .tuple [.list (ns.map .int)]) ∧ ∀ d ∈ ds, Bag d := by
  obtain ⟨n, hn, hn2, hg⟩ : ∃ n : Int, 0 ≤ n ∧ n ≤ 16777216 ∧ denI (lvl 11) false b_bags.it (rho0 n__law_bags.length [none, some (.int 8)]) (.tuple [.list (ns.map .int)]) = some ((List.range n.toNat).map fun i => .int (i : Nat), .tuple [.list (ns.map .int)]) := by
    refine ⟨if (if (ns.length : Int) < 8 then (ns.length : Int) else 8) > 1 then (if (ns.length : Int) < 8 then (ns.length : Int) else 8) else 1, ?_, ?_, ?_⟩
    · split <;> (try split) <;> omega
    · split <;> (try split) <;> omega
    · have h1 : (0 : Int) ≤ (if (if (ns.length : Int) < 8 then (ns.length : Int) else 8) > 1 then (if (ns.length : Int) < 8 then (ns.length : Int) else 8) else 1) ∧ (if (if (ns.length : Int) < 8 then (ns.length : Int) else 8) > 1 then (if (ns.length : Int) < 8 then (ns.length : Int) else 8) else 1) ≤ 16777216 := by
        split <;> (try split) <;> omega
      have e : dens (lvl 11) (.cons (.bi .max (.cons (.cst (.int 1)) (.cons (.bi .min (.cons (.var 1) (.cons (.lens 0) .nil))) .nil))) .nil) (rho0 n__law_bags.length [none, some (.int 8)]) (.tuple [.list (ns.map .int)]) = some ([(.pf, .int (if (if (ns.length : Int) < 8 then (ns.length : Int) else 8) > 1 then (if (ns.length : Int) < 8 then (ns.length : Int) else 8) else 1))], .tuple [.list (ns.map .int)]) := by
        simp [n__law_bags, fnD, rho0, denSs, denS, den, dens, denB, denO, denF, denI, denX, dBo, dAnd, dOr, dB, dT, dNot, dIf, dNeg, dIsi, isDict, instB, tyD, sSeq, sRet, sRetv, sNil, sSet, sIf, sDrop, sApp, sPutL, sPutC, sPutD, sPar, sBind, sFrz, Co.putAll, Co.ent, d2, binD, cmpD, Bi.den, dCall, dCons, dNil, dVar, dC, dGlob, dChain, dTup, dLst, pfs?, dFrz, dCallF, xVal, xCel, xNil, dIxC, dIxS, dLenS, dDnew, dDisp1, leD, gtD, geD, ltD, addD, subD, mulD, mulE, modD, fdivD, fdivE, powD, absD, Co.intD, lenD, tupleD, listD, bindT, bindTs, Tgs.len, wipeR, idxE, idxD, atI_0, atI_1, atI_2, ixN_21, dSl, dPart, sliceD, minE, maxE]
      have eb : b_bags.it = .range (.cons (.bi .max (.cons (.cst (.int 1)) (.cons (.bi .min (.cons (.var 1) (.cons (.lens 0) .nil))) .nil))) .nil) := rfl
      rw [eb, denI]
      unfold dRange
      rw [e]
      simp only []
      rw [if_pos h1]
  obtain ⟨out, h1, h2⟩ := lcf_st (P := Bag) (g := denI (lvl 11) false b_bags.it) (t := .one 2) (vs := [2]) (f := den (lvl 11) b_bags.e) (ρ := rho0 n__law_bags.length [none, some (.int 8)]) (s := .tuple [.list (ns.map .int)]) ((List.range n.toNat).map fun i => .int (i : Nat)) [] (fun d hd => by
    obtain ⟨i, _, rfl⟩ := List.mem_map.mp hd
    obtain ⟨es, e1, e2⟩ := ev_bag 9 ns i
    refine ⟨[some .cell, some (.val (.int 8)), some (.val (.int i))], es, by simp [n__law_bags, rho0, wipeR, bindT], ?_, e2⟩
    simp [b_bags, fnD, rho0, denSs, denS, den, dens, denB, denO, denF, denI, denX, dBo, dAnd, dOr, dB, dT, dNot, dIf, dNeg, dIsi, isDict, instB, tyD, sSeq, sRet, sRetv, sNil, sSet, sIf, sDrop, sApp, sPutL, sPutC, sPutD, sPar, sBind, sFrz, Co.putAll, Co.ent, d2, binD, cmpD, Bi.den, dCall, dCons, dNil, dVar, dC, dGlob, dChain, dTup, dLst, pfs?, dFrz, dCallF, xVal, xCel, xNil, dIxC, dIxS, dLenS, dDnew, dDisp1, leD, gtD, geD, ltD, addD, subD, mulD, mulE, modD, fdivD, fdivE, powD, absD, Co.intD, lenD, tupleD, listD, bindT, bindTs, Tgs.len, wipeR, idxE, idxD, atI_0, atI_1, atI_2, ixN_21, dSl, dPart, sliceD, e1]) (fun d hd => by cases hd)
  refine ⟨out, ?_, h2⟩
  unfold bagsF BagsC.den dLcF
  rw [hg]
  exact h1
end G4
end

section
set_option Elab.async false
set_option linter.all false
set_option maxRecDepth 100000
set_option maxHeartbeats 2000000
set_option autoImplicit false
namespace G4
open PySem L2 Co
/-! ### sorts -/
inductive SrtOk : D → Prop
  | tru : SrtOk (.tuple [.str "true"])
  | lies : SrtOk (.tuple [.str "lies"])
  | echo : SrtOk (.tuple [.str "echo"])
  | turns (i : Int) : SrtOk (.tuple [.str "turns", .int i])
  | leans (i : Int) : SrtOk (.tuple [.str "leans", .int i])
  | sticks (i : Int) : SrtOk (.tuple [.str "sticks", .int i])
theorem SrtOk.tup {d : D} (h : SrtOk d) : isTup d = true := by cases h <;> rfl
theorem SrtOk.nk {d : D} (h : SrtOk d) : nkB d = true := by cases h <;> rfl
theorem SrtOk.kEq {d : D} (h : SrtOk d) : keyEq d d = true := by cases h <;> simp [keyEq, Co.nk, nks]
theorem SrtOk.tupB {d : D} (h : SrtOk d) : tupB d = true := by cases h <;> rfl
theorem SrtOk.alike {d e : D} (h : SrtOk d) (h' : SrtOk e) : PySem.W.alike d e = true := by cases h <;> cases h' <;> simp [PySem.W.alike, PySem.W.alikeAll]
theorem SrtOk.depth {d : D} (h : SrtOk d) : d.depth ≤ 5 := by cases h <;> simp [PyData.depth, PyData.depthAll]
theorem depth_all {ds : List D} {n : Nat} (h : ∀ d ∈ ds, d.depth ≤ n) : PyData.depthAll ds ≤ n := by
  induction ds with
  | nil => unfold PyData.depthAll; exact Nat.zero_le _
  | cons d ds ih =>
    unfold PyData.depthAll
    have h1 := h d (List.mem_cons_self ..)
    have h2 := ih fun e he => h e (List.mem_cons_of_mem _ he)
    omega
theorem sortL_srt {ds : List D} (h : ∀ d ∈ ds, SrtOk d) : sortL ds = some (.fr, .list (srt ds)) := by
  unfold sortL
  rw [if_pos]
  refine ⟨?_, ?_, Nat.le_trans (depth_all fun d hd => (h d hd).depth) (by decide)⟩
  · unfold alikeB
    rw [List.all_eq_true]
    intro d hd
    rw [List.all_eq_true]
    intro e he
    exact (h d hd).alike (h e he)
  · unfold sortableB
    rw [Bool.or_eq_true, List.all_eq_true]
    exact .inl fun d hd => (h d hd).tupB
def SoI (so : List D) (i : Nat) (ρ : Rho) (s : D) : Prop := Bag s ∧ ∃ (kvs : List (D × D)) (x : Option Ent), ρ = [some .cell, some (.val (.int 4)), some (.val (.int 9)), some (.val (.list so)), some (.own (.dict kvs)), x] ∧ (∀ p ∈ kvs, SrtOk p.1) ∧ kvs.length ≤ i ∧ (0 < i → 0 < kvs.length) ∧ (kvs.map (·.1)).Nodup
theorem so_step (k : Nat) (so : List D) (hso : ∀ d ∈ so, SrtOk d) (hl : so.length = 8) (n i : Nat) (d : D) (ρ : Rho) (s : D) (hn : n ≤ 4) (hd : ((List.range n).map fun i => PyData.int (i : Nat))[i]? = some d) (hI : SoI so i ρ s) :
    ∃ ρ1 ρ2 s2, bindT (.one 5) d ρ = some ρ1 ∧ denSs (lvl (k + 1)) b__law_sorts_1 ρ1 s = some (.nx ρ2, s2) ∧ SoI so (i + 1) ρ2 s2 := by
  obtain ⟨hi, rfl⟩ := range_get hd
  obtain ⟨hb, kvs, x, rfl, h1, h2, h3, h4⟩ := hI
  obtain ⟨r, s', e1, r0, r1, hb'⟩ := ev_take k 8 s hb (by decide)
  have hr : r.toNat < so.length := by omega
  have a1 : atI so r = some so[r.toNat] := atI_nat r0 (by rw [List.getElem?_eq_getElem hr])
  have ok := hso _ (List.getElem_mem hr)
  have k1 : okKey kvs so[r.toNat] = true := by
    unfold okKey
    rw [if_pos ok.tup, Bool.and_eq_true, List.all_eq_true]
    exact ⟨fun p hp => (h1 p hp).tup, ok.nk⟩
  have z : kvs.length < sizeLine := by rw [sizeLine_eq]; omega
  refine ⟨[some .cell, some (.val (.int 4)), some (.val (.int 9)), some (.val (.list so)), some (.own (.dict kvs)), some (.val (.int i))], [some .cell, some (.val (.int 4)), some (.val (.int 9)), some (.val (.list so)), some (.own (.dict (putD kvs so[r.toNat] (.bool true)))), some (.val (.int i))], s', by rw [bindT]; rfl, ?_, hb', _, _, rfl, ?_, ?_, ?_, putD_keys ok.kEq h4⟩
  · simp [b__law_sorts_1, c__law_sorts_1, fnD, rho0, denSs, denS, den, dens, denB, denO, denF, denI, denX, dBo, dAnd, dOr, dB, dT, dNot, dIf, dNeg, dIsi, isDict, instB, tyD, sSeq, sRet, sRetv, sNil, sSet, sIf, sDrop, sApp, sPutL, sPutC, sPutD, sPar, sBind, sFrz, Co.putAll, Co.ent, d2, binD, cmpD, Bi.den, dCall, dCons, dNil, dVar, dC, dGlob, dChain, dTup, dLst, pfs?, dFrz, dCallF, xVal, xCel, xNil, dIxC, dIxS, dLenS, dDnew, dDisp1, leD, gtD, geD, ltD, addD, subD, mulD, mulE, modD, fdivD, fdivE, powD, absD, Co.intD, lenD, tupleD, listD, bindT, bindTs, Tgs.len, wipeR, idxE, idxD, atI_0, atI_1, atI_2, ixN_21, dSl, dPart, sliceD, hl, e1, a1, k1, z]
  · intro p hp
    rcases putD_mem hp with e | ⟨q, hq, e⟩
    · rw [e]; exact ok
    · rw [← e]; exact h1 q hq
  · have := putD_len1 (kvs := kvs) (k := so[r.toNat]) (v := .bool true)
    omega
  · exact fun _ => putD_pos
theorem ev_sorts (k : Nat) (s : D) (hb : Bag s) : ∃ ds s', (lvl (k + 2)).f ("_law_sorts" : Str) [none, some (.int 4), some (.int 9)] s = some ((.pf, .tuple ds), s') ∧ Bag s' ∧ 0 < ds.length ∧ ds.length ≤ 4 ∧ (∀ d ∈ ds, SrtOk d) ∧ Up ds := by
  rw [f__law_sorts]
  obtain ⟨r1, s1, e1, _, _, b1⟩ := ev_take k 9 s hb (by decide)
  obtain ⟨r2, s2, e2, _, _, b2⟩ := ev_take k 9 s1 b1 (by decide)
  obtain ⟨r3, s3, e3, _, _, b3⟩ := ev_take k 9 s2 b2 (by decide)
  obtain ⟨r4, s4, e4, r40, r41, b4⟩ := ev_take k 4 s3 b3 (by decide)
  have z2 : 2 ≤ sizeLine := by decide
  have z5 : 5 ≤ sizeLine := by decide
  have z7 : 7 ≤ sizeLine := by decide
  have z8 : 8 ≤ sizeLine := by decide
  have z1 : 1 ≤ sizeLine := by decide
  let so0 : List D := [.tuple [.str "true"], .tuple [.str "lies"], .tuple [.str "echo"], .tuple [.str "turns", .int 0], .tuple [.str "turns", .int 1]]
  let so1 : List D := [.tuple [.str "true"], .tuple [.str "lies"], .tuple [.str "echo"], .tuple [.str "turns", .int 0], .tuple [.str "turns", .int 1], .tuple [.str "leans", .int (1 + r1)], .tuple [.str "leans", .int (-1 - r2)]]
  let so : List D := [.tuple [.str "true"], .tuple [.str "lies"], .tuple [.str "echo"], .tuple [.str "turns", .int 0], .tuple [.str "turns", .int 1], .tuple [.str "leans", .int (1 + r1)], .tuple [.str "leans", .int (-1 - r2)], .tuple [.str "sticks", .int (1 + r3)]]
  have hso : ∀ d ∈ so, SrtOk d := by
    intro d hd
    simp only [so, List.mem_cons, List.not_mem_nil, or_false] at hd
    rcases hd with rfl | rfl | rfl | rfl | rfl | rfl | rfl | rfl
    · exact .tru
    · exact .lies
    · exact .echo
    · exact .turns _
    · exact .turns _
    · exact .leans _
    · exact .leans _
    · exact .sticks _
  obtain ⟨ρ', s', h1, h2⟩ := for_nx (t := .one 5) (g := denI (lvl (k + 1)) true (.range (.cons (.bin .Add (.cst (.int 1)) (.call ("_law_take" : Str) 2 (.cel 0 (.val (.var 1) .nil)))) .nil))) (body := denSs (lvl (k + 1)) b__law_sorts_1)
    (ρ := [some .cell, some (.val (.int 4)), some (.val (.int 9)), some (.val (.list so)), some (.own (.dict [])), none]) (s := s3) (s1 := s4) (ds := (List.range (1 + r4).toNat).map fun i => .int (i : Nat)) (by
      rw [denI]
      exact rangeE (n := 1 + r4) (fl := .pf) (by omega) (by omega) (by simp [fnD, rho0, denSs, denS, den, dens, denB, denO, denF, denI, denX, dBo, dAnd, dOr, dB, dT, dNot, dIf, dNeg, dIsi, isDict, instB, tyD, sSeq, sRet, sRetv, sNil, sSet, sIf, sDrop, sApp, sPutL, sPutC, sPutD, sPar, sBind, sFrz, Co.putAll, Co.ent, d2, binD, cmpD, Bi.den, dCall, dCons, dNil, dVar, dC, dGlob, dChain, dTup, dLst, pfs?, dFrz, dCallF, xVal, xCel, xNil, dIxC, dIxS, dLenS, dDnew, dDisp1, leD, gtD, geD, ltD, addD, subD, mulD, mulE, modD, fdivD, fdivE, powD, absD, Co.intD, lenD, tupleD, listD, bindT, bindTs, Tgs.len, wipeR, idxE, idxD, atI_0, atI_1, atI_2, ixN_21, dSl, dPart, sliceD, e4])) (SoI so)
    ⟨b4, [], none, rfl, by simp, by simp, by simp, by simp⟩ (fun i d ρ s => so_step k so hso rfl _ i d ρ s (by omega))
  obtain ⟨hb', kvs, x, rfl, g1, g2, g3, g5⟩ := h2
  rw [List.length_map, List.length_range] at g2 g3
  have g4 : ∀ d ∈ kvs.map (·.1), SrtOk d := fun d hd => by
    obtain ⟨p, hp, rfl⟩ := List.mem_map.mp hd
    exact g1 p hp
  refine ⟨srt (kvs.map (·.1)), s', fn_rt (r := (.pf, .tuple (srt (kvs.map (·.1))))) ?_ (by simp), hb', ?_, ?_, fun d hd => g4 d (srt_mem.mp hd), Up.srt g5⟩
  · refine run_cons (ρ1 := [some .cell, some (.val (.int 4)), some (.val (.int 9)), some (.val (.list so0)), none, none]) (s1 := s) (by simp [c__law_sorts_2, n__law_sorts, fnD, rho0, denSs, denS, den, dens, denB, denO, denF, denI, denX, dBo, dAnd, dOr, dB, dT, dNot, dIf, dNeg, dIsi, isDict, instB, tyD, sSeq, sRet, sRetv, sNil, sSet, sIf, sDrop, sApp, sPutL, sPutC, sPutD, sPar, sBind, sFrz, Co.putAll, Co.ent, d2, binD, cmpD, Bi.den, dCall, dCons, dNil, dVar, dC, dGlob, dChain, dTup, dLst, pfs?, dFrz, dCallF, xVal, xCel, xNil, dIxC, dIxS, dLenS, dDnew, dDisp1, leD, gtD, geD, ltD, addD, subD, mulD, mulE, modD, fdivD, fdivE, powD, absD, Co.intD, lenD, tupleD, listD, bindT, bindTs, Tgs.len, wipeR, idxE, idxD, atI_0, atI_1, atI_2, ixN_21, dSl, dPart, sliceD, z1, z2, z5, so0]) ?_
    refine run_cons (ρ1 := [some .cell, some (.val (.int 4)), some (.val (.int 9)), some (.val (.list so1)), none, none]) (s1 := s2) (by simp [c__law_sorts_3, fnD, rho0, denSs, denS, den, dens, denB, denO, denF, denI, denX, dBo, dAnd, dOr, dB, dT, dNot, dIf, dNeg, dIsi, isDict, instB, tyD, sSeq, sRet, sRetv, sNil, sSet, sIf, sDrop, sApp, sPutL, sPutC, sPutD, sPar, sBind, sFrz, Co.putAll, Co.ent, d2, binD, cmpD, Bi.den, dCall, dCons, dNil, dVar, dC, dGlob, dChain, dTup, dLst, pfs?, dFrz, dCallF, xVal, xCel, xNil, dIxC, dIxS, dLenS, dDnew, dDisp1, leD, gtD, geD, ltD, addD, subD, mulD, mulE, modD, fdivD, fdivE, powD, absD, Co.intD, lenD, tupleD, listD, bindT, bindTs, Tgs.len, wipeR, idxE, idxD, atI_0, atI_1, atI_2, ixN_21, dSl, dPart, sliceD, z2, z7, so0, so1, e1, e2]) ?_
    refine run_cons (ρ1 := [some .cell, some (.val (.int 4)), some (.val (.int 9)), some (.val (.list so)), none, none]) (s1 := s3) (by simp [c__law_sorts_4, fnD, rho0, denSs, denS, den, dens, denB, denO, denF, denI, denX, dBo, dAnd, dOr, dB, dT, dNot, dIf, dNeg, dIsi, isDict, instB, tyD, sSeq, sRet, sRetv, sNil, sSet, sIf, sDrop, sApp, sPutL, sPutC, sPutD, sPar, sBind, sFrz, Co.putAll, Co.ent, d2, binD, cmpD, Bi.den, dCall, dCons, dNil, dVar, dC, dGlob, dChain, dTup, dLst, pfs?, dFrz, dCallF, xVal, xCel, xNil, dIxC, dIxS, dLenS, dDnew, dDisp1, leD, gtD, geD, ltD, addD, subD, mulD, mulE, modD, fdivD, fdivE, powD, absD, Co.intD, lenD, tupleD, listD, bindT, bindTs, Tgs.len, wipeR, idxE, idxD, atI_0, atI_1, atI_2, ixN_21, dSl, dPart, sliceD, z1, z2, z8, so1, so, e3]) ?_
    refine run_cons (ρ1 := [some .cell, some (.val (.int 4)), some (.val (.int 9)), some (.val (.list so)), some (.own (.dict [])), none]) (s1 := s3) (by simp [c__law_sorts_5, fnD, rho0, denSs, denS, den, dens, denB, denO, denF, denI, denX, dBo, dAnd, dOr, dB, dT, dNot, dIf, dNeg, dIsi, isDict, instB, tyD, sSeq, sRet, sRetv, sNil, sSet, sIf, sDrop, sApp, sPutL, sPutC, sPutD, sPar, sBind, sFrz, Co.putAll, Co.ent, d2, binD, cmpD, Bi.den, dCall, dCons, dNil, dVar, dC, dGlob, dChain, dTup, dLst, pfs?, dFrz, dCallF, xVal, xCel, xNil, dIxC, dIxS, dLenS, dDnew, dDisp1, leD, gtD, geD, ltD, addD, subD, mulD, mulE, modD, fdivD, fdivE, powD, absD, Co.intD, lenD, tupleD, listD, bindT, bindTs, Tgs.len, wipeR, idxE, idxD, atI_0, atI_1, atI_2, ixN_21, dSl, dPart, sliceD]) ?_
    refine run_cons (a := c__law_sorts_6) h1 ?_
    have e5 : sortedE [.dict kvs] = some (.fr, .list (srt (kvs.map (·.1)))) := sortL_srt g4
    exact run_ret (by simp [c__law_sorts_7, fnD, rho0, denSs, denS, den, dens, denB, denO, denF, denI, denX, dBo, dAnd, dOr, dB, dT, dNot, dIf, dNeg, dIsi, isDict, instB, tyD, sSeq, sRet, sRetv, sNil, sSet, sIf, sDrop, sApp, sPutL, sPutC, sPutD, sPar, sBind, sFrz, Co.putAll, Co.ent, d2, binD, cmpD, Bi.den, dCall, dCons, dNil, dVar, dC, dGlob, dChain, dTup, dLst, pfs?, dFrz, dCallF, xVal, xCel, xNil, dIxC, dIxS, dLenS, dDnew, dDisp1, leD, gtD, geD, ltD, addD, subD, mulD, mulE, modD, fdivD, fdivE, powD, absD, Co.intD, lenD, tupleD, listD, bindT, bindTs, Tgs.len, wipeR, idxE, idxD, atI_0, atI_1, atI_2, ixN_21, dSl, dPart, sliceD, e5])
  · rw [srt_len, List.length_map]
    exact g3 (by omega)
  · rw [srt_len, List.length_map]
    omega
end G4
end

section
set_option Elab.async false
set_option linter.all false
set_option maxRecDepth 100000
set_option maxHeartbeats 2000000
set_option autoImplicit false
namespace G4
open PySem L2 Co
/-! ### houses -/
def isInt (d : D) : Prop := ∃ i : Int, d = .int i
def thD (p : Str × List D) : D := .tuple [.str p.1, .tuple p.2]
def hD (ts ss : List (Str × List D)) : D := .tuple [.tuple (ts.map thD), .tuple (ss.map thD)]
def tN : List Str := [("ax" : Str), ("bo" : Str), ("cy" : Str), ("di" : Str)]
def sN : List Str := [("p" : Str), ("q" : Str), ("r" : Str)]
def TwOk (p : Str × List D) : Prop := 0 < p.2.length ∧ p.2.length ≤ 3 ∧ (∀ d ∈ p.2, isInt d) ∧ Up p.2
def SwOk (p : Str × List D) : Prop := 0 < p.2.length ∧ p.2.length ≤ 8 ∧ (∀ d ∈ p.2, SrtOk d) ∧ Up p.2
structure HouseOk (ts ss : List (Str × List D)) : Prop where
  tn : ∃ n, 0 < n ∧ n ≤ 4 ∧ ts.map (·.1) = tN.take n
  tw : ∀ p ∈ ts, TwOk p
  sn : ∃ n, 0 < n ∧ n ≤ 3 ∧ ss.map (·.1) = sN.take n
  sw : ∀ p ∈ ss, SwOk p
theorem sortL_ints {ds : List D} (h : ∀ d ∈ ds, isInt d) : sortL ds = some (.fr, .list (srt ds)) := by
  unfold sortL
  rw [if_pos]
  refine ⟨?_, ?_, Nat.le_trans (depth_all (n := 5) fun d hd => ?_) (by decide)⟩
  · unfold alikeB
    rw [List.all_eq_true]
    intro d hd
    rw [List.all_eq_true]
    intro e he
    obtain ⟨i, rfl⟩ := h d hd
    obtain ⟨j, rfl⟩ := h e he
    simp [PySem.W.alike]
  · unfold sortableB
    rw [Bool.or_eq_true, List.all_eq_true, List.all_eq_true]
    refine .inr fun d hd => ?_
    obtain ⟨i, rfl⟩ := h d hd
    rfl
  · obtain ⟨i, rfl⟩ := h d hd
    simp [PyData.depth]
theorem ok_int {kvs : List (D × D)} (h : ∀ p ∈ kvs, isInt p.1) (i : Int) : okKey kvs (.int i) = true := by
  unfold okKey
  rw [if_neg (by simp [isTup]), Bool.and_eq_true, List.all_eq_true]
  refine ⟨fun p hp => ?_, rfl⟩
  obtain ⟨j, e⟩ := h p hp
  rw [e]
  rfl
def InI (B : Int) (nm : D) (th : List D) (many : Int) (x9 : Option Ent) (i : Nat) (ρ : Rho) (s : D) : Prop := Bag s ∧ ∃ (kvs : List (D × D)) (x : Option Ent), ρ = [some .cell, some (.val (.int B)), some (.val (.int 9)), some (.val nm), some (.own (.list th)), some (.own (.list [])), some (.val (.int many)), some (.own (.dict kvs)), x, x9] ∧ (∀ p ∈ kvs, isInt p.1) ∧ kvs.length ≤ i + 1 ∧ 0 < kvs.length ∧ (kvs.map (·.1)).Nodup
theorem in_step (B : Int) (k : Nat) (nm : D) (th : List D) (many : Int) (x9 : Option Ent) (n i : Nat) (d : D) (ρ : Rho) (s : D) (hn : n ≤ 2) (hd : ((List.range n).map fun i => PyData.int (i : Nat))[i]? = some d) (hI : InI B nm th many x9 i ρ s) :
    ∃ ρ1 ρ2 s2, bindT (.one 8) d ρ = some ρ1 ∧ denSs (lvl (k + 1)) b__law_house_2 ρ1 s = some (.nx ρ2, s2) ∧ InI B nm th many x9 (i + 1) ρ2 s2 := by
  obtain ⟨hi, rfl⟩ := range_get hd
  obtain ⟨hb, kvs, x, rfl, h1, h2, h3, h4⟩ := hI
  have m1 : cmulB many ((kvs.length : Int) + 1) = true := cmul_r (by omega) (by omega)
  have z : kvs.length < sizeLine := by rw [sizeLine_eq]; omega
  refine ⟨[some .cell, some (.val (.int B)), some (.val (.int 9)), some (.val nm), some (.own (.list th)), some (.own (.list [])), some (.val (.int many)), some (.own (.dict kvs)), some (.val (.int i)), x9], ?_⟩
  by_cases g : many * ((kvs.length : Int) + 1) ≤ B
  · obtain ⟨r, s', e1, r0, r1, hb'⟩ := ev_take k 9 s hb (by decide)
    have k1 := ok_int h1 (1 + r)
    refine ⟨[some .cell, some (.val (.int B)), some (.val (.int 9)), some (.val nm), some (.own (.list th)), some (.own (.list [])), some (.val (.int many)), some (.own (.dict (putD kvs (.int (1 + r)) (.bool true)))), some (.val (.int i)), x9], s', by rw [bindT]; rfl, ?_, hb', _, _, rfl, ?_, ?_, putD_pos, putD_keys (by simp [keyEq, nk]) h4⟩
    · simp [b__law_house_2, c__law_house_2, b__law_house_1, c__law_house_1, fnD, rho0, denSs, denS, den, dens, denB, denO, denF, denI, denX, dBo, dAnd, dOr, dB, dT, dNot, dIf, dNeg, dIsi, isDict, instB, tyD, sSeq, sRet, sRetv, sNil, sSet, sIf, sDrop, sApp, sPutL, sPutC, sPutD, sPar, sBind, sFrz, Co.putAll, Co.ent, d2, binD, cmpD, Bi.den, dCall, dCons, dNil, dVar, dC, dGlob, dChain, dTup, dLst, pfs?, dFrz, dCallF, xVal, xCel, xNil, dIxC, dIxS, dLenS, dDnew, dDisp1, leD, gtD, geD, ltD, addD, subD, mulD, mulE, modD, fdivD, fdivE, powD, absD, Co.intD, lenD, tupleD, listD, bindT, bindTs, Tgs.len, wipeR, idxE, idxD, atI_0, atI_1, atI_2, ixN_21, dSl, dPart, sliceD, e1, m1, g, k1, z]
    · intro p hp
      rcases putD_mem hp with e | ⟨q, hq, e⟩
      · exact ⟨_, e⟩
      · rw [← e]; exact h1 q hq
    · have := putD_len1 (kvs := kvs) (k := .int (1 + r)) (v := .bool true)
      omega
  · refine ⟨[some .cell, some (.val (.int B)), some (.val (.int 9)), some (.val nm), some (.own (.list th)), some (.own (.list [])), some (.val (.int many)), some (.own (.dict kvs)), some (.val (.int i)), x9], s, by rw [bindT]; rfl, ?_, hb, _, _, rfl, h1, by omega, h3, h4⟩
    simp [b__law_house_2, c__law_house_2, fnD, rho0, denSs, denS, den, dens, denB, denO, denF, denI, denX, dBo, dAnd, dOr, dB, dT, dNot, dIf, dNeg, dIsi, isDict, instB, tyD, sSeq, sRet, sRetv, sNil, sSet, sIf, sDrop, sApp, sPutL, sPutC, sPutD, sPar, sBind, sFrz, Co.putAll, Co.ent, d2, binD, cmpD, Bi.den, dCall, dCons, dNil, dVar, dC, dGlob, dChain, dTup, dLst, pfs?, dFrz, dCallF, xVal, xCel, xNil, dIxC, dIxS, dLenS, dDnew, dDisp1, leD, gtD, geD, ltD, addD, subD, mulD, mulE, modD, fdivD, fdivE, powD, absD, Co.intD, lenD, tupleD, listD, bindT, bindTs, Tgs.len, wipeR, idxE, idxD, atI_0, atI_1, atI_2, ixN_21, dSl, dPart, sliceD, m1, g]
def ThI (B : Int) (i : Nat) (ρ : Rho) (s : D) : Prop := Bag s ∧ ∃ (ts : List (Str × List D)) (many : Int) (x3 x7 x8 x9 : Option Ent), ρ = [some .cell, some (.val (.int B)), some (.val (.int 9)), x3, some (.own (.list (ts.map thD))), some (.own (.list [])), some (.val (.int many)), x7, x8, x9] ∧ ts.map (·.1) = tN.take i ∧ ∀ p ∈ ts, TwOk p
theorem th_step (B : Int) (k : Nat) (n i : Nat) (d : D) (ρ : Rho) (s : D) (hn : n ≤ 4) (hd : ((tN.take n).map PyData.str)[i]? = some d) (hI : ThI B i ρ s) :
    ∃ ρ1 ρ2 s2, bindT (.one 3) d ρ = some ρ1 ∧ denSs (lvl (k + 1)) b__law_house_3 ρ1 s = some (.nx ρ2, s2) ∧ ThI B (i + 1) ρ2 s2 := by
  obtain ⟨hb, ts, many, x3, x7, x8, x9, rfl, h1, h2⟩ := hI
  rw [List.getElem?_map] at hd
  cases hnm : (tN.take n)[i]? with
  | none => rw [hnm] at hd; cases hd
  | some nm =>
    rw [hnm] at hd
    cases hd
    have hnm2 : tN[i]? = some nm := by
      rw [List.getElem?_take] at hnm
      split at hnm
      · exact hnm
      · cases hnm
    have hi : i < 4 := (List.getElem?_eq_some_iff.mp hnm2).1
    have lts : ts.length ≤ 4 := by
      have := congrArg List.length h1
      rw [List.length_map, List.length_take] at this
      omega
    obtain ⟨r1, s1, e1, _, _, b1⟩ := ev_take k 9 s hb (by decide)
    obtain ⟨r2, s2, e2, r20, r21, b2⟩ := ev_take k 3 s1 b1 (by decide)
    obtain ⟨ρ', s', h3, h4⟩ := for_nx (t := .one 8) (g := denI (lvl (k + 1)) true (.range (.cons (.call ("_law_take" : Str) 2 (.cel 0 (.val (.cst (.int 3)) .nil))) .nil))) (body := denSs (lvl (k + 1)) b__law_house_2)
      (ρ := [some .cell, some (.val (.int B)), some (.val (.int 9)), some (.val (.str nm)), some (.own (.list (ts.map thD))), some (.own (.list [])), some (.val (.int many)), some (.own (.dict [(.int (1 + r1), .bool true)])), x8, x9]) (s := s1) (s1 := s2) (ds := (List.range r2.toNat).map fun i => .int (i : Nat)) (by
        rw [denI]
        exact rangeE (n := r2) (fl := .pf) (by omega) (by omega) (by simp [fnD, rho0, denSs, denS, den, dens, denB, denO, denF, denI, denX, dBo, dAnd, dOr, dB, dT, dNot, dIf, dNeg, dIsi, isDict, instB, tyD, sSeq, sRet, sRetv, sNil, sSet, sIf, sDrop, sApp, sPutL, sPutC, sPutD, sPar, sBind, sFrz, Co.putAll, Co.ent, d2, binD, cmpD, Bi.den, dCall, dCons, dNil, dVar, dC, dGlob, dChain, dTup, dLst, pfs?, dFrz, dCallF, xVal, xCel, xNil, dIxC, dIxS, dLenS, dDnew, dDisp1, leD, gtD, geD, ltD, addD, subD, mulD, mulE, modD, fdivD, fdivE, powD, absD, Co.intD, lenD, tupleD, listD, bindT, bindTs, Tgs.len, wipeR, idxE, idxD, atI_0, atI_1, atI_2, ixN_21, dSl, dPart, sliceD, e2])) (InI B (.str nm) (ts.map thD) many x9)
      ⟨b2, _, _, rfl, by simp [isInt], by simp, by simp, by simp⟩ (fun i d ρ s => in_step B k _ _ _ _ _ i d ρ s (by omega))
    obtain ⟨b3, kvs, x, rfl, g1, g2, g3, g6⟩ := h4
    rw [List.length_map, List.length_range] at g2
    have g4 : ∀ d ∈ kvs.map (·.1), isInt d := fun d hd => by
      obtain ⟨p, hp, rfl⟩ := List.mem_map.mp hd
      exact g1 p hp
    have m1 : cmulB many (kvs.length : Int) = true := cmul_r (by omega) (by omega)
    have e5 : sortedE [.dict kvs] = some (.fr, .list (srt (kvs.map (·.1)))) := sortL_ints g4
    have z2 : 2 ≤ sizeLine := by decide
    have z : ts.length < sizeLine := by rw [sizeLine_eq]; omega
    refine ⟨[some .cell, some (.val (.int B)), some (.val (.int 9)), some (.val (.str nm)), some (.own (.list (ts.map thD))), some (.own (.list [])), some (.val (.int many)), x7, x8, x9], [some .cell, some (.val (.int B)), some (.val (.int 9)), some (.val (.str nm)), some (.own (.list ((ts ++ [(nm, srt (kvs.map (·.1)))]).map thD))), some (.own (.list [])), some (.val (.int (many * kvs.length))), some (.own (.dict kvs)), x, x9], s', by rw [bindT]; rfl, ?_, b3, _, _, _, _, _, _, rfl, ?_, ?_⟩
    · refine run_cons (ρ1 := [some .cell, some (.val (.int B)), some (.val (.int 9)), some (.val (.str nm)), some (.own (.list (ts.map thD))), some (.own (.list [])), some (.val (.int many)), some (.own (.dict [(.int (1 + r1), .bool true)])), x8, x9]) (s1 := s1) (by simp [c__law_house_3, fnD, rho0, denSs, denS, den, dens, denB, denO, denF, denI, denX, dBo, dAnd, dOr, dB, dT, dNot, dIf, dNeg, dIsi, isDict, instB, tyD, sSeq, sRet, sRetv, sNil, sSet, sIf, sDrop, sApp, sPutL, sPutC, sPutD, sPar, sBind, sFrz, Co.putAll, Co.ent, d2, binD, cmpD, Bi.den, dCall, dCons, dNil, dVar, dC, dGlob, dChain, dTup, dLst, pfs?, dFrz, dCallF, xVal, xCel, xNil, dIxC, dIxS, dLenS, dDnew, dDisp1, leD, gtD, geD, ltD, addD, subD, mulD, mulE, modD, fdivD, fdivE, powD, absD, Co.intD, lenD, tupleD, listD, bindT, bindTs, Tgs.len, wipeR, idxE, idxD, atI_0, atI_1, atI_2, ixN_21, dSl, dPart, sliceD, e1, sKey]) ?_
      refine run_cons (a := c__law_house_4) h3 ?_
      refine run_cons (ρ1 := [some .cell, some (.val (.int B)), some (.val (.int 9)), some (.val (.str nm)), some (.own (.list (ts.map thD))), some (.own (.list [])), some (.val (.int (many * kvs.length))), some (.own (.dict kvs)), x, x9]) (s1 := s') (by simp [c__law_house_5, fnD, rho0, denSs, denS, den, dens, denB, denO, denF, denI, denX, dBo, dAnd, dOr, dB, dT, dNot, dIf, dNeg, dIsi, isDict, instB, tyD, sSeq, sRet, sRetv, sNil, sSet, sIf, sDrop, sApp, sPutL, sPutC, sPutD, sPar, sBind, sFrz, Co.putAll, Co.ent, d2, binD, cmpD, Bi.den, dCall, dCons, dNil, dVar, dC, dGlob, dChain, dTup, dLst, pfs?, dFrz, dCallF, xVal, xCel, xNil, dIxC, dIxS, dLenS, dDnew, dDisp1, leD, gtD, geD, ltD, addD, subD, mulD, mulE, modD, fdivD, fdivE, powD, absD, Co.intD, lenD, tupleD, listD, bindT, bindTs, Tgs.len, wipeR, idxE, idxD, atI_0, atI_1, atI_2, ixN_21, dSl, dPart, sliceD, m1]) ?_
      refine run_cons (ρ1 := [some .cell, some (.val (.int B)), some (.val (.int 9)), some (.val (.str nm)), some (.own (.list ((ts ++ [(nm, srt (kvs.map (·.1)))]).map thD))), some (.own (.list [])), some (.val (.int (many * kvs.length))), some (.own (.dict kvs)), x, x9]) (s1 := s') (by simp [c__law_house_6, fnD, rho0, denSs, denS, den, dens, denB, denO, denF, denI, denX, dBo, dAnd, dOr, dB, dT, dNot, dIf, dNeg, dIsi, isDict, instB, tyD, sSeq, sRet, sRetv, sNil, sSet, sIf, sDrop, sApp, sPutL, sPutC, sPutD, sPar, sBind, sFrz, Co.putAll, Co.ent, d2, binD, cmpD, Bi.den, dCall, dCons, dNil, dVar, dC, dGlob, dChain, dTup, dLst, pfs?, dFrz, dCallF, xVal, xCel, xNil, dIxC, dIxS, dLenS, dDnew, dDisp1, leD, gtD, geD, ltD, addD, subD, mulD, mulE, modD, fdivD, fdivE, powD, absD, Co.intD, lenD, tupleD, listD, bindT, bindTs, Tgs.len, wipeR, idxE, idxD, atI_0, atI_1, atI_2, ixN_21, dSl, dPart, sliceD, e5, z2, z, thD]) run_nil
    · rw [List.map_append, h1, List.take_add_one, hnm2]
      rfl
    · intro p hp
      rcases List.mem_append.mp hp with hp | hp
      · exact h2 p hp
      · rw [List.mem_singleton.mp hp]
        refine ⟨?_, ?_, fun d hd => g4 d (srt_mem.mp hd), Up.srt g6⟩
        · show 0 < (srt _).length
          rw [srt_len, List.length_map]
          exact g3
        · show (srt _).length ≤ 3
          rw [srt_len, List.length_map]
          omega
end G4
end

section
set_option Elab.async false
set_option linter.all false
set_option maxRecDepth 100000
set_option maxHeartbeats 2000000
set_option autoImplicit false
namespace G4
open PySem L2 Co
theorem wh_test (B : Int) (k : Nat) (x3 x7 x8 : Option Ent) (th sc ds : List D) (many : Int) (s : D) (hl : ds.length ≤ 4) : (dT (den (lvl k) (.bo true (.cons (.cmp .Gt (.bi .len (.cons (.var 9) .nil)) (.cst (.int 1))) (.cons (.cmp .Gt (.bin .Mult (.var 6) (.bi .len (.cons (.var 9) .nil))) (.var 1)) .nil))))) [some .cell, some (.val (.int B)), some (.val (.int 9)), x3, some (.own (.list th)), some (.own (.list sc)), some (.val (.int many)), x7, x8, some (.val (.tuple ds))] s = some (decide (1 < (ds.length : Int)) && decide (B < many * (ds.length : Int)), s) := by
  have m1 : cmulB many (ds.length : Int) = true := cmul_r (by omega) (by omega)
  by_cases g : 1 < (ds.length : Int) <;> by_cases g2 : B < many * (ds.length : Int) <;> simp [fnD, rho0, denSs, denS, den, dens, denB, denO, denF, denI, denX, dBo, dAnd, dOr, dB, dT, dNot, dIf, dNeg, dIsi, isDict, instB, tyD, sSeq, sRet, sRetv, sNil, sSet, sIf, sDrop, sApp, sPutL, sPutC, sPutD, sPar, sBind, sFrz, Co.putAll, Co.ent, d2, binD, cmpD, Bi.den, dCall, dCons, dNil, dVar, dC, dGlob, dChain, dTup, dLst, pfs?, dFrz, dCallF, xVal, xCel, xNil, dIxC, dIxS, dLenS, dDnew, dDisp1, leD, gtD, geD, ltD, addD, subD, mulD, mulE, modD, fdivD, fdivE, powD, absD, Co.intD, lenD, tupleD, listD, bindT, bindTs, Tgs.len, wipeR, idxE, idxD, atI_0, atI_1, atI_2, ixN_21, dSl, dPart, sliceD, m1, g, g2]
theorem wh_ok (B : Int) (k : Nat) (x3 x7 x8 : Option Ent) (th sc : List D) (many : Int) (s : D) : ∀ (n : Nat) (ds : List D), 0 < ds.length → ds.length ≤ 4 → ds.length < n + 1 →
    ∃ ds', whileLoop (dT (den (lvl k) (.bo true (.cons (.cmp .Gt (.bi .len (.cons (.var 9) .nil)) (.cst (.int 1))) (.cons (.cmp .Gt (.bin .Mult (.var 6) (.bi .len (.cons (.var 9) .nil))) (.var 1)) .nil))))) (denSs (lvl k) b__law_house_4) (n + 1) [some .cell, some (.val (.int B)), some (.val (.int 9)), x3, some (.own (.list th)), some (.own (.list sc)), some (.val (.int many)), x7, x8, some (.val (.tuple ds))] s = some (.nx [some .cell, some (.val (.int B)), some (.val (.int 9)), x3, some (.own (.list th)), some (.own (.list sc)), some (.val (.int many)), x7, x8, some (.val (.tuple ds'))], s) ∧ 0 < ds'.length ∧ ds'.length ≤ 4 ∧ ds'.Sublist ds
  | n, ds, h0, h1, h2 => by
    have t := wh_test B k x3 x7 x8 th sc ds many s h1
    by_cases g : (decide (1 < (ds.length : Int)) && decide (B < many * (ds.length : Int))) = true
    · rw [g] at t
      rw [Bool.and_eq_true, decide_eq_true_eq, decide_eq_true_eq] at g
      cases n with
      | zero => omega
      | succ n =>
        have hd : 0 < (ds.drop 1).length := by rw [List.length_drop]; omega
        obtain ⟨ds', e1, e2, e3, e4⟩ := wh_ok B k x3 x7 x8 th sc many s n (ds.drop 1) hd (by rw [List.length_drop]; omega) (by rw [List.length_drop]; omega)
        refine ⟨ds', ?_, e2, e3, e4.trans (List.drop_sublist ..)⟩
        have b : denSs (lvl k) b__law_house_4 [some .cell, some (.val (.int B)), some (.val (.int 9)), x3, some (.own (.list th)), some (.own (.list sc)), some (.val (.int many)), x7, x8, some (.val (.tuple ds))] s = some (.nx [some .cell, some (.val (.int B)), some (.val (.int 9)), x3, some (.own (.list th)), some (.own (.list sc)), some (.val (.int many)), x7, x8, some (.val (.tuple (ds.drop 1)))], s) := by
          have c1 : cut ds (some 1) none = ds.drop 1 := cut_from (by decide)
          simp [b__law_house_4, c__law_house_7, fnD, rho0, denSs, denS, den, dens, denB, denO, denF, denI, denX, dBo, dAnd, dOr, dB, dT, dNot, dIf, dNeg, dIsi, isDict, instB, tyD, sSeq, sRet, sRetv, sNil, sSet, sIf, sDrop, sApp, sPutL, sPutC, sPutD, sPar, sBind, sFrz, Co.putAll, Co.ent, d2, binD, cmpD, Bi.den, dCall, dCons, dNil, dVar, dC, dGlob, dChain, dTup, dLst, pfs?, dFrz, dCallF, xVal, xCel, xNil, dIxC, dIxS, dLenS, dDnew, dDisp1, leD, gtD, geD, ltD, addD, subD, mulD, mulE, modD, fdivD, fdivE, powD, absD, Co.intD, lenD, tupleD, listD, bindT, bindTs, Tgs.len, wipeR, idxE, idxD, atI_0, atI_1, atI_2, ixN_21, dSl, dPart, sliceD, c1]
        rw [whileLoop]
        simp only [t, b, Option.bind_eq_bind, Option.bind_some, if_true]
        exact e1
    · have g' : (decide (1 < (ds.length : Int)) && decide (B < many * (ds.length : Int))) = false := by simpa using g
      rw [g'] at t
      refine ⟨ds, ?_, h0, h1, List.Sublist.refl _⟩
      rw [whileLoop]
      simp [t]
def ScI (B : Int) (th : List D) (i : Nat) (ρ : Rho) (s : D) : Prop := Bag s ∧ ∃ (ss : List (Str × List D)) (many : Int) (x3 x7 x8 x9 : Option Ent), ρ = [some .cell, some (.val (.int B)), some (.val (.int 9)), x3, some (.own (.list th)), some (.own (.list (ss.map thD))), some (.val (.int many)), x7, x8, x9] ∧ ss.map (·.1) = sN.take i ∧ (∀ p ∈ ss, SwOk p) ∧ ∀ p ∈ ss, p.2.length ≤ 4
theorem sc_step (B : Int) (k : Nat) (th : List D) (n i : Nat) (d : D) (ρ : Rho) (s : D) (hn : n ≤ 3) (hd : ((sN.take n).map PyData.str)[i]? = some d) (hI : ScI B th i ρ s) :
    ∃ ρ1 ρ2 s2, bindT (.one 3) d ρ = some ρ1 ∧ denSs (lvl (k + 2)) b__law_house_5 ρ1 s = some (.nx ρ2, s2) ∧ ScI B th (i + 1) ρ2 s2 := by
  obtain ⟨hb, ss, many, x3, x7, x8, x9, rfl, h1, h2, h5⟩ := hI
  rw [List.getElem?_map] at hd
  cases hnm : (sN.take n)[i]? with
  | none => rw [hnm] at hd; cases hd
  | some nm =>
    rw [hnm] at hd
    cases hd
    have hnm2 : sN[i]? = some nm := by
      rw [List.getElem?_take] at hnm
      split at hnm
      · exact hnm
      · cases hnm
    have hi : i < 3 := (List.getElem?_eq_some_iff.mp hnm2).1
    have lss : ss.length ≤ 3 := by
      have := congrArg List.length h1
      rw [List.length_map, List.length_take] at this
      omega
    obtain ⟨ds, s1, e1, b1, l1, l2, ok, up⟩ := ev_sorts k s hb
    obtain ⟨ds', e2, l3, l4, sub⟩ := wh_ok B (k + 2) (some (.val (.str nm))) x7 x8 th (ss.map thD) many s1 99 ds l1 l2 (by omega)
    have m1 : cmulB many (ds'.length : Int) = true := cmul_r (by omega) (by omega)
    have z2 : 2 ≤ sizeLine := by decide
    have z : ss.length < sizeLine := by rw [sizeLine_eq]; omega
    refine ⟨[some .cell, some (.val (.int B)), some (.val (.int 9)), some (.val (.str nm)), some (.own (.list th)), some (.own (.list (ss.map thD))), some (.val (.int many)), x7, x8, x9], [some .cell, some (.val (.int B)), some (.val (.int 9)), some (.val (.str nm)), some (.own (.list th)), some (.own (.list ((ss ++ [(nm, ds')]).map thD))), some (.val (.int (many * ds'.length))), x7, x8, some (.val (.tuple ds'))], s1, by rw [bindT]; rfl, ?_, b1, _, _, _, _, _, _, rfl, ?_, ?_, ?_⟩
    · refine run_cons (ρ1 := [some .cell, some (.val (.int B)), some (.val (.int 9)), some (.val (.str nm)), some (.own (.list th)), some (.own (.list (ss.map thD))), some (.val (.int many)), x7, x8, some (.val (.tuple ds))]) (s1 := s1) (by simp [c__law_house_8, fnD, rho0, denSs, denS, den, dens, denB, denO, denF, denI, denX, dBo, dAnd, dOr, dB, dT, dNot, dIf, dNeg, dIsi, isDict, instB, tyD, sSeq, sRet, sRetv, sNil, sSet, sIf, sDrop, sApp, sPutL, sPutC, sPutD, sPar, sBind, sFrz, Co.putAll, Co.ent, d2, binD, cmpD, Bi.den, dCall, dCons, dNil, dVar, dC, dGlob, dChain, dTup, dLst, pfs?, dFrz, dCallF, xVal, xCel, xNil, dIxC, dIxS, dLenS, dDnew, dDisp1, leD, gtD, geD, ltD, addD, subD, mulD, mulE, modD, fdivD, fdivE, powD, absD, Co.intD, lenD, tupleD, listD, bindT, bindTs, Tgs.len, wipeR, idxE, idxD, atI_0, atI_1, atI_2, ixN_21, dSl, dPart, sliceD, e1]) ?_
      refine run_cons (a := c__law_house_9) (by rw [c__law_house_9, denS]; exact e2) ?_
      refine run_cons (ρ1 := [some .cell, some (.val (.int B)), some (.val (.int 9)), some (.val (.str nm)), some (.own (.list th)), some (.own (.list (ss.map thD))), some (.val (.int (many * ds'.length))), x7, x8, some (.val (.tuple ds'))]) (s1 := s1) (by simp [c__law_house_10, fnD, rho0, denSs, denS, den, dens, denB, denO, denF, denI, denX, dBo, dAnd, dOr, dB, dT, dNot, dIf, dNeg, dIsi, isDict, instB, tyD, sSeq, sRet, sRetv, sNil, sSet, sIf, sDrop, sApp, sPutL, sPutC, sPutD, sPar, sBind, sFrz, Co.putAll, Co.ent, d2, binD, cmpD, Bi.den, dCall, dCons, dNil, dVar, dC, dGlob, dChain, dTup, dLst, pfs?, dFrz, dCallF, xVal, xCel, xNil, dIxC, dIxS, dLenS, dDnew, dDisp1, leD, gtD, geD, ltD, addD, subD, mulD, mulE, modD, fdivD, fdivE, powD, absD, Co.intD, lenD, tupleD, listD, bindT, bindTs, Tgs.len, wipeR, idxE, idxD, atI_0, atI_1, atI_2, ixN_21, dSl, dPart, sliceD, m1]) ?_
      refine run_cons (ρ1 := [some .cell, some (.val (.int B)), some (.val (.int 9)), some (.val (.str nm)), some (.own (.list th)), some (.own (.list ((ss ++ [(nm, ds')]).map thD))), some (.val (.int (many * ds'.length))), x7, x8, some (.val (.tuple ds'))]) (s1 := s1) (by simp [c__law_house_11, fnD, rho0, denSs, denS, den, dens, denB, denO, denF, denI, denX, dBo, dAnd, dOr, dB, dT, dNot, dIf, dNeg, dIsi, isDict, instB, tyD, sSeq, sRet, sRetv, sNil, sSet, sIf, sDrop, sApp, sPutL, sPutC, sPutD, sPar, sBind, sFrz, Co.putAll, Co.ent, d2, binD, cmpD, Bi.den, dCall, dCons, dNil, dVar, dC, dGlob, dChain, dTup, dLst, pfs?, dFrz, dCallF, xVal, xCel, xNil, dIxC, dIxS, dLenS, dDnew, dDisp1, leD, gtD, geD, ltD, addD, subD, mulD, mulE, modD, fdivD, fdivE, powD, absD, Co.intD, lenD, tupleD, listD, bindT, bindTs, Tgs.len, wipeR, idxE, idxD, atI_0, atI_1, atI_2, ixN_21, dSl, dPart, sliceD, z2, z, thD]) run_nil
    · rw [List.map_append, h1, List.take_add_one, hnm2]
      rfl
    · intro p hp
      rcases List.mem_append.mp hp with hp | hp
      · exact h2 p hp
      · rw [List.mem_singleton.mp hp]
        exact ⟨l3, Nat.le_trans l4 (by decide), fun d hd => ok d (sub.subset hd), up.sub sub⟩
    · intro p hp
      rcases List.mem_append.mp hp with hp | hp
      · exact h5 p hp
      · rw [List.mem_singleton.mp hp]
        exact l4
theorem ev_house4 (B : Int) (k : Nat) (s : D) (hb : Bag s) : ∃ ts ss s', (lvl (k + 3)).f ("_law_house" : Str) [none, some (.int B), some (.int 9)] s = some ((.pf, hD ts ss), s') ∧ Bag s' ∧ HouseOk ts ss ∧ ∀ p ∈ ss, p.2.length ≤ 4 := by
  rw [f__law_house]
  obtain ⟨r1, s1, e1, r10, r11, b1⟩ := ev_take (k + 1) 4 s hb (by decide)
  have z4 : 4 ≤ sizeLine := by decide
  have z3 : 3 ≤ sizeLine := by decide
  have z2 : 2 ≤ sizeLine := by decide
  have c1 : cut (tN.map PyData.str) none (some (1 + r1)) = (tN.take (1 + r1).toNat).map PyData.str := by rw [cut_to (by omega), List.map_take]
  have c1' : cut [PyData.str ("ax" : Str), PyData.str ("bo" : Str), PyData.str ("cy" : Str), PyData.str ("di" : Str)] none (some (1 + r1)) = (tN.take (1 + r1).toNat).map PyData.str := c1
  obtain ⟨ρ1, s2, h1, h2⟩ := for_nx (t := .one 3) (g := denI (lvl (k + 2)) true (.items (.frz (.sl (.lst (.cons (.cst (.str ("ax" : Str))) (.cons (.cst (.str ("bo" : Str))) (.cons (.cst (.str ("cy" : Str))) (.cons (.cst (.str ("di" : Str))) .nil))))) .no (.so (.bin .Add (.cst (.int 1)) (.call ("_law_take" : Str) 2 (.cel 0 (.val (.cst (.int 4)) .nil))))))))) (body := denSs (lvl (k + 2)) b__law_house_3)
    (ρ := [some .cell, some (.val (.int B)), some (.val (.int 9)), none, some (.own (.list [])), some (.own (.list [])), some (.val (.int 1)), none, none, none]) (s := s) (s1 := s1) (ds := (tN.take (1 + r1).toNat).map PyData.str) (by simp [fnD, rho0, denSs, denS, den, dens, denB, denO, denF, denI, denX, dBo, dAnd, dOr, dB, dT, dNot, dIf, dNeg, dIsi, isDict, instB, tyD, sSeq, sRet, sRetv, sNil, sSet, sIf, sDrop, sApp, sPutL, sPutC, sPutD, sPar, sBind, sFrz, Co.putAll, Co.ent, d2, binD, cmpD, Bi.den, dCall, dCons, dNil, dVar, dC, dGlob, dChain, dTup, dLst, pfs?, dFrz, dCallF, xVal, xCel, xNil, dIxC, dIxS, dLenS, dDnew, dDisp1, leD, gtD, geD, ltD, addD, subD, mulD, mulE, modD, fdivD, fdivE, powD, absD, Co.intD, lenD, tupleD, listD, bindT, bindTs, Tgs.len, wipeR, idxE, idxD, atI_0, atI_1, atI_2, ixN_21, dSl, dPart, sliceD, dItemsB, dItems, itemsD, z4, e1, c1']) (ThI B)
    ⟨b1, [], 1, none, none, none, none, rfl, rfl, by simp⟩ (fun i d ρ s => th_step B (k + 1) _ i d ρ s (by omega))
  obtain ⟨b2, ts, many, x3, x7, x8, x9, rfl, t1, t2⟩ := h2
  obtain ⟨r2, s3, e2, r20, r21, b3⟩ := ev_take (k + 1) 3 s2 b2 (by decide)
  have c2 : cut [PyData.str ("p" : Str), PyData.str ("q" : Str), PyData.str ("r" : Str)] none (some (1 + r2)) = (sN.take (1 + r2).toNat).map PyData.str := by
    show cut (sN.map PyData.str) none (some (1 + r2)) = _
    rw [cut_to (by omega), List.map_take]
  obtain ⟨ρ2, s4, h3, h4⟩ := for_nx (t := .one 3) (g := denI (lvl (k + 2)) true (.items (.frz (.sl (.lst (.cons (.cst (.str ("p" : Str))) (.cons (.cst (.str ("q" : Str))) (.cons (.cst (.str ("r" : Str))) .nil)))) .no (.so (.bin .Add (.cst (.int 1)) (.call ("_law_take" : Str) 2 (.cel 0 (.val (.cst (.int 3)) .nil))))))))) (body := denSs (lvl (k + 2)) b__law_house_5)
    (ρ := [some .cell, some (.val (.int B)), some (.val (.int 9)), x3, some (.own (.list (ts.map thD))), some (.own (.list [])), some (.val (.int many)), x7, x8, x9]) (s := s2) (s1 := s3) (ds := (sN.take (1 + r2).toNat).map PyData.str) (by simp [fnD, rho0, denSs, denS, den, dens, denB, denO, denF, denI, denX, dBo, dAnd, dOr, dB, dT, dNot, dIf, dNeg, dIsi, isDict, instB, tyD, sSeq, sRet, sRetv, sNil, sSet, sIf, sDrop, sApp, sPutL, sPutC, sPutD, sPar, sBind, sFrz, Co.putAll, Co.ent, d2, binD, cmpD, Bi.den, dCall, dCons, dNil, dVar, dC, dGlob, dChain, dTup, dLst, pfs?, dFrz, dCallF, xVal, xCel, xNil, dIxC, dIxS, dLenS, dDnew, dDisp1, leD, gtD, geD, ltD, addD, subD, mulD, mulE, modD, fdivD, fdivE, powD, absD, Co.intD, lenD, tupleD, listD, bindT, bindTs, Tgs.len, wipeR, idxE, idxD, atI_0, atI_1, atI_2, ixN_21, dSl, dPart, sliceD, dItemsB, dItems, itemsD, z3, e2, c2]) (ScI B (ts.map thD))
    ⟨b3, [], many, x3, x7, x8, x9, rfl, rfl, by simp, by simp⟩ (fun i d ρ s => sc_step B k _ _ i d ρ s (by omega))
  obtain ⟨b4, ss, many2, y3, y7, y8, y9, rfl, u1, u2, u3⟩ := h4
  rw [List.length_map, List.length_take] at t1 u1
  have lt4 : tN.length = 4 := rfl
  have ls3 : sN.length = 3 := rfl
  refine ⟨ts, ss, s4, fn_rt (r := (.pf, hD ts ss)) ?_ (by simp), b4, ⟨⟨_, by omega, by omega, t1⟩, t2, ⟨_, by omega, by omega, u1⟩, u2⟩, u3⟩
  refine run_cons (ρ1 := [some .cell, some (.val (.int B)), some (.val (.int 9)), none, some (.own (.list [])), some (.own (.list [])), some (.val (.int 1)), none, none, none]) (s1 := s) (by simp [c__law_house_12, n__law_house, fnD, rho0, denSs, denS, den, dens, denB, denO, denF, denI, denX, dBo, dAnd, dOr, dB, dT, dNot, dIf, dNeg, dIsi, isDict, instB, tyD, sSeq, sRet, sRetv, sNil, sSet, sIf, sDrop, sApp, sPutL, sPutC, sPutD, sPar, sBind, sFrz, Co.putAll, Co.ent, d2, binD, cmpD, Bi.den, dCall, dCons, dNil, dVar, dC, dGlob, dChain, dTup, dLst, pfs?, dFrz, dCallF, xVal, xCel, xNil, dIxC, dIxS, dLenS, dDnew, dDisp1, leD, gtD, geD, ltD, addD, subD, mulD, mulE, modD, fdivD, fdivE, powD, absD, Co.intD, lenD, tupleD, listD, bindT, bindTs, Tgs.len, wipeR, idxE, idxD, atI_0, atI_1, atI_2, ixN_21, dSl, dPart, sliceD]) ?_
  refine run_cons (a := c__law_house_13) h1 ?_
  refine run_cons (a := c__law_house_14) h3 ?_
  exact run_ret (by simp [c__law_house_15, fnD, rho0, denSs, denS, den, dens, denB, denO, denF, denI, denX, dBo, dAnd, dOr, dB, dT, dNot, dIf, dNeg, dIsi, isDict, instB, tyD, sSeq, sRet, sRetv, sNil, sSet, sIf, sDrop, sApp, sPutL, sPutC, sPutD, sPar, sBind, sFrz, Co.putAll, Co.ent, d2, binD, cmpD, Bi.den, dCall, dCons, dNil, dVar, dC, dGlob, dChain, dTup, dLst, pfs?, dFrz, dCallF, xVal, xCel, xNil, dIxC, dIxS, dLenS, dDnew, dDisp1, leD, gtD, geD, ltD, addD, subD, mulD, mulE, modD, fdivD, fdivE, powD, absD, Co.intD, lenD, tupleD, listD, bindT, bindTs, Tgs.len, wipeR, idxE, idxD, atI_0, atI_1, atI_2, ixN_21, dSl, dPart, sliceD, hD, z2])
theorem ev_house (B : Int) (k : Nat) (s : D) (hb : Bag s) : ∃ ts ss s', (lvl (k + 3)).f ("_law_house" : Str) [none, some (.int B), some (.int 9)] s = some ((.pf, hD ts ss), s') ∧ Bag s' ∧ HouseOk ts ss := by
  obtain ⟨ts, ss, s', h1, h2, h3, _⟩ := ev_house4 B k s hb
  exact ⟨ts, ss, s', h1, h2, h3⟩
end G4
end

section
set_option Elab.async false
set_option linter.all false
set_option maxRecDepth 100000
set_option maxHeartbeats 2000000
set_option autoImplicit false
namespace G4
open PySem L2 Co
/-! ### weighings -/
def wgD (sc : Str) (l r : List Str) : D := .tuple [.str sc, .tuple (l.map .str), .tuple (r.map .str)]
def WeighOk (ts ss : List (Str × List D)) (d : D) : Prop := ∃ (sc : Str) (l r : List Str), d = wgD sc l r ∧ sc ∈ ss.map (·.1) ∧ l.Sublist (ts.map (·.1)) ∧ r.Sublist (ts.map (·.1)) ∧ ∀ x ∈ l, x ∉ r
theorem HouseOk.nd {ts ss : List (Str × List D)} (h : HouseOk ts ss) : (ts.map (·.1)).Nodup := by
  obtain ⟨n, _, _, e⟩ := h.tn
  rw [e]
  exact (by decide +kernel : tN.Nodup).sublist (List.take_sublist _ _)
theorem HouseOk.tl {ts ss : List (Str × List D)} (h : HouseOk ts ss) : 0 < ts.length ∧ ts.length ≤ 4 := by
  obtain ⟨n, h1, h2, e⟩ := h.tn
  have := congrArg List.length e
  rw [List.length_map, List.length_take, show tN.length = 4 from rfl] at this
  omega
theorem HouseOk.sl {ts ss : List (Str × List D)} (h : HouseOk ts ss) : 0 < ss.length ∧ ss.length ≤ 3 := by
  obtain ⟨n, h1, h2, e⟩ := h.sn
  have := congrArg List.length e
  rw [List.length_map, List.length_take, show sN.length = 3 from rfl] at this
  omega
def WgI (ts ss : List (Str × List D)) (i : Nat) (ρ : Rho) (s : D) : Prop := Bag s ∧ ∃ (l r : List Str) (x4 x5 x6 : Option Ent), ρ = [some .cell, some (.val (hD ts ss)), some (.own (.list (l.map .str))), some (.own (.list (r.map .str))), x4, x5, x6] ∧ l.Sublist ((ts.map (·.1)).take i) ∧ r.Sublist ((ts.map (·.1)).take i) ∧ ∀ x ∈ l, x ∉ r
theorem sub_snoc {xs ys : List Str} {y : Str} (h : xs.Sublist ys) : (xs ++ [y]).Sublist (ys ++ [y]) := h.append (List.Sublist.refl _)
theorem sub_keep {xs ys zs : List Str} (h : xs.Sublist ys) : xs.Sublist (ys ++ zs) := h.trans (List.sublist_append_left _ _)
theorem wg_step (k : Nat) (ts ss : List (Str × List D)) (ho : HouseOk ts ss) (i : Nat) (d : D) (ρ : Rho) (s : D) (hd : (ts.map thD)[i]? = some d) (hI : WgI ts ss i ρ s) :
    ∃ ρ1 ρ2 s2, bindT (.tup (.cons (.one 4) (.cons (.one 5) .nil))) d ρ = some ρ1 ∧ denSs (lvl (k + 1)) b__law_weighing_4 ρ1 s = some (.nx ρ2, s2) ∧ WgI ts ss (i + 1) ρ2 s2 := by
  obtain ⟨hb, l, r, x4, x5, x6, rfl, h1, h2, h3⟩ := hI
  rw [List.getElem?_map] at hd
  cases hp : ts[i]? with
  | none => rw [hp] at hd; cases hd
  | some p =>
    rw [hp] at hd
    cases hd
    have hl := (List.getElem?_eq_some_iff.mp hp).1
    have tl := ho.tl
    have tk : (ts.map (·.1)).take (i + 1) = (ts.map (·.1)).take i ++ [p.1] := by
      rw [List.take_add_one, List.getElem?_map, hp]
      rfl
    have nn : p.1 ∉ (ts.map (·.1)).take i := by
      have nd := ho.nd
      have nd2 : ((ts.map (·.1)).take (i + 1)).Nodup := nd.sublist (List.take_sublist _ _)
      rw [tk, List.nodup_append] at nd2
      intro hm
      exact nd2.2.2 _ hm _ (List.mem_singleton.mpr rfl) rfl
    have ll : l.length ≤ i := by
      have := h1.length_le
      rw [List.length_take] at this
      omega
    have lr : r.length ≤ i := by
      have := h2.length_le
      rw [List.length_take] at this
      omega
    have zl : l.length < sizeLine := by rw [sizeLine_eq]; omega
    have zr : r.length < sizeLine := by rw [sizeLine_eq]; omega
    obtain ⟨q, s1, e1, q0, q1, b1⟩ := ev_take k 5 s hb (by decide)
    refine ⟨[some .cell, some (.val (hD ts ss)), some (.own (.list (l.map .str))), some (.own (.list (r.map .str))), some (.val (.str p.1)), some (.val (.tuple p.2)), x6], ?_⟩
    have hbind : bindT (.tup (.cons (.one 4) (.cons (.one 5) .nil))) (thD p) [some .cell, some (.val (hD ts ss)), some (.own (.list (l.map .str))), some (.own (.list (r.map .str))), x4, x5, x6] = some [some .cell, some (.val (hD ts ss)), some (.own (.list (l.map .str))), some (.own (.list (r.map .str))), some (.val (.str p.1)), some (.val (.tuple p.2)), x6] := by
      simp [thD, bindT, bindTs, Tgs.len]
    by_cases g1 : q < 2
    · refine ⟨[some .cell, some (.val (hD ts ss)), some (.own (.list ((l ++ [p.1]).map .str))), some (.own (.list (r.map .str))), some (.val (.str p.1)), some (.val (.tuple p.2)), some (.val (.int q))], s1, hbind, ?_, b1, _, _, _, _, _, rfl, ?_, ?_, ?_⟩
      · simp [n__law_weighing, c__law_weighing_1, b__law_weighing_1, c__law_weighing_2, b__law_weighing_2, c__law_weighing_3, b__law_weighing_3, c__law_weighing_4, c__law_weighing_5, b__law_weighing_4, c__law_weighing_6, c__law_weighing_7, c__law_weighing_8, c__law_weighing, fnD, rho0, denSs, denS, den, dens, denB, denO, denF, denI, denX, dBo, dAnd, dOr, dB, dT, dNot, dIf, dNeg, dIsi, isDict, instB, tyD, sSeq, sRet, sRetv, sNil, sSet, sIf, sDrop, sApp, sPutL, sPutC, sPutD, sPar, sBind, sFrz, Co.putAll, Co.ent, d2, binD, cmpD, Bi.den, dCall, dCons, dNil, dVar, dC, dGlob, dChain, dTup, dLst, pfs?, dFrz, dCallF, xVal, xCel, xNil, dIxC, dIxS, dLenS, dDnew, dDisp1, leD, gtD, geD, ltD, addD, subD, mulD, mulE, modD, fdivD, fdivE, powD, absD, Co.intD, lenD, tupleD, listD, bindT, bindTs, Tgs.len, wipeR, idxE, idxD, atI_0, atI_1, atI_2, ixN_21, dSl, dPart, sliceD, e1, g1, zl]
      · rw [tk]; exact sub_snoc h1
      · rw [tk]; exact sub_keep h2
      · intro x hx hr
        rcases List.mem_append.mp hx with hx | hx
        · exact h3 x hx hr
        · rw [List.mem_singleton.mp hx] at hr
          exact nn (h2.subset hr)
    · by_cases g2 : q < 4
      · refine ⟨[some .cell, some (.val (hD ts ss)), some (.own (.list (l.map .str))), some (.own (.list ((r ++ [p.1]).map .str))), some (.val (.str p.1)), some (.val (.tuple p.2)), some (.val (.int q))], s1, hbind, ?_, b1, _, _, _, _, _, rfl, ?_, ?_, ?_⟩
        · simp [n__law_weighing, c__law_weighing_1, b__law_weighing_1, c__law_weighing_2, b__law_weighing_2, c__law_weighing_3, b__law_weighing_3, c__law_weighing_4, c__law_weighing_5, b__law_weighing_4, c__law_weighing_6, c__law_weighing_7, c__law_weighing_8, c__law_weighing, fnD, rho0, denSs, denS, den, dens, denB, denO, denF, denI, denX, dBo, dAnd, dOr, dB, dT, dNot, dIf, dNeg, dIsi, isDict, instB, tyD, sSeq, sRet, sRetv, sNil, sSet, sIf, sDrop, sApp, sPutL, sPutC, sPutD, sPar, sBind, sFrz, Co.putAll, Co.ent, d2, binD, cmpD, Bi.den, dCall, dCons, dNil, dVar, dC, dGlob, dChain, dTup, dLst, pfs?, dFrz, dCallF, xVal, xCel, xNil, dIxC, dIxS, dLenS, dDnew, dDisp1, leD, gtD, geD, ltD, addD, subD, mulD, mulE, modD, fdivD, fdivE, powD, absD, Co.intD, lenD, tupleD, listD, bindT, bindTs, Tgs.len, wipeR, idxE, idxD, atI_0, atI_1, atI_2, ixN_21, dSl, dPart, sliceD, e1, g1, g2, zr]
        · rw [tk]; exact sub_keep h1
        · rw [tk]; exact sub_snoc h2
        · intro x hx hr
          rcases List.mem_append.mp hr with hr | hr
          · exact h3 x hx hr
          · rw [List.mem_singleton.mp hr] at hx
            exact nn (h1.subset hx)
      · refine ⟨[some .cell, some (.val (hD ts ss)), some (.own (.list (l.map .str))), some (.own (.list (r.map .str))), some (.val (.str p.1)), some (.val (.tuple p.2)), some (.val (.int q))], s1, hbind, ?_, b1, _, _, _, _, _, rfl, ?_, ?_, h3⟩
        · simp [n__law_weighing, c__law_weighing_1, b__law_weighing_1, c__law_weighing_2, b__law_weighing_2, c__law_weighing_3, b__law_weighing_3, c__law_weighing_4, c__law_weighing_5, b__law_weighing_4, c__law_weighing_6, c__law_weighing_7, c__law_weighing_8, c__law_weighing, fnD, rho0, denSs, denS, den, dens, denB, denO, denF, denI, denX, dBo, dAnd, dOr, dB, dT, dNot, dIf, dNeg, dIsi, isDict, instB, tyD, sSeq, sRet, sRetv, sNil, sSet, sIf, sDrop, sApp, sPutL, sPutC, sPutD, sPar, sBind, sFrz, Co.putAll, Co.ent, d2, binD, cmpD, Bi.den, dCall, dCons, dNil, dVar, dC, dGlob, dChain, dTup, dLst, pfs?, dFrz, dCallF, xVal, xCel, xNil, dIxC, dIxS, dLenS, dDnew, dDisp1, leD, gtD, geD, ltD, addD, subD, mulD, mulE, modD, fdivD, fdivE, powD, absD, Co.intD, lenD, tupleD, listD, bindT, bindTs, Tgs.len, wipeR, idxE, idxD, atI_0, atI_1, atI_2, ixN_21, dSl, dPart, sliceD, e1, g1, g2]
        · rw [tk]; exact sub_keep h1
        · rw [tk]; exact sub_keep h2
theorem ev_weighing (k : Nat) (ts ss : List (Str × List D)) (ho : HouseOk ts ss) (s : D) (hb : Bag s) : ∃ d s', (lvl (k + 2)).f ("_law_weighing" : Str) [none, some (hD ts ss)] s = some ((.pf, d), s') ∧ Bag s' ∧ WeighOk ts ss d := by
  rw [f__law_weighing]
  obtain ⟨ρ', s', h1, h2⟩ := for_nx (t := .tup (.cons (.one 4) (.cons (.one 5) .nil))) (g := denI (lvl (k + 1)) true (.items (.ix (.var 1) (.cst (.int 0))))) (body := denSs (lvl (k + 1)) b__law_weighing_4)
    (ρ := [some .cell, some (.val (hD ts ss)), some (.own (.list [])), some (.own (.list [])), none, none, none]) (s := s) (s1 := s) (ds := ts.map thD) (by simp [fnD, rho0, denSs, denS, den, dens, denB, denO, denF, denI, denX, dBo, dAnd, dOr, dB, dT, dNot, dIf, dNeg, dIsi, isDict, instB, tyD, sSeq, sRet, sRetv, sNil, sSet, sIf, sDrop, sApp, sPutL, sPutC, sPutD, sPar, sBind, sFrz, Co.putAll, Co.ent, d2, binD, cmpD, Bi.den, dCall, dCons, dNil, dVar, dC, dGlob, dChain, dTup, dLst, pfs?, dFrz, dCallF, xVal, xCel, xNil, dIxC, dIxS, dLenS, dDnew, dDisp1, leD, gtD, geD, ltD, addD, subD, mulD, mulE, modD, fdivD, fdivE, powD, absD, Co.intD, lenD, tupleD, listD, bindT, bindTs, Tgs.len, wipeR, idxE, idxD, atI_0, atI_1, atI_2, ixN_21, dSl, dPart, sliceD, dItemsB, dItems, itemsD, hD]) (WgI ts ss)
    ⟨hb, [], [], none, none, none, rfl, by simp, by simp, by simp⟩ (wg_step k ts ss ho)
  obtain ⟨b1, l, r, x4, x5, x6, rfl, g1, g2, g3⟩ := h2
  have hs := ho.sl
  obtain ⟨q, s2, e1, q0, q1, b2⟩ := ev_take k (ss.length : Int) s' b1 (by omega)
  have hq : q.toNat < ss.length := by omega
  have a1 : atI (ss.map thD) q = some (thD ss[q.toNat]) := atI_nat q0 (by rw [List.getElem?_map, List.getElem?_eq_getElem hq]; rfl)
  have z3 : 3 ≤ sizeLine := by decide
  refine ⟨wgD ss[q.toNat].1 l r, s2, fn_rt (r := (.pf, wgD ss[q.toNat].1 l r)) ?_ (by simp), b2, _, l, r, rfl, List.mem_map.mpr ⟨_, List.getElem_mem hq, rfl⟩, g1.trans (List.take_sublist _ _), g2.trans (List.take_sublist _ _), g3⟩
  refine run_cons (ρ1 := [some .cell, some (.val (hD ts ss)), some (.own (.list [])), some (.own (.list [])), none, none, none]) (s1 := s) (by simp [c__law_weighing_6, n__law_weighing, fnD, rho0, denSs, denS, den, dens, denB, denO, denF, denI, denX, dBo, dAnd, dOr, dB, dT, dNot, dIf, dNeg, dIsi, isDict, instB, tyD, sSeq, sRet, sRetv, sNil, sSet, sIf, sDrop, sApp, sPutL, sPutC, sPutD, sPar, sBind, sFrz, Co.putAll, Co.ent, d2, binD, cmpD, Bi.den, dCall, dCons, dNil, dVar, dC, dGlob, dChain, dTup, dLst, pfs?, dFrz, dCallF, xVal, xCel, xNil, dIxC, dIxS, dLenS, dDnew, dDisp1, leD, gtD, geD, ltD, addD, subD, mulD, mulE, modD, fdivD, fdivE, powD, absD, Co.intD, lenD, tupleD, listD, bindT, bindTs, Tgs.len, wipeR, idxE, idxD, atI_0, atI_1, atI_2, ixN_21, dSl, dPart, sliceD]) ?_
  refine run_cons (a := c__law_weighing_7) h1 ?_
  have a2 : atI (thD ss[q.toNat] :: []) 0 = some (thD ss[q.toNat]) := atI_0
  exact run_ret (by simp [c__law_weighing_8, fnD, rho0, denSs, denS, den, dens, denB, denO, denF, denI, denX, dBo, dAnd, dOr, dB, dT, dNot, dIf, dNeg, dIsi, isDict, instB, tyD, sSeq, sRet, sRetv, sNil, sSet, sIf, sDrop, sApp, sPutL, sPutC, sPutD, sPar, sBind, sFrz, Co.putAll, Co.ent, d2, binD, cmpD, Bi.den, dCall, dCons, dNil, dVar, dC, dGlob, dChain, dTup, dLst, pfs?, dFrz, dCallF, xVal, xCel, xNil, dIxC, dIxS, dLenS, dDnew, dDisp1, leD, gtD, geD, ltD, addD, subD, mulD, mulE, modD, fdivD, fdivE, powD, absD, Co.intD, lenD, tupleD, listD, bindT, bindTs, Tgs.len, wipeR, idxE, idxD, atI_0, atI_1, atI_2, ixN_21, dSl, dPart, sliceD, hD, e1, a1, thD, wgD, z3])
theorem ev_rowL (k : Nat) (L : Nat) (hL : L ≤ 12) (ts ss : List (Str × List D)) (ho : HouseOk ts ss) (s : D) (hb : Bag s) : ∃ row s', (lvl (k + 3)).f ("_law_row" : Str) [none, some (hD ts ss), some (.int (L : Nat))] s = some ((.fr, .list row), s') ∧ Bag s' ∧ row.length ≤ L ∧ ∀ d ∈ row, WeighOk ts ss d := by
  rw [f__law_row]
  obtain ⟨q, s1, e1, q0, q1, b1⟩ := ev_take (k + 1) ((L : Int) + 1) s hb (by omega)
  obtain ⟨out, s', h1, h2, h3, h4⟩ := lc_st (t := .one 3) (vs := [3]) (g := denI (lvl (k + 2)) false (.range (.cons (.call ("_law_take" : Str) 2 (.cel 0 (.val (.bin .Add (.var 2) (.cst (.int 1))) .nil))) .nil))) (test := dYes) (f := den (lvl (k + 2)) (.call ("_law_weighing" : Str) 2 (.cel 0 (.val (.var 1) .nil))))
    (ρ := [some .cell, some (.val (hD ts ss)), some (.val (.int (L : Nat))), none]) (s := s) (s1 := s1) (ds := (List.range q.toNat).map fun i => .int (i : Nat)) (by
      rw [denI]
      exact rangeE (n := q) (fl := .pf) (by omega) (by omega) (by simp [fnD, rho0, denSs, denS, den, dens, denB, denO, denF, denI, denX, dBo, dAnd, dOr, dB, dT, dNot, dIf, dNeg, dIsi, isDict, instB, tyD, sSeq, sRet, sRetv, sNil, sSet, sIf, sDrop, sApp, sPutL, sPutC, sPutD, sPar, sBind, sFrz, Co.putAll, Co.ent, d2, binD, cmpD, Bi.den, dCall, dCons, dNil, dVar, dC, dGlob, dChain, dTup, dLst, pfs?, dFrz, dCallF, xVal, xCel, xNil, dIxC, dIxS, dLenS, dDnew, dDisp1, leD, gtD, geD, ltD, addD, subD, mulD, mulE, modD, fdivD, fdivE, powD, absD, Co.intD, lenD, tupleD, listD, bindT, bindTs, Tgs.len, wipeR, idxE, idxD, atI_0, atI_1, atI_2, ixN_21, dSl, dPart, sliceD, e1])) (fun i acc s => Bag s ∧ acc.length ≤ i ∧ ∀ d ∈ acc, WeighOk ts ss d) ⟨b1, by simp, by simp⟩ (fun i d acc s hd hI => by
      obtain ⟨hi, rfl⟩ := range_get hd
      obtain ⟨hb, hl, hw⟩ := hI
      obtain ⟨d, s2, e2, b2, w2⟩ := ev_weighing k ts ss ho s hb
      refine ⟨[some .cell, some (.val (hD ts ss)), some (.val (.int (L : Nat))), some (.val (.int i))], true, s, by simp [wipeR, bindT], rfl, .inl ⟨rfl, d, s2, by simp [fnD, rho0, denSs, denS, den, dens, denB, denO, denF, denI, denX, dBo, dAnd, dOr, dB, dT, dNot, dIf, dNeg, dIsi, isDict, instB, tyD, sSeq, sRet, sRetv, sNil, sSet, sIf, sDrop, sApp, sPutL, sPutC, sPutD, sPar, sBind, sFrz, Co.putAll, Co.ent, d2, binD, cmpD, Bi.den, dCall, dCons, dNil, dVar, dC, dGlob, dChain, dTup, dLst, pfs?, dFrz, dCallF, xVal, xCel, xNil, dIxC, dIxS, dLenS, dDnew, dDisp1, leD, gtD, geD, ltD, addD, subD, mulD, mulE, modD, fdivD, fdivE, powD, absD, Co.intD, lenD, tupleD, listD, bindT, bindTs, Tgs.len, wipeR, idxE, idxD, atI_0, atI_1, atI_2, ixN_21, dSl, dPart, sliceD, e2], b2, by simp; omega, fun x hx => ?_⟩⟩
      rcases List.mem_append.mp hx with hx | hx
      · exact hw x hx
      · rw [List.mem_singleton.mp hx]; exact w2)
  rw [List.length_map, List.length_range] at h3
  refine ⟨out, s', fn_rt (r := (.fr, .list out)) ?_ (by simp), h2, by omega, h4⟩
  refine run_ret ?_
  rw [c__law_row_1, denS, e__law_row_1, den]
  unfold sRet
  have h1' : dLc (.one 3) [3] (denI (lvl (k + 2)) false (.range (.cons (.call ("_law_take" : Str) 2 (.cel 0 (.val (.bin .Add (.var 2) (.cst (.int 1))) .nil))) .nil))) (denF (lvl (k + 2)) .no) (den (lvl (k + 2)) (.call ("_law_weighing" : Str) 2 (.cel 0 (.val (.var 1) .nil)))) (rho0 n__law_row.length [none, some (hD ts ss), some (.int (L : Nat))]) s = some ((.fr, .list out), s') := by
    rw [denF]
    exact h1
  show (match dLc _ _ _ _ _ _ _ with | some ((.pf, d), s') => _ | some ((.fr, d), s') => _ | _ => _) = _
  simp only [List.map_cons, List.map_nil]
  rw [h1']
theorem ev_row (k : Nat) (ts ss : List (Str × List D)) (ho : HouseOk ts ss) (s : D) (hb : Bag s) : ∃ row s', (lvl (k + 3)).f ("_law_row" : Str) [none, some (hD ts ss), some (.int 9)] s = some ((.fr, .list row), s') ∧ Bag s' ∧ row.length ≤ 9 ∧ ∀ d ∈ row, WeighOk ts ss d := ev_rowL k 9 (by decide) ts ss ho s hb
end G4
end

section
set_option Elab.async false
set_option linter.all false
set_option maxRecDepth 100000
set_option maxHeartbeats 2000000
set_option autoImplicit false
namespace G4
open PySem L2 Co
/-! ### worlds -/
def stepR (acc : List (List D)) (p : List D) : List (List D) := acc.flatMap fun r => p.map fun o => r ++ [o]
def rowsF (ps : List (List D)) : List (List D) := ps.foldl stepR [[]]
theorem rowsF_snoc (ps : List (List D)) (p : List D) : rowsF (ps ++ [p]) = stepR (rowsF ps) p := by
  unfold rowsF
  rw [List.foldl_append]
  rfl
theorem sum_const {α : Type} (l : List α) (c : Nat) : (l.map fun _ => c).sum = l.length * c := by
  induction l with
  | nil => simp
  | cons a l ih => rw [List.map_cons, List.sum_cons, ih, List.length_cons, Nat.succ_mul, Nat.add_comm]
theorem stepR_len {c m : Nat} {acc : List (List D)} {p : List D} (h1 : acc.length ≤ c) (h2 : p.length ≤ m) : (stepR acc p).length ≤ c * m := by
  unfold stepR
  rw [List.length_flatMap]
  have : (acc.map fun r => (p.map fun o => r ++ [o]).length) = acc.map fun _ => p.length := by simp
  rw [this, sum_const]
  exact Nat.mul_le_mul h1 h2
theorem stepR_mem {acc : List (List D)} {p r : List D} : r ∈ stepR acc p ↔ ∃ q ∈ acc, ∃ o ∈ p, r = q ++ [o] := by
  unfold stepR
  simp [List.mem_flatMap, List.mem_map, eq_comm]
theorem rowsF_take {ps : List (List D)} {i : Nat} {p : List D} (h : ps[i]? = some p) : rowsF (ps.take (i + 1)) = stepR (rowsF (ps.take i)) p := by
  rw [List.take_add_one, h]
  exact rowsF_snoc _ _
theorem rowsF_len {m : Nat} {ps : List (List D)} (h : ∀ p ∈ ps, p.length ≤ m) : ∀ i, i ≤ ps.length → (rowsF (ps.take i)).length ≤ m ^ i
  | 0, _ => by simp [rowsF]
  | i + 1, hi => by
    have hp : ps[i]? = some ps[i] := List.getElem?_eq_getElem (by omega)
    rw [rowsF_take hp, Nat.pow_succ]
    exact stepR_len (rowsF_len h i (by omega)) (h _ (List.getElem_mem _))
theorem rowsF_mem {ps : List (List D)} : ∀ i, i ≤ ps.length → ∀ r ∈ rowsF (ps.take i), r.length = i ∧ ∀ d ∈ r, ∃ p ∈ ps, d ∈ p
  | 0, _, r, hr => by
    simp [rowsF] at hr
    subst hr
    simp
  | i + 1, hi, r, hr => by
    have hp : ps[i]? = some ps[i] := List.getElem?_eq_getElem (by omega)
    rw [rowsF_take hp] at hr
    obtain ⟨q, hq, o, ho, rfl⟩ := stepR_mem.mp hr
    obtain ⟨h1, h2⟩ := rowsF_mem i (by omega) q hq
    refine ⟨by simp [h1], fun d hd => ?_⟩
    rcases List.mem_append.mp hd with hd | hd
    · exact h2 d hd
    · rw [List.mem_singleton.mp hd]
      exact ⟨_, List.getElem_mem _, ho⟩
theorem rowsF_pos {ps : List (List D)} (h : ∀ p ∈ ps, 0 < p.length) : ∀ i, i ≤ ps.length → 0 < (rowsF (ps.take i)).length
  | 0, _ => by simp [rowsF]
  | i + 1, hi => by
    have hp : ps[i]? = some ps[i] := List.getElem?_eq_getElem (by omega)
    have h1 := rowsF_pos h i (by omega)
    have h2 := h _ (List.getElem_mem (l := ps) (n := i) (by omega))
    obtain ⟨q, hq⟩ := List.exists_mem_of_length_pos h1
    obtain ⟨o, ho⟩ := List.exists_mem_of_length_pos h2
    rw [rowsF_take hp]
    exact List.length_pos_of_mem (stepR_mem.mpr ⟨q, hq, o, ho, rfl⟩)
def addOne : D → D → D
  | .tuple r, e => .tuple (r ++ [e])
  | d, _ => d
theorem addOne_eq (a : List D) : addOne (.tuple a) = fun x => .tuple (a ++ [x]) := by
  funext x
  rfl
theorem ev_all_rows (k : Nat) (ps : List (List D)) (s : D) (hl : ps.length ≤ 4) (hp : ∀ p ∈ ps, p.length ≤ 8) : (lvl (k + 1)).f ("all_rows" : Str) [some (.list (ps.map .tuple))] s = some ((.pf, .list ((rowsF ps).map .tuple)), s) := by
  rw [f_all_rows]
  have z1 : 1 ≤ sizeLine := by decide
  obtain ⟨ρ', s', h1, h2⟩ := st_for (T := lvl k) (t := .one 2) (it := .items (.var 0)) (bs := b_all_rows_1) (ρ := [some (.val (.list (ps.map .tuple))), some (.val (.list ([.tuple []]))), none, none, none]) (s := s) (s1 := s) (ds := ps.map .tuple) (by simp [fnD, rho0, denSs, denS, den, dens, denB, denO, denF, denI, denX, dBo, dAnd, dOr, dB, dT, dNot, dIf, dNeg, dIsi, isDict, instB, tyD, sSeq, sRet, sRetv, sNil, sSet, sIf, sDrop, sApp, sPutL, sPutC, sPutD, sPar, sBind, sFrz, Co.putAll, Co.ent, d2, binD, cmpD, Bi.den, dCall, dCons, dNil, dVar, dC, dGlob, dChain, dTup, dLst, pfs?, dFrz, dCallF, xVal, xCel, xNil, dIxC, dIxS, dLenS, dDnew, dDisp1, leD, gtD, geD, ltD, addD, subD, mulD, mulE, modD, fdivD, fdivE, powD, absD, Co.intD, lenD, tupleD, listD, bindT, bindTs, Tgs.len, wipeR, idxE, idxD, atI_0, atI_1, atI_2, ixN_21, dSl, dPart, sliceD, dItemsB, dItems, itemsD])
    (fun i ρ s' => s' = s ∧ ∃ x2, ρ = [some (.val (.list (ps.map .tuple))), some (.val (.list ((rowsF (ps.take i)).map .tuple))), x2, none, none]) ⟨rfl, none, rfl⟩ (fun i d ρ s' hd hI => by
      obtain ⟨rfl, x2, rfl⟩ := hI
      rw [List.getElem?_map] at hd
      cases hpi : ps[i]? with
      | none => rw [hpi] at hd; cases hd
      | some p =>
        rw [hpi] at hd
        cases hd
        have hi := (List.getElem?_eq_some_iff.mp hpi).1
        have pm := List.mem_of_getElem? hpi
        have ll := rowsF_len hp i (by omega)
        have l2 := hp p pm
        have eq1 : ((rowsF (ps.take i)).map PyData.tuple).flatMap (fun d => p.map (addOne d)) = (stepR (rowsF (ps.take i)) p).map PyData.tuple := by
          unfold stepR
          simp [List.flatMap_map, List.map_flatMap, addOne_eq, Function.comp_def]
        have l3 := stepR_len ll l2
        have l4 : 8 ^ i * 8 ≤ 4096 := by
          have : i ≤ 3 := by omega
          calc 8 ^ i * 8 ≤ 8 ^ 3 * 8 := Nat.mul_le_mul_right _ (Nat.pow_le_pow_right (by decide) this)
            _ = 4096 := by decide
        have e1 : den (lvl k) e_all_rows_1 [some (.val (.list (ps.map .tuple))), some (.val (.list ((rowsF (ps.take i)).map .tuple))), some (.val (.tuple p)), none, none] s' = some ((.fr, .list ((stepR (rowsF (ps.take i)) p).map .tuple)), s') := by
          rw [← eq1]
          refine den_lc2 (fun _ => p) addOne (by simp [fnD, rho0, denSs, denS, den, dens, denB, denO, denF, denI, denX, dBo, dAnd, dOr, dB, dT, dNot, dIf, dNeg, dIsi, isDict, instB, tyD, sSeq, sRet, sRetv, sNil, sSet, sIf, sDrop, sApp, sPutL, sPutC, sPutD, sPar, sBind, sFrz, Co.putAll, Co.ent, d2, binD, cmpD, Bi.den, dCall, dCons, dNil, dVar, dC, dGlob, dChain, dTup, dLst, pfs?, dFrz, dCallF, xVal, xCel, xNil, dIxC, dIxS, dLenS, dDnew, dDisp1, leD, gtD, geD, ltD, addD, subD, mulD, mulE, modD, fdivD, fdivE, powD, absD, Co.intD, lenD, tupleD, listD, bindT, bindTs, Tgs.len, wipeR, idxE, idxD, atI_0, atI_1, atI_2, ixN_21, dSl, dPart, sliceD, dItemsB, dItemsE, ownKeys, itemsD]) (fun d hd => ?_) ?_
          · obtain ⟨r, hr, rfl⟩ := List.mem_map.mp hd
            obtain ⟨rl, _⟩ := rowsF_mem i (by omega) r hr
            have z : r.length + 1 ≤ sizeLine := by rw [sizeLine_eq]; omega
            refine ⟨[some (.val (.list (ps.map .tuple))), some (.val (.list ((rowsF (ps.take i)).map .tuple))), some (.val (.tuple p)), some (.val (.tuple r)), none], by simp [wipeR, bindT], by simp [fnD, rho0, denSs, denS, den, dens, denB, denO, denF, denI, denX, dBo, dAnd, dOr, dB, dT, dNot, dIf, dNeg, dIsi, isDict, instB, tyD, sSeq, sRet, sRetv, sNil, sSet, sIf, sDrop, sApp, sPutL, sPutC, sPutD, sPar, sBind, sFrz, Co.putAll, Co.ent, d2, binD, cmpD, Bi.den, dCall, dCons, dNil, dVar, dC, dGlob, dChain, dTup, dLst, pfs?, dFrz, dCallF, xVal, xCel, xNil, dIxC, dIxS, dLenS, dDnew, dDisp1, leD, gtD, geD, ltD, addD, subD, mulD, mulE, modD, fdivD, fdivE, powD, absD, Co.intD, lenD, tupleD, listD, bindT, bindTs, Tgs.len, wipeR, idxE, idxD, atI_0, atI_1, atI_2, ixN_21, dSl, dPart, sliceD, dItemsB, dItems, itemsD], fun e he => ?_⟩
            exact ⟨[some (.val (.list (ps.map .tuple))), some (.val (.list ((rowsF (ps.take i)).map .tuple))), some (.val (.tuple p)), some (.val (.tuple r)), some (.val e)], by simp [wipeR, bindT], by simp [fnD, rho0, denSs, denS, den, dens, denB, denO, denF, denI, denX, dBo, dAnd, dOr, dB, dT, dNot, dIf, dNeg, dIsi, isDict, instB, tyD, sSeq, sRet, sRetv, sNil, sSet, sIf, sDrop, sApp, sPutL, sPutC, sPutD, sPar, sBind, sFrz, Co.putAll, Co.ent, d2, binD, cmpD, Bi.den, dCall, dCons, dNil, dVar, dC, dGlob, dChain, dTup, dLst, pfs?, dFrz, dCallF, xVal, xCel, xNil, dIxC, dIxS, dLenS, dDnew, dDisp1, leD, gtD, geD, ltD, addD, subD, mulD, mulE, modD, fdivD, fdivE, powD, absD, Co.intD, lenD, tupleD, listD, bindT, bindTs, Tgs.len, wipeR, idxE, idxD, atI_0, atI_1, atI_2, ixN_21, dSl, dPart, sliceD, z1, z, addOne]⟩
          · rw [eq1, List.length_map]
            have := sizeLine_eq
            omega
        refine ⟨[some (.val (.list (ps.map .tuple))), some (.val (.list ((rowsF (ps.take i)).map .tuple))), some (.val (.tuple p)), none, none], [some (.val (.list (ps.map .tuple))), some (.val (.list ((rowsF (ps.take (i + 1))).map .tuple))), some (.val (.tuple p)), none, none], s', by simp [bindT], ?_, rfl, _, rfl⟩
        rw [rowsF_take hpi]
        refine run_cons (st_fr e1) (run_frz (ds := (stepR (rowsF (ps.take i)) p).map .tuple) rfl run_nil))
  obtain ⟨rfl, x2, rfl⟩ := h2
  rw [List.length_map, List.take_length] at h1
  refine fn_rt (r := (.pf, .list ((rowsF ps).map .tuple))) ?_ (by simp)
  refine run_cons (ρ1 := [some (.val (.list (ps.map .tuple))), some (.val (.list ([.tuple []]))), none, none, none]) (s1 := s') (by simp [c_all_rows_2, n_all_rows, fnD, rho0, denSs, denS, den, dens, denB, denO, denF, denI, denX, dBo, dAnd, dOr, dB, dT, dNot, dIf, dNeg, dIsi, isDict, instB, tyD, sSeq, sRet, sRetv, sNil, sSet, sIf, sDrop, sApp, sPutL, sPutC, sPutD, sPar, sBind, sFrz, Co.putAll, Co.ent, d2, binD, cmpD, Bi.den, dCall, dCons, dNil, dVar, dC, dGlob, dChain, dTup, dLst, pfs?, dFrz, dCallF, xVal, xCel, xNil, dIxC, dIxS, dLenS, dDnew, dDisp1, leD, gtD, geD, ltD, addD, subD, mulD, mulE, modD, fdivD, fdivE, powD, absD, Co.intD, lenD, tupleD, listD, bindT, bindTs, Tgs.len, wipeR, idxE, idxD, atI_0, atI_1, atI_2, ixN_21, dSl, dPart, sliceD, z1]) ?_
  refine run_cons (a := c_all_rows_3) h1 ?_
  exact run_ret (by simp [c_all_rows_4, fnD, rho0, denSs, denS, den, dens, denB, denO, denF, denI, denX, dBo, dAnd, dOr, dB, dT, dNot, dIf, dNeg, dIsi, isDict, instB, tyD, sSeq, sRet, sRetv, sNil, sSet, sIf, sDrop, sApp, sPutL, sPutC, sPutD, sPar, sBind, sFrz, Co.putAll, Co.ent, d2, binD, cmpD, Bi.den, dCall, dCons, dNil, dVar, dC, dGlob, dChain, dTup, dLst, pfs?, dFrz, dCallF, xVal, xCel, xNil, dIxC, dIxS, dLenS, dDnew, dDisp1, leD, gtD, geD, ltD, addD, subD, mulD, mulE, modD, fdivD, fdivE, powD, absD, Co.intD, lenD, tupleD, listD, bindT, bindTs, Tgs.len, wipeR, idxE, idxD, atI_0, atI_1, atI_2, ixN_21, dSl, dPart, sliceD])
def wsF (ts ss : List (Str × List D)) : List D := (rowsF (ts.map (·.2))).flatMap fun w => (rowsF (ss.map (·.2))).map fun o => .tuple [.tuple w, .tuple o]
def WorldOk (ts ss : List (Str × List D)) (d : D) : Prop := ∃ ws so : List D, d = .tuple [.tuple ws, .tuple so] ∧ ws.length = ts.length ∧ (∀ x ∈ ws, isInt x) ∧ so.length = ss.length ∧ ∀ x ∈ so, SrtOk x
section
variable {ts ss : List (Str × List D)}
theorem HouseOk.tp (h : HouseOk ts ss) : ∀ p ∈ ts.map (·.2), 0 < p.length ∧ p.length ≤ 8 ∧ ∀ d ∈ p, isInt d := fun p hp => by
  obtain ⟨q, hq, rfl⟩ := List.mem_map.mp hp
  obtain ⟨a, b, c, _⟩ := h.tw q hq
  exact ⟨a, by omega, c⟩
theorem HouseOk.sp (h : HouseOk ts ss) : ∀ p ∈ ss.map (·.2), 0 < p.length ∧ p.length ≤ 8 ∧ ∀ d ∈ p, SrtOk d := fun p hp => by
  obtain ⟨q, hq, rfl⟩ := List.mem_map.mp hp
  exact ⟨(h.sw q hq).1, (h.sw q hq).2.1, (h.sw q hq).2.2.1⟩
theorem rows_le {m : Nat} {ps : List (List D)} (hl : ps.length ≤ m) (h : ∀ p ∈ ps, p.length ≤ 8) : (rowsF ps).length ≤ 8 ^ m := by
  have := rowsF_len h ps.length (Nat.le_refl _)
  rw [List.take_length] at this
  exact Nat.le_trans this (Nat.pow_le_pow_right (by decide) hl)
theorem wsF_ok (h : HouseOk ts ss) : ∀ d ∈ wsF ts ss, WorldOk ts ss d := fun d hd => by
  unfold wsF at hd
  obtain ⟨w, hw, hd⟩ := List.mem_flatMap.mp hd
  obtain ⟨o, ho, rfl⟩ := List.mem_map.mp hd
  obtain ⟨a1, a2⟩ := rowsF_mem (ps := ts.map (·.2)) _ (Nat.le_refl _) w (by rw [List.take_length]; exact hw)
  obtain ⟨b1, b2⟩ := rowsF_mem (ps := ss.map (·.2)) _ (Nat.le_refl _) o (by rw [List.take_length]; exact ho)
  refine ⟨w, o, rfl, by simpa using a1, fun x hx => ?_, by simpa using b1, fun x hx => ?_⟩
  · obtain ⟨p, hp, hx⟩ := a2 x hx
    exact (h.tp p hp).2.2 x hx
  · obtain ⟨p, hp, hx⟩ := b2 x hx
    exact (h.sp p hp).2.2 x hx
theorem wsF_pos (h : HouseOk ts ss) : 0 < (wsF ts ss).length := by
  have h1 := rowsF_pos (ps := ts.map (·.2)) (fun p hp => (h.tp p hp).1) _ (Nat.le_refl _)
  have h2 := rowsF_pos (ps := ss.map (·.2)) (fun p hp => (h.sp p hp).1) _ (Nat.le_refl _)
  rw [List.take_length] at h1 h2
  obtain ⟨w, hw⟩ := List.exists_mem_of_length_pos h1
  obtain ⟨o, ho⟩ := List.exists_mem_of_length_pos h2
  exact List.length_pos_of_mem (List.mem_flatMap.mpr ⟨w, hw, List.mem_map.mpr ⟨o, ho, rfl⟩⟩)
theorem wsF_len (h : HouseOk ts ss) : (wsF ts ss).length ≤ 2097152 := by
  have h1 := rows_le (m := 4) (ps := ts.map (·.2)) (by simpa using h.tl.2) fun p hp => (h.tp p hp).2.1
  have h2 := rows_le (m := 3) (ps := ss.map (·.2)) (by simpa using h.sl.2) fun p hp => (h.sp p hp).2.1
  unfold wsF
  rw [List.length_flatMap]
  have : ((rowsF (ts.map (·.2))).map fun w => ((rowsF (ss.map (·.2))).map fun o => PyData.tuple [.tuple w, .tuple o]).length) = (rowsF (ts.map (·.2))).map fun _ => (rowsF (ss.map (·.2))).length := by simp
  rw [this, sum_const]
  exact Nat.le_trans (Nat.mul_le_mul h1 h2) (by decide)
theorem ev_worlds (k : Nat) (h : HouseOk ts ss) (s : D) : (lvl (k + 2)).f ("worlds" : Str) [some (hD ts ss)] s = some ((.fr, .list (wsF ts ss)), s) := by
  rw [f_worlds]
  have a1 := ev_all_rows k (ss.map (·.2)) s (by have := h.sl; simp; omega) fun p hp => (h.sp p hp).2.1
  have a2 := ev_all_rows k (ts.map (·.2)) s (by have := h.tl; simp; omega) fun p hp => (h.tp p hp).2.1
  have z2 : 2 ≤ sizeLine := by decide
  have c1 : den (lvl (k + 1)) e_worlds_1 [some (.val (hD ts ss)), none, none, none, none] s = some ((.fr, .list ((ss.map (·.2)).map .tuple)), s) := by
    have := den_map (T := lvl (k + 1)) (own := [(("row" : Str), 4)]) (t := .one 4) (it := .items (.ix (.var 0) (.cst (.int 1)))) (e := .ix (.var 4) (.cst (.int 1))) (ρ := [some (.val (hD ts ss)), none, none, none, none]) (s := s) (s1 := s) (ds := ss.map thD) (fun d => match d with | .tuple [_, x] => x | _ => d)
      (by simp [fnD, rho0, denSs, denS, den, dens, denB, denO, denF, denI, denX, dBo, dAnd, dOr, dB, dT, dNot, dIf, dNeg, dIsi, isDict, instB, tyD, sSeq, sRet, sRetv, sNil, sSet, sIf, sDrop, sApp, sPutL, sPutC, sPutD, sPar, sBind, sFrz, Co.putAll, Co.ent, d2, binD, cmpD, Bi.den, dCall, dCons, dNil, dVar, dC, dGlob, dChain, dTup, dLst, pfs?, dFrz, dCallF, xVal, xCel, xNil, dIxC, dIxS, dLenS, dDnew, dDisp1, leD, gtD, geD, ltD, addD, subD, mulD, mulE, modD, fdivD, fdivE, powD, absD, Co.intD, lenD, tupleD, listD, bindT, bindTs, Tgs.len, wipeR, idxE, idxD, atI_0, atI_1, atI_2, ixN_21, dSl, dPart, sliceD, dItemsB, dItemsE, ownKeys, itemsD, hD]) (fun d hd => by
        obtain ⟨p, hp, rfl⟩ := List.mem_map.mp hd
        exact ⟨[some (.val (hD ts ss)), none, none, none, some (.val (thD p))], by simp [wipeR, bindT], by simp [fnD, rho0, denSs, denS, den, dens, denB, denO, denF, denI, denX, dBo, dAnd, dOr, dB, dT, dNot, dIf, dNeg, dIsi, isDict, instB, tyD, sSeq, sRet, sRetv, sNil, sSet, sIf, sDrop, sApp, sPutL, sPutC, sPutD, sPar, sBind, sFrz, Co.putAll, Co.ent, d2, binD, cmpD, Bi.den, dCall, dCons, dNil, dVar, dC, dGlob, dChain, dTup, dLst, pfs?, dFrz, dCallF, xVal, xCel, xNil, dIxC, dIxS, dLenS, dDnew, dDisp1, leD, gtD, geD, ltD, addD, subD, mulD, mulE, modD, fdivD, fdivE, powD, absD, Co.intD, lenD, tupleD, listD, bindT, bindTs, Tgs.len, wipeR, idxE, idxD, atI_0, atI_1, atI_2, ixN_21, dSl, dPart, sliceD, thD]⟩)
    rw [e_worlds_1, this]
    simp [thD, Function.comp_def]
  have c2 : ∀ x, den (lvl (k + 1)) e_worlds_2 [some (.val (hD ts ss)), x, none, none, none] s = some ((.fr, .list ((ts.map (·.2)).map .tuple)), s) := fun x => by
    have := den_map (T := lvl (k + 1)) (own := [(("row" : Str), 4)]) (t := .one 4) (it := .items (.ix (.var 0) (.cst (.int 0)))) (e := .ix (.var 4) (.cst (.int 1))) (ρ := [some (.val (hD ts ss)), x, none, none, none]) (s := s) (s1 := s) (ds := ts.map thD) (fun d => match d with | .tuple [_, x] => x | _ => d)
      (by simp [fnD, rho0, denSs, denS, den, dens, denB, denO, denF, denI, denX, dBo, dAnd, dOr, dB, dT, dNot, dIf, dNeg, dIsi, isDict, instB, tyD, sSeq, sRet, sRetv, sNil, sSet, sIf, sDrop, sApp, sPutL, sPutC, sPutD, sPar, sBind, sFrz, Co.putAll, Co.ent, d2, binD, cmpD, Bi.den, dCall, dCons, dNil, dVar, dC, dGlob, dChain, dTup, dLst, pfs?, dFrz, dCallF, xVal, xCel, xNil, dIxC, dIxS, dLenS, dDnew, dDisp1, leD, gtD, geD, ltD, addD, subD, mulD, mulE, modD, fdivD, fdivE, powD, absD, Co.intD, lenD, tupleD, listD, bindT, bindTs, Tgs.len, wipeR, idxE, idxD, atI_0, atI_1, atI_2, ixN_21, dSl, dPart, sliceD, dItemsB, dItemsE, ownKeys, itemsD, hD]) (fun d hd => by
        obtain ⟨p, hp, rfl⟩ := List.mem_map.mp hd
        exact ⟨[some (.val (hD ts ss)), x, none, none, some (.val (thD p))], by simp [wipeR, bindT], by simp [fnD, rho0, denSs, denS, den, dens, denB, denO, denF, denI, denX, dBo, dAnd, dOr, dB, dT, dNot, dIf, dNeg, dIsi, isDict, instB, tyD, sSeq, sRet, sRetv, sNil, sSet, sIf, sDrop, sApp, sPutL, sPutC, sPutD, sPar, sBind, sFrz, Co.putAll, Co.ent, d2, binD, cmpD, Bi.den, dCall, dCons, dNil, dVar, dC, dGlob, dChain, dTup, dLst, pfs?, dFrz, dCallF, xVal, xCel, xNil, dIxC, dIxS, dLenS, dDnew, dDisp1, leD, gtD, geD, ltD, addD, subD, mulD, mulE, modD, fdivD, fdivE, powD, absD, Co.intD, lenD, tupleD, listD, bindT, bindTs, Tgs.len, wipeR, idxE, idxD, atI_0, atI_1, atI_2, ixN_21, dSl, dPart, sliceD, thD]⟩)
    rw [e_worlds_2, this]
    simp [thD, Function.comp_def]
  have eq1 : ((rowsF (ts.map (·.2))).map PyData.tuple).flatMap (fun d => ((rowsF (ss.map (·.2))).map PyData.tuple).map fun e => .tuple [d, e]) = wsF ts ss := by
    unfold wsF
    simp [List.flatMap_map, Function.comp_def]
  have c3 : den (lvl (k + 1)) e_worlds_3 [some (.val (hD ts ss)), some (.val (.list ((rowsF (ss.map (·.2))).map .tuple))), none, none, none] s = some ((.fr, .list (wsF ts ss)), s) := by
    rw [← eq1]
    refine den_lc2 (ds := (rowsF (ts.map (·.2))).map .tuple) (fun _ => (rowsF (ss.map (·.2))).map PyData.tuple) (fun d e => .tuple [d, e]) ?_ (fun d hd => ?_) ?_
    · have q := c2 (some (.val (.list ((rowsF (ss.map (·.2))).map .tuple))))
      simp [-List.map_map, denI, dItemsB, dItemsE, den, dFrz, dCallF, denX, xVal, xNil, q, a2, ownKeys, itemsD]
    · refine ⟨[some (.val (hD ts ss)), some (.val (.list ((rowsF (ss.map (·.2))).map .tuple))), some (.val d), none, none], by simp [wipeR, bindT], by simp [fnD, rho0, denSs, denS, den, dens, denB, denO, denF, denI, denX, dBo, dAnd, dOr, dB, dT, dNot, dIf, dNeg, dIsi, isDict, instB, tyD, sSeq, sRet, sRetv, sNil, sSet, sIf, sDrop, sApp, sPutL, sPutC, sPutD, sPar, sBind, sFrz, Co.putAll, Co.ent, d2, binD, cmpD, Bi.den, dCall, dCons, dNil, dVar, dC, dGlob, dChain, dTup, dLst, pfs?, dFrz, dCallF, xVal, xCel, xNil, dIxC, dIxS, dLenS, dDnew, dDisp1, leD, gtD, geD, ltD, addD, subD, mulD, mulE, modD, fdivD, fdivE, powD, absD, Co.intD, lenD, tupleD, listD, bindT, bindTs, Tgs.len, wipeR, idxE, idxD, atI_0, atI_1, atI_2, ixN_21, dSl, dPart, sliceD, dItemsB, dItems, itemsD], fun e he => ?_⟩
      exact ⟨[some (.val (hD ts ss)), some (.val (.list ((rowsF (ss.map (·.2))).map .tuple))), some (.val d), some (.val e), none], by simp [wipeR, bindT], by simp [fnD, rho0, denSs, denS, den, dens, denB, denO, denF, denI, denX, dBo, dAnd, dOr, dB, dT, dNot, dIf, dNeg, dIsi, isDict, instB, tyD, sSeq, sRet, sRetv, sNil, sSet, sIf, sDrop, sApp, sPutL, sPutC, sPutD, sPar, sBind, sFrz, Co.putAll, Co.ent, d2, binD, cmpD, Bi.den, dCall, dCons, dNil, dVar, dC, dGlob, dChain, dTup, dLst, pfs?, dFrz, dCallF, xVal, xCel, xNil, dIxC, dIxS, dLenS, dDnew, dDisp1, leD, gtD, geD, ltD, addD, subD, mulD, mulE, modD, fdivD, fdivE, powD, absD, Co.intD, lenD, tupleD, listD, bindT, bindTs, Tgs.len, wipeR, idxE, idxD, atI_0, atI_1, atI_2, ixN_21, dSl, dPart, sliceD, z2]⟩
    · rw [eq1]
      have := wsF_len h
      have := sizeLine_eq
      omega
  refine fn_rt (r := (.fr, .list (wsF ts ss))) ?_ (by simp)
  refine run_cons (ρ1 := [some (.val (hD ts ss)), some (.val (.list ((rowsF (ss.map (·.2))).map .tuple))), none, none, none]) (s1 := s) ?_ ?_
  · have : rho0 n_worlds.length [some (hD ts ss)] = [some (.val (hD ts ss)), none, none, none, none] := rfl
    rw [this]
    simp [-List.map_map, c_worlds_1, denS, sSet, den, dFrz, dCallF, denX, xVal, xNil, c1, a1, Co.ent]
  · exact run_ret (st_ret c3 (by simp))
end
end G4
end

section
set_option Elab.async false
set_option linter.all false
set_option maxRecDepth 100000
set_option maxHeartbeats 2000000
set_option autoImplicit false
namespace G4
open PySem L2 Co
/-- what is seen: weighings with answers -/
def prD (w : D) (a : Int) : D := .tuple [w, .int a]
def SeenOk (ts ss : List (Str × List D)) (ws : List D) (as : List Int) : Prop := ws.length = as.length ∧ ws.length ≤ 12 ∧ (∀ w ∈ ws, WeighOk ts ss w) ∧ ∀ a ∈ as, -1 ≤ a ∧ a ≤ 1
end G4
end

section
set_option Elab.async false
set_option linter.all false
set_option maxRecDepth 100000
set_option maxHeartbeats 2000000
set_option autoImplicit false
namespace G4
open PySem L2 Co
theorem e_bi1 {T : Tb} {b : Bi} {e : CE} {ρ : Rho} {s s1 : D} {r r' : R} (h : den T e ρ s = some (r, s1)) (h2 : b.den [r.2] = some r') : den T (.bi b (.cons e .nil)) ρ s = some (r', s1) := by
  rw [den, dens, dens]
  unfold dCall dCons dNil
  simp [h, h2]
theorem e_bin {T : Tb} {op : Operator} {a b : CE} {ρ : Rho} {s s1 s2 : D} {ra rb r : R} (h1 : den T a ρ s = some (ra, s1)) (h2 : den T b ρ s1 = some (rb, s2)) (h3 : binD op ra.2 rb.2 = some r) : den T (.bin op a b) ρ s = some (r, s2) := by
  rw [den]
  unfold d2
  simp [h1, h2, h3]
theorem e_ix {T : Tb} {a b : CE} {ρ : Rho} {s s1 s2 : D} {ra rb r : R} (h1 : den T a ρ s = some (ra, s1)) (h2 : den T b ρ s1 = some (rb, s2)) (h3 : idxE ra.2 rb.2 = some r) : den T (.ix a b) ρ s = some (r, s2) := by
  rw [den]
  unfold d2
  simp [h1, h2, h3]
/-! ### how much the left side outweighs the right one -/
def KvOk (kvs : List (D × D)) : Prop := ∀ p ∈ kvs, (∃ y, p.1 = .str y) ∧ isInt p.2
def HasK (kvs : List (D × D)) (x : Str) : Prop := ∃ p ∈ kvs, keyEq p.1 (.str x) = true
theorem keyEq_str {x y : Str} : keyEq (.str x) (.str y) = decide (x = y) := by
  unfold keyEq
  simp [nk]
theorem put_ok {kvs : List (D × D)} {x : Str} {v : D} (h : KvOk kvs) (hv : isInt v) : KvOk (putD kvs (.str x) v) := by
  unfold putD
  split
  · intro p hp
    obtain ⟨q, hq, rfl⟩ := List.mem_map.mp hp
    split
    · exact ⟨(h q hq).1, hv⟩
    · exact h q hq
  · intro p hp
    rcases List.mem_append.mp hp with hp | hp
    · exact h p hp
    · rw [List.mem_singleton.mp hp]
      exact ⟨⟨x, rfl⟩, hv⟩
theorem put_has {kvs : List (D × D)} {x y : Str} {v : D} (h : x = y ∨ HasK kvs y) : HasK (putD kvs (.str x) v) y := by
  unfold putD
  split
  · rename_i ha
    rw [List.any_eq_true] at ha
    have h' : HasK kvs y := by
      rcases h with rfl | h
      · exact ha
      · exact h
    obtain ⟨p, hp, e⟩ := h'
    refine ⟨_, List.mem_map.mpr ⟨p, hp, rfl⟩, ?_⟩
    split <;> exact e
  · rcases h with rfl | ⟨p, hp, e⟩
    · exact ⟨_, List.mem_append_right _ (List.mem_singleton.mpr rfl), by rw [keyEq_str, decide_eq_true_eq]⟩
    · exact ⟨p, List.mem_append_left _ hp, e⟩
theorem fold_ok : ∀ (ns : List Str) (ws : List D) (acc : List (D × D)), KvOk acc → (∀ w ∈ ws, isInt w) → ns.length = ws.length →
    KvOk (((ns.map PyData.str).zip ws).foldl (fun acc p => putD acc p.1 p.2) acc) ∧ ∀ x, x ∈ ns ∨ HasK acc x → HasK (((ns.map PyData.str).zip ws).foldl (fun acc p => putD acc p.1 p.2) acc) x
  | [], ws, acc, h, _, _ => ⟨h, fun x hx => by
      rcases hx with hx | hx
      · cases hx
      · exact hx⟩
  | n :: ns, [], acc, h, _, hl => by cases hl
  | n :: ns, w :: ws, acc, h, hw, hl => by
    obtain ⟨h1, h2⟩ := fold_ok ns ws (putD acc (.str n) w) (put_ok h (hw w (List.mem_cons_self ..))) (fun x hx => hw x (List.mem_cons_of_mem _ hx)) (by simpa using hl)
    refine ⟨h1, fun x hx => h2 x ?_⟩
    rcases hx with hx | hx
    · rcases List.mem_cons.mp hx with rfl | hx
      · exact .inr (put_has (.inl rfl))
      · exact .inl hx
    · exact .inr (put_has (.inr hx))
def lookI (kvs : List (D × D)) (x : Str) : Int := match lookD kvs (.str x) with
  | some (.int i) => i
  | _ => 0
theorem look_has {kvs : List (D × D)} {x : Str} (h : KvOk kvs) (hx : HasK kvs x) : lookD kvs (.str x) = some (.int (lookI kvs x)) := by
  obtain ⟨p, hp, e⟩ := hx
  have : ∃ q, lookD kvs (.str x) = some q ∧ isInt q := by
    unfold lookD
    cases hf : kvs.find? fun p => keyEq p.1 (.str x) with
    | none =>
      rw [List.find?_eq_none] at hf
      exact absurd e (hf p hp)
    | some q => exact ⟨q.2, rfl, (h q (List.mem_of_find?_eq_some hf)).2⟩
  obtain ⟨q, h1, i, rfl⟩ := this
  unfold lookI
  rw [h1]
theorem kv_key {kvs : List (D × D)} (h : KvOk kvs) (x : Str) : okKey kvs (.str x) = true := by
  unfold okKey
  rw [if_neg (by simp [isTup]), Bool.and_eq_true, List.all_eq_true]
  refine ⟨fun p hp => ?_, rfl⟩
  obtain ⟨⟨y, e⟩, _⟩ := h p hp
  rw [e]
  rfl
def tabD (ts : List (Str × List D)) (ws : List D) : List (D × D) := dictL ((ts.map (·.1)).map PyData.str) ws
def moreF (ts : List (Str × List D)) (ws : List D) (l r : List Str) : Int := (l.map (lookI (tabD ts ws))).sum - (r.map (lookI (tabD ts ws))).sum
theorem ints_map {α : Type} (f : α → Int) : ∀ l : List α, ints? (l.map fun x => .int (f x)) = some (l.map f)
  | [] => rfl
  | x :: l => by
    rw [List.map_cons, ints?, ints_map f l]
    rfl
def lkD (kvs : List (D × D)) : D → D
  | .str x => .int (lookI kvs x)
  | d => d
theorem sum_look (kvs : List (D × D)) (m : List Str) : sumD [.list ((m.map PyData.str).map (lkD kvs))] = some (.pf, .int ((m.map (lookI kvs)).sum)) := by
  have e : (m.map PyData.str).map (lkD kvs) = m.map fun x => .int (lookI kvs x) := by
    rw [List.map_map]
    rfl
  rw [e]
  unfold sumD
  simp only [ints_map]
  rfl
section
variable {ts ss : List (Str × List D)}
theorem ev_outweighs (k : Nat) (h : HouseOk ts ss) {ws so : List D} (hl : ws.length = ts.length) (hw : ∀ x ∈ ws, isInt x) {sc : Str} {l r : List Str} (h1 : l.Sublist (ts.map (·.1))) (h2 : r.Sublist (ts.map (·.1))) (s : D) :
    (lvl (k + 1)).f ("outweighs" : Str) [some (hD ts ss), some (.tuple [.tuple ws, .tuple so]), some (wgD sc l r)] s = some ((.pf, .int (moreF ts ws l r)), s) := by
  rw [f_outweighs]
  obtain ⟨f1, f2⟩ := fold_ok (ts.map (·.1)) ws [] (fun p hp => by cases hp) hw (by simp [hl])
  have k1 : KvOk (tabD ts ws) := f1
  have k2 : ∀ x ∈ ts.map (·.1), HasK (tabD ts ws) x := fun x hx => f2 x (.inl hx)
  have e1 : den (lvl k) e_outweighs_1 [some (.val (hD ts ss)), some (.val (.tuple [.tuple ws, .tuple so])), some (.val (wgD sc l r)), none, none, none] s = some ((.fr, .list ((ts.map (·.1)).map .str)), s) := by
    have := den_map (T := lvl k) (own := [(("row" : Str), 4)]) (t := .one 4) (it := .items (.ix (.var 0) (.cst (.int 0)))) (e := .ix (.var 4) (.cst (.int 0))) (ρ := [some (.val (hD ts ss)), some (.val (.tuple [.tuple ws, .tuple so])), some (.val (wgD sc l r)), none, none, none]) (s := s) (s1 := s) (ds := ts.map thD) (fun d => match d with | .tuple [x, _] => x | _ => d)
      (by simp [fnD, rho0, denSs, denS, den, dens, denB, denO, denF, denI, denX, dBo, dAnd, dOr, dB, dT, dNot, dIf, dNeg, dIsi, isDict, instB, tyD, sSeq, sRet, sRetv, sNil, sSet, sIf, sDrop, sApp, sPutL, sPutC, sPutD, sPar, sBind, sFrz, Co.putAll, Co.ent, d2, binD, cmpD, Bi.den, dCall, dCons, dNil, dVar, dC, dGlob, dChain, dTup, dLst, pfs?, dFrz, dCallF, xVal, xCel, xNil, dIxC, dIxS, dLenS, dDnew, dDisp1, leD, gtD, geD, ltD, addD, subD, mulD, mulE, modD, fdivD, fdivE, powD, absD, Co.intD, lenD, tupleD, listD, bindT, bindTs, Tgs.len, wipeR, idxE, idxD, atI_0, atI_1, atI_2, ixN_21, dSl, dPart, sliceD, dItemsB, dItemsE, ownKeys, itemsD, hD]) (fun d hd => by
        obtain ⟨p, hp, rfl⟩ := List.mem_map.mp hd
        exact ⟨[some (.val (hD ts ss)), some (.val (.tuple [.tuple ws, .tuple so])), some (.val (wgD sc l r)), none, some (.val (thD p)), none], by simp [wipeR, bindT], by simp [fnD, rho0, denSs, denS, den, dens, denB, denO, denF, denI, denX, dBo, dAnd, dOr, dB, dT, dNot, dIf, dNeg, dIsi, isDict, instB, tyD, sSeq, sRet, sRetv, sNil, sSet, sIf, sDrop, sApp, sPutL, sPutC, sPutD, sPar, sBind, sFrz, Co.putAll, Co.ent, d2, binD, cmpD, Bi.den, dCall, dCons, dNil, dVar, dC, dGlob, dChain, dTup, dLst, pfs?, dFrz, dCallF, xVal, xCel, xNil, dIxC, dIxS, dLenS, dDnew, dDisp1, leD, gtD, geD, ltD, addD, subD, mulD, mulE, modD, fdivD, fdivE, powD, absD, Co.intD, lenD, tupleD, listD, bindT, bindTs, Tgs.len, wipeR, idxE, idxD, atI_0, atI_1, atI_2, ixN_21, dSl, dPart, sliceD, thD]⟩)
    rw [e_outweighs_1, this]
    simp [thD, Function.comp_def]
  have e1' := den_frz e1
  have side : ∀ (i : Int) (m : List Str), m.Sublist (ts.map (·.1)) → idxE (wgD sc l r) (.int i) = some (.pf, .tuple (m.map .str)) → den (lvl k) (.lc [(("one" : Str), 5)] (.one 5) (.items (.ix (.var 2) (.cst (.int i)))) .no (.ix (.var 3) (.var 5))) [some (.val (hD ts ss)), some (.val (.tuple [.tuple ws, .tuple so])), some (.val (wgD sc l r)), some (.own (.dict (tabD ts ws))), none, none] s = some ((.fr, .list ((m.map PyData.str).map (lkD (tabD ts ws)))), s) := by
    intro i m hm hi
    refine den_map (lkD (tabD ts ws)) ?_ fun d hd => ?_
    · rw [denI]
      simp [dItemsB, dItemsE, den, d2, dVar, dC, hi, ownKeys, itemsD]
    · obtain ⟨x, hx, rfl⟩ := List.mem_map.mp hd
      refine ⟨[some (.val (hD ts ss)), some (.val (.tuple [.tuple ws, .tuple so])), some (.val (wgD sc l r)), some (.own (.dict (tabD ts ws))), none, some (.val (.str x))], by simp [wipeR, bindT], ?_⟩
      simp [den, d2, dVar, idxE, lkD, kv_key k1 x, look_has k1 (k2 x (hm.subset hx))]
  have e2 := side 1 l h1 (by simp [idxE, idxD, wgD, atI_1])
  have e3 := side 2 r h2 (by simp [idxE, idxD, wgD, atI_2])
  refine fn_rt (r := (.pf, .int (moreF ts ws l r))) ?_ (by simp)
  refine run_cons (ρ1 := [some (.val (hD ts ss)), some (.val (.tuple [.tuple ws, .tuple so])), some (.val (wgD sc l r)), some (.own (.dict (tabD ts ws))), none, none]) (s1 := s) ?_ ?_
  · refine st_fr ?_
    have q1 : den (lvl k) (.frz e_outweighs_1) (rho0 n_outweighs.length [some (hD ts ss), some (.tuple [.tuple ws, .tuple so]), some (wgD sc l r)]) s = some ((.pf, .list ((ts.map (·.1)).map .str)), s) := e1'
    have q2 : den (lvl k) (.ix (.var 1) (.cst (.int 0))) (rho0 n_outweighs.length [some (hD ts ss), some (.tuple [.tuple ws, .tuple so]), some (wgD sc l r)]) s = some ((.pf, .tuple ws), s) := by
      simp [n_outweighs, fnD, rho0, denSs, denS, den, dens, denB, denO, denF, denI, denX, dBo, dAnd, dOr, dB, dT, dNot, dIf, dNeg, dIsi, isDict, instB, tyD, sSeq, sRet, sRetv, sNil, sSet, sIf, sDrop, sApp, sPutL, sPutC, sPutD, sPar, sBind, sFrz, Co.putAll, Co.ent, d2, binD, cmpD, Bi.den, dCall, dCons, dNil, dVar, dC, dGlob, dChain, dTup, dLst, pfs?, dFrz, dCallF, xVal, xCel, xNil, dIxC, dIxS, dLenS, dDnew, dDisp1, leD, gtD, geD, ltD, addD, subD, mulD, mulE, modD, fdivD, fdivE, powD, absD, Co.intD, lenD, tupleD, listD, bindT, bindTs, Tgs.len, wipeR, idxE, idxD, atI_0, atI_1, atI_2, ixN_21, dSl, dPart, sliceD]
    have q3 : ((ts.map (·.1)).map PyData.str).all (fun d => (sKey d).isSome) = true := by
      rw [List.all_eq_true]
      intro d hd
      obtain ⟨x, _, rfl⟩ := List.mem_map.mp hd
      rfl
    rw [den]
    unfold dDzip
    simp only [q1, q2, Option.bind_some, seqD]
    rw [if_pos ⟨rfl, q3⟩]
    rfl
  · refine run_ret (st_ret ?_ (by simp))
    have s1 := sum_look (tabD ts ws) l
    have s2 := sum_look (tabD ts ws) r
    have e2' : den (lvl k) e_outweighs_2 [some (.val (hD ts ss)), some (.val (.tuple [.tuple ws, .tuple so])), some (.val (wgD sc l r)), some (.own (.dict (tabD ts ws))), none, none] s = _ := e2
    have e3' : den (lvl k) e_outweighs_3 [some (.val (hD ts ss)), some (.val (.tuple [.tuple ws, .tuple so])), some (.val (wgD sc l r)), some (.own (.dict (tabD ts ws))), none, none] s = _ := e3
    exact e_bin (e_bi1 e2' s1) (e_bi1 e3' s2) rfl
end
end G4
end

section
set_option Elab.async false
set_option linter.all false
set_option maxRecDepth 100000
set_option maxHeartbeats 2000000
set_option autoImplicit false
namespace G4
open PySem L2 Co
theorem e_ifT {T : Tb} {t a b : CE} {ρ : Rho} {s s1 : D} {o : Option (R × D)} (h : dT (den T t) ρ s = some (true, s1)) (h2 : den T a ρ s1 = o) : den T (.ifx t a b) ρ s = o := by
  rw [den]
  unfold dIf
  simp [h, h2]
theorem e_ifF {T : Tb} {t a b : CE} {ρ : Rho} {s s1 : D} {o : Option (R × D)} (h : dT (den T t) ρ s = some (false, s1)) (h2 : den T b ρ s1 = o) : den T (.ifx t a b) ρ s = o := by
  rw [den]
  unfold dIf
  simp [h, h2]
/-! ### one answer -/
theorem eq_str (a b : Str) : eqD (.str a) (.str b) = some (.pf, .bool (decide (a = b))) := by
  have h : min (PyData.str a).depth (PyData.str b).depth ≤ 100 := min_low (Nat.le_trans (str_depth b) (by decide))
  show (if isDict (.str a) = false ∧ isDict (.str b) = false ∧ min (PyData.str a).depth (PyData.str b).depth ≤ 100 then some (Fl.pf, PyData.bool (PyData.eqv (.str a) (.str b))) else none) = _
  rw [if_pos ⟨rfl, rfl, h⟩, eqv_str]
theorem eq_int (a b : Int) : eqD (.int a) (.int b) = some (.pf, .bool (decide (a = b))) := by
  have h : min (PyData.int a).depth (PyData.int b).depth ≤ 100 := min_low (by simp [PyData.depth])
  show (if isDict (.int a) = false ∧ isDict (.int b) = false ∧ min (PyData.int a).depth (PyData.int b).depth ≤ 100 then some (Fl.pf, PyData.bool (PyData.eqv (.int a) (.int b))) else none) = _
  rw [if_pos ⟨rfl, rfl, h⟩]
  simp [PyData.eqv]
  rfl
theorem ne_nil (ds : List D) : neD (.list ds) (.list []) = some (.pf, .bool (!ds.isEmpty)) := by
  have h : min (PyData.list ds).depth (PyData.list []).depth ≤ 100 := min_low (by simp [PyData.depth, PyData.depthAll])
  show (if isDict (.list ds) = false ∧ isDict (.list []) = false ∧ min (PyData.list ds).depth (PyData.list []).depth ≤ 100 then some (Fl.pf, PyData.bool (!PyData.eqv (.list ds) (.list []))) else none) = _
  rw [if_pos ⟨rfl, rfl, h⟩]
  cases ds <;> simp [PyData.eqv, PyData.eqvAll]
theorem sgn_in (n : Int) : -1 ≤ sgn n ∧ sgn n ≤ 1 := by
  unfold sgn
  split <;> split <;> omega
section
variable {ts ss : List (Str × List D)}
def jF (ss : List (Str × List D)) (sc : Str) : Nat := (firstAt (.str sc) ((ss.map (·.1)).map .str)).getD 0
theorem idx_sc (h : HouseOk ts ss) {sc : Str} (hs : sc ∈ ss.map (·.1)) : jF ss sc < ss.length ∧ SeqAt.shaped (.list ((ss.map (·.1)).map .str)) = true ∧ SeqAt.shaped (.str sc) = true ∧ firstAt (.str sc) ((ss.map (·.1)).map .str) = some (jF ss sc) := by
  obtain ⟨n, h1, h2, e⟩ := h.sn
  have hl : ss.length = (sN.take n).length := by rw [← e, List.length_map]
  unfold jF
  rw [hl]
  rw [e] at hs ⊢
  have hn : n = 1 ∨ n = 2 ∨ n = 3 := by omega
  have hsc : sc = "p" ∨ sc = "q" ∨ sc = "r" := by
    have := List.mem_of_mem_take hs
    simpa [sN] using this
  have key : ∀ n ∈ [1, 2, 3], ∀ sc ∈ sN.take n, (firstAt (.str sc) ((sN.take n).map .str)).getD 0 < (sN.take n).length ∧ SeqAt.shaped (.list ((sN.take n).map .str)) = true ∧ SeqAt.shaped (.str sc) = true ∧ (firstAt (.str sc) ((sN.take n).map .str)).isSome = true := by decide +kernel
  obtain ⟨a, b, c, d⟩ := key n (by rcases hn with rfl | rfl | rfl <;> simp) sc hs
  refine ⟨a, b, c, ?_⟩
  cases hf : firstAt (.str sc) ((sN.take n).map .str) with
  | none => rw [hf] at d; cases d
  | some j => rfl
def unS : D → Str
  | .str x => x
  | _ => Str.empty
def dec : D → Str × List Str × List Str
  | .tuple [.str sc, .tuple l, .tuple r] => (sc, l.map unS, r.map unS)
  | _ => (Str.empty, [], [])
theorem dec_wg (sc : Str) (l r : List Str) : dec (wgD sc l r) = (sc, l, r) := by
  have : ∀ m : List Str, (m.map PyData.str).map unS = m := fun m => by
    rw [List.map_map]
    exact List.map_id m
  unfold wgD dec
  simp only [this]
def ownF (ahead : List D) (sc : Str) : List D := ahead.filter fun d => decide ((dec d).1 = sc)
def srtF (ts : List (Str × List D)) (ws : List D) (own : List D) (m : Int) : D → Int
  | .tuple [.str x] => if x = ("lies" : Str) then 0 - sgn m else if x = ("echo" : Str) then (match own.getLast? with | some o => sgn (moreF ts ws (dec o).2.1 (dec o).2.2) | none => 0) else sgn m
  | .tuple [.str x, .int i] => if x = ("leans" : Str) then sgn (m + i) else if x = ("sticks" : Str) then (if (if m < 0 then -m else m) ≤ i then 0 else sgn m) else if ((own.length : Int) + i) % 2 = 1 then 0 - sgn m else sgn m
  | _ => 0
theorem srtF_one (ts : List (Str × List D)) (ws own : List D) (m : Int) (x : Str) : srtF ts ws own m (.tuple [.str x]) = if x = ("lies" : Str) then 0 - sgn m else if x = ("echo" : Str) then (match own.getLast? with | some o => sgn (moreF ts ws (dec o).2.1 (dec o).2.2) | none => 0) else sgn m := rfl
theorem srtF_two (ts : List (Str × List D)) (ws own : List D) (m : Int) (x : Str) (i : Int) : srtF ts ws own m (.tuple [.str x, .int i]) = if x = ("leans" : Str) then sgn (m + i) else if x = ("sticks" : Str) then (if (if m < 0 then -m else m) ≤ i then 0 else sgn m) else if ((own.length : Int) + i) % 2 = 1 then 0 - sgn m else sgn m := rfl
def ansF (ts ss : List (Str × List D)) (ws so ahead : List D) (w : D) : Int := srtF ts ws (ownF ahead (dec w).1) (moreF ts ws (dec w).2.1 (dec w).2.2) ((so[jF ss (dec w).1]?).getD .none)
theorem srtF_in (ts : List (Str × List D)) (ws own : List D) (m : Int) (d : D) : -1 ≤ srtF ts ws own m d ∧ srtF ts ws own m d ≤ 1 := by
  have g := sgn_in m
  unfold srtF
  split
  · split
    · omega
    · split
      · split
        · exact sgn_in _
        · omega
      · exact g
  · split
    · exact sgn_in _
    · split
      · generalize (if m < 0 then -m else m) = z
        split
        · omega
        · exact g
      · split <;> omega
  · omega
theorem tst (k : Nat) (x y : Str) (rest : List D) (a b c d e f g h : Option Ent) (s : D) : dT (den (lvl k) (.cmp .Eq (.ix (.var 4) (.cst (.int 0))) (.cst (.str y)))) [a, b, c, d, some (.val (.tuple (.str x :: rest))), e, f, g, h] s = some (decide (x = y), s) :=
  t_of (e_2 (ra := (.pf, .str x)) (rb := (.pf, .str y)) (s1 := s) (s2 := s) (by simp [fnD, rho0, denSs, denS, den, dens, denB, denO, denF, denI, denX, dBo, dAnd, dOr, dB, dT, dNot, dIf, dNeg, dIsi, isDict, instB, tyD, sSeq, sRet, sRetv, sNil, sSet, sIf, sDrop, sApp, sPutL, sPutC, sPutD, sPar, sBind, sFrz, Co.putAll, Co.ent, d2, binD, cmpD, Bi.den, dCall, dCons, dNil, dVar, dC, dGlob, dChain, dTup, dLst, pfs?, dFrz, dCallF, xVal, xCel, xNil, dIxC, dIxS, dLenS, dDnew, dDisp1, leD, gtD, geD, ltD, addD, subD, mulD, mulE, modD, fdivD, fdivE, powD, absD, Co.intD, lenD, tupleD, listD, bindT, bindTs, Tgs.len, wipeR, idxE, idxD, atI_0, atI_1, atI_2, ixN_21, dSl, dPart, sliceD]) (by simp [fnD, rho0, denSs, denS, den, dens, denB, denO, denF, denI, denX, dBo, dAnd, dOr, dB, dT, dNot, dIf, dNeg, dIsi, isDict, instB, tyD, sSeq, sRet, sRetv, sNil, sSet, sIf, sDrop, sApp, sPutL, sPutC, sPutD, sPar, sBind, sFrz, Co.putAll, Co.ent, d2, binD, cmpD, Bi.den, dCall, dCons, dNil, dVar, dC, dGlob, dChain, dTup, dLst, pfs?, dFrz, dCallF, xVal, xCel, xNil, dIxC, dIxS, dLenS, dDnew, dDisp1, leD, gtD, geD, ltD, addD, subD, mulD, mulE, modD, fdivD, fdivE, powD, absD, Co.intD, lenD, tupleD, listD, bindT, bindTs, Tgs.len, wipeR, idxE, idxD, atI_0, atI_1, atI_2, ixN_21, dSl, dPart, sliceD]) (eq_str x y))
theorem ev_answer (k : Nat) (h : HouseOk ts ss) {ws so : List D} (hl : ws.length = ts.length) (hw : ∀ x ∈ ws, isInt x) (hl2 : so.length = ss.length) (hs : ∀ x ∈ so, SrtOk x) {ahead : List D} (ha : ∀ d ∈ ahead, WeighOk ts ss d) {w : D} (hd : WeighOk ts ss w) (s : D) :
    (lvl (k + 2)).f ("answer" : Str) [some (hD ts ss), some (.tuple [.tuple ws, .tuple so]), some (.list ahead), some w] s = some ((.pf, .int (ansF ts ss ws so ahead w)), s) := by
  obtain ⟨sc, l, r, rfl, h1, h2, h3, h4⟩ := hd
  rw [f_answer]
  obtain ⟨j1, j2, j3, j4⟩ := idx_sc h h1
  have hj : jF ss sc < so.length := by omega
  have ok := hs _ (List.getElem_mem hj)
  have eA : ansF ts ss ws so ahead (wgD sc l r) = srtF ts ws (ownF ahead sc) (moreF ts ws l r) so[jF ss sc] := by
    unfold ansF
    rw [dec_wg, List.getElem?_eq_getElem hj]
    rfl
  rw [eA]
  have o1 := ev_outweighs k h (so := so) hl hw (sc := sc) h2 h3 s
  have e1 : den (lvl (k + 1)) e_answer_1 [some (.val (hD ts ss)), some (.val (.tuple [.tuple ws, .tuple so])), some (.val (.list ahead)), some (.val (wgD sc l r)), none, none, none, none, none] s = some ((.fr, .list ((ss.map (·.1)).map .str)), s) := by
    have := den_map (T := lvl (k + 1)) (own := [(("row" : Str), 8)]) (t := .one 8) (it := .items (.ix (.var 0) (.cst (.int 1)))) (e := .ix (.var 8) (.cst (.int 0))) (ρ := [some (.val (hD ts ss)), some (.val (.tuple [.tuple ws, .tuple so])), some (.val (.list ahead)), some (.val (wgD sc l r)), none, none, none, none, none]) (s := s) (s1 := s) (ds := ss.map thD) (fun d => match d with | .tuple [x, _] => x | _ => d)
      (by simp [fnD, rho0, denSs, denS, den, dens, denB, denO, denF, denI, denX, dBo, dAnd, dOr, dB, dT, dNot, dIf, dNeg, dIsi, isDict, instB, tyD, sSeq, sRet, sRetv, sNil, sSet, sIf, sDrop, sApp, sPutL, sPutC, sPutD, sPar, sBind, sFrz, Co.putAll, Co.ent, d2, binD, cmpD, Bi.den, dCall, dCons, dNil, dVar, dC, dGlob, dChain, dTup, dLst, pfs?, dFrz, dCallF, xVal, xCel, xNil, dIxC, dIxS, dLenS, dDnew, dDisp1, leD, gtD, geD, ltD, addD, subD, mulD, mulE, modD, fdivD, fdivE, powD, absD, Co.intD, lenD, tupleD, listD, bindT, bindTs, Tgs.len, wipeR, idxE, idxD, atI_0, atI_1, atI_2, ixN_21, dSl, dPart, sliceD, dItemsB, dItemsE, ownKeys, itemsD, hD]) (fun d hd => by
        obtain ⟨p, hp, rfl⟩ := List.mem_map.mp hd
        exact ⟨[some (.val (hD ts ss)), some (.val (.tuple [.tuple ws, .tuple so])), some (.val (.list ahead)), some (.val (wgD sc l r)), none, none, none, none, some (.val (thD p))], by simp [wipeR, bindT], by simp [fnD, rho0, denSs, denS, den, dens, denB, denO, denF, denI, denX, dBo, dAnd, dOr, dB, dT, dNot, dIf, dNeg, dIsi, isDict, instB, tyD, sSeq, sRet, sRetv, sNil, sSet, sIf, sDrop, sApp, sPutL, sPutC, sPutD, sPar, sBind, sFrz, Co.putAll, Co.ent, d2, binD, cmpD, Bi.den, dCall, dCons, dNil, dVar, dC, dGlob, dChain, dTup, dLst, pfs?, dFrz, dCallF, xVal, xCel, xNil, dIxC, dIxS, dLenS, dDnew, dDisp1, leD, gtD, geD, ltD, addD, subD, mulD, mulE, modD, fdivD, fdivE, powD, absD, Co.intD, lenD, tupleD, listD, bindT, bindTs, Tgs.len, wipeR, idxE, idxD, atI_0, atI_1, atI_2, ixN_21, dSl, dPart, sliceD, thD]⟩)
    rw [e_answer_1, this]
    simp [thD, Function.comp_def]
  have q : den (lvl (k + 1)) (.idx e_answer_1 (.ix (.var 3) (.cst (.int 0)))) [some (.val (hD ts ss)), some (.val (.tuple [.tuple ws, .tuple so])), some (.val (.list ahead)), some (.val (wgD sc l r)), none, none, none, none, none] s = some ((.pf, .int (jF ss sc : Nat)), s) := by
    have q2 : den (lvl (k + 1)) (.ix (.var 3) (.cst (.int 0))) [some (.val (hD ts ss)), some (.val (.tuple [.tuple ws, .tuple so])), some (.val (.list ahead)), some (.val (wgD sc l r)), none, none, none, none, none] s = some ((.pf, .str sc), s) := by simp [fnD, rho0, denSs, denS, den, dens, denB, denO, denF, denI, denX, dBo, dAnd, dOr, dB, dT, dNot, dIf, dNeg, dIsi, isDict, instB, tyD, sSeq, sRet, sRetv, sNil, sSet, sIf, sDrop, sApp, sPutL, sPutC, sPutD, sPar, sBind, sFrz, Co.putAll, Co.ent, d2, binD, cmpD, Bi.den, dCall, dCons, dNil, dVar, dC, dGlob, dChain, dTup, dLst, pfs?, dFrz, dCallF, xVal, xCel, xNil, dIxC, dIxS, dLenS, dDnew, dDisp1, leD, gtD, geD, ltD, addD, subD, mulD, mulE, modD, fdivD, fdivE, powD, absD, Co.intD, lenD, tupleD, listD, bindT, bindTs, Tgs.len, wipeR, idxE, idxD, atI_0, atI_1, atI_2, ixN_21, dSl, dPart, sliceD, wgD]
    rw [den]
    unfold dIndex
    simp only [e1, q2, Option.bind_eq_bind, Option.bind_some]
    rw [if_pos ⟨j2, j3, rfl⟩, j4]
    rfl
  have a1 : atI so ((jF ss sc : Nat) : Int) = some so[jF ss sc] := atI_nat (by omega) (by simp [List.getElem?_eq_getElem hj])
  have c6 : den (lvl (k + 1)) (.ix (.ix (.var 1) (.cst (.int 1))) (.idx e_answer_1 (.ix (.var 3) (.cst (.int 0))))) [some (.val (hD ts ss)), some (.val (.tuple [.tuple ws, .tuple so])), some (.val (.list ahead)), some (.val (wgD sc l r)), none, none, none, none, none] s = some ((.pf, so[jF ss sc]), s) :=
    e_ix (ra := (.pf, .tuple so)) (s1 := s) (by simp [fnD, rho0, denSs, denS, den, dens, denB, denO, denF, denI, denX, dBo, dAnd, dOr, dB, dT, dNot, dIf, dNeg, dIsi, isDict, instB, tyD, sSeq, sRet, sRetv, sNil, sSet, sIf, sDrop, sApp, sPutL, sPutC, sPutD, sPar, sBind, sFrz, Co.putAll, Co.ent, d2, binD, cmpD, Bi.den, dCall, dCons, dNil, dVar, dC, dGlob, dChain, dTup, dLst, pfs?, dFrz, dCallF, xVal, xCel, xNil, dIxC, dIxS, dLenS, dDnew, dDisp1, leD, gtD, geD, ltD, addD, subD, mulD, mulE, modD, fdivD, fdivE, powD, absD, Co.intD, lenD, tupleD, listD, bindT, bindTs, Tgs.len, wipeR, idxE, idxD, atI_0, atI_1, atI_2, ixN_21, dSl, dPart, sliceD]) q (by show (atI so ((jF ss sc : Nat) : Int)).map _ = _; rw [a1]; rfl)
  have e2 : den (lvl (k + 1)) e_answer_2 [some (.val (hD ts ss)), some (.val (.tuple [.tuple ws, .tuple so])), some (.val (.list ahead)), some (.val (wgD sc l r)), some (.val so[jF ss sc]), none, none, none, none] s = some ((.fr, .list ((ahead.filter fun d => decide ((dec d).1 = sc)).map fun d => d)), s) := by
    refine den_filt (fun d => decide ((dec d).1 = sc)) (fun d => d) (by simp [fnD, rho0, denSs, denS, den, dens, denB, denO, denF, denI, denX, dBo, dAnd, dOr, dB, dT, dNot, dIf, dNeg, dIsi, isDict, instB, tyD, sSeq, sRet, sRetv, sNil, sSet, sIf, sDrop, sApp, sPutL, sPutC, sPutD, sPar, sBind, sFrz, Co.putAll, Co.ent, d2, binD, cmpD, Bi.den, dCall, dCons, dNil, dVar, dC, dGlob, dChain, dTup, dLst, pfs?, dFrz, dCallF, xVal, xCel, xNil, dIxC, dIxS, dLenS, dDnew, dDisp1, leD, gtD, geD, ltD, addD, subD, mulD, mulE, modD, fdivD, fdivE, powD, absD, Co.intD, lenD, tupleD, listD, bindT, bindTs, Tgs.len, wipeR, idxE, idxD, atI_0, atI_1, atI_2, ixN_21, dSl, dPart, sliceD, dItemsB, dItemsE, ownKeys, itemsD]) fun d hd => ?_
    obtain ⟨sc', l', r', rfl, _⟩ := ha d hd
    refine ⟨[some (.val (hD ts ss)), some (.val (.tuple [.tuple ws, .tuple so])), some (.val (.list ahead)), some (.val (wgD sc l r)), some (.val so[jF ss sc]), none, none, some (.val (wgD sc' l' r')), none], by simp [wipeR, bindT], ?_, fun _ => by simp [fnD, rho0, denSs, denS, den, dens, denB, denO, denF, denI, denX, dBo, dAnd, dOr, dB, dT, dNot, dIf, dNeg, dIsi, isDict, instB, tyD, sSeq, sRet, sRetv, sNil, sSet, sIf, sDrop, sApp, sPutL, sPutC, sPutD, sPar, sBind, sFrz, Co.putAll, Co.ent, d2, binD, cmpD, Bi.den, dCall, dCons, dNil, dVar, dC, dGlob, dChain, dTup, dLst, pfs?, dFrz, dCallF, xVal, xCel, xNil, dIxC, dIxS, dLenS, dDnew, dDisp1, leD, gtD, geD, ltD, addD, subD, mulD, mulE, modD, fdivD, fdivE, powD, absD, Co.intD, lenD, tupleD, listD, bindT, bindTs, Tgs.len, wipeR, idxE, idxD, atI_0, atI_1, atI_2, ixN_21, dSl, dPart, sliceD]⟩
    rw [dec_wg]
    exact t_of (e_2 (ra := (.pf, .str sc')) (rb := (.pf, .str sc)) (s1 := s) (s2 := s) (by simp [fnD, rho0, denSs, denS, den, dens, denB, denO, denF, denI, denX, dBo, dAnd, dOr, dB, dT, dNot, dIf, dNeg, dIsi, isDict, instB, tyD, sSeq, sRet, sRetv, sNil, sSet, sIf, sDrop, sApp, sPutL, sPutC, sPutD, sPar, sBind, sFrz, Co.putAll, Co.ent, d2, binD, cmpD, Bi.den, dCall, dCons, dNil, dVar, dC, dGlob, dChain, dTup, dLst, pfs?, dFrz, dCallF, xVal, xCel, xNil, dIxC, dIxS, dLenS, dDnew, dDisp1, leD, gtD, geD, ltD, addD, subD, mulD, mulE, modD, fdivD, fdivE, powD, absD, Co.intD, lenD, tupleD, listD, bindT, bindTs, Tgs.len, wipeR, idxE, idxD, atI_0, atI_1, atI_2, ixN_21, dSl, dPart, sliceD, wgD]) (by simp [fnD, rho0, denSs, denS, den, dens, denB, denO, denF, denI, denX, dBo, dAnd, dOr, dB, dT, dNot, dIf, dNeg, dIsi, isDict, instB, tyD, sSeq, sRet, sRetv, sNil, sSet, sIf, sDrop, sApp, sPutL, sPutC, sPutD, sPar, sBind, sFrz, Co.putAll, Co.ent, d2, binD, cmpD, Bi.den, dCall, dCons, dNil, dVar, dC, dGlob, dChain, dTup, dLst, pfs?, dFrz, dCallF, xVal, xCel, xNil, dIxC, dIxS, dLenS, dDnew, dDisp1, leD, gtD, geD, ltD, addD, subD, mulD, mulE, modD, fdivD, fdivE, powD, absD, Co.intD, lenD, tupleD, listD, bindT, bindTs, Tgs.len, wipeR, idxE, idxD, atI_0, atI_1, atI_2, ixN_21, dSl, dPart, sliceD, wgD]) (eq_str sc' sc))
  rw [List.map_id'] at e2
  have e2 : den (lvl (k + 1)) e_answer_2 [some (.val (hD ts ss)), some (.val (.tuple [.tuple ws, .tuple so])), some (.val (.list ahead)), some (.val (wgD sc l r)), some (.val so[jF ss sc]), none, none, none, none] s = some ((.fr, .list (ownF ahead sc)), s) := e2
  have c8 : den (lvl (k + 1)) (.call ("outweighs" : Str) 3 (.val (.var 0) (.val (.var 1) (.val (.var 3) .nil)))) [some (.val (hD ts ss)), some (.val (.tuple [.tuple ws, .tuple so])), some (.val (.list ahead)), some (.val (wgD sc l r)), some (.val so[jF ss sc]), some (.val (.list (ownF ahead sc))), none, none, none] s = some ((.pf, .int (moreF ts ws l r)), s) :=
    e_call (xs := [some (hD ts ss), some (.tuple [.tuple ws, .tuple so]), some (wgD sc l r)]) (s1 := s) (by simp [fnD, rho0, denSs, denS, den, dens, denB, denO, denF, denI, denX, dBo, dAnd, dOr, dB, dT, dNot, dIf, dNeg, dIsi, isDict, instB, tyD, sSeq, sRet, sRetv, sNil, sSet, sIf, sDrop, sApp, sPutL, sPutC, sPutD, sPar, sBind, sFrz, Co.putAll, Co.ent, d2, binD, cmpD, Bi.den, dCall, dCons, dNil, dVar, dC, dGlob, dChain, dTup, dLst, pfs?, dFrz, dCallF, xVal, xCel, xNil, dIxC, dIxS, dLenS, dDnew, dDisp1, leD, gtD, geD, ltD, addD, subD, mulD, mulE, modD, fdivD, fdivE, powD, absD, Co.intD, lenD, tupleD, listD, bindT, bindTs, Tgs.len, wipeR, idxE, idxD, atI_0, atI_1, atI_2, ixN_21, dSl, dPart, sliceD]) o1 (by simp) rfl
  have osub : ∀ d ∈ ownF ahead sc, WeighOk ts ss d := fun d hd => ha d (List.mem_filter.mp hd).1
  generalize ownF ahead sc = own at *
  generalize hm : moreF ts ws l r = more at *
  have sg : ∀ n : Int, (lvl (k + 1)).f ("sign" : Str) [some (.int n)] s = some ((.pf, .int (sgn n)), s) := fun n => ev_sign k n s
  refine fn_rt (r := (.pf, .int (srtF ts ws own more so[jF ss sc]))) ?_ (by simp)
  refine run_cons (st_pf c6) (run_cons (st_fr e2) (run_frz (ds := own) rfl (run_cons (st_pf c8) ?_)))
  show denSs (lvl (k + 1)) _ [some (.val (hD ts ss)), some (.val (.tuple [.tuple ws, .tuple so])), some (.val (.list ahead)), some (.val (wgD sc l r)), some (.val so[jF ss sc]), some (.val (.list own)), some (.val (.int more)), none, none] s = _
  generalize so[jF ss sc] = so1 at *
  cases ok with
  | tru =>
    refine run_cons (st_ifF (by rw [tst]; rfl) run_nil) (run_cons (st_ifF (by rw [tst]; rfl) run_nil) (run_cons (st_ifF (by rw [tst]; rfl) run_nil) (run_cons (st_ifF (by rw [tst]; rfl) run_nil) (run_cons (st_ifF (by rw [tst]; rfl) run_nil) (run_ret (st_ret ?_ (by simp)))))))
    exact e_call (xs := [some (.int more)]) (s1 := s) (by simp [fnD, rho0, denSs, denS, den, dens, denB, denO, denF, denI, denX, dBo, dAnd, dOr, dB, dT, dNot, dIf, dNeg, dIsi, isDict, instB, tyD, sSeq, sRet, sRetv, sNil, sSet, sIf, sDrop, sApp, sPutL, sPutC, sPutD, sPar, sBind, sFrz, Co.putAll, Co.ent, d2, binD, cmpD, Bi.den, dCall, dCons, dNil, dVar, dC, dGlob, dChain, dTup, dLst, pfs?, dFrz, dCallF, xVal, xCel, xNil, dIxC, dIxS, dLenS, dDnew, dDisp1, leD, gtD, geD, ltD, addD, subD, mulD, mulE, modD, fdivD, fdivE, powD, absD, Co.intD, lenD, tupleD, listD, bindT, bindTs, Tgs.len, wipeR, idxE, idxD, atI_0, atI_1, atI_2, ixN_21, dSl, dPart, sliceD]) (sg more) (by simp) rfl
  | lies =>
    refine run_ret (st_ifT (by rw [tst]; rfl) (run_ret (st_ret ?_ (by simp))))
    exact e_bin (ra := (.pf, .int 0)) (s1 := s) (by simp [fnD, rho0, denSs, denS, den, dens, denB, denO, denF, denI, denX, dBo, dAnd, dOr, dB, dT, dNot, dIf, dNeg, dIsi, isDict, instB, tyD, sSeq, sRet, sRetv, sNil, sSet, sIf, sDrop, sApp, sPutL, sPutC, sPutD, sPar, sBind, sFrz, Co.putAll, Co.ent, d2, binD, cmpD, Bi.den, dCall, dCons, dNil, dVar, dC, dGlob, dChain, dTup, dLst, pfs?, dFrz, dCallF, xVal, xCel, xNil, dIxC, dIxS, dLenS, dDnew, dDisp1, leD, gtD, geD, ltD, addD, subD, mulD, mulE, modD, fdivD, fdivE, powD, absD, Co.intD, lenD, tupleD, listD, bindT, bindTs, Tgs.len, wipeR, idxE, idxD, atI_0, atI_1, atI_2, ixN_21, dSl, dPart, sliceD]) (e_call (xs := [some (.int more)]) (s1 := s) (by simp [fnD, rho0, denSs, denS, den, dens, denB, denO, denF, denI, denX, dBo, dAnd, dOr, dB, dT, dNot, dIf, dNeg, dIsi, isDict, instB, tyD, sSeq, sRet, sRetv, sNil, sSet, sIf, sDrop, sApp, sPutL, sPutC, sPutD, sPar, sBind, sFrz, Co.putAll, Co.ent, d2, binD, cmpD, Bi.den, dCall, dCons, dNil, dVar, dC, dGlob, dChain, dTup, dLst, pfs?, dFrz, dCallF, xVal, xCel, xNil, dIxC, dIxS, dLenS, dDnew, dDisp1, leD, gtD, geD, ltD, addD, subD, mulD, mulE, modD, fdivD, fdivE, powD, absD, Co.intD, lenD, tupleD, listD, bindT, bindTs, Tgs.len, wipeR, idxE, idxD, atI_0, atI_1, atI_2, ixN_21, dSl, dPart, sliceD]) (sg more) (by simp) rfl) rfl
  | echo =>
    refine run_cons (st_ifF (by rw [tst]; rfl) run_nil) (run_cons (st_ifF (by rw [tst]; rfl) run_nil) (run_cons (st_ifF (by rw [tst]; rfl) run_nil) (run_cons (st_ifF (by rw [tst]; rfl) run_nil) (run_ret (st_ifT (by rw [tst]; rfl) (run_ret (st_ret ?_ (by simp))))))))
    have t1 : dT (den (lvl (k + 1)) (.cmp .NotEq (.var 5) (.lst .nil))) [some (.val (hD ts ss)), some (.val (.tuple [.tuple ws, .tuple so])), some (.val (.list ahead)), some (.val (wgD sc l r)), some (.val (.tuple [.str "echo"])), some (.val (.list own)), some (.val (.int more)), none, none] s = some (!own.isEmpty, s) :=
      t_of (e_2 (ra := (.pf, .list own)) (rb := (.fr, .list [])) (s1 := s) (s2 := s) (by simp [fnD, rho0, denSs, denS, den, dens, denB, denO, denF, denI, denX, dBo, dAnd, dOr, dB, dT, dNot, dIf, dNeg, dIsi, isDict, instB, tyD, sSeq, sRet, sRetv, sNil, sSet, sIf, sDrop, sApp, sPutL, sPutC, sPutD, sPar, sBind, sFrz, Co.putAll, Co.ent, d2, binD, cmpD, Bi.den, dCall, dCons, dNil, dVar, dC, dGlob, dChain, dTup, dLst, pfs?, dFrz, dCallF, xVal, xCel, xNil, dIxC, dIxS, dLenS, dDnew, dDisp1, leD, gtD, geD, ltD, addD, subD, mulD, mulE, modD, fdivD, fdivE, powD, absD, Co.intD, lenD, tupleD, listD, bindT, bindTs, Tgs.len, wipeR, idxE, idxD, atI_0, atI_1, atI_2, ixN_21, dSl, dPart, sliceD]) (by simp [fnD, rho0, denSs, denS, den, dens, denB, denO, denF, denI, denX, dBo, dAnd, dOr, dB, dT, dNot, dIf, dNeg, dIsi, isDict, instB, tyD, sSeq, sRet, sRetv, sNil, sSet, sIf, sDrop, sApp, sPutL, sPutC, sPutD, sPar, sBind, sFrz, Co.putAll, Co.ent, d2, binD, cmpD, Bi.den, dCall, dCons, dNil, dVar, dC, dGlob, dChain, dTup, dLst, pfs?, dFrz, dCallF, xVal, xCel, xNil, dIxC, dIxS, dLenS, dDnew, dDisp1, leD, gtD, geD, ltD, addD, subD, mulD, mulE, modD, fdivD, fdivE, powD, absD, Co.intD, lenD, tupleD, listD, bindT, bindTs, Tgs.len, wipeR, idxE, idxD, atI_0, atI_1, atI_2, ixN_21, dSl, dPart, sliceD]) (ne_nil own))
    cases ho : own.getLast? with
    | none =>
      have en : own = [] := List.getLast?_eq_none_iff.mp ho
      subst en
      have v : srtF ts ws [] more (.tuple [.str "echo"]) = 0 := by
        rw [srtF_one, if_neg (by decide), if_pos rfl]
        rfl
      rw [v]
      exact e_ifF t1 (by simp [fnD, rho0, denSs, denS, den, dens, denB, denO, denF, denI, denX, dBo, dAnd, dOr, dB, dT, dNot, dIf, dNeg, dIsi, isDict, instB, tyD, sSeq, sRet, sRetv, sNil, sSet, sIf, sDrop, sApp, sPutL, sPutC, sPutD, sPar, sBind, sFrz, Co.putAll, Co.ent, d2, binD, cmpD, Bi.den, dCall, dCons, dNil, dVar, dC, dGlob, dChain, dTup, dLst, pfs?, dFrz, dCallF, xVal, xCel, xNil, dIxC, dIxS, dLenS, dDnew, dDisp1, leD, gtD, geD, ltD, addD, subD, mulD, mulE, modD, fdivD, fdivE, powD, absD, Co.intD, lenD, tupleD, listD, bindT, bindTs, Tgs.len, wipeR, idxE, idxD, atI_0, atI_1, atI_2, ixN_21, dSl, dPart, sliceD])
    | some o =>
      have hne : own.isEmpty = false := by
        cases own with
        | nil => cases ho
        | cons _ _ => rfl
      rw [hne] at t1
      have om : o ∈ own := List.mem_of_getLast? ho
      obtain ⟨sc', l', r', rfl, _, g2, g3, _⟩ := osub o om
      have a5 : atI own (-1) = some (wgD sc' l' r') := by
        unfold atI ixN
        have hp : 0 < own.length := List.length_pos_of_mem om
        rw [if_neg (by decide), if_pos (by omega)]
        rw [List.getLast?_eq_getElem?] at ho
        have : ((-1 : Int) + (own.length : Int)).toNat = own.length - 1 := by omega
        simp only [Option.bind_some, this]
        exact ho
      have o2 := ev_outweighs k h (so := so) hl hw (sc := sc') g2 g3 s
      refine e_ifT t1 ?_
      have v : srtF ts ws own more (.tuple [.str "echo"]) = sgn (moreF ts ws l' r') := by
        rw [srtF_one, if_neg (by decide), if_pos rfl, ho]
        simp only [dec_wg]
      rw [v]
      refine e_call (xs := [some (.int (moreF ts ws l' r'))]) (s1 := s) ?_ (sg _) (by simp) rfl
      have c : den (lvl (k + 1)) (.call ("outweighs" : Str) 3 (.val (.var 0) (.val (.var 1) (.val (.ix (.var 5) (.neg (.cst (.int 1)))) .nil)))) [some (.val (hD ts ss)), some (.val (.tuple [.tuple ws, .tuple so])), some (.val (.list ahead)), some (.val (wgD sc l r)), some (.val (.tuple [.str "echo"])), some (.val (.list own)), some (.val (.int more)), none, none] s = some ((.pf, .int (moreF ts ws l' r')), s) :=
        e_call (xs := [some (hD ts ss), some (.tuple [.tuple ws, .tuple so]), some (wgD sc' l' r')]) (s1 := s) (by simp [fnD, rho0, denSs, denS, den, dens, denB, denO, denF, denI, denX, dBo, dAnd, dOr, dB, dT, dNot, dIf, dNeg, dIsi, isDict, instB, tyD, sSeq, sRet, sRetv, sNil, sSet, sIf, sDrop, sApp, sPutL, sPutC, sPutD, sPar, sBind, sFrz, Co.putAll, Co.ent, d2, binD, cmpD, Bi.den, dCall, dCons, dNil, dVar, dC, dGlob, dChain, dTup, dLst, pfs?, dFrz, dCallF, xVal, xCel, xNil, dIxC, dIxS, dLenS, dDnew, dDisp1, leD, gtD, geD, ltD, addD, subD, mulD, mulE, modD, fdivD, fdivE, powD, absD, Co.intD, lenD, tupleD, listD, bindT, bindTs, Tgs.len, wipeR, idxE, idxD, atI_0, atI_1, atI_2, ixN_21, dSl, dPart, sliceD, a5]) o2 (by simp) rfl
      rw [denX, denX]
      unfold xVal xNil
      rw [c]
      rfl
  | turns i =>
    refine run_cons (st_ifF (by rw [tst]; rfl) run_nil) (run_cons (st_ifF (by rw [tst]; rfl) run_nil) (run_cons (st_ifF (by rw [tst]; rfl) run_nil) (run_ret (st_ifT (by rw [tst]; rfl) (run_ret (st_ret ?_ (by simp)))))))
    have t1 : dT (den (lvl (k + 1)) (.cmp .Eq (.bin .Mod (.bin .Add (.bi .len (.cons (.var 5) .nil)) (.ix (.var 4) (.cst (.int 1)))) (.cst (.int 2))) (.cst (.int 1)))) [some (.val (hD ts ss)), some (.val (.tuple [.tuple ws, .tuple so])), some (.val (.list ahead)), some (.val (wgD sc l r)), some (.val (.tuple [.str "turns", .int i])), some (.val (.list own)), some (.val (.int more)), none, none] s = some (decide (((own.length : Int) + i) % 2 = 1), s) :=
      t_of (e_2 (ra := (.pf, .int (((own.length : Int) + i) % 2))) (rb := (.pf, .int 1)) (s1 := s) (s2 := s) (by simp [fnD, rho0, denSs, denS, den, dens, denB, denO, denF, denI, denX, dBo, dAnd, dOr, dB, dT, dNot, dIf, dNeg, dIsi, isDict, instB, tyD, sSeq, sRet, sRetv, sNil, sSet, sIf, sDrop, sApp, sPutL, sPutC, sPutD, sPar, sBind, sFrz, Co.putAll, Co.ent, d2, binD, cmpD, Bi.den, dCall, dCons, dNil, dVar, dC, dGlob, dChain, dTup, dLst, pfs?, dFrz, dCallF, xVal, xCel, xNil, dIxC, dIxS, dLenS, dDnew, dDisp1, leD, gtD, geD, ltD, addD, subD, mulD, mulE, modD, fdivD, fdivE, powD, absD, Co.intD, lenD, tupleD, listD, bindT, bindTs, Tgs.len, wipeR, idxE, idxD, atI_0, atI_1, atI_2, ixN_21, dSl, dPart, sliceD]) (by simp [fnD, rho0, denSs, denS, den, dens, denB, denO, denF, denI, denX, dBo, dAnd, dOr, dB, dT, dNot, dIf, dNeg, dIsi, isDict, instB, tyD, sSeq, sRet, sRetv, sNil, sSet, sIf, sDrop, sApp, sPutL, sPutC, sPutD, sPar, sBind, sFrz, Co.putAll, Co.ent, d2, binD, cmpD, Bi.den, dCall, dCons, dNil, dVar, dC, dGlob, dChain, dTup, dLst, pfs?, dFrz, dCallF, xVal, xCel, xNil, dIxC, dIxS, dLenS, dDnew, dDisp1, leD, gtD, geD, ltD, addD, subD, mulD, mulE, modD, fdivD, fdivE, powD, absD, Co.intD, lenD, tupleD, listD, bindT, bindTs, Tgs.len, wipeR, idxE, idxD, atI_0, atI_1, atI_2, ixN_21, dSl, dPart, sliceD]) (eq_int _ _))
    have v : srtF ts ws own more (.tuple [.str "turns", .int i]) = if ((own.length : Int) + i) % 2 = 1 then 0 - sgn more else sgn more := by
      rw [srtF_two, if_neg (by decide), if_neg (by decide)]
    rw [v]
    by_cases g : ((own.length : Int) + i) % 2 = 1
    · rw [if_pos g]
      rw [decide_eq_true g] at t1
      exact e_ifT t1 (e_bin (ra := (.pf, .int 0)) (s1 := s) (by simp [fnD, rho0, denSs, denS, den, dens, denB, denO, denF, denI, denX, dBo, dAnd, dOr, dB, dT, dNot, dIf, dNeg, dIsi, isDict, instB, tyD, sSeq, sRet, sRetv, sNil, sSet, sIf, sDrop, sApp, sPutL, sPutC, sPutD, sPar, sBind, sFrz, Co.putAll, Co.ent, d2, binD, cmpD, Bi.den, dCall, dCons, dNil, dVar, dC, dGlob, dChain, dTup, dLst, pfs?, dFrz, dCallF, xVal, xCel, xNil, dIxC, dIxS, dLenS, dDnew, dDisp1, leD, gtD, geD, ltD, addD, subD, mulD, mulE, modD, fdivD, fdivE, powD, absD, Co.intD, lenD, tupleD, listD, bindT, bindTs, Tgs.len, wipeR, idxE, idxD, atI_0, atI_1, atI_2, ixN_21, dSl, dPart, sliceD]) (e_call (xs := [some (.int more)]) (s1 := s) (by simp [fnD, rho0, denSs, denS, den, dens, denB, denO, denF, denI, denX, dBo, dAnd, dOr, dB, dT, dNot, dIf, dNeg, dIsi, isDict, instB, tyD, sSeq, sRet, sRetv, sNil, sSet, sIf, sDrop, sApp, sPutL, sPutC, sPutD, sPar, sBind, sFrz, Co.putAll, Co.ent, d2, binD, cmpD, Bi.den, dCall, dCons, dNil, dVar, dC, dGlob, dChain, dTup, dLst, pfs?, dFrz, dCallF, xVal, xCel, xNil, dIxC, dIxS, dLenS, dDnew, dDisp1, leD, gtD, geD, ltD, addD, subD, mulD, mulE, modD, fdivD, fdivE, powD, absD, Co.intD, lenD, tupleD, listD, bindT, bindTs, Tgs.len, wipeR, idxE, idxD, atI_0, atI_1, atI_2, ixN_21, dSl, dPart, sliceD]) (sg more) (by simp) rfl) rfl)
    · rw [if_neg g]
      rw [decide_eq_false g] at t1
      exact e_ifF t1 (e_call (xs := [some (.int more)]) (s1 := s) (by simp [fnD, rho0, denSs, denS, den, dens, denB, denO, denF, denI, denX, dBo, dAnd, dOr, dB, dT, dNot, dIf, dNeg, dIsi, isDict, instB, tyD, sSeq, sRet, sRetv, sNil, sSet, sIf, sDrop, sApp, sPutL, sPutC, sPutD, sPar, sBind, sFrz, Co.putAll, Co.ent, d2, binD, cmpD, Bi.den, dCall, dCons, dNil, dVar, dC, dGlob, dChain, dTup, dLst, pfs?, dFrz, dCallF, xVal, xCel, xNil, dIxC, dIxS, dLenS, dDnew, dDisp1, leD, gtD, geD, ltD, addD, subD, mulD, mulE, modD, fdivD, fdivE, powD, absD, Co.intD, lenD, tupleD, listD, bindT, bindTs, Tgs.len, wipeR, idxE, idxD, atI_0, atI_1, atI_2, ixN_21, dSl, dPart, sliceD]) (sg more) (by simp) rfl)
  | leans i =>
    refine run_cons (st_ifF (by rw [tst]; rfl) run_nil) (run_ret (st_ifT (by rw [tst]; rfl) (run_ret (st_ret ?_ (by simp)))))
    exact e_call (xs := [some (.int (more + i))]) (s1 := s) (by simp [fnD, rho0, denSs, denS, den, dens, denB, denO, denF, denI, denX, dBo, dAnd, dOr, dB, dT, dNot, dIf, dNeg, dIsi, isDict, instB, tyD, sSeq, sRet, sRetv, sNil, sSet, sIf, sDrop, sApp, sPutL, sPutC, sPutD, sPar, sBind, sFrz, Co.putAll, Co.ent, d2, binD, cmpD, Bi.den, dCall, dCons, dNil, dVar, dC, dGlob, dChain, dTup, dLst, pfs?, dFrz, dCallF, xVal, xCel, xNil, dIxC, dIxS, dLenS, dDnew, dDisp1, leD, gtD, geD, ltD, addD, subD, mulD, mulE, modD, fdivD, fdivE, powD, absD, Co.intD, lenD, tupleD, listD, bindT, bindTs, Tgs.len, wipeR, idxE, idxD, atI_0, atI_1, atI_2, ixN_21, dSl, dPart, sliceD]) (sg (more + i)) (by simp) rfl
  | sticks i =>
    refine run_cons (st_ifF (by rw [tst]; rfl) run_nil) (run_cons (st_ifF (by rw [tst]; rfl) run_nil) (run_ret (st_ifT (by rw [tst]; rfl) (run_ret (st_ret ?_ (by simp))))))
    have t1 : dT (den (lvl (k + 1)) (.cmp .LtE (.bi .abs (.cons (.var 6) .nil)) (.ix (.var 4) (.cst (.int 1))))) [some (.val (hD ts ss)), some (.val (.tuple [.tuple ws, .tuple so])), some (.val (.list ahead)), some (.val (wgD sc l r)), some (.val (.tuple [.str "sticks", .int i])), some (.val (.list own)), some (.val (.int more)), none, none] s = some (decide ((if more < 0 then -more else more) ≤ i), s) :=
      t_of (e_2 (ra := (.pf, .int (if more < 0 then -more else more))) (rb := (.pf, .int i)) (s1 := s) (s2 := s) (by simp [fnD, rho0, denSs, denS, den, dens, denB, denO, denF, denI, denX, dBo, dAnd, dOr, dB, dT, dNot, dIf, dNeg, dIsi, isDict, instB, tyD, sSeq, sRet, sRetv, sNil, sSet, sIf, sDrop, sApp, sPutL, sPutC, sPutD, sPar, sBind, sFrz, Co.putAll, Co.ent, d2, binD, cmpD, Bi.den, dCall, dCons, dNil, dVar, dC, dGlob, dChain, dTup, dLst, pfs?, dFrz, dCallF, xVal, xCel, xNil, dIxC, dIxS, dLenS, dDnew, dDisp1, leD, gtD, geD, ltD, addD, subD, mulD, mulE, modD, fdivD, fdivE, powD, absD, Co.intD, lenD, tupleD, listD, bindT, bindTs, Tgs.len, wipeR, idxE, idxD, atI_0, atI_1, atI_2, ixN_21, dSl, dPart, sliceD]) (by simp [fnD, rho0, denSs, denS, den, dens, denB, denO, denF, denI, denX, dBo, dAnd, dOr, dB, dT, dNot, dIf, dNeg, dIsi, isDict, instB, tyD, sSeq, sRet, sRetv, sNil, sSet, sIf, sDrop, sApp, sPutL, sPutC, sPutD, sPar, sBind, sFrz, Co.putAll, Co.ent, d2, binD, cmpD, Bi.den, dCall, dCons, dNil, dVar, dC, dGlob, dChain, dTup, dLst, pfs?, dFrz, dCallF, xVal, xCel, xNil, dIxC, dIxS, dLenS, dDnew, dDisp1, leD, gtD, geD, ltD, addD, subD, mulD, mulE, modD, fdivD, fdivE, powD, absD, Co.intD, lenD, tupleD, listD, bindT, bindTs, Tgs.len, wipeR, idxE, idxD, atI_0, atI_1, atI_2, ixN_21, dSl, dPart, sliceD]) rfl)
    have v : srtF ts ws own more (.tuple [.str "sticks", .int i]) = if (if more < 0 then -more else more) ≤ i then 0 else sgn more := by
      rw [srtF_two, if_neg (by decide), if_pos rfl]
    rw [v]
    by_cases g : (if more < 0 then -more else more) ≤ i
    · rw [if_pos g]
      rw [decide_eq_true g] at t1
      exact e_ifT t1 (by simp [fnD, rho0, denSs, denS, den, dens, denB, denO, denF, denI, denX, dBo, dAnd, dOr, dB, dT, dNot, dIf, dNeg, dIsi, isDict, instB, tyD, sSeq, sRet, sRetv, sNil, sSet, sIf, sDrop, sApp, sPutL, sPutC, sPutD, sPar, sBind, sFrz, Co.putAll, Co.ent, d2, binD, cmpD, Bi.den, dCall, dCons, dNil, dVar, dC, dGlob, dChain, dTup, dLst, pfs?, dFrz, dCallF, xVal, xCel, xNil, dIxC, dIxS, dLenS, dDnew, dDisp1, leD, gtD, geD, ltD, addD, subD, mulD, mulE, modD, fdivD, fdivE, powD, absD, Co.intD, lenD, tupleD, listD, bindT, bindTs, Tgs.len, wipeR, idxE, idxD, atI_0, atI_1, atI_2, ixN_21, dSl, dPart, sliceD])
    · rw [if_neg g]
      rw [decide_eq_false g] at t1
      exact e_ifF t1 (e_call (xs := [some (.int more)]) (s1 := s) (by simp [fnD, rho0, denSs, denS, den, dens, denB, denO, denF, denI, denX, dBo, dAnd, dOr, dB, dT, dNot, dIf, dNeg, dIsi, isDict, instB, tyD, sSeq, sRet, sRetv, sNil, sSet, sIf, sDrop, sApp, sPutL, sPutC, sPutD, sPar, sBind, sFrz, Co.putAll, Co.ent, d2, binD, cmpD, Bi.den, dCall, dCons, dNil, dVar, dC, dGlob, dChain, dTup, dLst, pfs?, dFrz, dCallF, xVal, xCel, xNil, dIxC, dIxS, dLenS, dDnew, dDisp1, leD, gtD, geD, ltD, addD, subD, mulD, mulE, modD, fdivD, fdivE, powD, absD, Co.intD, lenD, tupleD, listD, bindT, bindTs, Tgs.len, wipeR, idxE, idxD, atI_0, atI_1, atI_2, ixN_21, dSl, dPart, sliceD]) (sg more) (by simp) rfl)
end
end G4
end

section
set_option Elab.async false
set_option linter.all false
set_option maxRecDepth 100000
set_option maxHeartbeats 2000000
set_option autoImplicit false
namespace G4
open PySem L2 Co
/-! ### all answers to a row -/
def telI (ts ss : List (Str × List D)) (ws so row : List D) : D → Int
  | .tuple [.int i, w] => ansF ts ss ws so (row.take i.toNat) w
  | _ => 0
def telF (ts ss : List (Str × List D)) (w : D) (row : List D) : List Int := match w with
  | .tuple [.tuple ws, .tuple so] => (enumL row).map (telI ts ss ws so row)
  | _ => []
theorem enum_mem {row : List D} {d : D} (h : d ∈ enumL row) : ∃ (i : Nat) (w : D), d = .tuple [.int i, w] ∧ w ∈ row := by
  unfold enumL at h
  obtain ⟨i, hi, rfl⟩ := List.mem_iff_getElem.mp h
  rw [List.getElem_zipWith]
  exact ⟨_, _, rfl, List.getElem_mem _⟩
theorem enum_len (row : List D) : (enumL row).length = row.length := by
  unfold enumL
  simp
section
variable {ts ss : List (Str × List D)}
theorem telF_len {w : D} (hw : WorldOk ts ss w) (row : List D) : (telF ts ss w row).length = row.length := by
  obtain ⟨ws, so, rfl, _⟩ := hw
  show ((enumL row).map _).length = _
  rw [List.length_map, enum_len]
theorem telF_in {w : D} (hw : WorldOk ts ss w) (row : List D) : ∀ a ∈ telF ts ss w row, -1 ≤ a ∧ a ≤ 1 := by
  obtain ⟨ws, so, rfl, _⟩ := hw
  intro a ha
  have ha : a ∈ (enumL row).map (telI ts ss ws so row) := ha
  obtain ⟨d, hd, rfl⟩ := List.mem_map.mp ha
  obtain ⟨i, w, rfl, _⟩ := enum_mem hd
  exact srtF_in ..
theorem ev_tells (k : Nat) (h : HouseOk ts ss) {w : D} (hw : WorldOk ts ss w) {row : List D} (hr : ∀ d ∈ row, WeighOk ts ss d) (s : D) :
    (lvl (k + 3)).f ("tells" : Str) [some (hD ts ss), some w, some (.list row)] s = some ((.fr, .list ((telF ts ss w row).map .int)), s) := by
  obtain ⟨ws, so, rfl, w1, w2, w3, w4⟩ := hw
  rw [f_tells]
  have e1 : den (lvl (k + 2)) e_tells_1 [some (.val (hD ts ss)), some (.val (.tuple [.tuple ws, .tuple so])), some (.val (.list row)), none, none] s = some ((.fr, .list ((enumL row).map fun d => .int (telI ts ss ws so row d))), s) := by
    refine den_map (fun d => .int (telI ts ss ws so row d)) (by rw [denI]; unfold dEnum; simp [fnD, rho0, denSs, denS, den, dens, denB, denO, denF, denI, denX, dBo, dAnd, dOr, dB, dT, dNot, dIf, dNeg, dIsi, isDict, instB, tyD, sSeq, sRet, sRetv, sNil, sSet, sIf, sDrop, sApp, sPutL, sPutC, sPutD, sPar, sBind, sFrz, Co.putAll, Co.ent, d2, binD, cmpD, Bi.den, dCall, dCons, dNil, dVar, dC, dGlob, dChain, dTup, dLst, pfs?, dFrz, dCallF, xVal, xCel, xNil, dIxC, dIxS, dLenS, dDnew, dDisp1, leD, gtD, geD, ltD, addD, subD, mulD, mulE, modD, fdivD, fdivE, powD, absD, Co.intD, lenD, tupleD, listD, bindT, bindTs, Tgs.len, wipeR, idxE, idxD, atI_0, atI_1, atI_2, ixN_21, dSl, dPart, sliceD]) fun d hd => ?_
    obtain ⟨i, x, rfl, hx⟩ := enum_mem hd
    refine ⟨[some (.val (hD ts ss)), some (.val (.tuple [.tuple ws, .tuple so])), some (.val (.list row)), some (.val (.int i)), some (.val x)], by simp [wipeR, bindT, bindTs, Tgs.len], ?_⟩
    have c1 : cut row none (some (i : Int)) = row.take i := by rw [cut_to (by omega)]; simp
    have a := ev_answer k h w1 w2 w3 w4 (ahead := row.take i) (fun d hd => hr d (List.mem_of_mem_take hd)) (hr x hx) s
    exact e_call (xs := [some (hD ts ss), some (.tuple [.tuple ws, .tuple so]), some (.list (row.take i)), some x]) (s1 := s) (by simp [fnD, rho0, denSs, denS, den, dens, denB, denO, denF, denI, denX, dBo, dAnd, dOr, dB, dT, dNot, dIf, dNeg, dIsi, isDict, instB, tyD, sSeq, sRet, sRetv, sNil, sSet, sIf, sDrop, sApp, sPutL, sPutC, sPutD, sPar, sBind, sFrz, Co.putAll, Co.ent, d2, binD, cmpD, Bi.den, dCall, dCons, dNil, dVar, dC, dGlob, dChain, dTup, dLst, pfs?, dFrz, dCallF, xVal, xCel, xNil, dIxC, dIxS, dLenS, dDnew, dDisp1, leD, gtD, geD, ltD, addD, subD, mulD, mulE, modD, fdivD, fdivE, powD, absD, Co.intD, lenD, tupleD, listD, bindT, bindTs, Tgs.len, wipeR, idxE, idxD, atI_0, atI_1, atI_2, ixN_21, dSl, dPart, sliceD, c1]) a (by simp) rfl
  have e2 : ((enumL row).map fun d => PyData.int (telI ts ss ws so row d)) = (telF ts ss (.tuple [.tuple ws, .tuple so]) row).map .int := by
    show _ = ((enumL row).map _).map _
    rw [List.map_map]
    rfl
  rw [e2] at e1
  exact fn_rt (run_ret (st_ret e1 (by simp))) (by simp)
end
end G4
end

section
set_option Elab.async false
set_option linter.all false
set_option maxRecDepth 100000
set_option maxHeartbeats 2000000
set_option autoImplicit false
namespace G4
open PySem L2 Co
theorem i_list {T : Tb} {b : Bool} {e : CE} {ρ : Rho} {s s1 : D} {ds : List D} (h : den T e ρ s = some ((.pf, .list ds), s1)) : denI T b (.items e) ρ s = some (ds, s1) := by
  rw [denI]
  cases b with
  | true =>
    show dItems _ ρ s = _
    unfold dItems
    rw [h]
    rfl
  | false =>
    show dItemsE _ ρ s = _
    unfold dItemsE
    rw [h]
    rfl
theorem s_drop {T : Tb} {e : CE} {ρ : Rho} {s s1 : D} {r : R} (h : den T e ρ s = some (r, s1)) : denS T (.drop e) ρ s = some (.nx ρ, s1) := by
  rw [denS]
  unfold sDrop
  rw [h]
  rfl
/-! ### worlds that give what was seen -/
def fstD : D → D
  | .tuple [x, _] => x
  | d => d
def sndD : D → D
  | .tuple [_, x] => x
  | d => d
theorem zip_fst : ∀ {ws : List D} {as : List Int}, ws.length = as.length → (ws.zipWith prD as).map fstD = ws
  | [], [], _ => rfl
  | w :: ws, a :: as, h => by
    have := zip_fst (ws := ws) (as := as) (by simpa using h)
    show w :: (ws.zipWith prD as).map fstD = _
    rw [this]
  | [], _ :: _, h => by cases h
  | _ :: _, [], h => by cases h
theorem zip_snd : ∀ {ws : List D} {as : List Int}, ws.length = as.length → (ws.zipWith prD as).map sndD = as.map .int
  | [], [], _ => rfl
  | w :: ws, a :: as, h => by
    have := zip_snd (ws := ws) (as := as) (by simpa using h)
    show .int a :: (ws.zipWith prD as).map sndD = _
    rw [this]
    rfl
  | [], _ :: _, h => by cases h
  | _ :: _, [], h => by cases h
theorem pr_mem {ws : List D} {as : List Int} {d : D} (h : d ∈ ws.zipWith prD as) : ∃ w a, d = prD w a ∧ w ∈ ws ∧ a ∈ as := by
  obtain ⟨i, hi, rfl⟩ := List.mem_iff_getElem.mp h
  rw [List.getElem_zipWith]
  exact ⟨_, _, rfl, List.getElem_mem _, List.getElem_mem _⟩
theorem eqv_ints : ∀ (as bs : List Int), PyData.eqvAll (as.map .int) (bs.map .int) = decide (as = bs)
  | [], [] => by simp [PyData.eqvAll]
  | [], _ :: _ => by simp [PyData.eqvAll]
  | _ :: _, [] => by simp [PyData.eqvAll]
  | a :: as, b :: bs => by
    rw [List.map_cons, List.map_cons, PyData.eqvAll, eqv_ints as bs, PyData.eqv]
    by_cases h : a = b
    · subst h
      simp
    · simp [h]
theorem ints_dp (as : List Int) : PyData.depthAll (as.map .int) ≤ 1 := by
  refine depth_all fun d hd => ?_
  obtain ⟨i, _, rfl⟩ := List.mem_map.mp hd
  simp [PyData.depth]
theorem eq_ints (as bs : List Int) : eqD (.list (as.map .int)) (.list (bs.map .int)) = some (.pf, .bool (decide (as = bs))) := by
  have h : min (PyData.list (as.map PyData.int)).depth (PyData.list (bs.map PyData.int)).depth ≤ 100 := min_low (by
    have := ints_dp bs
    rw [PyData.depth]
    omega)
  show (if isDict (.list (as.map .int)) = false ∧ isDict (.list (bs.map .int)) = false ∧ min (PyData.list (as.map PyData.int)).depth (PyData.list (bs.map PyData.int)).depth ≤ 100 then some (Fl.pf, PyData.bool (PyData.eqv (.list (as.map .int)) (.list (bs.map .int)))) else none) = _
  rw [if_pos ⟨rfl, rfl, h⟩, PyData.eqv, eqv_ints]
end G4
end

section
set_option Elab.async false
set_option linter.all false
set_option maxRecDepth 100000
set_option maxHeartbeats 2000000
set_option autoImplicit false
namespace G4
open PySem L2 Co
/-! ### lots -/
def nD (i : Nat) : D := .int (i : Nat)
def lotD (l : List Nat) : D := .tuple (l.map nD)
def grpF : Nat → List (List Nat)
  | 0 => [[]]
  | n + 1 => grpF n ++ (grpF n).map fun l => l ++ [n]
theorem grp_mem : ∀ {n : Nat} {l : List Nat}, l ∈ grpF n ↔ l.Sublist (List.range n)
  | 0, l => by simp [grpF]
  | n + 1, l => by
    rw [grpF, List.mem_append, List.mem_map, List.range_succ, List.sublist_append_iff]
    constructor
    · rintro (h | ⟨a, h, rfl⟩)
      · exact ⟨l, [], by simp, grp_mem.mp h, by simp⟩
      · exact ⟨a, [n], rfl, grp_mem.mp h, List.Sublist.refl _⟩
    · rintro ⟨a, b, rfl, h1, h2⟩
      have : b = [] ∨ b = [n] := by
        cases b with
        | nil => exact .inl rfl
        | cons x b =>
          have hl := h2.length_le
          have : b = [] := by
            cases b with
            | nil => rfl
            | cons _ _ => simp at hl
          subst this
          have := h2.subset (List.mem_cons_self ..)
          rw [List.mem_singleton.mp this]
          exact .inr rfl
      rcases this with rfl | rfl
      · exact .inl (by rw [List.append_nil]; exact grp_mem.mpr h1)
      · exact .inr ⟨a, grp_mem.mpr h1, rfl⟩
theorem grp_len : ∀ n, (grpF n).length = 2 ^ n
  | 0 => rfl
  | n + 1 => by
    rw [grpF, List.length_append, List.length_map, grp_len n, Nat.pow_succ]
    omega
theorem lot_len {n : Nat} {l : List Nat} (h : l.Sublist (List.range n)) : l.length ≤ n := by
  have := h.length_le
  rwa [List.length_range] at this
theorem eqv_nat (a b : Nat) : PyData.eqv (nD a) (nD b) = decide (a = b) := by
  unfold nD
  rw [PyData.eqv]
  by_cases h : a = b
  · subst h; simp
  · have : ¬ ((a : Int) = (b : Int)) := by omega
    simp [h, this]
theorem any_nat {l : List Nat} {x : Nat} : ((l.map nD).any fun y => PyData.eqv y (nD x)) = decide (x ∈ l) := by
  rw [Bool.eq_iff_iff, List.any_eq_true, decide_eq_true_eq]
  constructor
  · rintro ⟨d, hd, he⟩
    obtain ⟨y, hy, rfl⟩ := List.mem_map.mp hd
    rw [eqv_nat, decide_eq_true_eq] at he
    rw [← he]; exact hy
  · intro h
    exact ⟨_, List.mem_map.mpr ⟨x, h, rfl⟩, by rw [eqv_nat, decide_eq_true_eq]⟩
theorem in_lot {l : List Nat} {x : Nat} : inE (nD x) (lotD l) = some (.pf, .bool (decide (x ∈ l))) := by
  have h : min (PyData.depthAll (l.map nD)) (nD x).depth ≤ 100 := min_low (by simp [nD, PyData.depth])
  show (if isDict (nD x) = false ∧ min (PyData.depthAll (l.map nD)) (nD x).depth ≤ 100 then some (Fl.pf, PyData.bool ((l.map nD).any fun y => PyData.eqv y (nD x))) else none) = _
  rw [if_pos ⟨rfl, h⟩, any_nat]
theorem notin_lot {l : List Nat} {x : Nat} : notinE (nD x) (lotD l) = some (.pf, .bool (!decide (x ∈ l))) := by
  show notR (inE (nD x) (lotD l)) = _
  rw [in_lot]
  rfl
def inLot (a b : List Nat) : Bool := a.all fun i => decide (i ∈ b)
theorem inLot_iff {a b : List Nat} : inLot a b = true ↔ ∀ i ∈ a, i ∈ b := by
  unfold inLot
  rw [List.all_eq_true]
  simp
theorem i_tup {T : Tb} {b : Bool} {e : CE} {ρ : Rho} {s s1 : D} {ds : List D} (h : den T e ρ s = some ((.pf, .tuple ds), s1)) : denI T b (.items e) ρ s = some (ds, s1) := by
  rw [denI]
  cases b with
  | true =>
    show dItems _ ρ s = _
    unfold dItems
    rw [h]
    rfl
  | false =>
    show dItemsE _ ρ s = _
    unfold dItemsE
    rw [h]
    rfl
theorem i_own {T : Tb} {e : CE} {ρ : Rho} {s s1 : D} {ds : List D} (h : den T e ρ s = some ((.pf, .list ds), s1)) : denI T false (.items e) ρ s = some (ds, s1) := i_list h
end G4
end

section
set_option Elab.async false
set_option linter.all false
set_option maxRecDepth 100000
set_option maxHeartbeats 4000000
set_option autoImplicit false
namespace G4
open PySem L2 Co
theorem s_par2 {T : Tb} {i j : Nat} {a b : CE} {ρ : Rho} {s s1 s2 x y : D} (h1 : den T a ρ s = some ((.pf, x), s1)) (h2 : den T b ρ s1 = some ((.pf, y), s2)) : denS T (.par [i, j] (.cons a (.cons b .nil))) ρ s = some (.nx ((ρ.set i (some (.val x))).set j (some (.val y))), s2) := by
  rw [denS, dens, dens, dens]
  unfold sPar dCons dNil
  simp [h1, h2, Co.putAll, Co.ent]
theorem e_tup2 {T : Tb} {a b : CE} {ρ : Rho} {s s1 s2 x y : D} (h1 : den T a ρ s = some ((.pf, x), s1)) (h2 : den T b ρ s1 = some ((.pf, y), s2)) : den T (.tup (.cons a (.cons b .nil))) ρ s = some ((.pf, .tuple [x, y]), s2) := by
  have z2 : 2 ≤ sizeLine := by decide
  rw [den, dens, dens, dens]
  unfold dTup dCons dNil
  simp [h1, h2, pfs?, z2]
theorem mul_ok {i j : Int} (h : cmulB i j = true) : binD .Mult (.int i) (.int j) = some (.pf, .int (i * j)) := by
  simp [binD, mulE, mulD, h]
/-! ### dicts keyed by texts -/
def KS (kvs : List (D × D)) : Prop := ∀ p ∈ kvs, ∃ y, p.1 = .str y
theorem KvOk.ks {kvs : List (D × D)} (h : KvOk kvs) : KS kvs := fun p hp => (h p hp).1
theorem ks_put {kvs : List (D × D)} (h : KS kvs) (x : Str) (v : D) : KS (putD kvs (.str x) v) := fun p hp => by
  rcases putD_mem hp with e | ⟨q, hq, e⟩
  · exact ⟨x, e⟩
  · obtain ⟨y, hy⟩ := h q hq
    exact ⟨y, by rw [← e]; exact hy⟩
theorem look_put {kvs : List (D × D)} (h : KS kvs) (x y : Str) (v : D) : lookD (putD kvs (.str x) v) (.str y) = if x = y then some v else lookD kvs (.str y) := by
  unfold putD lookD
  split
  · rename_i ha
    rw [List.find?_map]
    have e1 : ((fun p : D × D => keyEq p.1 (.str y)) ∘ fun p : D × D => if keyEq p.1 (.str x) = true then (p.1, v) else p) = fun p => keyEq p.1 (.str y) := by
      funext p
      show keyEq (if keyEq p.1 (.str x) = true then (p.1, v) else p).1 (.str y) = _
      split <;> rfl
    rw [e1]
    by_cases e : x = y
    · subst e
      rw [if_pos rfl]
      cases hf : kvs.find? fun p => keyEq p.1 (.str x) with
      | none =>
        rw [List.find?_eq_none] at hf
        obtain ⟨p, hp, hk⟩ := List.any_eq_true.mp ha
        exact absurd hk (hf p hp)
      | some p =>
        have := List.find?_some hf
        simp [this]
    · rw [if_neg e]
      cases hf : kvs.find? fun p => keyEq p.1 (.str y) with
      | none => rfl
      | some p =>
        have h1 := List.find?_some hf
        obtain ⟨z, hz⟩ := h p (List.mem_of_find?_eq_some hf)
        rw [hz, keyEq_str, decide_eq_true_eq] at h1
        have h2 : keyEq p.1 (.str x) = false := by
          rw [hz, keyEq_str, decide_eq_false_iff_not]
          intro w
          exact e (w.symm.trans h1)
        simp [h2]
  · rename_i ha
    rw [List.find?_append]
    by_cases e : x = y
    · subst e
      rw [if_pos rfl]
      have hf : (kvs.find? fun p => keyEq p.1 (.str x)) = none := by
        rw [List.find?_eq_none]
        intro p hp hk
        exact ha (List.any_eq_true.mpr ⟨p, hp, hk⟩)
      rw [hf]
      simp [keyEq_str]
    · rw [if_neg e]
      have : ([((.str x : D), v)].find? fun p => keyEq p.1 (.str y)) = none := by
        simp [keyEq_str, e]
      rw [this]
      simp
theorem fold_look : ∀ (ns : List Str) (es : List D) (acc : List (D × D)), KS acc → ns.Nodup → ns.length = es.length →
    KS (((ns.map PyData.str).zip es).foldl (fun acc p => putD acc p.1 p.2) acc) ∧ (∀ y, y ∉ ns → lookD (((ns.map PyData.str).zip es).foldl (fun acc p => putD acc p.1 p.2) acc) (.str y) = lookD acc (.str y)) ∧
    ∀ (j : Nat) (y : Str) (e : D), ns[j]? = some y → es[j]? = some e → lookD (((ns.map PyData.str).zip es).foldl (fun acc p => putD acc p.1 p.2) acc) (.str y) = some e
  | [], es, acc, h, _, _ => ⟨h, fun _ _ => rfl, fun j y e h1 _ => by simp at h1⟩
  | n :: ns, [], acc, h, _, hl => by cases hl
  | n :: ns, x :: es, acc, h, hn, hl => by
    rw [List.nodup_cons] at hn
    obtain ⟨h1, h2, h3⟩ := fold_look ns es (putD acc (.str n) x) (ks_put h n x) hn.2 (by simpa using hl)
    refine ⟨h1, fun y hy => ?_, fun j y e hj he => ?_⟩
    · rw [List.mem_cons, not_or] at hy
      show lookD (((ns.map PyData.str).zip es).foldl _ (putD acc (.str n) x)) _ = _
      rw [h2 y hy.2, look_put h, if_neg (Ne.symm hy.1)]
    · show lookD (((ns.map PyData.str).zip es).foldl _ (putD acc (.str n) x)) _ = _
      cases j with
      | zero =>
        cases hj
        cases he
        rw [h2 n hn.1, look_put h, if_pos rfl]
      | succ j => exact h3 j y e (by simpa using hj) (by simpa using he)
structure LookOk (kvs : List (D × D)) (f : Str → Int) : Prop where
  ok : KvOk kvs
  at_ : ∀ x, (lookD kvs (.str x)).getD (.int 0) = .int (f x)
theorem LookOk.nil : LookOk [] (fun _ => 0) := ⟨fun p hp => (by cases hp), fun _ => rfl⟩
theorem LookOk.put {kvs : List (D × D)} {f : Str → Int} (h : LookOk kvs f) (x : Str) (v : Int) : LookOk (putD kvs (.str x) (.int v)) fun y => if x = y then v else f y := by
  refine ⟨put_ok h.ok ⟨v, rfl⟩, fun y => ?_⟩
  rw [look_put h.ok.ks]
  by_cases e : x = y
  · simp [e]
  · simp [e, h.at_ y]
theorem e_get {T : Tb} {i : Nat} {a b : CE} {ρ : Rho} {s : D} {kvs : List (D × D)} {f : Str → Int} {x : Str} (h : LookOk kvs f) (hi : ρ[i]? = some (some (.own (.dict kvs)))) (ha : den T a ρ s = some ((.pf, .str x), s)) (hb : den T b ρ s = some ((.pf, .int 0), s)) : den T (.get (.var i) a b) ρ s = some ((.pf, .int (f x)), s) := by
  rw [den]
  unfold dGet
  rw [show den T (.var i) ρ s = some ((.ln, .dict kvs), s) by rw [den]; unfold dVar; simp [hi]]
  simp only [Option.bind_some, ha, hb]
  have : getR (.dict kvs) (.pf, .str x) (.pf, .int 0) = some (.pf, .int (f x)) := by
    show (if isTup (.str x) = false ∧ okKey kvs (.str x) = true then some (Fl.pf, (lookD kvs (.str x)).getD (.int 0)) else none) = _
    rw [if_pos ⟨rfl, kv_key h.ok x⟩, h.at_ x]
  rw [this]
  rfl
theorem st_put2 {T : Tb} {i j : Nat} {a b k l : CE} {ρ : Rho} {s e1 e2 d1 d2 : D} {kv1 kv2 : List (D × D)} (ha : den T a ρ s = some ((.pf, e1), s)) (hb : den T b ρ s = some ((.pf, e2), s)) (hi : ρ[i]? = some (some (.own (.dict kv1)))) (hk : den T k ρ s = some ((.pf, d1), s)) (o1 : okKey kv1 d1 = true) (z1 : kv1.length < sizeLine)
    (hj : (ρ.set i (some (.own (.dict (putD kv1 d1 e1)))))[j]? = some (some (.own (.dict kv2)))) (hl : den T l (ρ.set i (some (.own (.dict (putD kv1 d1 e1))))) s = some ((.pf, d2), s)) (o2 : okKey kv2 d2 = true) (z2 : kv2.length < sizeLine) :
    denS T (.put2 i j a b k l) ρ s = some (.nx ((ρ.set i (some (.own (.dict (putD kv1 d1 e1))))).set j (some (.own (.dict (putD kv2 d2 e2))))), s) := by
  rw [denS]
  have s1 : sStD i e1 (den T k) ρ s = some (ρ.set i (some (.own (.dict (putD kv1 d1 e1)))), s) := by
    unfold sStD
    simp only [hi, hk]
    rw [if_pos ⟨o1, z1⟩]
  have s2 : sStD j e2 (den T l) (ρ.set i (some (.own (.dict (putD kv1 d1 e1))))) s = some ((ρ.set i (some (.own (.dict (putD kv1 d1 e1))))).set j (some (.own (.dict (putD kv2 d2 e2)))), s) := by
    unfold sStD
    simp only [hj, hl]
    rw [if_pos ⟨o2, z2⟩]
  unfold sPut2
  simp only [ha, hb, s1, s2]
/-! ### a scale's weighings, counted; its last sign -/
def cntF (ahead : List D) (x : Str) : Int := ((ownF ahead x).length : Nat)
def lastF (ts : List (Str × List D)) (ws ahead : List D) (x : Str) : Int := match (ownF ahead x).getLast? with
  | some o => sgn (moreF ts ws (dec o).2.1 (dec o).2.2)
  | none => 0
theorem own_snoc (ahead : List D) (w : D) (x : Str) : ownF (ahead ++ [w]) x = if (dec w).1 = x then ownF ahead x ++ [w] else ownF ahead x := by
  unfold ownF
  rw [List.filter_append]
  by_cases h : (dec w).1 = x
  · simp [h]
  · simp [h]
theorem cnt_snoc (ahead : List D) (w : D) : (fun y => if (dec w).1 = y then cntF ahead (dec w).1 + 1 else cntF ahead y) = cntF (ahead ++ [w]) := by
  funext y
  unfold cntF
  rw [own_snoc]
  by_cases h : (dec w).1 = y
  · subst h
    simp
  · simp [h]
theorem last_snoc (ts : List (Str × List D)) (ws ahead : List D) (w : D) : (fun y => if (dec w).1 = y then sgn (moreF ts ws (dec w).2.1 (dec w).2.2) else lastF ts ws ahead y) = lastF ts ws (ahead ++ [w]) := by
  funext y
  unfold lastF
  rw [own_snoc]
  by_cases h : (dec w).1 = y
  · simp [h]
  · simp [h]
section
variable {ts ss : List (Str × List D)}
def sdD (ss : List (Str × List D)) (so : List D) : List (D × D) := dictL ((ss.map (·.1)).map PyData.str) so
theorem HouseOk.snd (h : HouseOk ts ss) : (ss.map (·.1)).Nodup := by
  obtain ⟨n, _, _, e⟩ := h.sn
  rw [e]
  exact List.Sublist.nodup (List.take_sublist _ _) (by decide +kernel)
theorem sd_look (h : HouseOk ts ss) {so : List D} (hl : so.length = ss.length) {sc : Str} (hs : sc ∈ ss.map (·.1)) : ∃ d, so[jF ss sc]? = some d ∧ lookD (sdD ss so) (.str sc) = some d ∧ okKey (sdD ss so) (.str sc) = true := by
  obtain ⟨j1, _, _, j4⟩ := idx_sc h hs
  letI : Tbs := ⟨[]⟩
  obtain ⟨z, z1, z2, _⟩ := firstAt_ok j4
  rw [List.getElem?_map] at z1
  cases zn : (ss.map (·.1))[jF ss sc]? with
  | none => rw [zn] at z1; cases z1
  | some y =>
    rw [zn] at z1
    cases z1
    rw [eqv_str, decide_eq_true_eq] at z2
    subst z2
    obtain ⟨f1, _, f3⟩ := fold_look (ss.map (·.1)) so [] (fun p hp => by cases hp) h.snd (by simp [hl])
    have hd : so[jF ss y]? = some so[jF ss y] := List.getElem?_eq_getElem (by omega)
    refine ⟨_, hd, f3 _ _ _ zn hd, ?_⟩
    unfold okKey
    rw [if_neg (by simp [isTup]), Bool.and_eq_true, List.all_eq_true]
    refine ⟨fun p hp => ?_, rfl⟩
    obtain ⟨y, e⟩ := f1 p hp
    rw [e]
    rfl
theorem eq_srt (x y : Str) (rest : List D) : eqD (.tuple (.str x :: rest)) (.tuple [.str y]) = some (.pf, .bool (decide (x = y) && rest.isEmpty)) := by
  have h : min (PyData.tuple (.str x :: rest)).depth (PyData.tuple [.str y]).depth ≤ 100 := min_low (by simp [PyData.depth, PyData.depthAll])
  show (if isDict (.tuple (.str x :: rest)) = false ∧ isDict (.tuple [.str y]) = false ∧ min (PyData.tuple (.str x :: rest)).depth (PyData.tuple [.str y]).depth ≤ 100 then some (Fl.pf, PyData.bool (PyData.eqv (.tuple (.str x :: rest)) (.tuple [.str y]))) else none) = _
  rw [if_pos ⟨rfl, rfl, h⟩]
  cases rest with
  | nil =>
    simp [PyData.eqv, PyData.eqvAll]
    rfl
  | cons _ _ => simp [PyData.eqv, PyData.eqvAll]
theorem tel_get {ws so row : List D} {i : Nat} {w : D} (hw : row[i]? = some w) : (telF ts ss (.tuple [.tuple ws, .tuple so]) row)[i]? = some (ansF ts ss ws so (row.take i) w) := by
  show ((enumL row).map (telI ts ss ws so row))[i]? = _
  have hi := (List.getElem?_eq_some_iff.mp hw).1
  have e : (enumL row)[i]? = some (.tuple [.int i, w]) := by
    unfold enumL
    rw [List.getElem?_zipWith, hw]
    simp [hi]
  rw [List.getElem?_map, e]
  simp [telI]
end
end G4
end

section
set_option Elab.async false
set_option linter.all false
set_option maxRecDepth 100000
set_option maxHeartbeats 2000000
set_option autoImplicit false
namespace G4
open PySem L2 Co
/-! ### rows of weighings and their answers, plain -/
theorem snoc_ind {α : Type} {P : List α → Prop} (h0 : P []) (h1 : ∀ l x, P l → P (l ++ [x])) : ∀ l, P l := by
  intro l
  have : ∀ m : List α, P m.reverse := fun m => by
    induction m with
    | nil => exact h0
    | cons a m ih => rw [List.reverse_cons]; exact h1 _ _ ih
  have := this l.reverse
  rwa [List.reverse_reverse] at this
abbrev wdD (ws so : List D) : D := .tuple [.tuple ws, .tuple so]
section
variable {ts ss : List (Str × List D)} {ws so : List D}
theorem tel_len (row : List D) : (telF ts ss (wdD ws so) row).length = row.length := by
  show ((enumL row).map _).length = _
  rw [List.length_map, enum_len]
theorem tel_take (row : List D) (n : Nat) : telF ts ss (wdD ws so) (row.take n) = (telF ts ss (wdD ws so) row).take n := by
  refine List.ext_getElem? fun i => ?_
  by_cases h : i < n
  · rw [List.getElem?_take_of_lt h]
    cases e : row[i]? with
    | none =>
      have hl : row.length ≤ i := List.getElem?_eq_none_iff.mp e
      rw [List.getElem?_eq_none (by rw [tel_len, List.length_take]; omega), List.getElem?_eq_none (by rw [tel_len]; omega)]
    | some w =>
      have e2 : (row.take n)[i]? = some w := by rw [List.getElem?_take_of_lt h]; exact e
      rw [tel_get e, tel_get e2, List.take_take, Nat.min_eq_left (Nat.le_of_lt h)]
  · rw [List.getElem?_eq_none (by rw [tel_len, List.length_take]; omega), List.getElem?_eq_none (by rw [List.length_take]; omega)]
theorem tel_snoc (row : List D) (x : D) : telF ts ss (wdD ws so) (row ++ [x]) = telF ts ss (wdD ws so) row ++ [ansF ts ss ws so row x] := by
  have e : (row ++ [x])[row.length]? = some x := by simp
  have h := tel_take (ts := ts) (ss := ss) (ws := ws) (so := so) (row ++ [x]) row.length
  rw [List.take_left'  rfl] at h
  rw [h]
  have g := tel_get (ts := ts) (ss := ss) (ws := ws) (so := so) e
  rw [List.take_left' rfl] at g
  have l := tel_len (ts := ts) (ss := ss) (ws := ws) (so := so) (row ++ [x])
  rw [List.length_append, List.length_singleton] at l
  have tk := List.take_add_one (l := telF ts ss (wdD ws so) (row ++ [x])) (i := row.length)
  rw [g, List.take_of_length_le (by omega)] at tk
  exact tk
theorem own_own (row : List D) (c : Str) : ownF (ownF row c) c = ownF row c := by
  unfold ownF
  rw [List.filter_filter]
  simp
/-- each scale's answers are those to its own weighings alone -/
def ixF (row : List D) (c : Str) : List Nat := (List.range row.length).filter fun i => decide ((dec (row.getD i .none)).1 = c)
theorem ix_snoc (row : List D) (x : D) (c : Str) : ixF (row ++ [x]) c = ixF row c ++ if (dec x).1 = c then [row.length] else [] := by
  unfold ixF
  rw [List.length_append, List.length_singleton, List.range_succ, List.filter_append]
  congr 1
  · refine List.filter_congr fun i hi => ?_
    have := List.mem_range.mp hi
    rw [List.getD_eq_getElem?_getD, List.getD_eq_getElem?_getD, List.getElem?_append_left this]
  · have : (row ++ [x]).getD row.length .none = x := by simp
    rw [List.filter_cons, this]
    by_cases h : (dec x).1 = c
    · simp [h]
    · simp [h]
theorem ix_lt {row : List D} {c : Str} {i : Nat} (h : i ∈ ixF row c) : i < row.length := List.mem_range.mp (List.mem_filter.mp h).1
theorem own_ix (row : List D) (c : Str) : ownF row c = (ixF row c).map fun i => row.getD i .none := by
  refine snoc_ind (P := fun row => ownF row c = (ixF row c).map fun i => row.getD i .none) rfl (fun l x ih => ?_) row
  rw [own_snoc, ix_snoc, List.map_append]
  have e : ((ixF l c).map fun i => (l ++ [x]).getD i .none) = (ixF l c).map fun i => l.getD i .none := List.map_congr_left fun i hi => by
    rw [List.getD_eq_getElem?_getD, List.getD_eq_getElem?_getD, List.getElem?_append_left (ix_lt hi)]
  rw [e, ← ih]
  by_cases h : (dec x).1 = c
  · simp [h]
  · simp [h]
theorem tel_own (row : List D) (c : Str) : telF ts ss (wdD ws so) (ownF row c) = (ixF row c).map fun i => (telF ts ss (wdD ws so) row).getD i 0 := by
  refine snoc_ind (P := fun row => telF ts ss (wdD ws so) (ownF row c) = (ixF row c).map fun i => (telF ts ss (wdD ws so) row).getD i 0) rfl (fun l x ih => ?_) row
  rw [own_snoc, ix_snoc, List.map_append, tel_snoc]
  have e : ((ixF l c).map fun i => (telF ts ss (wdD ws so) l ++ [ansF ts ss ws so l x]).getD i 0) = (ixF l c).map fun i => (telF ts ss (wdD ws so) l).getD i 0 := List.map_congr_left fun i hi => by
    have := ix_lt hi
    rw [List.getD_eq_getElem?_getD, List.getD_eq_getElem?_getD, List.getElem?_append_left (by rw [tel_len]; exact this)]
  rw [e, ← ih]
  by_cases h : (dec x).1 = c
  · subst h
    rw [if_pos rfl, if_pos rfl, tel_snoc]
    have e2 : ansF ts ss ws so (ownF l (dec x).1) x = ansF ts ss ws so l x := by
      unfold ansF
      rw [own_own]
    have e3 : (telF ts ss (wdD ws so) l ++ [ansF ts ss ws so l x]).getD l.length 0 = ansF ts ss ws so l x := by
      rw [List.getD_eq_getElem?_getD, List.getElem?_append_right (by rw [tel_len]; exact Nat.le_refl _), tel_len, Nat.sub_self]
      rfl
    rw [e2, List.map_cons, List.map_nil, e3]
  · simp [h]
end
theorem eq_sgn_neg (n : Int) : sgn (-n) = 0 - sgn n := by
  unfold sgn
  by_cases h1 : 0 < n
  · rw [if_neg (by omega), if_pos (by omega), if_pos h1, if_neg (by omega)]
    rfl
  · by_cases h2 : n < 0
    · rw [if_pos (by omega), if_neg (by omega), if_neg h1, if_pos h2]
      rfl
    · rw [if_neg (by omega), if_neg (by omega), if_neg h1, if_neg h2]
      rfl
theorem ne_ints (as bs : List Int) : neD (.list (as.map .int)) (.list (bs.map .int)) = some (.pf, .bool (!decide (as = bs))) := by
  have h : min (PyData.list (as.map PyData.int)).depth (PyData.list (bs.map PyData.int)).depth ≤ 100 := min_low (by
    have := ints_dp bs
    rw [PyData.depth]
    omega)
  show (if isDict (.list (as.map .int)) = false ∧ isDict (.list (bs.map .int)) = false ∧ min (PyData.list (as.map PyData.int)).depth (PyData.list (bs.map PyData.int)).depth ≤ 100 then some (Fl.pf, PyData.bool (!PyData.eqv (.list (as.map .int)) (.list (bs.map .int)))) else none) = _
  rw [if_pos ⟨rfl, rfl, h⟩, PyData.eqv, eqv_ints]
end G4
end

section
set_option Elab.async false
set_option linter.all false
set_option maxRecDepth 100000
set_option maxHeartbeats 2000000
set_option autoImplicit false
namespace G4
open PySem L2 Co
/-! ### sides changed -/
def swW (d : D) : D := wgD (dec d).1 (dec d).2.2 (dec d).2.1
def turnS : D → D
  | .tuple [.str x, .int i] => if x = ("leans" : Str) then .tuple [.str x, .int (0 - i)] else .tuple [.str x, .int i]
  | d => d
theorem dec_sw (d : D) : dec (swW d) = ((dec d).1, (dec d).2.2, (dec d).2.1) := dec_wg _ _ _
theorem own_sw (ahead : List D) (c : Str) : ownF (ahead.map swW) c = (ownF ahead c).map swW := by
  have e : ((fun d : D => decide ((dec d).1 = c)) ∘ swW) = fun d => decide ((dec d).1 = c) := by
    funext d
    show decide ((dec (swW d)).1 = c) = _
    rw [dec_sw]
  unfold ownF
  rw [List.filter_map, e]
theorem turn_two (x : Str) (i : Int) : turnS (.tuple [.str x, .int i]) = if x = ("leans" : Str) then .tuple [.str x, .int (0 - i)] else .tuple [.str x, .int i] := rfl
theorem turn_turns (i : Int) : turnS (.tuple [.str "turns", .int i]) = .tuple [.str "turns", .int i] := by rw [turn_two, if_neg (by decide +kernel)]
theorem turn_sticks (i : Int) : turnS (.tuple [.str "sticks", .int i]) = .tuple [.str "sticks", .int i] := by rw [turn_two, if_neg (by decide +kernel)]
theorem turn_leans (i : Int) : turnS (.tuple [.str "leans", .int i]) = .tuple [.str "leans", .int (0 - i)] := by rw [turn_two, if_pos rfl]
theorem srt_turns (ts : List (Str × List D)) (ws own : List D) (m i : Int) : srtF ts ws own m (.tuple [.str "turns", .int i]) = if ((own.length : Int) + i) % 2 = 1 then 0 - sgn m else sgn m := by rw [srtF_two, if_neg (by decide +kernel), if_neg (by decide +kernel)]
theorem srt_sticks (ts : List (Str × List D)) (ws own : List D) (m i : Int) : srtF ts ws own m (.tuple [.str "sticks", .int i]) = if (if m < 0 then -m else m) ≤ i then 0 else sgn m := by rw [srtF_two, if_neg (by decide +kernel), if_pos rfl]
theorem more_sw (ts : List (Str × List D)) (ws : List D) (l r : List Str) : moreF ts ws r l = - moreF ts ws l r := by
  unfold moreF
  omega
theorem SrtOk.turn {d : D} (h : SrtOk d) : SrtOk (turnS d) := by
  cases h with
  | tru => exact .tru
  | lies => exact .lies
  | echo => exact .echo
  | turns i => rw [turn_turns]; exact .turns i
  | leans i => rw [turn_leans]; exact .leans _
  | sticks i => rw [turn_sticks]; exact .sticks i
theorem srt_neg (ts : List (Str × List D)) (ws own : List D) (m : Int) {d : D} (h : SrtOk d) : srtF ts ws (own.map swW) (-m) (turnS d) = 0 - srtF ts ws own m d := by
  have hs := eq_sgn_neg m
  cases h with
  | tru =>
    show srtF ts ws (own.map swW) (-m) (.tuple [.str "true"]) = _
    rw [srtF_one, srtF_one, if_neg (by decide +kernel), if_neg (by decide +kernel), if_neg (by decide +kernel), if_neg (by decide +kernel), hs]
  | lies =>
    show srtF ts ws (own.map swW) (-m) (.tuple [.str "lies"]) = _
    rw [srtF_one, srtF_one, if_pos rfl, if_pos rfl, hs]
  | echo =>
    show srtF ts ws (own.map swW) (-m) (.tuple [.str "echo"]) = _
    rw [srtF_one, srtF_one, if_neg (by decide +kernel), if_pos rfl, if_neg (by decide +kernel), if_pos rfl, List.getLast?_map]
    cases own.getLast? with
    | none => rfl
    | some o =>
      show sgn (moreF ts ws (dec (swW o)).2.1 (dec (swW o)).2.2) = 0 - sgn (moreF ts ws (dec o).2.1 (dec o).2.2)
      rw [dec_sw, more_sw, eq_sgn_neg]
  | turns i =>
    rw [turn_turns, srt_turns, srt_turns, List.length_map, hs]
    split <;> omega
  | leans i =>
    rw [turn_leans, srtF_two, srtF_two, if_pos rfl, if_pos rfl, ← eq_sgn_neg]
    congr 1
    omega
  | sticks i =>
    rw [turn_sticks, srt_sticks, srt_sticks, hs]
    have ab : (if -m < 0 then - -m else -m) = if m < 0 then -m else m := by split <;> split <;> omega
    rw [ab]
    by_cases z : (if m < 0 then -m else m) ≤ i
    · rw [if_pos z, if_pos z]; rfl
    · rw [if_neg z, if_neg z]
section
variable {ts ss : List (Str × List D)} {ws so : List D}
theorem ans_neg (hs : ∀ d ∈ so, SrtOk d) (ahead : List D) (w : D) : ansF ts ss ws (so.map turnS) (ahead.map swW) (swW w) = 0 - ansF ts ss ws so ahead w := by
  unfold ansF
  rw [dec_sw, own_sw]
  dsimp only
  rw [more_sw, List.getElem?_map]
  cases e : so[jF ss (dec w).1]? with
  | none => rfl
  | some d => exact srt_neg _ _ _ _ (hs d (List.mem_of_getElem? e))
theorem tel_neg (hs : ∀ d ∈ so, SrtOk d) (row : List D) : telF ts ss (wdD ws (so.map turnS)) (row.map swW) = (telF ts ss (wdD ws so) row).map fun a => 0 - a := by
  refine snoc_ind (P := fun row => telF ts ss (wdD ws (so.map turnS)) (row.map swW) = (telF ts ss (wdD ws so) row).map fun a => 0 - a) rfl (fun l x ih => ?_) row
  rw [List.map_append, tel_snoc, List.map_append, ← ih]
  show telF ts ss (wdD ws (so.map turnS)) (l.map swW ++ [swW x]) = _
  rw [tel_snoc, ans_neg hs]
  rfl
/-! ### scales all of one sort -/
theorem WeighOk.names {ts' ss' : List (Str × List D)} (e1 : ts'.map (·.1) = ts.map (·.1)) (e2 : ss'.map (·.1) = ss.map (·.1)) {w : D} (h : WeighOk ts ss w) : WeighOk ts' ss' w := by
  obtain ⟨sc, l, r, rfl, h1, h2, h3, h4⟩ := h
  exact ⟨sc, l, r, rfl, by rw [e2]; exact h1, by rw [e1]; exact h2, by rw [e1]; exact h3, h4⟩
theorem WeighOk.sw {w : D} (h : WeighOk ts ss w) : WeighOk ts ss (swW w) := by
  obtain ⟨sc, l, r, rfl, h1, h2, h3, h4⟩ := h
  refine ⟨sc, r, l, by unfold swW; rw [dec_wg], h1, h3, h2, fun x hx hx' => h4 x hx' hx⟩
theorem ans_rep (h : HouseOk ts ss) {d : D} (ahead : List D) {w : D} (hw : WeighOk ts ss w) : ansF ts ss ws (List.replicate ss.length d) ahead w = srtF ts ws (ownF ahead (dec w).1) (moreF ts ws (dec w).2.1 (dec w).2.2) d := by
  obtain ⟨sc, l, r, rfl, h1, _⟩ := hw
  obtain ⟨j1, _⟩ := idx_sc h h1
  unfold ansF
  rw [dec_wg]
  dsimp only
  rw [List.getElem?_replicate, if_pos j1]
  rfl
abbrev repD (ss : List (Str × List D)) (ws : List D) (d : D) : D := wdD ws (List.replicate ss.length d)
theorem rep_get (h : HouseOk ts ss) {d : D} {row : List D} (hr : ∀ w ∈ row, WeighOk ts ss w) {i : Nat} {w : D} (hw : row[i]? = some w) : (telF ts ss (repD ss ws d) row)[i]? = some (srtF ts ws (ownF (row.take i) (dec w).1) (moreF ts ws (dec w).2.1 (dec w).2.2) d) := by
  rw [tel_get hw, ans_rep h _ (hr w (List.mem_of_getElem? hw))]
theorem tel_ext {A B : List Int} {row : List D} (hA : A.length = row.length) (hB : B.length = row.length) (h : ∀ (i : Nat) (w : D), row[i]? = some w → A[i]? = B[i]?) : A = B := by
  refine List.ext_getElem? fun i => ?_
  cases e : row[i]? with
  | none =>
    have hl : row.length ≤ i := List.getElem?_eq_none_iff.mp e
    rw [List.getElem?_eq_none (by omega), List.getElem?_eq_none (by omega)]
  | some w => exact h i w e
def sTrue : D := .tuple [.str "true"]
def sLies : D := .tuple [.str "lies"]
def sEcho : D := .tuple [.str "echo"]
def sT0 : D := .tuple [.str "turns", .int 0]
def sT1 : D := .tuple [.str "turns", .int 1]
theorem srt_true (ts : List (Str × List D)) (ws own : List D) (m : Int) : srtF ts ws own m sTrue = sgn m := by
  unfold sTrue
  rw [srtF_one, if_neg (by decide +kernel), if_neg (by decide +kernel)]
theorem srt_lies (ts : List (Str × List D)) (ws own : List D) (m : Int) : srtF ts ws own m sLies = 0 - sgn m := by
  unfold sLies
  rw [srtF_one, if_pos rfl]
theorem srt_echo (ts : List (Str × List D)) (ws own : List D) (m : Int) : srtF ts ws own m sEcho = match own.getLast? with | some o => sgn (moreF ts ws (dec o).2.1 (dec o).2.2) | none => 0 := by
  unfold sEcho
  rw [srtF_one, if_neg (by decide +kernel), if_pos rfl]
  all_goals rfl
theorem srt_t0 (ts : List (Str × List D)) (ws own : List D) (m : Int) : srtF ts ws own m sT0 = if (own.length : Int) % 2 = 0 then sgn m else 0 - sgn m := by
  unfold sT0
  rw [srtF_two, if_neg (by decide +kernel), if_neg (by decide +kernel), Int.add_zero]
  rcases Int.emod_two_eq (own.length : Int) with z | z
  · rw [z, if_neg (by decide), if_pos rfl]
  · rw [z, if_pos rfl, if_neg (by decide)]
theorem srt_t1 (ts : List (Str × List D)) (ws own : List D) (m : Int) : srtF ts ws own m sT1 = 0 - srtF ts ws own m sT0 := by
  rw [srt_t0]
  unfold sT1
  rw [srtF_two, if_neg (by decide +kernel), if_neg (by decide +kernel)]
  rcases Int.emod_two_eq (own.length : Int) with z | z
  · rw [if_pos (by omega), if_pos z]
  · rw [if_neg (by omega), if_neg (by omega)]
    omega
theorem tel_lies (h : HouseOk ts ss) {row : List D} (hr : ∀ w ∈ row, WeighOk ts ss w) : telF ts ss (repD ss ws sLies) row = (telF ts ss (repD ss ws sTrue) row).map fun a => 0 - a := by
  refine tel_ext (row := row) (tel_len _) (by rw [List.length_map, tel_len]) fun i w hw => ?_
  rw [List.getElem?_map, rep_get h hr hw, rep_get h hr hw, srt_lies, srt_true]
  rfl
theorem tel_t1 (h : HouseOk ts ss) {row : List D} (hr : ∀ w ∈ row, WeighOk ts ss w) : telF ts ss (repD ss ws sT1) row = (telF ts ss (repD ss ws sT0) row).map fun a => 0 - a := by
  refine tel_ext (row := row) (tel_len _) (by rw [List.length_map, tel_len]) fun i w hw => ?_
  rw [List.getElem?_map, rep_get h hr hw, rep_get h hr hw, srt_t1]
  rfl
end
end G4
end

section
set_option Elab.async false
set_option linter.all false
set_option maxRecDepth 100000
set_option maxHeartbeats 4000000
set_option autoImplicit false
namespace G4
open PySem L2 Co
theorem e_sset {T : Tb} {e : CE} {ρ : Rho} {s s1 : D} {fl : Fl} {ds : List D} {r : R} (h : den T e ρ s = some ((fl, .list ds), s1)) (h2 : ssetE ds = some r) : den T (.sset e) ρ s = some (r, s1) := by
  rw [den]
  unfold dSset
  rw [h]
  dsimp only
  rw [h2]
  rfl
theorem st_app {T : Tb} {i : Nat} {e : CE} {ρ : Rho} {s s1 d : D} {ds : List D} (h0 : ρ[i]? = some (some (.own (.list ds)))) (h : den T e ρ s = some ((.pf, d), s1)) (hz : ds.length < sizeLine) : denS T (.app i e) ρ s = some (.nx (ρ.set i (some (.own (.list (ds ++ [d]))))), s1) := by
  rw [denS]
  unfold sApp
  rw [h0]
  dsimp only
  rw [h]
  dsimp only
  rw [if_pos hz]
theorem enum_get {ds : List D} {i : Nat} {d : D} (h : (enumL ds)[i]? = some d) : ∃ x, ds[i]? = some x ∧ d = .tuple [.int (i : Nat), x] := by
  unfold enumL at h
  rw [List.getElem?_zipWith] at h
  cases e : ds[i]? with
  | none =>
    rw [e] at h
    cases e2 : (List.range ds.length)[i]? with
    | none => rw [e2] at h; cases h
    | some _ => rw [e2] at h; cases h
  | some x =>
    have hi := (List.getElem?_eq_some_iff.mp e).1
    rw [e, List.getElem?_range hi] at h
    cases h
    exact ⟨x, rfl, rfl⟩
theorem i_enumT {T : Tb} {b : Bool} {e : CE} {ρ : Rho} {s s1 : D} {ds : List D} (h : den T e ρ s = some ((.pf, .tuple ds), s1)) : denI T b (.enum (.cons e .nil)) ρ s = some (enumL ds, s1) := by
  rw [denI, dens, dens]
  unfold dEnum dCons dNil
  simp [h]
theorem SrtOk.tk {d : D} (h : SrtOk d) : ∃ k, Co.nk d = some k ∧ tkB k = true := by cases h <;> exact ⟨_, rfl, rfl⟩
theorem srtSs {qs : List D} (hi : ∀ d ∈ qs, SrtOk d) : SsOk qs := by
  refine ⟨fun d hd => ?_, .inl fun d hd k hk => ?_, fun d hd e he => (hi d hd).alike (hi e he), .inl fun d hd => (hi d hd).tupB, fun d hd => Nat.le_trans (hi d hd).depth (by decide), fun d hd => PySem.W.eqv_refl_alike _ ((hi d hd).alike (hi d hd))⟩
  · obtain ⟨k, hk, _⟩ := (hi d hd).tk; exact ⟨k, hk⟩
  · obtain ⟨l, hl, t⟩ := (hi d hd).tk
    rw [hk] at hl
    cases hl
    exact t
theorem ix_at {xs : List D} {j : Nat} {d : D} (h : xs[j]? = some d) : idxE (.tuple xs) (.int (j : Nat)) = some (.pf, d) := by
  have := atI_nat (xs := xs) (i := ((j : Nat) : Int)) (by omega) (by simpa using h)
  show idxD (.tuple xs) (.int (j : Nat)) = _
  unfold idxD
  simp [this]

theorem tstv {T : Tb} {i : Nat} {ρ : Rho} {s : D} {x y : Str} {rest : List D} (h : ρ[i]? = some (some (.val (.tuple (.str x :: rest))))) : dT (den T (.cmp .Eq (.ix (.var i) (.cst (.int 0))) (.cst (.str y)))) ρ s = some (decide (x = y), s) :=
  t_of (fl := .pf) (e_2 (ra := (.pf, .str x)) (rb := (.pf, .str y)) (s1 := s) (s2 := s) (e_ix (ra := (.pf, .tuple (.str x :: rest))) (rb := (.pf, .int 0)) (s1 := s) (s2 := s) (by simp [fnD, rho0, denSs, denS, den, dens, denB, denO, denF, denI, denX, dBo, dAnd, dOr, dB, dT, dNot, dIf, dNeg, dIsi, isDict, instB, tyD, sSeq, sRet, sRetv, sNil, sSet, sIf, sDrop, sApp, sPutL, sPutC, sPutD, sPar, sBind, sFrz, Co.putAll, Co.ent, d2, binD, cmpD, Bi.den, dCall, dCons, dNil, dVar, dC, dGlob, dChain, dTup, dLst, pfs?, dFrz, dCallF, xVal, xCel, xNil, dIxC, dIxS, dLenS, dDnew, dDisp1, leD, gtD, geD, ltD, addD, subD, mulD, mulE, modD, fdivD, fdivE, powD, absD, Co.intD, lenD, tupleD, listD, bindT, bindTs, Tgs.len, wipeR, idxE, idxD, atI_0, atI_1, atI_2, ixN_21, dSl, dPart, sliceD, h]) (by simp [fnD, rho0, denSs, denS, den, dens, denB, denO, denF, denI, denX, dBo, dAnd, dOr, dB, dT, dNot, dIf, dNeg, dIsi, isDict, instB, tyD, sSeq, sRet, sRetv, sNil, sSet, sIf, sDrop, sApp, sPutL, sPutC, sPutD, sPar, sBind, sFrz, Co.putAll, Co.ent, d2, binD, cmpD, Bi.den, dCall, dCons, dNil, dVar, dC, dGlob, dChain, dTup, dLst, pfs?, dFrz, dCallF, xVal, xCel, xNil, dIxC, dIxS, dLenS, dDnew, dDisp1, leD, gtD, geD, ltD, addD, subD, mulD, mulE, modD, fdivD, fdivE, powD, absD, Co.intD, lenD, tupleD, listD, bindT, bindTs, Tgs.len, wipeR, idxE, idxD, atI_0, atI_1, atI_2, ixN_21, dSl, dPart, sliceD]) (by simp [fnD, rho0, denSs, denS, den, dens, denB, denO, denF, denI, denX, dBo, dAnd, dOr, dB, dT, dNot, dIf, dNeg, dIsi, isDict, instB, tyD, sSeq, sRet, sRetv, sNil, sSet, sIf, sDrop, sApp, sPutL, sPutC, sPutD, sPar, sBind, sFrz, Co.putAll, Co.ent, d2, binD, cmpD, Bi.den, dCall, dCons, dNil, dVar, dC, dGlob, dChain, dTup, dLst, pfs?, dFrz, dCallF, xVal, xCel, xNil, dIxC, dIxS, dLenS, dDnew, dDisp1, leD, gtD, geD, ltD, addD, subD, mulD, mulE, modD, fdivD, fdivE, powD, absD, Co.intD, lenD, tupleD, listD, bindT, bindTs, Tgs.len, wipeR, idxE, idxD, atI_0, atI_1, atI_2, ixN_21, dSl, dPart, sliceD])) (by simp [fnD, rho0, denSs, denS, den, dens, denB, denO, denF, denI, denX, dBo, dAnd, dOr, dB, dT, dNot, dIf, dNeg, dIsi, isDict, instB, tyD, sSeq, sRet, sRetv, sNil, sSet, sIf, sDrop, sApp, sPutL, sPutC, sPutD, sPar, sBind, sFrz, Co.putAll, Co.ent, d2, binD, cmpD, Bi.den, dCall, dCons, dNil, dVar, dC, dGlob, dChain, dTup, dLst, pfs?, dFrz, dCallF, xVal, xCel, xNil, dIxC, dIxS, dLenS, dDnew, dDisp1, leD, gtD, geD, ltD, addD, subD, mulD, mulE, modD, fdivD, fdivE, powD, absD, Co.intD, lenD, tupleD, listD, bindT, bindTs, Tgs.len, wipeR, idxE, idxD, atI_0, atI_1, atI_2, ixN_21, dSl, dPart, sliceD]) (eq_str _ _))
theorem SrtOk.shape {d : D} (h : SrtOk d) : ∃ x rest, d = .tuple (.str x :: rest) ∧ ((x = ("leans" : Str) ∧ ∃ i : Int, rest = [.int i]) ∨ (x ≠ ("leans" : Str) ∧ turnS d = d)) := by
  cases h with
  | tru => exact ⟨_, _, rfl, .inr ⟨by decide +kernel, rfl⟩⟩
  | lies => exact ⟨_, _, rfl, .inr ⟨by decide +kernel, rfl⟩⟩
  | echo => exact ⟨_, _, rfl, .inr ⟨by decide +kernel, rfl⟩⟩
  | turns i =>
    exact ⟨_, _, rfl, .inr ⟨by decide +kernel, turn_turns i⟩⟩
  | leans i => exact ⟨_, _, rfl, .inl ⟨rfl, i, rfl⟩⟩
  | sticks i =>
    exact ⟨_, _, rfl, .inr ⟨by decide +kernel, turn_sticks i⟩⟩
theorem e_turn {T : Tb} {i : Nat} {ρ : Rho} {s : D} {n : Int} (h : ρ[i]? = some (some (.val (.tuple [.str "leans", .int n])))) : den T (.tup (.cons (.cst (.str ("leans" : Str))) (.cons (.bin .Sub (.cst (.int 0)) (.ix (.var i) (.cst (.int 1)))) .nil))) ρ s = some ((.pf, turnS (.tuple [.str "leans", .int n])), s) := by
  rw [turn_leans]
  exact e_tup2 (s1 := s) (by simp [fnD, rho0, denSs, denS, den, dens, denB, denO, denF, denI, denX, dBo, dAnd, dOr, dB, dT, dNot, dIf, dNeg, dIsi, isDict, instB, tyD, sSeq, sRet, sRetv, sNil, sSet, sIf, sDrop, sApp, sPutL, sPutC, sPutD, sPar, sBind, sFrz, Co.putAll, Co.ent, d2, binD, cmpD, Bi.den, dCall, dCons, dNil, dVar, dC, dGlob, dChain, dTup, dLst, pfs?, dFrz, dCallF, xVal, xCel, xNil, dIxC, dIxS, dLenS, dDnew, dDisp1, leD, gtD, geD, ltD, addD, subD, mulD, mulE, modD, fdivD, fdivE, powD, absD, Co.intD, lenD, tupleD, listD, bindT, bindTs, Tgs.len, wipeR, idxE, idxD, atI_0, atI_1, atI_2, ixN_21, dSl, dPart, sliceD]) (e_bin (ra := (.pf, .int 0)) (rb := (.pf, .int n)) (s1 := s) (s2 := s) (by simp [fnD, rho0, denSs, denS, den, dens, denB, denO, denF, denI, denX, dBo, dAnd, dOr, dB, dT, dNot, dIf, dNeg, dIsi, isDict, instB, tyD, sSeq, sRet, sRetv, sNil, sSet, sIf, sDrop, sApp, sPutL, sPutC, sPutD, sPar, sBind, sFrz, Co.putAll, Co.ent, d2, binD, cmpD, Bi.den, dCall, dCons, dNil, dVar, dC, dGlob, dChain, dTup, dLst, pfs?, dFrz, dCallF, xVal, xCel, xNil, dIxC, dIxS, dLenS, dDnew, dDisp1, leD, gtD, geD, ltD, addD, subD, mulD, mulE, modD, fdivD, fdivE, powD, absD, Co.intD, lenD, tupleD, listD, bindT, bindTs, Tgs.len, wipeR, idxE, idxD, atI_0, atI_1, atI_2, ixN_21, dSl, dPart, sliceD]) (e_ix (ra := (.pf, .tuple [.str "leans", .int n])) (rb := (.pf, .int 1)) (s1 := s) (s2 := s) (by simp [fnD, rho0, denSs, denS, den, dens, denB, denO, denF, denI, denX, dBo, dAnd, dOr, dB, dT, dNot, dIf, dNeg, dIsi, isDict, instB, tyD, sSeq, sRet, sRetv, sNil, sSet, sIf, sDrop, sApp, sPutL, sPutC, sPutD, sPar, sBind, sFrz, Co.putAll, Co.ent, d2, binD, cmpD, Bi.den, dCall, dCons, dNil, dVar, dC, dGlob, dChain, dTup, dLst, pfs?, dFrz, dCallF, xVal, xCel, xNil, dIxC, dIxS, dLenS, dDnew, dDisp1, leD, gtD, geD, ltD, addD, subD, mulD, mulE, modD, fdivD, fdivE, powD, absD, Co.intD, lenD, tupleD, listD, bindT, bindTs, Tgs.len, wipeR, idxE, idxD, atI_0, atI_1, atI_2, ixN_21, dSl, dPart, sliceD, h]) (by simp [fnD, rho0, denSs, denS, den, dens, denB, denO, denF, denI, denX, dBo, dAnd, dOr, dB, dT, dNot, dIf, dNeg, dIsi, isDict, instB, tyD, sSeq, sRet, sRetv, sNil, sSet, sIf, sDrop, sApp, sPutL, sPutC, sPutD, sPar, sBind, sFrz, Co.putAll, Co.ent, d2, binD, cmpD, Bi.den, dCall, dCons, dNil, dVar, dC, dGlob, dChain, dTup, dLst, pfs?, dFrz, dCallF, xVal, xCel, xNil, dIxC, dIxS, dLenS, dDnew, dDisp1, leD, gtD, geD, ltD, addD, subD, mulD, mulE, modD, fdivD, fdivE, powD, absD, Co.intD, lenD, tupleD, listD, bindT, bindTs, Tgs.len, wipeR, idxE, idxD, atI_0, atI_1, atI_2, ixN_21, dSl, dPart, sliceD]) (by simp [fnD, rho0, denSs, denS, den, dens, denB, denO, denF, denI, denX, dBo, dAnd, dOr, dB, dT, dNot, dIf, dNeg, dIsi, isDict, instB, tyD, sSeq, sRet, sRetv, sNil, sSet, sIf, sDrop, sApp, sPutL, sPutC, sPutD, sPar, sBind, sFrz, Co.putAll, Co.ent, d2, binD, cmpD, Bi.den, dCall, dCons, dNil, dVar, dC, dGlob, dChain, dTup, dLst, pfs?, dFrz, dCallF, xVal, xCel, xNil, dIxC, dIxS, dLenS, dDnew, dDisp1, leD, gtD, geD, ltD, addD, subD, mulD, mulE, modD, fdivD, fdivE, powD, absD, Co.intD, lenD, tupleD, listD, bindT, bindTs, Tgs.len, wipeR, idxE, idxD, atI_0, atI_1, atI_2, ixN_21, dSl, dPart, sliceD])) rfl)
theorem ev_law_turned (k : Nat) {ws so : List D} (hs : ∀ d ∈ so, SrtOk d) (s : D) : (lvl (k + 1)).f ("_law_turned" : Str) [some (wdD ws so)] s = some ((.pf, wdD ws (so.map turnS)), s) := by
  rw [f__law_turned]
  have e1 : den (lvl k) e__law_turned_1 [some (.val (wdD ws so)), none] s = some ((.fr, .list (so.map turnS)), s) := by
    refine den_map (T := lvl k) (own := [(("sort" : Str), 1)]) (t := .one 1) (it := .items (.ix (.var 0) (.cst (.int 1)))) turnS (i_tup (by simp [fnD, rho0, denSs, denS, den, dens, denB, denO, denF, denI, denX, dBo, dAnd, dOr, dB, dT, dNot, dIf, dNeg, dIsi, isDict, instB, tyD, sSeq, sRet, sRetv, sNil, sSet, sIf, sDrop, sApp, sPutL, sPutC, sPutD, sPar, sBind, sFrz, Co.putAll, Co.ent, d2, binD, cmpD, Bi.den, dCall, dCons, dNil, dVar, dC, dGlob, dChain, dTup, dLst, pfs?, dFrz, dCallF, xVal, xCel, xNil, dIxC, dIxS, dLenS, dDnew, dDisp1, leD, gtD, geD, ltD, addD, subD, mulD, mulE, modD, fdivD, fdivE, powD, absD, Co.intD, lenD, tupleD, listD, bindT, bindTs, Tgs.len, wipeR, idxE, idxD, atI_0, atI_1, atI_2, ixN_21, dSl, dPart, sliceD])) fun d hd => ?_
    refine ⟨[some (.val (wdD ws so)), some (.val d)], by simp [wipeR, bindT], ?_⟩
    obtain ⟨x, rest, rfl, ⟨rfl, i, rfl⟩ | ⟨hx, e⟩⟩ := (hs d hd).shape
    · refine e_ifT (s1 := s) ?_ (e_turn rfl)
      have := tstv (T := lvl k) (i := 1) (ρ := [some (.val (wdD ws so)), some (.val (.tuple [.str "leans", .int i]))]) (s := s) (x := "leans") (y := "leans") (rest := [.int i]) rfl
      rw [decide_eq_true rfl] at this
      exact this
    · refine e_ifF (s1 := s) ?_ (by rw [e]; simp [fnD, rho0, denSs, denS, den, dens, denB, denO, denF, denI, denX, dBo, dAnd, dOr, dB, dT, dNot, dIf, dNeg, dIsi, isDict, instB, tyD, sSeq, sRet, sRetv, sNil, sSet, sIf, sDrop, sApp, sPutL, sPutC, sPutD, sPar, sBind, sFrz, Co.putAll, Co.ent, d2, binD, cmpD, Bi.den, dCall, dCons, dNil, dVar, dC, dGlob, dChain, dTup, dLst, pfs?, dFrz, dCallF, xVal, xCel, xNil, dIxC, dIxS, dLenS, dDnew, dDisp1, leD, gtD, geD, ltD, addD, subD, mulD, mulE, modD, fdivD, fdivE, powD, absD, Co.intD, lenD, tupleD, listD, bindT, bindTs, Tgs.len, wipeR, idxE, idxD, atI_0, atI_1, atI_2, ixN_21, dSl, dPart, sliceD])
      have := tstv (T := lvl k) (i := 1) (ρ := [some (.val (wdD ws so)), some (.val (.tuple (.str x :: rest)))]) (s := s) (x := x) (y := "leans") (rest := rest) rfl
      rw [decide_eq_false hx] at this
      exact this
  refine fn_rt (r := (.pf, wdD ws (so.map turnS))) (run_ret (st_ret ?_ (by simp))) (by simp)
  exact e_tup2 (s1 := s) (by simp [fnD, rho0, denSs, denS, den, dens, denB, denO, denF, denI, denX, dBo, dAnd, dOr, dB, dT, dNot, dIf, dNeg, dIsi, isDict, instB, tyD, sSeq, sRet, sRetv, sNil, sSet, sIf, sDrop, sApp, sPutL, sPutC, sPutD, sPar, sBind, sFrz, Co.putAll, Co.ent, d2, binD, cmpD, Bi.den, dCall, dCons, dNil, dVar, dC, dGlob, dChain, dTup, dLst, pfs?, dFrz, dCallF, xVal, xCel, xNil, dIxC, dIxS, dLenS, dDnew, dDisp1, leD, gtD, geD, ltD, addD, subD, mulD, mulE, modD, fdivD, fdivE, powD, absD, Co.intD, lenD, tupleD, listD, bindT, bindTs, Tgs.len, wipeR, idxE, idxD, atI_0, atI_1, atI_2, ixN_21, dSl, dPart, sliceD, n__law_turned]) (e_bi1 e1 rfl)
def isLn : D → Bool
  | .tuple (.str x :: _) => decide (x = ("leans" : Str))
  | _ => false
section
variable {ts ss : List (Str × List D)}
theorem ev_both_ways (k : Nat) (h : HouseOk ts ss) (h4 : ∀ p ∈ ss, p.2.length ≤ 4) (s : D) : ∃ ss', (lvl (k + 1)).f ("_law_both_ways" : Str) [some (hD ts ss)] s = some ((.pf, hD ts ss'), s) ∧ HouseOk ts ss' := by
  rw [f__law_both_ways]
  have sl := h.sl
  obtain ⟨ρ', s', g1, g2⟩ := st_for (T := lvl k) (t := .tup (.cons (.one 2) (.cons (.one 3) .nil))) (it := .items (.ix (.var 0) (.cst (.int 1)))) (bs := b__law_both_ways_1) (ρ := [some (.val (hD ts ss)), some (.own (.list [])), none, none, none, none]) (s := s) (s1 := s) (ds := ss.map thD) (i_tup (by simp [fnD, rho0, denSs, denS, den, dens, denB, denO, denF, denI, denX, dBo, dAnd, dOr, dB, dT, dNot, dIf, dNeg, dIsi, isDict, instB, tyD, sSeq, sRet, sRetv, sNil, sSet, sIf, sDrop, sApp, sPutL, sPutC, sPutD, sPar, sBind, sFrz, Co.putAll, Co.ent, d2, binD, cmpD, Bi.den, dCall, dCons, dNil, dVar, dC, dGlob, dChain, dTup, dLst, pfs?, dFrz, dCallF, xVal, xCel, xNil, dIxC, dIxS, dLenS, dDnew, dDisp1, leD, gtD, geD, ltD, addD, subD, mulD, mulE, modD, fdivD, fdivE, powD, absD, Co.intD, lenD, tupleD, listD, bindT, bindTs, Tgs.len, wipeR, idxE, idxD, atI_0, atI_1, atI_2, ixN_21, dSl, dPart, sliceD, hD]))
    (fun i ρ s' => s' = s ∧ ∃ (sa : List (Str × List D)) (x2 x3 x4 : Option Ent), ρ = [some (.val (hD ts ss)), some (.own (.list (sa.map thD))), x2, x3, x4, none] ∧ sa.map (·.1) = (ss.map (·.1)).take i ∧ ∀ p ∈ sa, SwOk p) ⟨rfl, [], none, none, none, rfl, rfl, by simp⟩ (fun i d ρ s' hd hI => by
      obtain ⟨rfl, sa, x2, x3, x4, rfl, a1, a2⟩ := hI
      rw [List.getElem?_map] at hd
      cases hp : ss[i]? with
      | none => rw [hp] at hd; cases hd
      | some p =>
        rw [hp] at hd
        cases hd
        have hm := List.mem_of_getElem? hp
        obtain ⟨p1, p2, p3, p4⟩ := h.sw p hm
        have p5 := h4 p hm
        have sal : sa.length ≤ 3 := by
          have := congrArg List.length a1
          rw [List.length_map, List.length_take, List.length_map] at this
          omega
        have e1 : den (lvl k) e__law_both_ways_1 [some (.val (hD ts ss)), some (.own (.list (sa.map thD))), some (.val (.str p.1)), some (.val (.tuple p.2)), x4, none] s' = some ((.fr, .list ((p.2.filter isLn).map turnS)), s') := by
          refine den_filt (T := lvl k) (own := [(("sort" : Str), 5)]) (t := .one 5) (it := .items (.var 3)) isLn turnS (i_tup (by simp [fnD, rho0, denSs, denS, den, dens, denB, denO, denF, denI, denX, dBo, dAnd, dOr, dB, dT, dNot, dIf, dNeg, dIsi, isDict, instB, tyD, sSeq, sRet, sRetv, sNil, sSet, sIf, sDrop, sApp, sPutL, sPutC, sPutD, sPar, sBind, sFrz, Co.putAll, Co.ent, d2, binD, cmpD, Bi.den, dCall, dCons, dNil, dVar, dC, dGlob, dChain, dTup, dLst, pfs?, dFrz, dCallF, xVal, xCel, xNil, dIxC, dIxS, dLenS, dDnew, dDisp1, leD, gtD, geD, ltD, addD, subD, mulD, mulE, modD, fdivD, fdivE, powD, absD, Co.intD, lenD, tupleD, listD, bindT, bindTs, Tgs.len, wipeR, idxE, idxD, atI_0, atI_1, atI_2, ixN_21, dSl, dPart, sliceD])) fun d hd => ?_
          refine ⟨[some (.val (hD ts ss)), some (.own (.list (sa.map thD))), some (.val (.str p.1)), some (.val (.tuple p.2)), x4, some (.val d)], by simp [wipeR, bindT], ?_, fun hl => ?_⟩
          · obtain ⟨x, rest, rfl, _⟩ := (p3 d hd).shape
            exact tstv rfl
          · obtain ⟨x, rest, rfl, ⟨rfl, i, rfl⟩ | ⟨hx, e⟩⟩ := (p3 d hd).shape
            · exact e_turn rfl
            · exact absurd (decide_eq_true_eq.mp hl) hx
        have all : ∀ d ∈ p.2 ++ (p.2.filter isLn).map turnS, SrtOk d := fun d hd => by
          rcases List.mem_append.mp hd with hd | hd
          · exact p3 d hd
          · obtain ⟨e, he, rfl⟩ := List.mem_map.mp hd
            exact (p3 e (List.mem_filter.mp he).1).turn
        have fl : ((p.2.filter isLn).map turnS).length ≤ 4 := by
          rw [List.length_map]
          exact Nat.le_trans (List.length_filter_le _ _) p5
        have tl : (p.2 ++ (p.2.filter isLn).map turnS).length ≤ 8 := by rw [List.length_append]; omega
        obtain ⟨us, u1, u2, u3, u4⟩ := sset_any (srtSs all) (by omega)
        have us0 : 0 < us.length := by
          cases hq : p.2 with
          | nil => rw [hq] at p1; cases p1
          | cons a r =>
            exact List.length_pos_of_mem ((u4 a).mpr (List.mem_append_left _ (by rw [hq]; exact List.mem_cons_self ..)))
        refine ⟨[some (.val (hD ts ss)), some (.own (.list (sa.map thD))), some (.val (.str p.1)), some (.val (.tuple p.2)), x4, none], [some (.val (hD ts ss)), some (.own (.list ((sa ++ [(p.1, us)]).map thD))), some (.val (.str p.1)), some (.val (.tuple p.2)), some (.val (.list ((p.2.filter isLn).map turnS))), none], s', by simp [bindT, bindTs, Tgs.len, thD], ?_, rfl, _, _, _, _, rfl, ?_, ?_⟩
        · refine run_cons (a := c__law_both_ways_1) (st_fr e1) (run_frz rfl (run_cons (a := c__law_both_ways_2) ?_ run_nil))
          rw [List.map_append]
          refine st_app (s1 := s') rfl (e_tup2 (s1 := s') (x := .str p.1) (by simp [fnD, rho0, denSs, denS, den, dens, denB, denO, denF, denI, denX, dBo, dAnd, dOr, dB, dT, dNot, dIf, dNeg, dIsi, isDict, instB, tyD, sSeq, sRet, sRetv, sNil, sSet, sIf, sDrop, sApp, sPutL, sPutC, sPutD, sPar, sBind, sFrz, Co.putAll, Co.ent, d2, binD, cmpD, Bi.den, dCall, dCons, dNil, dVar, dC, dGlob, dChain, dTup, dLst, pfs?, dFrz, dCallF, xVal, xCel, xNil, dIxC, dIxS, dLenS, dDnew, dDisp1, leD, gtD, geD, ltD, addD, subD, mulD, mulE, modD, fdivD, fdivE, powD, absD, Co.intD, lenD, tupleD, listD, bindT, bindTs, Tgs.len, wipeR, idxE, idxD, atI_0, atI_1, atI_2, ixN_21, dSl, dPart, sliceD]) (e_bi1 (e_sset (fl := .fr) (e_bin (ra := (.fr, .list p.2)) (rb := (.pf, .list ((p.2.filter isLn).map turnS))) (s1 := s') (s2 := s') (e_bi1 (r := (.pf, .tuple p.2)) (by simp [fnD, rho0, denSs, denS, den, dens, denB, denO, denF, denI, denX, dBo, dAnd, dOr, dB, dT, dNot, dIf, dNeg, dIsi, isDict, instB, tyD, sSeq, sRet, sRetv, sNil, sSet, sIf, sDrop, sApp, sPutL, sPutC, sPutD, sPar, sBind, sFrz, Co.putAll, Co.ent, d2, binD, cmpD, Bi.den, dCall, dCons, dNil, dVar, dC, dGlob, dChain, dTup, dLst, pfs?, dFrz, dCallF, xVal, xCel, xNil, dIxC, dIxS, dLenS, dDnew, dDisp1, leD, gtD, geD, ltD, addD, subD, mulD, mulE, modD, fdivD, fdivE, powD, absD, Co.intD, lenD, tupleD, listD, bindT, bindTs, Tgs.len, wipeR, idxE, idxD, atI_0, atI_1, atI_2, ixN_21, dSl, dPart, sliceD]) rfl) (by simp [fnD, rho0, denSs, denS, den, dens, denB, denO, denF, denI, denX, dBo, dAnd, dOr, dB, dT, dNot, dIf, dNeg, dIsi, isDict, instB, tyD, sSeq, sRet, sRetv, sNil, sSet, sIf, sDrop, sApp, sPutL, sPutC, sPutD, sPar, sBind, sFrz, Co.putAll, Co.ent, d2, binD, cmpD, Bi.den, dCall, dCons, dNil, dVar, dC, dGlob, dChain, dTup, dLst, pfs?, dFrz, dCallF, xVal, xCel, xNil, dIxC, dIxS, dLenS, dDnew, dDisp1, leD, gtD, geD, ltD, addD, subD, mulD, mulE, modD, fdivD, fdivE, powD, absD, Co.intD, lenD, tupleD, listD, bindT, bindTs, Tgs.len, wipeR, idxE, idxD, atI_0, atI_1, atI_2, ixN_21, dSl, dPart, sliceD]) ?_) u1) rfl)) ?_
          · show (if _ then some (Fl.fr, PyData.list (p.2 ++ (p.2.filter isLn).map turnS)) else none) = _
            rw [if_pos (by rw [sizeLine_eq]; omega)]
          · rw [List.length_map, sizeLine_eq]
            omega
        · rw [List.map_append, a1, List.take_add_one, List.getElem?_map, hp]
          rfl
        · intro q hq
          rcases List.mem_append.mp hq with hq | hq
          · exact a2 q hq
          · rw [List.mem_singleton.mp hq]
            exact ⟨us0, Nat.le_trans u3 tl, fun d hd => all d ((u4 d).mp hd), u2⟩)
  obtain ⟨rfl, sa, x2, x3, x4, rfl, a1, a2⟩ := g2
  rw [List.length_map, List.take_of_length_le (by rw [List.length_map]; exact Nat.le_refl _)] at a1
  refine ⟨sa, fn_rt (r := (.pf, hD ts sa)) ?_ (by simp), ⟨h.tn, h.tw, ?_, a2⟩⟩
  · refine run_cons (a := c__law_both_ways_3) (ρ1 := [some (.val (hD ts ss)), some (.own (.list [])), none, none, none, none]) (s1 := s') (by simp [c__law_both_ways_3, fnD, rho0, denSs, denS, den, dens, denB, denO, denF, denI, denX, dBo, dAnd, dOr, dB, dT, dNot, dIf, dNeg, dIsi, isDict, instB, tyD, sSeq, sRet, sRetv, sNil, sSet, sIf, sDrop, sApp, sPutL, sPutC, sPutD, sPar, sBind, sFrz, Co.putAll, Co.ent, d2, binD, cmpD, Bi.den, dCall, dCons, dNil, dVar, dC, dGlob, dChain, dTup, dLst, pfs?, dFrz, dCallF, xVal, xCel, xNil, dIxC, dIxS, dLenS, dDnew, dDisp1, leD, gtD, geD, ltD, addD, subD, mulD, mulE, modD, fdivD, fdivE, powD, absD, Co.intD, lenD, tupleD, listD, bindT, bindTs, Tgs.len, wipeR, idxE, idxD, atI_0, atI_1, atI_2, ixN_21, dSl, dPart, sliceD, n__law_both_ways]) (run_cons (a := c__law_both_ways_4) g1 (run_ret (st_ret ?_ (by simp))))
    exact e_tup2 (s1 := s') (by simp [fnD, rho0, denSs, denS, den, dens, denB, denO, denF, denI, denX, dBo, dAnd, dOr, dB, dT, dNot, dIf, dNeg, dIsi, isDict, instB, tyD, sSeq, sRet, sRetv, sNil, sSet, sIf, sDrop, sApp, sPutL, sPutC, sPutD, sPar, sBind, sFrz, Co.putAll, Co.ent, d2, binD, cmpD, Bi.den, dCall, dCons, dNil, dVar, dC, dGlob, dChain, dTup, dLst, pfs?, dFrz, dCallF, xVal, xCel, xNil, dIxC, dIxS, dLenS, dDnew, dDisp1, leD, gtD, geD, ltD, addD, subD, mulD, mulE, modD, fdivD, fdivE, powD, absD, Co.intD, lenD, tupleD, listD, bindT, bindTs, Tgs.len, wipeR, idxE, idxD, atI_0, atI_1, atI_2, ixN_21, dSl, dPart, sliceD, hD]) (e_bi1 (r := (.ln, .list (sa.map thD))) (by simp [fnD, rho0, denSs, denS, den, dens, denB, denO, denF, denI, denX, dBo, dAnd, dOr, dB, dT, dNot, dIf, dNeg, dIsi, isDict, instB, tyD, sSeq, sRet, sRetv, sNil, sSet, sIf, sDrop, sApp, sPutL, sPutC, sPutD, sPar, sBind, sFrz, Co.putAll, Co.ent, d2, binD, cmpD, Bi.den, dCall, dCons, dNil, dVar, dC, dGlob, dChain, dTup, dLst, pfs?, dFrz, dCallF, xVal, xCel, xNil, dIxC, dIxS, dLenS, dDnew, dDisp1, leD, gtD, geD, ltD, addD, subD, mulD, mulE, modD, fdivD, fdivE, powD, absD, Co.intD, lenD, tupleD, listD, bindT, bindTs, Tgs.len, wipeR, idxE, idxD, atI_0, atI_1, atI_2, ixN_21, dSl, dPart, sliceD]) rfl)
  · rw [a1]
    exact h.sn
def five : List D := [sEcho, sLies, sTrue, sT0, sT1]
theorem five_ok : ∀ d ∈ five, SrtOk d := by
  intro d hd
  simp only [five, List.mem_cons, List.not_mem_nil, or_false] at hd
  rcases hd with rfl | rfl | rfl | rfl | rfl
  · exact .echo
  · exact .lies
  · exact .tru
  · exact .turns 0
  · exact .turns 1
theorem five_up : Up five := by
  refine ⟨?_, ?_⟩
  · simp [five, sEcho, sLies, sTrue, sT0, sT1]
    decide +kernel
  · decide +kernel
def fiv : D → D
  | .tuple [n, _] => .tuple [n, .tuple five]
  | d => d
theorem ev_plain_house (k : Nat) (h : HouseOk ts ss) (s : D) (hb : Bag s) : ∃ ts' s', (lvl (k + 2)).f ("_law_plain_house" : Str) [none, some (hD ts ss)] s = some ((.pf, hD ts' (ss.map fun p => (p.1, five))), s') ∧ Bag s' ∧ HouseOk ts' (ss.map fun p => (p.1, five)) ∧ ts'.map (·.1) = ts.map (·.1) ∧ ∀ p ∈ ts', ∃ n : Int, p.2 = [.int n] := by
  rw [f__law_plain_house]
  obtain ⟨out, s', h1, b1, ts', rfl, h2, h3⟩ := lc_st (t := .tup (.cons (.one 4) (.cons (.one 5) .nil))) (vs := [4, 5]) (g := denI (lvl (k + 1)) false (.items (.ix (.var 1) (.cst (.int 0))))) (test := denF (lvl (k + 1)) .no) (f := den (lvl (k + 1)) (.tup (.cons (.var 4) (.cons (.tup (.cons (.ix (.var 5) (.call ("_law_take" : Str) 2 (.cel 0 (.val (.bi .len (.cons (.var 5) .nil)) .nil)))) .nil)) .nil)))) (ρ := [some .cell, some (.val (hD ts ss)), none, none, none, none]) (s := s) (s1 := s) (ds := ts.map thD) (i_tup (by simp [fnD, rho0, denSs, denS, den, dens, denB, denO, denF, denI, denX, dBo, dAnd, dOr, dB, dT, dNot, dIf, dNeg, dIsi, isDict, instB, tyD, sSeq, sRet, sRetv, sNil, sSet, sIf, sDrop, sApp, sPutL, sPutC, sPutD, sPar, sBind, sFrz, Co.putAll, Co.ent, d2, binD, cmpD, Bi.den, dCall, dCons, dNil, dVar, dC, dGlob, dChain, dTup, dLst, pfs?, dFrz, dCallF, xVal, xCel, xNil, dIxC, dIxS, dLenS, dDnew, dDisp1, leD, gtD, geD, ltD, addD, subD, mulD, mulE, modD, fdivD, fdivE, powD, absD, Co.intD, lenD, tupleD, listD, bindT, bindTs, Tgs.len, wipeR, idxE, idxD, atI_0, atI_1, atI_2, ixN_21, dSl, dPart, sliceD, hD]))
    (fun i acc s => Bag s ∧ ∃ ta : List (Str × List D), acc = ta.map thD ∧ ta.map (·.1) = (ts.map (·.1)).take i ∧ ∀ p ∈ ta, ∃ n : Int, p.2 = [.int n]) ⟨hb, [], rfl, rfl, by simp⟩ (fun i d acc s hd hI => by
      obtain ⟨hb, ta, rfl, a1, a2⟩ := hI
      rw [List.getElem?_map] at hd
      cases hp : ts[i]? with
      | none => rw [hp] at hd; cases hd
      | some p =>
        rw [hp] at hd
        cases hd
        obtain ⟨p1, p2, p3, p4⟩ := h.tw p (List.mem_of_getElem? hp)
        obtain ⟨q, s1, e1, q0, q1, b1⟩ := ev_take k (p.2.length : Int) s hb (by omega)
        have hq : q.toNat < p.2.length := by omega
        obtain ⟨n, hn⟩ := p3 _ (List.getElem_mem hq)
        have a3 : atI p.2 q = some (.int n) := atI_nat q0 (by rw [List.getElem?_eq_getElem hq, hn])
        refine ⟨[some .cell, some (.val (hD ts ss)), none, none, some (.val (.str p.1)), some (.val (.tuple p.2))], true, s, by simp [wipeR, bindT, bindTs, Tgs.len, thD], rfl, .inl ⟨rfl, thD (p.1, [.int n]), s1, ?_, b1, ta ++ [(p.1, [.int n])], by rw [List.map_append]; rfl, ?_, fun r hr => ?_⟩⟩
        · have z1 : 1 ≤ sizeLine := by decide
          have e2 : den (lvl (k + 1)) (.ix (.var 5) (.call ("_law_take" : Str) 2 (.cel 0 (.val (.bi .len (.cons (.var 5) .nil)) .nil)))) [some .cell, some (.val (hD ts ss)), none, none, some (.val (.str p.1)), some (.val (.tuple p.2))] s = some ((.pf, .int n), s1) := e_ix (ra := (.pf, .tuple p.2)) (rb := (.pf, .int q)) (s1 := s) (by simp [fnD, rho0, denSs, denS, den, dens, denB, denO, denF, denI, denX, dBo, dAnd, dOr, dB, dT, dNot, dIf, dNeg, dIsi, isDict, instB, tyD, sSeq, sRet, sRetv, sNil, sSet, sIf, sDrop, sApp, sPutL, sPutC, sPutD, sPar, sBind, sFrz, Co.putAll, Co.ent, d2, binD, cmpD, Bi.den, dCall, dCons, dNil, dVar, dC, dGlob, dChain, dTup, dLst, pfs?, dFrz, dCallF, xVal, xCel, xNil, dIxC, dIxS, dLenS, dDnew, dDisp1, leD, gtD, geD, ltD, addD, subD, mulD, mulE, modD, fdivD, fdivE, powD, absD, Co.intD, lenD, tupleD, listD, bindT, bindTs, Tgs.len, wipeR, idxE, idxD, atI_0, atI_1, atI_2, ixN_21, dSl, dPart, sliceD]) (e_call (xs := [none, some (.int (p.2.length : Int))]) (s1 := s) (by simp [fnD, rho0, denSs, denS, den, dens, denB, denO, denF, denI, denX, dBo, dAnd, dOr, dB, dT, dNot, dIf, dNeg, dIsi, isDict, instB, tyD, sSeq, sRet, sRetv, sNil, sSet, sIf, sDrop, sApp, sPutL, sPutC, sPutD, sPar, sBind, sFrz, Co.putAll, Co.ent, d2, binD, cmpD, Bi.den, dCall, dCons, dNil, dVar, dC, dGlob, dChain, dTup, dLst, pfs?, dFrz, dCallF, xVal, xCel, xNil, dIxC, dIxS, dLenS, dDnew, dDisp1, leD, gtD, geD, ltD, addD, subD, mulD, mulE, modD, fdivD, fdivE, powD, absD, Co.intD, lenD, tupleD, listD, bindT, bindTs, Tgs.len, wipeR, idxE, idxD, atI_0, atI_1, atI_2, ixN_21, dSl, dPart, sliceD]) e1 (by simp) rfl) (by simp [fnD, rho0, denSs, denS, den, dens, denB, denO, denF, denI, denX, dBo, dAnd, dOr, dB, dT, dNot, dIf, dNeg, dIsi, isDict, instB, tyD, sSeq, sRet, sRetv, sNil, sSet, sIf, sDrop, sApp, sPutL, sPutC, sPutD, sPar, sBind, sFrz, Co.putAll, Co.ent, d2, binD, cmpD, Bi.den, dCall, dCons, dNil, dVar, dC, dGlob, dChain, dTup, dLst, pfs?, dFrz, dCallF, xVal, xCel, xNil, dIxC, dIxS, dLenS, dDnew, dDisp1, leD, gtD, geD, ltD, addD, subD, mulD, mulE, modD, fdivD, fdivE, powD, absD, Co.intD, lenD, tupleD, listD, bindT, bindTs, Tgs.len, wipeR, idxE, idxD, atI_0, atI_1, atI_2, ixN_21, dSl, dPart, sliceD, a3])
          refine e_tup2 (s1 := s) (by simp [fnD, rho0, denSs, denS, den, dens, denB, denO, denF, denI, denX, dBo, dAnd, dOr, dB, dT, dNot, dIf, dNeg, dIsi, isDict, instB, tyD, sSeq, sRet, sRetv, sNil, sSet, sIf, sDrop, sApp, sPutL, sPutC, sPutD, sPar, sBind, sFrz, Co.putAll, Co.ent, d2, binD, cmpD, Bi.den, dCall, dCons, dNil, dVar, dC, dGlob, dChain, dTup, dLst, pfs?, dFrz, dCallF, xVal, xCel, xNil, dIxC, dIxS, dLenS, dDnew, dDisp1, leD, gtD, geD, ltD, addD, subD, mulD, mulE, modD, fdivD, fdivE, powD, absD, Co.intD, lenD, tupleD, listD, bindT, bindTs, Tgs.len, wipeR, idxE, idxD, atI_0, atI_1, atI_2, ixN_21, dSl, dPart, sliceD]) ?_
          rw [den, dens, dens]
          unfold dTup dCons dNil
          simp [e2, pfs?, z1]
        · rw [List.map_append, a1, List.take_add_one, List.getElem?_map, hp]
          rfl
        · rcases List.mem_append.mp hr with hr | hr
          · exact a2 r hr
          · rw [List.mem_singleton.mp hr]
            exact ⟨n, rfl⟩)
  rw [List.length_map, List.take_of_length_le (by rw [List.length_map]; exact Nat.le_refl _)] at h2
  refine ⟨ts', s', fn_rt (r := (.pf, hD ts' (ss.map fun p => (p.1, five)))) ?_ (by simp), b1, ⟨?_, fun p hp => ?_, ?_, fun p hp => ?_⟩, h2, h3⟩
  · have l1 : den (lvl (k + 1)) e__law_plain_house_1 (rho0 n__law_plain_house.length [none, some (hD ts ss)]) s = some ((.fr, .list (ts'.map thD)), s') := by
      rw [e__law_plain_house_1, den]
      exact h1
    have l2 : den (lvl (k + 1)) e__law_plain_house_2 [some .cell, some (.val (hD ts ss)), some (.val (.list (ts'.map thD))), some (.val (.tuple five)), none, none] s' = some ((.fr, .list ((ss.map thD).map fiv)), s') := by
      refine den_map (T := lvl (k + 1)) (own := [(("name" : Str), 4), (("some" : Str), 5)]) (t := .tup (.cons (.one 4) (.cons (.one 5) .nil))) (it := .items (.ix (.var 1) (.cst (.int 1)))) fiv (i_tup (by simp [fnD, rho0, denSs, denS, den, dens, denB, denO, denF, denI, denX, dBo, dAnd, dOr, dB, dT, dNot, dIf, dNeg, dIsi, isDict, instB, tyD, sSeq, sRet, sRetv, sNil, sSet, sIf, sDrop, sApp, sPutL, sPutC, sPutD, sPar, sBind, sFrz, Co.putAll, Co.ent, d2, binD, cmpD, Bi.den, dCall, dCons, dNil, dVar, dC, dGlob, dChain, dTup, dLst, pfs?, dFrz, dCallF, xVal, xCel, xNil, dIxC, dIxS, dLenS, dDnew, dDisp1, leD, gtD, geD, ltD, addD, subD, mulD, mulE, modD, fdivD, fdivE, powD, absD, Co.intD, lenD, tupleD, listD, bindT, bindTs, Tgs.len, wipeR, idxE, idxD, atI_0, atI_1, atI_2, ixN_21, dSl, dPart, sliceD, hD])) fun d hd => ?_
      obtain ⟨p, hp, rfl⟩ := List.mem_map.mp hd
      exact ⟨[some .cell, some (.val (hD ts ss)), some (.val (.list (ts'.map thD))), some (.val (.tuple five)), some (.val (.str p.1)), some (.val (.tuple p.2))], by simp [wipeR, bindT, bindTs, Tgs.len, thD], e_tup2 (s1 := s') (by simp [fnD, rho0, denSs, denS, den, dens, denB, denO, denF, denI, denX, dBo, dAnd, dOr, dB, dT, dNot, dIf, dNeg, dIsi, isDict, instB, tyD, sSeq, sRet, sRetv, sNil, sSet, sIf, sDrop, sApp, sPutL, sPutC, sPutD, sPar, sBind, sFrz, Co.putAll, Co.ent, d2, binD, cmpD, Bi.den, dCall, dCons, dNil, dVar, dC, dGlob, dChain, dTup, dLst, pfs?, dFrz, dCallF, xVal, xCel, xNil, dIxC, dIxS, dLenS, dDnew, dDisp1, leD, gtD, geD, ltD, addD, subD, mulD, mulE, modD, fdivD, fdivE, powD, absD, Co.intD, lenD, tupleD, listD, bindT, bindTs, Tgs.len, wipeR, idxE, idxD, atI_0, atI_1, atI_2, ixN_21, dSl, dPart, sliceD]) (by simp [fnD, rho0, denSs, denS, den, dens, denB, denO, denF, denI, denX, dBo, dAnd, dOr, dB, dT, dNot, dIf, dNeg, dIsi, isDict, instB, tyD, sSeq, sRet, sRetv, sNil, sSet, sIf, sDrop, sApp, sPutL, sPutC, sPutD, sPar, sBind, sFrz, Co.putAll, Co.ent, d2, binD, cmpD, Bi.den, dCall, dCons, dNil, dVar, dC, dGlob, dChain, dTup, dLst, pfs?, dFrz, dCallF, xVal, xCel, xNil, dIxC, dIxS, dLenS, dDnew, dDisp1, leD, gtD, geD, ltD, addD, subD, mulD, mulE, modD, fdivD, fdivE, powD, absD, Co.intD, lenD, tupleD, listD, bindT, bindTs, Tgs.len, wipeR, idxE, idxD, atI_0, atI_1, atI_2, ixN_21, dSl, dPart, sliceD])⟩
    have em : (ss.map thD).map fiv = (ss.map fun p => (p.1, five)).map thD := by
      rw [List.map_map, List.map_map]
      rfl
    have z1 : 1 ≤ sizeLine := by decide
    have z2 : 2 ≤ sizeLine := by decide
    have z5 : 5 ≤ sizeLine := by decide
    refine run_cons (a := c__law_plain_house_1) (st_fr l1) (run_frz rfl (run_cons (a := c__law_plain_house_2) (ρ1 := [some .cell, some (.val (hD ts ss)), some (.val (.list (ts'.map thD))), some (.val (.tuple five)), none, none]) (s1 := s') (by simp [c__law_plain_house_2, fnD, rho0, denSs, denS, den, dens, denB, denO, denF, denI, denX, dBo, dAnd, dOr, dB, dT, dNot, dIf, dNeg, dIsi, isDict, instB, tyD, sSeq, sRet, sRetv, sNil, sSet, sIf, sDrop, sApp, sPutL, sPutC, sPutD, sPar, sBind, sFrz, Co.putAll, Co.ent, d2, binD, cmpD, Bi.den, dCall, dCons, dNil, dVar, dC, dGlob, dChain, dTup, dLst, pfs?, dFrz, dCallF, xVal, xCel, xNil, dIxC, dIxS, dLenS, dDnew, dDisp1, leD, gtD, geD, ltD, addD, subD, mulD, mulE, modD, fdivD, fdivE, powD, absD, Co.intD, lenD, tupleD, listD, bindT, bindTs, Tgs.len, wipeR, idxE, idxD, atI_0, atI_1, atI_2, ixN_21, dSl, dPart, sliceD, n__law_plain_house, z1, z2, z5, five, sEcho, sLies, sTrue, sT0, sT1]) (run_ret (st_ret ?_ (by simp)))))
    rw [em] at l2
    exact e_tup2 (s1 := s') (e_bi1 (r := (.pf, .list (ts'.map thD))) (by simp [fnD, rho0, denSs, denS, den, dens, denB, denO, denF, denI, denX, dBo, dAnd, dOr, dB, dT, dNot, dIf, dNeg, dIsi, isDict, instB, tyD, sSeq, sRet, sRetv, sNil, sSet, sIf, sDrop, sApp, sPutL, sPutC, sPutD, sPar, sBind, sFrz, Co.putAll, Co.ent, d2, binD, cmpD, Bi.den, dCall, dCons, dNil, dVar, dC, dGlob, dChain, dTup, dLst, pfs?, dFrz, dCallF, xVal, xCel, xNil, dIxC, dIxS, dLenS, dDnew, dDisp1, leD, gtD, geD, ltD, addD, subD, mulD, mulE, modD, fdivD, fdivE, powD, absD, Co.intD, lenD, tupleD, listD, bindT, bindTs, Tgs.len, wipeR, idxE, idxD, atI_0, atI_1, atI_2, ixN_21, dSl, dPart, sliceD]) rfl) (e_bi1 l2 rfl)
  · rw [h2]; exact h.tn
  · obtain ⟨n, e⟩ := h3 p hp
    unfold TwOk
    rw [e]
    exact ⟨by simp, by simp, by simp [isInt], by simp [Up]⟩
  · rw [List.map_map]
    exact h.sn
  · obtain ⟨q, _, rfl⟩ := List.mem_map.mp hp
    exact ⟨by simp [five], by simp [five], five_ok, five_up⟩
end
end G4
end

section
set_option Elab.async false
set_option linter.all false
set_option maxRecDepth 100000
set_option maxHeartbeats 4000000
set_option autoImplicit false
namespace G4
open PySem L2 Co
def negD : D → D
  | .int a => .int (0 - a)
  | d => d
theorem neg_map (as : List Int) : (as.map PyData.int).map negD = (as.map fun a => 0 - a).map PyData.int := by
  rw [List.map_map, List.map_map]
  rfl
def atD (row : List D) : D → D
  | .int a => row.getD a.toNat .none
  | d => d
def fsD : D → D
  | .tuple [a, _] => a
  | d => d
def scB (c : Str) : D → Bool
  | .tuple [_, w] => decide ((dec w).1 = c)
  | _ => false
theorem enum_map (row : List D) : enumL row = (List.range row.length).map fun i => .tuple [nD i, row.getD i .none] := by
  refine List.ext_getElem? fun i => ?_
  rw [List.getElem?_map]
  by_cases h : i < row.length
  · rw [List.getElem?_range h]
    unfold enumL
    rw [List.getElem?_zipWith, List.getElem?_range h, List.getElem?_eq_getElem h]
    simp [h, nD]
  · rw [List.getElem?_eq_none (by rw [enum_len]; omega), List.getElem?_eq_none (by simp; omega)]
    rfl
theorem enum_ix (row : List D) (c : Str) : ((enumL row).filter (scB c)).map fsD = (ixF row c).map nD := by
  rw [enum_map, List.filter_map, List.map_map]
  rfl
theorem at_nat {xs : List D} {i : Nat} (h : i < xs.length) : idxE (.list xs) (nD i) = some (.pf, xs.getD i .none) := by
  have e : xs[i]? = some (xs.getD i .none) := by rw [List.getD_eq_getElem?_getD, List.getElem?_eq_getElem h]; rfl
  have := atI_nat (xs := xs) (i := ((i : Nat) : Int)) (by omega) (by simpa using e)
  show idxD (.list xs) (.int (i : Nat)) = _
  unfold idxD
  simp [this]
theorem e_var {T : Tb} {i : Nat} {ρ : Rho} {s d : D} (h : ρ[i]? = some (some (.val d))) : den T (.var i) ρ s = some ((.pf, d), s) := by
  rw [den]
  unfold dVar
  simp [h]
theorem x_val {T : Tb} {a : CE} {as : CAs} {ρ : Rho} {s s1 s2 d : D} {xs : List (Option D)} (h : den T a ρ s = some ((.pf, d), s1)) (h2 : denX T as ρ s1 = some (xs, s2)) : denX T (.val a as) ρ s = some (some d :: xs, s2) := by
  rw [denX]
  unfold xVal
  simp [h, h2]
theorem x_nil {T : Tb} {ρ : Rho} {s : D} : denX T .nil ρ s = some ([], s) := by
  rw [denX]
  rfl
theorem e_neg {T : Tb} {i j : Nat} {nm : Str} {ρ : Rho} {s : D} {as : List Int} (h : denI T false (.items (.var i)) ρ s = some (as.map PyData.int, s)) (hj : j < ρ.length) : den T (.lc [(nm, j)] (.one j) (.items (.var i)) .no (.bin .Sub (.cst (.int 0)) (.var j))) ρ s = some ((.fr, .list ((as.map fun a => 0 - a).map PyData.int)), s) := by
  rw [← neg_map]
  refine den_map (T := T) (own := [(nm, j)]) (t := .one j) (it := .items (.var i)) (ρ := ρ) negD h fun d hd => ?_
  obtain ⟨a, _, rfl⟩ := List.mem_map.mp hd
  refine ⟨(wipeR ρ [j]).set j (some (.val (.int a))), by simp [bindT, wipeR, hj], ?_⟩
  exact e_bin (ra := (.pf, .int 0)) (rb := (.pf, .int a)) (s1 := s) (s2 := s) (by simp [fnD, rho0, denSs, denS, den, dens, denB, denO, denF, denI, denX, dBo, dAnd, dOr, dB, dT, dNot, dIf, dNeg, dIsi, isDict, instB, tyD, sSeq, sRet, sRetv, sNil, sSet, sIf, sDrop, sApp, sPutL, sPutC, sPutD, sPar, sBind, sFrz, Co.putAll, Co.ent, d2, binD, cmpD, Bi.den, dCall, dCons, dNil, dVar, dC, dGlob, dChain, dTup, dLst, pfs?, dFrz, dCallF, xVal, xCel, xNil, dIxC, dIxS, dLenS, dDnew, dDisp1, leD, gtD, geD, ltD, addD, subD, mulD, mulE, modD, fdivD, fdivE, powD, absD, Co.intD, lenD, tupleD, listD, bindT, bindTs, Tgs.len, wipeR, idxE, idxD, atI_0, atI_1, atI_2, ixN_21, dSl, dPart, sliceD]) (e_var (by simp [wipeR, hj])) rfl
section
variable {ts ss : List (Str × List D)} {ws so row : List D} {x4 x10 x11 x21 x22 x23 : Option Ent}
theorem ne_same {as : List Int} : neD (.list (as.map .int)) (.list (as.map .int)) = some (.pf, .bool false) := by
  rw [ne_ints]
  simp
theorem ne_eq {as bs : List Int} (h : as = bs) : neD (.list (as.map .int)) (.list (bs.map .int)) = some (.pf, .bool false) := by
  rw [h]
  exact ne_same
theorem l4_8 (k : Nat) (h : HouseOk ts ss) (hw : WorldOk ts ss (wdD ws so)) (hs : ∀ d ∈ so, SrtOk d) (hr : ∀ d ∈ row, WeighOk ts ss d) (s : D) : denS (lvl (k + 3)) c_law_8 [none, some .cell, some (.val (hD ts ss)), some (.val (.list (row.map swW))), x4, none, none, none, some (.val (.list row)), some (.val (.list (wsF ts ss))), some (.val (wdD ws so)), some (.val (.list ((telF ts ss (wdD ws so) row).map PyData.int))), none, none, none, none, none, none, none, none, none, x21, x22, x23, none, none, none, none, none, none] s = some (.nx [none, some .cell, some (.val (hD ts ss)), some (.val (.list (row.map swW))), x4, none, none, none, some (.val (.list row)), some (.val (.list (wsF ts ss))), some (.val (wdD ws so)), some (.val (.list ((telF ts ss (wdD ws so) row).map PyData.int))), none, none, none, none, none, none, none, none, none, x21, x22, x23, none, none, none, none, none, none], s) := by
  have hw2 : WorldOk ts ss (wdD ws (so.map turnS)) := by
    obtain ⟨a, b, e, w1, w2, w3, w4⟩ := hw
    have e1 : ws = a := by injection e with e; injection e with e _; injection e
    have e2 : so = b := by injection e with e; injection e with _ e; injection e with e _; injection e
    subst e1 e2
    refine ⟨_, _, rfl, w1, w2, by rw [List.length_map]; exact w3, fun x hx => ?_⟩
    obtain ⟨y, hy, rfl⟩ := List.mem_map.mp hx
    exact (w4 y hy).turn
  have hr2 : ∀ d ∈ row.map swW, WeighOk ts ss d := fun d hd => by
    obtain ⟨w, hw, rfl⟩ := List.mem_map.mp hd
    exact (hr w hw).sw
  refine st_ifF (s1 := s) (t_of (fl := .pf) (e_2 (s1 := s) (s2 := s) (e_call (xs := [some (hD ts ss), some (wdD ws (so.map turnS)), some (.list (row.map swW))]) (s1 := s) (x_val (s1 := s) (e_var rfl) (x_val (s1 := s) (e_call (xs := [some (wdD ws so)]) (s1 := s) (x_val (s1 := s) (e_var rfl) x_nil) (ev_law_turned (k + 2) hs s) (by simp) rfl) (x_val (s1 := s) (e_var rfl) x_nil))) (ev_tells k h hw2 hr2 s) (by simp) rfl) (e_neg (i_list (e_var rfl)) (by simp)) (ne_eq (tel_neg hs row)))) run_nil
theorem l4_own (k : Nat) (h : HouseOk ts ss) (hw : WorldOk ts ss (wdD ws so)) (hr : ∀ d ∈ row, WeighOk ts ss d) {p : Str × List D} (s : D) : denSs (lvl (k + 3)) b_law_3 [none, some .cell, some (.val (hD ts ss)), some (.val (.list (row.map swW))), x4, none, none, none, some (.val (.list row)), some (.val (.list (wsF ts ss))), some (.val (wdD ws so)), some (.val (.list ((telF ts ss (wdD ws so) row).map PyData.int))), none, none, none, none, none, none, none, none, none, some (.val (.str p.1)), some (.val (.tuple p.2)), x23, none, none, none, none, none, none] s = some (.nx [none, some .cell, some (.val (hD ts ss)), some (.val (.list (row.map swW))), x4, none, none, none, some (.val (.list row)), some (.val (.list (wsF ts ss))), some (.val (wdD ws so)), some (.val (.list ((telF ts ss (wdD ws so) row).map PyData.int))), none, none, none, none, none, none, none, none, none, some (.val (.str p.1)), some (.val (.tuple p.2)), some (.val (.list ((ixF row p.1).map nD))), none, none, none, none, none, none], s) := by
  have e3 : den (lvl (k + 3)) e_law_3 [none, some .cell, some (.val (hD ts ss)), some (.val (.list (row.map swW))), x4, none, none, none, some (.val (.list row)), some (.val (.list (wsF ts ss))), some (.val (wdD ws so)), some (.val (.list ((telF ts ss (wdD ws so) row).map PyData.int))), none, none, none, none, none, none, none, none, none, some (.val (.str p.1)), some (.val (.tuple p.2)), x23, none, none, none, none, none, none] s = some ((.fr, .list ((ixF row p.1).map nD)), s) := by
    rw [← enum_ix]
    refine den_filt (T := lvl (k + 3)) (own := [(("at" : Str), 29), (("weighing" : Str), 19)]) (t := .tup (.cons (.one 29) (.cons (.one 19) .nil))) (it := .enum (.cons (.var 8) .nil)) (scB p.1) fsD ?_ fun d hd => ?_
    · rw [denI, dens, dens]
      unfold dEnum dCons dNil
      simp [e_var (T := lvl (k + 3)) (i := 8) (s := s) (ρ := [none, some .cell, some (.val (hD ts ss)), some (.val (.list (row.map swW))), x4, none, none, none, some (.val (.list row)), some (.val (.list (wsF ts ss))), some (.val (wdD ws so)), some (.val (.list ((telF ts ss (wdD ws so) row).map PyData.int))), none, none, none, none, none, none, none, none, none, some (.val (.str p.1)), some (.val (.tuple p.2)), x23, none, none, none, none, none, none]) (d := .list row) rfl]
    · obtain ⟨i, w, rfl, hm⟩ := enum_mem hd
      obtain ⟨sc, l, r, rfl, _⟩ := hr w hm
      refine ⟨[none, some .cell, some (.val (hD ts ss)), some (.val (.list (row.map swW))), x4, none, none, none, some (.val (.list row)), some (.val (.list (wsF ts ss))), some (.val (wdD ws so)), some (.val (.list ((telF ts ss (wdD ws so) row).map PyData.int))), none, none, none, none, none, none, none, some (.val (wgD sc l r)), none, some (.val (.str p.1)), some (.val (.tuple p.2)), x23, none, none, none, none, none, some (.val (.int (i : Nat)))], by simp [wipeR, bindT, bindTs, Tgs.len], ?_, fun _ => e_var rfl⟩
      show _ = some (decide ((dec (wgD sc l r)).1 = p.1), s)
      rw [dec_wg]
      exact t_of (fl := .pf) (e_2 (ra := (.pf, .str sc)) (rb := (.pf, .str p.1)) (s1 := s) (s2 := s) (e_ix (ra := (.pf, wgD sc l r)) (rb := (.pf, .int 0)) (s1 := s) (s2 := s) (e_var rfl) (by simp [fnD, rho0, denSs, denS, den, dens, denB, denO, denF, denI, denX, dBo, dAnd, dOr, dB, dT, dNot, dIf, dNeg, dIsi, isDict, instB, tyD, sSeq, sRet, sRetv, sNil, sSet, sIf, sDrop, sApp, sPutL, sPutC, sPutD, sPar, sBind, sFrz, Co.putAll, Co.ent, d2, binD, cmpD, Bi.den, dCall, dCons, dNil, dVar, dC, dGlob, dChain, dTup, dLst, pfs?, dFrz, dCallF, xVal, xCel, xNil, dIxC, dIxS, dLenS, dDnew, dDisp1, leD, gtD, geD, ltD, addD, subD, mulD, mulE, modD, fdivD, fdivE, powD, absD, Co.intD, lenD, tupleD, listD, bindT, bindTs, Tgs.len, wipeR, idxE, idxD, atI_0, atI_1, atI_2, ixN_21, dSl, dPart, sliceD]) (by simp [fnD, rho0, denSs, denS, den, dens, denB, denO, denF, denI, denX, dBo, dAnd, dOr, dB, dT, dNot, dIf, dNeg, dIsi, isDict, instB, tyD, sSeq, sRet, sRetv, sNil, sSet, sIf, sDrop, sApp, sPutL, sPutC, sPutD, sPar, sBind, sFrz, Co.putAll, Co.ent, d2, binD, cmpD, Bi.den, dCall, dCons, dNil, dVar, dC, dGlob, dChain, dTup, dLst, pfs?, dFrz, dCallF, xVal, xCel, xNil, dIxC, dIxS, dLenS, dDnew, dDisp1, leD, gtD, geD, ltD, addD, subD, mulD, mulE, modD, fdivD, fdivE, powD, absD, Co.intD, lenD, tupleD, listD, bindT, bindTs, Tgs.len, wipeR, idxE, idxD, atI_0, atI_1, atI_2, ixN_21, dSl, dPart, sliceD, wgD])) (e_var rfl) (eq_str _ _))
  have e4 : den (lvl (k + 3)) e_law_4 [none, some .cell, some (.val (hD ts ss)), some (.val (.list (row.map swW))), x4, none, none, none, some (.val (.list row)), some (.val (.list (wsF ts ss))), some (.val (wdD ws so)), some (.val (.list ((telF ts ss (wdD ws so) row).map PyData.int))), none, none, none, none, none, none, none, none, none, some (.val (.str p.1)), some (.val (.tuple p.2)), some (.val (.list ((ixF row p.1).map nD))), none, none, none, none, none, none] s = some ((.fr, .list (ownF row p.1)), s) := by
    have e : ownF row p.1 = ((ixF row p.1).map nD).map (atD row) := by
      rw [own_ix, List.map_map]
      exact List.map_congr_left fun i _ => by simp [atD, nD]
    rw [e]
    refine den_map (T := lvl (k + 3)) (own := [(("at" : Str), 29)]) (t := .one 29) (it := .items (.var 23)) (atD row) (i_list (e_var rfl)) fun d hd => ?_
    obtain ⟨i, hi, rfl⟩ := List.mem_map.mp hd
    refine ⟨[none, some .cell, some (.val (hD ts ss)), some (.val (.list (row.map swW))), x4, none, none, none, some (.val (.list row)), some (.val (.list (wsF ts ss))), some (.val (wdD ws so)), some (.val (.list ((telF ts ss (wdD ws so) row).map PyData.int))), none, none, none, none, none, none, none, none, none, some (.val (.str p.1)), some (.val (.tuple p.2)), some (.val (.list ((ixF row p.1).map nD))), none, none, none, none, none, some (.val (nD i))], by simp [wipeR, bindT], e_ix (ra := (.pf, .list row)) (rb := (.pf, nD i)) (s1 := s) (s2 := s) (e_var rfl) (e_var rfl) ?_⟩
    have := at_nat (xs := row) (ix_lt hi)
    simpa [atD, nD] using this
  have e5 : den (lvl (k + 3)) e_law_5 [none, some .cell, some (.val (hD ts ss)), some (.val (.list (row.map swW))), x4, none, none, none, some (.val (.list row)), some (.val (.list (wsF ts ss))), some (.val (wdD ws so)), some (.val (.list ((telF ts ss (wdD ws so) row).map PyData.int))), none, none, none, none, none, none, none, none, none, some (.val (.str p.1)), some (.val (.tuple p.2)), some (.val (.list ((ixF row p.1).map nD))), none, none, none, none, none, none] s = some ((.fr, .list (((ixF row p.1).map fun i => (telF ts ss (wdD ws so) row).getD i 0).map PyData.int)), s) := by
    have e : ((ixF row p.1).map fun i => (telF ts ss (wdD ws so) row).getD i 0).map PyData.int = ((ixF row p.1).map nD).map (atD ((telF ts ss (wdD ws so) row).map PyData.int)) := by
      rw [List.map_map, List.map_map]
      refine List.map_congr_left fun i hi => ?_
      have hl := ix_lt hi
      have hl2 : i < (telF ts ss (wdD ws so) row).length := by rw [tel_len]; exact hl
      simp [atD, nD, List.getD_eq_getElem?_getD, List.getElem?_eq_getElem hl2]
    rw [e]
    refine den_map (T := lvl (k + 3)) (own := [(("at" : Str), 29)]) (t := .one 29) (it := .items (.var 23)) (atD ((telF ts ss (wdD ws so) row).map PyData.int)) (i_list (e_var rfl)) fun d hd => ?_
    obtain ⟨i, hi, rfl⟩ := List.mem_map.mp hd
    refine ⟨[none, some .cell, some (.val (hD ts ss)), some (.val (.list (row.map swW))), x4, none, none, none, some (.val (.list row)), some (.val (.list (wsF ts ss))), some (.val (wdD ws so)), some (.val (.list ((telF ts ss (wdD ws so) row).map PyData.int))), none, none, none, none, none, none, none, none, none, some (.val (.str p.1)), some (.val (.tuple p.2)), some (.val (.list ((ixF row p.1).map nD))), none, none, none, none, none, some (.val (nD i))], by simp [wipeR, bindT], e_ix (ra := (.pf, .list ((telF ts ss (wdD ws so) row).map PyData.int))) (rb := (.pf, nD i)) (s1 := s) (s2 := s) (e_var rfl) (e_var rfl) ?_⟩
    have := at_nat (xs := (telF ts ss (wdD ws so) row).map PyData.int) (i := i) (by rw [List.length_map, tel_len]; exact ix_lt hi)
    simpa [atD, nD] using this
  refine run_cons (a := c_law_3) (st_fr e3) (run_frz rfl (run_cons (a := c_law_4) (st_ifF (s1 := s) (t_of (fl := .pf) (e_2 (s1 := s) (s2 := s) (e_call (xs := [some (hD ts ss), some (wdD ws so), some (.list (ownF row p.1))]) (s1 := s) (x_val (s1 := s) (e_var rfl) (x_val (s1 := s) (e_var rfl) (x_val (s1 := s) (den_frz e4) x_nil))) (ev_tells k h hw (fun d hd => hr d (List.mem_filter.mp hd).1) s) (by simp) rfl) e5 (ne_eq (tel_own row p.1)))) run_nil) run_nil))
theorem l4_9 (k : Nat) (h : HouseOk ts ss) (hw : WorldOk ts ss (wdD ws so)) (hr : ∀ d ∈ row, WeighOk ts ss d) (s : D) : ∃ y21 y22 y23, denS (lvl (k + 3)) c_law_9 [none, some .cell, some (.val (hD ts ss)), some (.val (.list (row.map swW))), x4, none, none, none, some (.val (.list row)), some (.val (.list (wsF ts ss))), some (.val (wdD ws so)), some (.val (.list ((telF ts ss (wdD ws so) row).map PyData.int))), none, none, none, none, none, none, none, none, none, x21, x22, x23, none, none, none, none, none, none] s = some (.nx [none, some .cell, some (.val (hD ts ss)), some (.val (.list (row.map swW))), x4, none, none, none, some (.val (.list row)), some (.val (.list (wsF ts ss))), some (.val (wdD ws so)), some (.val (.list ((telF ts ss (wdD ws so) row).map PyData.int))), none, none, none, none, none, none, none, none, none, y21, y22, y23, none, none, none, none, none, none], s) := by
  obtain ⟨ρ', s', g1, g2⟩ := st_for (T := lvl (k + 3)) (t := .tup (.cons (.one 21) (.cons (.one 22) .nil))) (it := .items (.ix (.var 2) (.cst (.int 1)))) (bs := b_law_3) (ρ := [none, some .cell, some (.val (hD ts ss)), some (.val (.list (row.map swW))), x4, none, none, none, some (.val (.list row)), some (.val (.list (wsF ts ss))), some (.val (wdD ws so)), some (.val (.list ((telF ts ss (wdD ws so) row).map PyData.int))), none, none, none, none, none, none, none, none, none, x21, x22, x23, none, none, none, none, none, none]) (s := s) (s1 := s) (ds := ss.map thD) (i_tup (by simp [fnD, rho0, denSs, denS, den, dens, denB, denO, denF, denI, denX, dBo, dAnd, dOr, dB, dT, dNot, dIf, dNeg, dIsi, isDict, instB, tyD, sSeq, sRet, sRetv, sNil, sSet, sIf, sDrop, sApp, sPutL, sPutC, sPutD, sPar, sBind, sFrz, Co.putAll, Co.ent, d2, binD, cmpD, Bi.den, dCall, dCons, dNil, dVar, dC, dGlob, dChain, dTup, dLst, pfs?, dFrz, dCallF, xVal, xCel, xNil, dIxC, dIxS, dLenS, dDnew, dDisp1, leD, gtD, geD, ltD, addD, subD, mulD, mulE, modD, fdivD, fdivE, powD, absD, Co.intD, lenD, tupleD, listD, bindT, bindTs, Tgs.len, wipeR, idxE, idxD, atI_0, atI_1, atI_2, ixN_21, dSl, dPart, sliceD, hD]))
    (fun i ρ s' => s' = s ∧ ∃ x21 x22 x23, ρ = [none, some .cell, some (.val (hD ts ss)), some (.val (.list (row.map swW))), x4, none, none, none, some (.val (.list row)), some (.val (.list (wsF ts ss))), some (.val (wdD ws so)), some (.val (.list ((telF ts ss (wdD ws so) row).map PyData.int))), none, none, none, none, none, none, none, none, none, x21, x22, x23, none, none, none, none, none, none]) ⟨rfl, x21, x22, x23, rfl⟩ (fun i d ρ s' hd hI => by
      obtain ⟨rfl, x21, x22, x23, rfl⟩ := hI
      obtain ⟨p, _, rfl⟩ := List.mem_map.mp (List.mem_of_getElem? hd)
      exact ⟨[none, some .cell, some (.val (hD ts ss)), some (.val (.list (row.map swW))), x4, none, none, none, some (.val (.list row)), some (.val (.list (wsF ts ss))), some (.val (wdD ws so)), some (.val (.list ((telF ts ss (wdD ws so) row).map PyData.int))), none, none, none, none, none, none, none, none, none, some (.val (.str p.1)), some (.val (.tuple p.2)), x23, none, none, none, none, none, none], _, s', by simp [bindT, bindTs, Tgs.len, thD], l4_own k h hw hr s', rfl, _, _, _, rfl⟩)
  obtain ⟨rfl, y21, y22, y23, rfl⟩ := g2
  exact ⟨y21, y22, y23, g1⟩
theorem l4_10 (k : Nat) (h : HouseOk ts ss) (hw : WorldOk ts ss (wdD ws so)) (hr : ∀ d ∈ row, WeighOk ts ss d) (s : D) : denS (lvl (k + 3)) c_law_10 [none, some .cell, some (.val (hD ts ss)), some (.val (.list (row.map swW))), x4, none, none, none, some (.val (.list row)), some (.val (.list (wsF ts ss))), some (.val (wdD ws so)), some (.val (.list ((telF ts ss (wdD ws so) row).map PyData.int))), none, none, none, none, none, none, none, none, none, x21, x22, x23, none, none, none, none, none, none] s = some (.nx [none, some .cell, some (.val (hD ts ss)), some (.val (.list (row.map swW))), x4, none, none, none, some (.val (.list row)), some (.val (.list (wsF ts ss))), some (.val (wdD ws so)), some (.val (.list ((telF ts ss (wdD ws so) row).map PyData.int))), none, none, none, none, none, none, none, none, none, x21, x22, x23, none, none, none, none, none, none], s) := by
  have c5 : ∀ xs : List D, cut xs none (some 5) = xs.take 5 := fun xs => cut_to (by decide)
  have a : den (lvl (k + 3)) (.frz (.sl (.var 8) .no (.so (.cst (.int 5))))) [none, some .cell, some (.val (hD ts ss)), some (.val (.list (row.map swW))), x4, none, none, none, some (.val (.list row)), some (.val (.list (wsF ts ss))), some (.val (wdD ws so)), some (.val (.list ((telF ts ss (wdD ws so) row).map PyData.int))), none, none, none, none, none, none, none, none, none, x21, x22, x23, none, none, none, none, none, none] s = some ((.pf, .list (row.take 5)), s) := by simp [fnD, rho0, denSs, denS, den, dens, denB, denO, denF, denI, denX, dBo, dAnd, dOr, dB, dT, dNot, dIf, dNeg, dIsi, isDict, instB, tyD, sSeq, sRet, sRetv, sNil, sSet, sIf, sDrop, sApp, sPutL, sPutC, sPutD, sPar, sBind, sFrz, Co.putAll, Co.ent, d2, binD, cmpD, Bi.den, dCall, dCons, dNil, dVar, dC, dGlob, dChain, dTup, dLst, pfs?, dFrz, dCallF, xVal, xCel, xNil, dIxC, dIxS, dLenS, dDnew, dDisp1, leD, gtD, geD, ltD, addD, subD, mulD, mulE, modD, fdivD, fdivE, powD, absD, Co.intD, lenD, tupleD, listD, bindT, bindTs, Tgs.len, wipeR, idxE, idxD, atI_0, atI_1, atI_2, ixN_21, dSl, dPart, sliceD, c5]
  have b : den (lvl (k + 3)) (.sl (.var 11) .no (.so (.cst (.int 5)))) [none, some .cell, some (.val (hD ts ss)), some (.val (.list (row.map swW))), x4, none, none, none, some (.val (.list row)), some (.val (.list (wsF ts ss))), some (.val (wdD ws so)), some (.val (.list ((telF ts ss (wdD ws so) row).map PyData.int))), none, none, none, none, none, none, none, none, none, x21, x22, x23, none, none, none, none, none, none] s = some ((.fr, .list (((telF ts ss (wdD ws so) row).take 5).map PyData.int)), s) := by simp [fnD, rho0, denSs, denS, den, dens, denB, denO, denF, denI, denX, dBo, dAnd, dOr, dB, dT, dNot, dIf, dNeg, dIsi, isDict, instB, tyD, sSeq, sRet, sRetv, sNil, sSet, sIf, sDrop, sApp, sPutL, sPutC, sPutD, sPar, sBind, sFrz, Co.putAll, Co.ent, d2, binD, cmpD, Bi.den, dCall, dCons, dNil, dVar, dC, dGlob, dChain, dTup, dLst, pfs?, dFrz, dCallF, xVal, xCel, xNil, dIxC, dIxS, dLenS, dDnew, dDisp1, leD, gtD, geD, ltD, addD, subD, mulD, mulE, modD, fdivD, fdivE, powD, absD, Co.intD, lenD, tupleD, listD, bindT, bindTs, Tgs.len, wipeR, idxE, idxD, atI_0, atI_1, atI_2, ixN_21, dSl, dPart, sliceD, c5, List.map_take]
  exact st_ifF (s1 := s) (t_of (fl := .pf) (e_2 (s1 := s) (s2 := s) (e_call (xs := [some (hD ts ss), some (wdD ws so), some (.list (row.take 5))]) (s1 := s) (x_val (s1 := s) (e_var rfl) (x_val (s1 := s) (e_var rfl) (x_val (s1 := s) a x_nil))) (ev_tells k h hw (fun d hd => hr d (List.mem_of_mem_take hd)) s) (by simp) rfl) b (ne_eq (tel_take row 5)))) run_nil
end
section
variable {ts ss : List (Str × List D)} {row : List D} {x4 x10 x11 x21 x22 x23 : Option Ent}
theorem l4_body (k : Nat) (h : HouseOk ts ss) (hr : ∀ d ∈ row, WeighOk ts ss d) (s : D) (hb : Bag s) : ∃ y10 y11 y21 y22 y23 s', denSs (lvl (k + 3)) b_law_5 [none, some .cell, some (.val (hD ts ss)), some (.val (.list (row.map swW))), x4, none, none, none, some (.val (.list row)), some (.val (.list (wsF ts ss))), x10, x11, none, none, none, none, none, none, none, none, none, x21, x22, x23, none, none, none, none, none, none] s = some (.nx [none, some .cell, some (.val (hD ts ss)), some (.val (.list (row.map swW))), x4, none, none, none, some (.val (.list row)), some (.val (.list (wsF ts ss))), y10, y11, none, none, none, none, none, none, none, none, none, y21, y22, y23, none, none, none, none, none, none], s') ∧ Bag s' := by
  have wp := wsF_pos h
  obtain ⟨q, s1, e1, q0, q1, b1⟩ := ev_take (k + 2) ((wsF ts ss).length : Int) s hb (by omega)
  have hq : q.toNat < (wsF ts ss).length := by omega
  have hw := wsF_ok h _ (List.getElem_mem hq)
  obtain ⟨ws, so, ew, w1, w2, w3, w4⟩ := hw
  have a3 : atI (wsF ts ss) q = some (wdD ws so) := atI_nat q0 (by rw [List.getElem?_eq_getElem hq, ew])
  have hw : WorldOk ts ss (wdD ws so) := ⟨ws, so, rfl, w1, w2, w3, w4⟩
  obtain ⟨y21, y22, y23, c9⟩ := l4_9 (x4 := x4) (x21 := x21) (x22 := x22) (x23 := x23) k h hw hr s1
  refine ⟨some (.val (wdD ws so)), some (.val (.list ((telF ts ss (wdD ws so) row).map PyData.int))), y21, y22, y23, s1, ?_, b1⟩
  refine run_cons (a := c_law_6) (ρ1 := [none, some .cell, some (.val (hD ts ss)), some (.val (.list (row.map swW))), x4, none, none, none, some (.val (.list row)), some (.val (.list (wsF ts ss))), some (.val (wdD ws so)), x11, none, none, none, none, none, none, none, none, none, x21, x22, x23, none, none, none, none, none, none]) (s1 := s1) (st_pf (e_ix (ra := (.pf, .list (wsF ts ss))) (rb := (.pf, .int q)) (s1 := s) (e_var rfl) (e_call (xs := [none, some (.int ((wsF ts ss).length : Int))]) (s1 := s) (by simp [fnD, rho0, denSs, denS, den, dens, denB, denO, denF, denI, denX, dBo, dAnd, dOr, dB, dT, dNot, dIf, dNeg, dIsi, isDict, instB, tyD, sSeq, sRet, sRetv, sNil, sSet, sIf, sDrop, sApp, sPutL, sPutC, sPutD, sPar, sBind, sFrz, Co.putAll, Co.ent, d2, binD, cmpD, Bi.den, dCall, dCons, dNil, dVar, dC, dGlob, dChain, dTup, dLst, pfs?, dFrz, dCallF, xVal, xCel, xNil, dIxC, dIxS, dLenS, dDnew, dDisp1, leD, gtD, geD, ltD, addD, subD, mulD, mulE, modD, fdivD, fdivE, powD, absD, Co.intD, lenD, tupleD, listD, bindT, bindTs, Tgs.len, wipeR, idxE, idxD, atI_0, atI_1, atI_2, ixN_21, dSl, dPart, sliceD]) e1 (by simp) rfl) (by simp [fnD, rho0, denSs, denS, den, dens, denB, denO, denF, denI, denX, dBo, dAnd, dOr, dB, dT, dNot, dIf, dNeg, dIsi, isDict, instB, tyD, sSeq, sRet, sRetv, sNil, sSet, sIf, sDrop, sApp, sPutL, sPutC, sPutD, sPar, sBind, sFrz, Co.putAll, Co.ent, d2, binD, cmpD, Bi.den, dCall, dCons, dNil, dVar, dC, dGlob, dChain, dTup, dLst, pfs?, dFrz, dCallF, xVal, xCel, xNil, dIxC, dIxS, dLenS, dDnew, dDisp1, leD, gtD, geD, ltD, addD, subD, mulD, mulE, modD, fdivD, fdivE, powD, absD, Co.intD, lenD, tupleD, listD, bindT, bindTs, Tgs.len, wipeR, idxE, idxD, atI_0, atI_1, atI_2, ixN_21, dSl, dPart, sliceD, a3]))) ?_
  refine run_cons (a := c_law_7) (ρ1 := [none, some .cell, some (.val (hD ts ss)), some (.val (.list (row.map swW))), x4, none, none, none, some (.val (.list row)), some (.val (.list (wsF ts ss))), some (.val (wdD ws so)), some (.val (.list ((telF ts ss (wdD ws so) row).map PyData.int))), none, none, none, none, none, none, none, none, none, x21, x22, x23, none, none, none, none, none, none]) (s1 := s1) (st_pf (den_frz (e_call (xs := [some (hD ts ss), some (wdD ws so), some (.list row)]) (s1 := s1) (x_val (s1 := s1) (e_var rfl) (x_val (s1 := s1) (e_var rfl) (x_val (s1 := s1) (e_var rfl) x_nil))) (ev_tells k h hw hr s1) (by simp) rfl))) ?_
  exact run_cons (a := c_law_8) (l4_8 k h hw w4 hr s1) (run_cons (a := c_law_9) c9 (run_cons (a := c_law_10) (l4_10 k h hw hr s1) run_nil))
theorem l4_21 (k : Nat) (h : HouseOk ts ss) (hr : ∀ d ∈ row, WeighOk ts ss d) (s : D) (hb : Bag s) : ∃ y4 y10 y11 y21 y22 y23 s', denS (lvl (k + 3)) c_law_21 [none, some .cell, some (.val (hD ts ss)), some (.val (.list (row.map swW))), none, none, none, none, some (.val (.list row)), some (.val (.list (wsF ts ss))), none, none, none, none, none, none, none, none, none, none, none, none, none, none, none, none, none, none, none, none] s = some (.nx [none, some .cell, some (.val (hD ts ss)), some (.val (.list (row.map swW))), y4, none, none, none, some (.val (.list row)), some (.val (.list (wsF ts ss))), y10, y11, none, none, none, none, none, none, none, none, none, y21, y22, y23, none, none, none, none, none, none], s') ∧ Bag s' := by
  obtain ⟨ρ', s', g1, g2⟩ := st_for (T := lvl (k + 3)) (t := .one 4) (it := .range (.cons (.cst (.int 6)) .nil)) (bs := b_law_5) (ρ := [none, some .cell, some (.val (hD ts ss)), some (.val (.list (row.map swW))), none, none, none, none, some (.val (.list row)), some (.val (.list (wsF ts ss))), none, none, none, none, none, none, none, none, none, none, none, none, none, none, none, none, none, none, none, none]) (s := s) (s1 := s) (ds := (List.range (6 : Int).toNat).map fun i => .int (i : Nat)) (by
      rw [denI]
      exact rangeE (fl := .pf) (by decide) (by decide) (by simp [fnD, rho0, denSs, denS, den, dens, denB, denO, denF, denI, denX, dBo, dAnd, dOr, dB, dT, dNot, dIf, dNeg, dIsi, isDict, instB, tyD, sSeq, sRet, sRetv, sNil, sSet, sIf, sDrop, sApp, sPutL, sPutC, sPutD, sPar, sBind, sFrz, Co.putAll, Co.ent, d2, binD, cmpD, Bi.den, dCall, dCons, dNil, dVar, dC, dGlob, dChain, dTup, dLst, pfs?, dFrz, dCallF, xVal, xCel, xNil, dIxC, dIxS, dLenS, dDnew, dDisp1, leD, gtD, geD, ltD, addD, subD, mulD, mulE, modD, fdivD, fdivE, powD, absD, Co.intD, lenD, tupleD, listD, bindT, bindTs, Tgs.len, wipeR, idxE, idxD, atI_0, atI_1, atI_2, ixN_21, dSl, dPart, sliceD]))
    (fun i ρ s' => Bag s' ∧ ∃ x4 x10 x11 x21 x22 x23, ρ = [none, some .cell, some (.val (hD ts ss)), some (.val (.list (row.map swW))), x4, none, none, none, some (.val (.list row)), some (.val (.list (wsF ts ss))), x10, x11, none, none, none, none, none, none, none, none, none, x21, x22, x23, none, none, none, none, none, none]) ⟨hb, none, none, none, none, none, none, rfl⟩ (fun i d ρ s' hd hI => by
      obtain ⟨hb, x4, x10, x11, x21, x22, x23, rfl⟩ := hI
      obtain ⟨y10, y11, y21, y22, y23, s2, e, b2⟩ := l4_body (x4 := some (.val d)) (x10 := x10) (x11 := x11) (x21 := x21) (x22 := x22) (x23 := x23) k h hr s' hb
      exact ⟨_, _, s2, by simp [bindT], e, b2, _, _, _, _, _, _, rfl⟩)
  obtain ⟨b2, y4, y10, y11, y21, y22, y23, rfl⟩ := g2
  exact ⟨y4, y10, y11, y21, y22, y23, s', g1, b2⟩
end
end G4
end

section
set_option Elab.async false
set_option linter.all false
set_option maxRecDepth 100000
set_option maxHeartbeats 4000000
set_option autoImplicit false
namespace G4
open PySem L2 Co
theorem e_tup1 {T : Tb} {a : CE} {ρ : Rho} {s s1 x : D} (h1 : den T a ρ s = some ((.pf, x), s1)) : den T (.tup (.cons a .nil)) ρ s = some ((.pf, .tuple [x]), s1) := by
  have z1 : 1 ≤ sizeLine := by decide
  rw [den, dens, dens]
  unfold dTup dCons dNil
  simp [h1, pfs?, z1]
theorem flat_rep (d : D) : ∀ n : Nat, (List.replicate n [d]).flatten = List.replicate n d
  | 0 => rfl
  | n + 1 => by rw [List.replicate_succ, List.flatten_cons, flat_rep d n]; rfl
theorem e_rep {T : Tb} {a : CE} {ρ : Rho} {s d : D} {i n : Nat} (h1 : den T a ρ s = some ((.pf, d), s)) (hi : ρ[i]? = some (some (.val (.int (n : Nat))))) (n0 : 0 < n) (n1 : n ≤ 3) : den T (.bin .Mult (.tup (.cons a .nil)) (.var i)) ρ s = some ((.pf, .tuple (List.replicate n d)), s) := by
  refine e_bin (ra := (.pf, .tuple [d])) (rb := (.pf, .int (n : Nat))) (s1 := s) (s2 := s) (e_tup1 h1) (e_var hi) ?_
  show mulE (.tuple [d]) (.int (n : Nat)) = _
  unfold mulE
  dsimp only
  rw [if_pos ⟨by simp, by omega, by omega, by simp⟩, Int.toNat_natCast, flat_rep]
def hdD : D → D
  | .tuple [_, .tuple (w :: _)] => w
  | d => d
section
variable {tp sp : List (Str × List D)} {ws row : List D} {x3 x4 x9 x10 x11 x19 x20 x21 x22 x23 : Option Ent}
theorem e_wrl {T : Tb} (h : HouseOk tp sp) {a : CE} {ρ : Rho} {s d : D} (h1 : den T a ρ s = some ((.pf, d), s)) (h5 : ρ[5]? = some (some (.val (.tuple ws)))) (hi : ρ[12]? = some (some (.val (.int (sp.length : Nat))))) : den T (.tup (.cons (.var 5) (.cons (.bin .Mult (.tup (.cons a .nil)) (.var 12)) .nil))) ρ s = some ((.pf, repD sp ws d), s) := e_tup2 (s1 := s) (e_var h5) (e_rep h1 hi h.sl.1 h.sl.2)
theorem l4_zs (k : Nat) (h : HouseOk tp sp) (hr : ∀ d ∈ row, WeighOk tp sp d) (hl : row.length ≤ 12) (s : D) (i : Nat) (d : D) {kv1 kv2 : List (D × D)} (k1 : LookOk kv1 (cntF (row.take i))) (k2 : LookOk kv2 (lastF tp ws (row.take i))) (z1 : kv1.length ≤ i) (z2 : kv2.length ≤ i) (hd : (zipL row ((telF tp sp (repD sp ws sTrue) row).map PyData.int))[i]? = some d) :
    ∃ ρ1 kw1 kw2 y11 y19 y20, bindT (.tup (.cons (.one 19) (.cons (.one 11) .nil))) d [none, some .cell, some (.val (hD tp sp)), x3, x4, some (.val (.tuple ws)), some (.val (.list ((telF tp sp (repD sp ws sTrue) row).map PyData.int))), some (.val (repD sp ws sT1)), some (.val (.list row)), x9, x10, x11, some (.val (.int (sp.length : Nat))), some (.val (repD sp ws sLies)), some (.val (repD sp ws sT0)), some (.own (.dict kv1)), some (.own (.list (((telF tp sp (repD sp ws sT0) row).take i).map PyData.int))), some (.own (.dict kv2)), some (.own (.list (((telF tp sp (repD sp ws sEcho) row).take i).map PyData.int))), x19, x20, x21, x22, x23, none, none, none, none, none, none] = some ρ1 ∧ denSs (lvl k) b_law_7 ρ1 s = some (.nx [none, some .cell, some (.val (hD tp sp)), x3, x4, some (.val (.tuple ws)), some (.val (.list ((telF tp sp (repD sp ws sTrue) row).map PyData.int))), some (.val (repD sp ws sT1)), some (.val (.list row)), x9, x10, y11, some (.val (.int (sp.length : Nat))), some (.val (repD sp ws sLies)), some (.val (repD sp ws sT0)), some (.own (.dict kw1)), some (.own (.list (((telF tp sp (repD sp ws sT0) row).take (i + 1)).map PyData.int))), some (.own (.dict kw2)), some (.own (.list (((telF tp sp (repD sp ws sEcho) row).take (i + 1)).map PyData.int))), y19, y20, x21, x22, x23, none, none, none, none, none, none], s) ∧ LookOk kw1 (cntF (row.take (i + 1))) ∧ LookOk kw2 (lastF tp ws (row.take (i + 1))) ∧ kw1.length ≤ i + 1 ∧ kw2.length ≤ i + 1 := by
  unfold zipL at hd
  rw [List.getElem?_zipWith, List.getElem?_map] at hd
  cases hw : row[i]? with
  | none => rw [hw] at hd; cases hd
  | some w =>
    have hi := (List.getElem?_eq_some_iff.mp hw).1
    have g1 := rep_get (ws := ws) (d := sTrue) h hr hw
    have g2 := rep_get (ws := ws) (d := sT0) h hr hw
    have g3 := rep_get (ws := ws) (d := sEcho) h hr hw
    rw [srt_true] at g1
    rw [srt_t0] at g2
    rw [srt_echo] at g3
    rw [hw, g1] at hd
    cases hd
    obtain ⟨sc, l, r, rfl, _⟩ := hr w (List.mem_of_getElem? hw)
    rw [dec_wg] at g1 g2 g3
    dsimp only at g1 g2 g3
    have tk : row.take (i + 1) = row.take i ++ [wgD sc l r] := by rw [List.take_add_one, hw]; rfl
    have c1 := LookOk.put k1 sc (cntF (row.take i) sc + 1)
    have c2 := LookOk.put k2 sc (sgn (moreF tp ws l r))
    have e1 := cnt_snoc (row.take i) (wgD sc l r)
    have e2 := last_snoc tp ws (row.take i) (wgD sc l r)
    rw [dec_wg] at e1 e2
    dsimp only at e1 e2
    rw [e1, ← tk] at c1
    rw [e2, ← tk] at c2
    have tlen : ∀ d, (telF tp sp (repD sp ws d) row).length ≤ 12 := fun d => by rw [tel_len]; exact hl
    have t0 : (((telF tp sp (repD sp ws sT0) row).take (i + 1)).map PyData.int) = ((telF tp sp (repD sp ws sT0) row).take i).map PyData.int ++ [.int (if (cntF (row.take i) sc) % 2 = 0 then sgn (moreF tp ws l r) else 0 - sgn (moreF tp ws l r))] := by
      rw [List.take_add_one, g2, List.map_append]
      rfl
    have te : (((telF tp sp (repD sp ws sEcho) row).take (i + 1)).map PyData.int) = ((telF tp sp (repD sp ws sEcho) row).take i).map PyData.int ++ [.int (lastF tp ws (row.take i) sc)] := by
      rw [List.take_add_one, g3, List.map_append]
      rfl
    have n0 : (((telF tp sp (repD sp ws sT0) row).take i).map PyData.int).length < sizeLine := by
      rw [List.length_map, List.length_take, sizeLine_eq]
      have := tlen sT0
      omega
    have ne : (((telF tp sp (repD sp ws sEcho) row).take i).map PyData.int).length < sizeLine := by
      rw [List.length_map, List.length_take, sizeLine_eq]
      have := tlen sEcho
      omega
    have l1 := putD_len1 (kvs := kv1) (k := .str sc) (v := .int (cntF (row.take i) sc + 1))
    have l2 := putD_len1 (kvs := kv2) (k := .str sc) (v := .int (sgn (moreF tp ws l r)))
    refine ⟨[none, some .cell, some (.val (hD tp sp)), x3, x4, some (.val (.tuple ws)), some (.val (.list ((telF tp sp (repD sp ws sTrue) row).map PyData.int))), some (.val (repD sp ws sT1)), some (.val (.list row)), x9, x10, some (.val (.int (sgn (moreF tp ws l r)))), some (.val (.int (sp.length : Nat))), some (.val (repD sp ws sLies)), some (.val (repD sp ws sT0)), some (.own (.dict kv1)), some (.own (.list (((telF tp sp (repD sp ws sT0) row).take i).map PyData.int))), some (.own (.dict kv2)), some (.own (.list (((telF tp sp (repD sp ws sEcho) row).take i).map PyData.int))), some (.val (wgD sc l r)), x20, x21, x22, x23, none, none, none, none, none, none], (putD kv1 (.str sc) (.int (cntF (row.take i) sc + 1))), (putD kv2 (.str sc) (.int (sgn (moreF tp ws l r)))), some (.val (.int (sgn (moreF tp ws l r)))), some (.val (wgD sc l r)), some (.val (.int (cntF (row.take i) sc))), by simp [bindT, bindTs, Tgs.len, dec_wg], ?_, c1, c2, by omega, by omega⟩
    have sc0 : ∀ ρ : Rho, ρ[19]? = some (some (.val (wgD sc l r))) → den (lvl k) (.ix (.var 19) (.cst (.int 0))) ρ s = some ((.pf, .str sc), s) := fun ρ hρ => e_ix (ra := (.pf, wgD sc l r)) (rb := (.pf, .int 0)) (s1 := s) (s2 := s) (e_var hρ) (by simp [fnD, rho0, denSs, denS, den, dens, denB, denO, denF, denI, denX, dBo, dAnd, dOr, dB, dT, dNot, dIf, dNeg, dIsi, isDict, instB, tyD, sSeq, sRet, sRetv, sNil, sSet, sIf, sDrop, sApp, sPutL, sPutC, sPutD, sPar, sBind, sFrz, Co.putAll, Co.ent, d2, binD, cmpD, Bi.den, dCall, dCons, dNil, dVar, dC, dGlob, dChain, dTup, dLst, pfs?, dFrz, dCallF, xVal, xCel, xNil, dIxC, dIxS, dLenS, dDnew, dDisp1, leD, gtD, geD, ltD, addD, subD, mulD, mulE, modD, fdivD, fdivE, powD, absD, Co.intD, lenD, tupleD, listD, bindT, bindTs, Tgs.len, wipeR, idxE, idxD, atI_0, atI_1, atI_2, ixN_21, dSl, dPart, sliceD]) (by simp [fnD, rho0, denSs, denS, den, dens, denB, denO, denF, denI, denX, dBo, dAnd, dOr, dB, dT, dNot, dIf, dNeg, dIsi, isDict, instB, tyD, sSeq, sRet, sRetv, sNil, sSet, sIf, sDrop, sApp, sPutL, sPutC, sPutD, sPar, sBind, sFrz, Co.putAll, Co.ent, d2, binD, cmpD, Bi.den, dCall, dCons, dNil, dVar, dC, dGlob, dChain, dTup, dLst, pfs?, dFrz, dCallF, xVal, xCel, xNil, dIxC, dIxS, dLenS, dDnew, dDisp1, leD, gtD, geD, ltD, addD, subD, mulD, mulE, modD, fdivD, fdivE, powD, absD, Co.intD, lenD, tupleD, listD, bindT, bindTs, Tgs.len, wipeR, idxE, idxD, atI_0, atI_1, atI_2, ixN_21, dSl, dPart, sliceD, wgD])
    have s12 : denS (lvl k) c_law_12 [none, some .cell, some (.val (hD tp sp)), x3, x4, some (.val (.tuple ws)), some (.val (.list ((telF tp sp (repD sp ws sTrue) row).map PyData.int))), some (.val (repD sp ws sT1)), some (.val (.list row)), x9, x10, some (.val (.int (sgn (moreF tp ws l r)))), some (.val (.int (sp.length : Nat))), some (.val (repD sp ws sLies)), some (.val (repD sp ws sT0)), some (.own (.dict kv1)), some (.own (.list (((telF tp sp (repD sp ws sT0) row).take i).map PyData.int))), some (.own (.dict kv2)), some (.own (.list (((telF tp sp (repD sp ws sEcho) row).take i).map PyData.int))), some (.val (wgD sc l r)), x20, x21, x22, x23, none, none, none, none, none, none] s = some (.nx [none, some .cell, some (.val (hD tp sp)), x3, x4, some (.val (.tuple ws)), some (.val (.list ((telF tp sp (repD sp ws sTrue) row).map PyData.int))), some (.val (repD sp ws sT1)), some (.val (.list row)), x9, x10, some (.val (.int (sgn (moreF tp ws l r)))), some (.val (.int (sp.length : Nat))), some (.val (repD sp ws sLies)), some (.val (repD sp ws sT0)), some (.own (.dict kv1)), some (.own (.list (((telF tp sp (repD sp ws sT0) row).take i).map PyData.int))), some (.own (.dict kv2)), some (.own (.list (((telF tp sp (repD sp ws sEcho) row).take i).map PyData.int))), some (.val (wgD sc l r)), some (.val (.int (cntF (row.take i) sc))), x21, x22, x23, none, none, none, none, none, none], s) := st_pf (e_get k1 rfl (sc0 _ rfl) (by simp [fnD, rho0, denSs, denS, den, dens, denB, denO, denF, denI, denX, dBo, dAnd, dOr, dB, dT, dNot, dIf, dNeg, dIsi, isDict, instB, tyD, sSeq, sRet, sRetv, sNil, sSet, sIf, sDrop, sApp, sPutL, sPutC, sPutD, sPar, sBind, sFrz, Co.putAll, Co.ent, d2, binD, cmpD, Bi.den, dCall, dCons, dNil, dVar, dC, dGlob, dChain, dTup, dLst, pfs?, dFrz, dCallF, xVal, xCel, xNil, dIxC, dIxS, dLenS, dDnew, dDisp1, leD, gtD, geD, ltD, addD, subD, mulD, mulE, modD, fdivD, fdivE, powD, absD, Co.intD, lenD, tupleD, listD, bindT, bindTs, Tgs.len, wipeR, idxE, idxD, atI_0, atI_1, atI_2, ixN_21, dSl, dPart, sliceD]))
    have s13 : denS (lvl k) c_law_13 [none, some .cell, some (.val (hD tp sp)), x3, x4, some (.val (.tuple ws)), some (.val (.list ((telF tp sp (repD sp ws sTrue) row).map PyData.int))), some (.val (repD sp ws sT1)), some (.val (.list row)), x9, x10, some (.val (.int (sgn (moreF tp ws l r)))), some (.val (.int (sp.length : Nat))), some (.val (repD sp ws sLies)), some (.val (repD sp ws sT0)), some (.own (.dict kv1)), some (.own (.list (((telF tp sp (repD sp ws sT0) row).take i).map PyData.int))), some (.own (.dict kv2)), some (.own (.list (((telF tp sp (repD sp ws sEcho) row).take i).map PyData.int))), some (.val (wgD sc l r)), some (.val (.int (cntF (row.take i) sc))), x21, x22, x23, none, none, none, none, none, none] s = some (.nx [none, some .cell, some (.val (hD tp sp)), x3, x4, some (.val (.tuple ws)), some (.val (.list ((telF tp sp (repD sp ws sTrue) row).map PyData.int))), some (.val (repD sp ws sT1)), some (.val (.list row)), x9, x10, some (.val (.int (sgn (moreF tp ws l r)))), some (.val (.int (sp.length : Nat))), some (.val (repD sp ws sLies)), some (.val (repD sp ws sT0)), some (.own (.dict kv1)), some (.own (.list (((telF tp sp (repD sp ws sT0) row).take (i + 1)).map PyData.int))), some (.own (.dict kv2)), some (.own (.list (((telF tp sp (repD sp ws sEcho) row).take i).map PyData.int))), some (.val (wgD sc l r)), some (.val (.int (cntF (row.take i) sc))), x21, x22, x23, none, none, none, none, none, none], s) := by
      rw [t0]
      refine st_app rfl ?_ n0
      have tst : dT (den (lvl k) (.cmp .Eq (.bin .Mod (.var 20) (.cst (.int 2))) (.cst (.int 0)))) [none, some .cell, some (.val (hD tp sp)), x3, x4, some (.val (.tuple ws)), some (.val (.list ((telF tp sp (repD sp ws sTrue) row).map PyData.int))), some (.val (repD sp ws sT1)), some (.val (.list row)), x9, x10, some (.val (.int (sgn (moreF tp ws l r)))), some (.val (.int (sp.length : Nat))), some (.val (repD sp ws sLies)), some (.val (repD sp ws sT0)), some (.own (.dict kv1)), some (.own (.list (((telF tp sp (repD sp ws sT0) row).take i).map PyData.int))), some (.own (.dict kv2)), some (.own (.list (((telF tp sp (repD sp ws sEcho) row).take i).map PyData.int))), some (.val (wgD sc l r)), some (.val (.int (cntF (row.take i) sc))), x21, x22, x23, none, none, none, none, none, none] s = some (decide (cntF (row.take i) sc % 2 = 0), s) := t_of (fl := .pf) (e_2 (ra := (.pf, .int (cntF (row.take i) sc % 2))) (rb := (.pf, .int 0)) (s1 := s) (s2 := s) (e_bin (ra := (.pf, .int (cntF (row.take i) sc))) (rb := (.pf, .int 2)) (s1 := s) (s2 := s) (e_var rfl) (by simp [fnD, rho0, denSs, denS, den, dens, denB, denO, denF, denI, denX, dBo, dAnd, dOr, dB, dT, dNot, dIf, dNeg, dIsi, isDict, instB, tyD, sSeq, sRet, sRetv, sNil, sSet, sIf, sDrop, sApp, sPutL, sPutC, sPutD, sPar, sBind, sFrz, Co.putAll, Co.ent, d2, binD, cmpD, Bi.den, dCall, dCons, dNil, dVar, dC, dGlob, dChain, dTup, dLst, pfs?, dFrz, dCallF, xVal, xCel, xNil, dIxC, dIxS, dLenS, dDnew, dDisp1, leD, gtD, geD, ltD, addD, subD, mulD, mulE, modD, fdivD, fdivE, powD, absD, Co.intD, lenD, tupleD, listD, bindT, bindTs, Tgs.len, wipeR, idxE, idxD, atI_0, atI_1, atI_2, ixN_21, dSl, dPart, sliceD]) rfl) (by simp [fnD, rho0, denSs, denS, den, dens, denB, denO, denF, denI, denX, dBo, dAnd, dOr, dB, dT, dNot, dIf, dNeg, dIsi, isDict, instB, tyD, sSeq, sRet, sRetv, sNil, sSet, sIf, sDrop, sApp, sPutL, sPutC, sPutD, sPar, sBind, sFrz, Co.putAll, Co.ent, d2, binD, cmpD, Bi.den, dCall, dCons, dNil, dVar, dC, dGlob, dChain, dTup, dLst, pfs?, dFrz, dCallF, xVal, xCel, xNil, dIxC, dIxS, dLenS, dDnew, dDisp1, leD, gtD, geD, ltD, addD, subD, mulD, mulE, modD, fdivD, fdivE, powD, absD, Co.intD, lenD, tupleD, listD, bindT, bindTs, Tgs.len, wipeR, idxE, idxD, atI_0, atI_1, atI_2, ixN_21, dSl, dPart, sliceD]) (eq_int _ _))
      by_cases c : cntF (row.take i) sc % 2 = 0
      · rw [if_pos c]
        rw [decide_eq_true c] at tst
        exact e_ifT tst (e_var rfl)
      · rw [if_neg c]
        rw [decide_eq_false c] at tst
        exact e_ifF tst (e_bin (ra := (.pf, .int 0)) (rb := (.pf, .int (sgn (moreF tp ws l r)))) (s1 := s) (s2 := s) (by simp [fnD, rho0, denSs, denS, den, dens, denB, denO, denF, denI, denX, dBo, dAnd, dOr, dB, dT, dNot, dIf, dNeg, dIsi, isDict, instB, tyD, sSeq, sRet, sRetv, sNil, sSet, sIf, sDrop, sApp, sPutL, sPutC, sPutD, sPar, sBind, sFrz, Co.putAll, Co.ent, d2, binD, cmpD, Bi.den, dCall, dCons, dNil, dVar, dC, dGlob, dChain, dTup, dLst, pfs?, dFrz, dCallF, xVal, xCel, xNil, dIxC, dIxS, dLenS, dDnew, dDisp1, leD, gtD, geD, ltD, addD, subD, mulD, mulE, modD, fdivD, fdivE, powD, absD, Co.intD, lenD, tupleD, listD, bindT, bindTs, Tgs.len, wipeR, idxE, idxD, atI_0, atI_1, atI_2, ixN_21, dSl, dPart, sliceD]) (e_var rfl) rfl)
    have s14 : denS (lvl k) c_law_14 [none, some .cell, some (.val (hD tp sp)), x3, x4, some (.val (.tuple ws)), some (.val (.list ((telF tp sp (repD sp ws sTrue) row).map PyData.int))), some (.val (repD sp ws sT1)), some (.val (.list row)), x9, x10, some (.val (.int (sgn (moreF tp ws l r)))), some (.val (.int (sp.length : Nat))), some (.val (repD sp ws sLies)), some (.val (repD sp ws sT0)), some (.own (.dict kv1)), some (.own (.list (((telF tp sp (repD sp ws sT0) row).take (i + 1)).map PyData.int))), some (.own (.dict kv2)), some (.own (.list (((telF tp sp (repD sp ws sEcho) row).take i).map PyData.int))), some (.val (wgD sc l r)), some (.val (.int (cntF (row.take i) sc))), x21, x22, x23, none, none, none, none, none, none] s = some (.nx [none, some .cell, some (.val (hD tp sp)), x3, x4, some (.val (.tuple ws)), some (.val (.list ((telF tp sp (repD sp ws sTrue) row).map PyData.int))), some (.val (repD sp ws sT1)), some (.val (.list row)), x9, x10, some (.val (.int (sgn (moreF tp ws l r)))), some (.val (.int (sp.length : Nat))), some (.val (repD sp ws sLies)), some (.val (repD sp ws sT0)), some (.own (.dict kv1)), some (.own (.list (((telF tp sp (repD sp ws sT0) row).take (i + 1)).map PyData.int))), some (.own (.dict kv2)), some (.own (.list (((telF tp sp (repD sp ws sEcho) row).take (i + 1)).map PyData.int))), some (.val (wgD sc l r)), some (.val (.int (cntF (row.take i) sc))), x21, x22, x23, none, none, none, none, none, none], s) := by
      rw [te]
      exact st_app rfl (e_get k2 rfl (sc0 _ rfl) (by simp [fnD, rho0, denSs, denS, den, dens, denB, denO, denF, denI, denX, dBo, dAnd, dOr, dB, dT, dNot, dIf, dNeg, dIsi, isDict, instB, tyD, sSeq, sRet, sRetv, sNil, sSet, sIf, sDrop, sApp, sPutL, sPutC, sPutD, sPar, sBind, sFrz, Co.putAll, Co.ent, d2, binD, cmpD, Bi.den, dCall, dCons, dNil, dVar, dC, dGlob, dChain, dTup, dLst, pfs?, dFrz, dCallF, xVal, xCel, xNil, dIxC, dIxS, dLenS, dDnew, dDisp1, leD, gtD, geD, ltD, addD, subD, mulD, mulE, modD, fdivD, fdivE, powD, absD, Co.intD, lenD, tupleD, listD, bindT, bindTs, Tgs.len, wipeR, idxE, idxD, atI_0, atI_1, atI_2, ixN_21, dSl, dPart, sliceD])) ne
    have s15 : denS (lvl k) c_law_15 [none, some .cell, some (.val (hD tp sp)), x3, x4, some (.val (.tuple ws)), some (.val (.list ((telF tp sp (repD sp ws sTrue) row).map PyData.int))), some (.val (repD sp ws sT1)), some (.val (.list row)), x9, x10, some (.val (.int (sgn (moreF tp ws l r)))), some (.val (.int (sp.length : Nat))), some (.val (repD sp ws sLies)), some (.val (repD sp ws sT0)), some (.own (.dict kv1)), some (.own (.list (((telF tp sp (repD sp ws sT0) row).take (i + 1)).map PyData.int))), some (.own (.dict kv2)), some (.own (.list (((telF tp sp (repD sp ws sEcho) row).take (i + 1)).map PyData.int))), some (.val (wgD sc l r)), some (.val (.int (cntF (row.take i) sc))), x21, x22, x23, none, none, none, none, none, none] s = some (.nx [none, some .cell, some (.val (hD tp sp)), x3, x4, some (.val (.tuple ws)), some (.val (.list ((telF tp sp (repD sp ws sTrue) row).map PyData.int))), some (.val (repD sp ws sT1)), some (.val (.list row)), x9, x10, some (.val (.int (sgn (moreF tp ws l r)))), some (.val (.int (sp.length : Nat))), some (.val (repD sp ws sLies)), some (.val (repD sp ws sT0)), some (.own (.dict (putD kv1 (.str sc) (.int (cntF (row.take i) sc + 1))))), some (.own (.list (((telF tp sp (repD sp ws sT0) row).take (i + 1)).map PyData.int))), some (.own (.dict (putD kv2 (.str sc) (.int (sgn (moreF tp ws l r)))))), some (.own (.list (((telF tp sp (repD sp ws sEcho) row).take (i + 1)).map PyData.int))), some (.val (wgD sc l r)), some (.val (.int (cntF (row.take i) sc))), x21, x22, x23, none, none, none, none, none, none], s) :=
      st_put2 (e_bin (ra := (.pf, .int (cntF (row.take i) sc))) (rb := (.pf, .int 1)) (s1 := s) (s2 := s) (e_var rfl) (by simp [fnD, rho0, denSs, denS, den, dens, denB, denO, denF, denI, denX, dBo, dAnd, dOr, dB, dT, dNot, dIf, dNeg, dIsi, isDict, instB, tyD, sSeq, sRet, sRetv, sNil, sSet, sIf, sDrop, sApp, sPutL, sPutC, sPutD, sPar, sBind, sFrz, Co.putAll, Co.ent, d2, binD, cmpD, Bi.den, dCall, dCons, dNil, dVar, dC, dGlob, dChain, dTup, dLst, pfs?, dFrz, dCallF, xVal, xCel, xNil, dIxC, dIxS, dLenS, dDnew, dDisp1, leD, gtD, geD, ltD, addD, subD, mulD, mulE, modD, fdivD, fdivE, powD, absD, Co.intD, lenD, tupleD, listD, bindT, bindTs, Tgs.len, wipeR, idxE, idxD, atI_0, atI_1, atI_2, ixN_21, dSl, dPart, sliceD]) rfl) (e_var rfl) rfl (sc0 _ rfl) (kv_key k1.ok sc) (by rw [sizeLine_eq]; omega) rfl (sc0 _ rfl) (kv_key k2.ok sc) (by rw [sizeLine_eq]; omega)
    exact run_cons s12 (run_cons s13 (run_cons s14 (run_cons s15 run_nil)))
theorem l4_29 (k : Nat) (h : HouseOk tp sp) (hr : ∀ d ∈ row, WeighOk tp sp d) (hl : row.length ≤ 12) (s : D) : ∃ kv1 kv2 y11 y19 y20, denS (lvl k) c_law_29 [none, some .cell, some (.val (hD tp sp)), x3, x4, some (.val (.tuple ws)), some (.val (.list ((telF tp sp (repD sp ws sTrue) row).map PyData.int))), some (.val (repD sp ws sT1)), some (.val (.list row)), x9, x10, x11, some (.val (.int (sp.length : Nat))), some (.val (repD sp ws sLies)), some (.val (repD sp ws sT0)), some (.own (.dict [])), some (.own (.list [])), some (.own (.dict [])), some (.own (.list [])), none, none, x21, x22, x23, none, none, none, none, none, none] s = some (.nx [none, some .cell, some (.val (hD tp sp)), x3, x4, some (.val (.tuple ws)), some (.val (.list ((telF tp sp (repD sp ws sTrue) row).map PyData.int))), some (.val (repD sp ws sT1)), some (.val (.list row)), x9, x10, y11, some (.val (.int (sp.length : Nat))), some (.val (repD sp ws sLies)), some (.val (repD sp ws sT0)), some (.own (.dict kv1)), some (.own (.list ((telF tp sp (repD sp ws sT0) row).map PyData.int))), some (.own (.dict kv2)), some (.own (.list ((telF tp sp (repD sp ws sEcho) row).map PyData.int))), y19, y20, x21, x22, x23, none, none, none, none, none, none], s) := by
  have it : denI (lvl k) true (.zip (.cons (.var 8) (.cons (.var 6) .nil))) [none, some .cell, some (.val (hD tp sp)), x3, x4, some (.val (.tuple ws)), some (.val (.list ((telF tp sp (repD sp ws sTrue) row).map PyData.int))), some (.val (repD sp ws sT1)), some (.val (.list row)), x9, x10, x11, some (.val (.int (sp.length : Nat))), some (.val (repD sp ws sLies)), some (.val (repD sp ws sT0)), some (.own (.dict [])), some (.own (.list [])), some (.own (.dict [])), some (.own (.list [])), none, none, x21, x22, x23, none, none, none, none, none, none] s = some (zipL row ((telF tp sp (repD sp ws sTrue) row).map PyData.int), s) := by
    rw [denI, dens, dens, dens]
    unfold dZip dCons dNil
    have a8 := e_var (T := lvl k) (i := 8) (s := s) (ρ := [none, some .cell, some (.val (hD tp sp)), x3, x4, some (.val (.tuple ws)), some (.val (.list ((telF tp sp (repD sp ws sTrue) row).map PyData.int))), some (.val (repD sp ws sT1)), some (.val (.list row)), x9, x10, x11, some (.val (.int (sp.length : Nat))), some (.val (repD sp ws sLies)), some (.val (repD sp ws sT0)), some (.own (.dict [])), some (.own (.list [])), some (.own (.dict [])), some (.own (.list [])), none, none, x21, x22, x23, none, none, none, none, none, none]) (d := .list row) rfl
    have a6 := e_var (T := lvl k) (i := 6) (s := s) (ρ := [none, some .cell, some (.val (hD tp sp)), x3, x4, some (.val (.tuple ws)), some (.val (.list ((telF tp sp (repD sp ws sTrue) row).map PyData.int))), some (.val (repD sp ws sT1)), some (.val (.list row)), x9, x10, x11, some (.val (.int (sp.length : Nat))), some (.val (repD sp ws sLies)), some (.val (repD sp ws sT0)), some (.own (.dict [])), some (.own (.list [])), some (.own (.dict [])), some (.own (.list [])), none, none, x21, x22, x23, none, none, none, none, none, none]) (d := .list ((telF tp sp (repD sp ws sTrue) row).map PyData.int)) rfl
    simp only [a8, a6, Option.bind_eq_bind, Option.bind_some]
  obtain ⟨ρ', s', g1, g2⟩ := st_for (T := lvl k) (t := .tup (.cons (.one 19) (.cons (.one 11) .nil))) (bs := b_law_7) it
    (fun i ρ s' => s' = s ∧ ∃ kv1 kv2 x11 x19 x20, ρ = [none, some .cell, some (.val (hD tp sp)), x3, x4, some (.val (.tuple ws)), some (.val (.list ((telF tp sp (repD sp ws sTrue) row).map PyData.int))), some (.val (repD sp ws sT1)), some (.val (.list row)), x9, x10, x11, some (.val (.int (sp.length : Nat))), some (.val (repD sp ws sLies)), some (.val (repD sp ws sT0)), some (.own (.dict kv1)), some (.own (.list (((telF tp sp (repD sp ws sT0) row).take i).map PyData.int))), some (.own (.dict kv2)), some (.own (.list (((telF tp sp (repD sp ws sEcho) row).take i).map PyData.int))), x19, x20, x21, x22, x23, none, none, none, none, none, none] ∧ LookOk kv1 (cntF (row.take i)) ∧ LookOk kv2 (lastF tp ws (row.take i)) ∧ kv1.length ≤ i ∧ kv2.length ≤ i) ⟨rfl, [], [], _, _, _, rfl, LookOk.nil, LookOk.nil, by simp, by simp⟩ (fun i d ρ s' hd hI => by
      obtain ⟨rfl, kv1, kv2, x11, x19, x20, rfl, k1, k2, z1, z2⟩ := hI
      obtain ⟨ρ1, kw1, kw2, y11, y19, y20, e1, e2, e3, e4, e5, e6⟩ := l4_zs (x3 := x3) (x4 := x4) (x9 := x9) (x10 := x10) (x11 := x11) (x19 := x19) (x20 := x20) (x21 := x21) (x22 := x22) (x23 := x23) k h hr hl s' i d k1 k2 z1 z2 hd
      exact ⟨ρ1, _, s', e1, e2, rfl, kw1, kw2, _, _, _, rfl, e3, e4, e5, e6⟩)
  obtain ⟨rfl, kv1, kv2, y11, y19, y20, rfl, _⟩ := g2
  have zl : (zipL row ((telF tp sp (repD sp ws sTrue) row).map PyData.int)).length = row.length := by
    unfold zipL
    rw [List.length_zipWith, List.length_map, tel_len, Nat.min_self]
  rw [zl, List.take_of_length_le (Nat.le_of_eq (tel_len _)), List.take_of_length_le (Nat.le_of_eq (tel_len _))] at g1
  exact ⟨kv1, kv2, y11, y19, y20, g1⟩
theorem l4_rest (k : Nat) (h : HouseOk tp sp) (w1 : ws.length = tp.length) (w2 : ∀ x ∈ ws, isInt x) (hr : ∀ d ∈ row, WeighOk tp sp d) (hl : row.length ≤ 12) (s : D) :
    ∃ ρ', denSs (lvl (k + 3)) (.cons c_law_24 (.cons c_law_25 (.cons c_law_26 (.cons c_law_27 (.cons c_law_28 (.cons c_law_29 (.cons c_law_30 (.cons c_law_31 .nil)))))))) [none, some .cell, some (.val (hD tp sp)), x3, x4, some (.val (.tuple ws)), none, none, some (.val (.list row)), x9, x10, x11, some (.val (.int (sp.length : Nat))), none, none, none, none, none, none, none, none, x21, x22, x23, none, none, none, none, none, none] s = some (.nx ρ', s) := by
  have wk : ∀ d, SrtOk d → WorldOk tp sp (repD sp ws d) := fun d hd => ⟨_, _, rfl, w1, w2, by simp, fun x hx => by rw [(List.mem_replicate.mp hx).2]; exact hd⟩
  have tl : ∀ (d : D) (hd : SrtOk d) (a : CE) (ρ : Rho), ρ[2]? = some (some (.val (hD tp sp))) → ρ[8]? = some (some (.val (.list row))) → den (lvl (k + 3)) a ρ s = some ((.pf, repD sp ws d), s) → den (lvl (k + 3)) (.call ("tells" : Str) 3 (.val (.var 2) (.val a (.val (.var 8) .nil)))) ρ s = some ((.fr, .list ((telF tp sp (repD sp ws d) row).map PyData.int)), s) := fun d hd a ρ r2 r8 ha =>
    e_call (xs := [some (hD tp sp), some (repD sp ws d), some (.list row)]) (s1 := s) (x_val (s1 := s) (e_var r2) (x_val (s1 := s) ha (x_val (s1 := s) (e_var r8) x_nil))) (ev_tells k h (wk d hd) hr s) (by simp) rfl
  have one : ∀ (x : Str) (ρ : Rho), den (lvl (k + 3)) (.tup (.cons (.cst (.str x)) .nil)) ρ s = some ((.pf, .tuple [.str x]), s) := fun x ρ => e_tup1 (by simp [fnD, rho0, denSs, denS, den, dens, denB, denO, denF, denI, denX, dBo, dAnd, dOr, dB, dT, dNot, dIf, dNeg, dIsi, isDict, instB, tyD, sSeq, sRet, sRetv, sNil, sSet, sIf, sDrop, sApp, sPutL, sPutC, sPutD, sPar, sBind, sFrz, Co.putAll, Co.ent, d2, binD, cmpD, Bi.den, dCall, dCons, dNil, dVar, dC, dGlob, dChain, dTup, dLst, pfs?, dFrz, dCallF, xVal, xCel, xNil, dIxC, dIxS, dLenS, dDnew, dDisp1, leD, gtD, geD, ltD, addD, subD, mulD, mulE, modD, fdivD, fdivE, powD, absD, Co.intD, lenD, tupleD, listD, bindT, bindTs, Tgs.len, wipeR, idxE, idxD, atI_0, atI_1, atI_2, ixN_21, dSl, dPart, sliceD])
  have two : ∀ (n : Int) (ρ : Rho), den (lvl (k + 3)) (.tup (.cons (.cst (.str ("turns" : Str))) (.cons (.cst (.int n)) .nil))) ρ s = some ((.pf, .tuple [.str "turns", .int n]), s) := fun n ρ => e_tup2 (s1 := s) (by simp [fnD, rho0, denSs, denS, den, dens, denB, denO, denF, denI, denX, dBo, dAnd, dOr, dB, dT, dNot, dIf, dNeg, dIsi, isDict, instB, tyD, sSeq, sRet, sRetv, sNil, sSet, sIf, sDrop, sApp, sPutL, sPutC, sPutD, sPar, sBind, sFrz, Co.putAll, Co.ent, d2, binD, cmpD, Bi.den, dCall, dCons, dNil, dVar, dC, dGlob, dChain, dTup, dLst, pfs?, dFrz, dCallF, xVal, xCel, xNil, dIxC, dIxS, dLenS, dDnew, dDisp1, leD, gtD, geD, ltD, addD, subD, mulD, mulE, modD, fdivD, fdivE, powD, absD, Co.intD, lenD, tupleD, listD, bindT, bindTs, Tgs.len, wipeR, idxE, idxD, atI_0, atI_1, atI_2, ixN_21, dSl, dPart, sliceD]) (by simp [fnD, rho0, denSs, denS, den, dens, denB, denO, denF, denI, denX, dBo, dAnd, dOr, dB, dT, dNot, dIf, dNeg, dIsi, isDict, instB, tyD, sSeq, sRet, sRetv, sNil, sSet, sIf, sDrop, sApp, sPutL, sPutC, sPutD, sPar, sBind, sFrz, Co.putAll, Co.ent, d2, binD, cmpD, Bi.den, dCall, dCons, dNil, dVar, dC, dGlob, dChain, dTup, dLst, pfs?, dFrz, dCallF, xVal, xCel, xNil, dIxC, dIxS, dLenS, dDnew, dDisp1, leD, gtD, geD, ltD, addD, subD, mulD, mulE, modD, fdivD, fdivE, powD, absD, Co.intD, lenD, tupleD, listD, bindT, bindTs, Tgs.len, wipeR, idxE, idxD, atI_0, atI_1, atI_2, ixN_21, dSl, dPart, sliceD])
  obtain ⟨kv1, kv2, y11, y19, y20, c29⟩ := l4_29 (ws := ws) (x3 := x3) (x4 := x4) (x9 := x9) (x10 := x10) (x11 := x11) (x21 := x21) (x22 := x22) (x23 := x23) (k + 3) h hr hl s
  refine ⟨[none, some .cell, some (.val (hD tp sp)), x3, x4, some (.val (.tuple ws)), some (.val (.list ((telF tp sp (repD sp ws sTrue) row).map PyData.int))), some (.val (repD sp ws sT1)), some (.val (.list row)), x9, x10, y11, some (.val (.int (sp.length : Nat))), some (.val (repD sp ws sLies)), some (.val (repD sp ws sT0)), some (.own (.dict kv1)), some (.own (.list ((telF tp sp (repD sp ws sT0) row).map PyData.int))), some (.own (.dict kv2)), some (.own (.list ((telF tp sp (repD sp ws sEcho) row).map PyData.int))), y19, y20, x21, x22, x23, none, none, none, none, none, none], ?_⟩
  refine run_cons (a := c_law_24) (ρ1 := [none, some .cell, some (.val (hD tp sp)), x3, x4, some (.val (.tuple ws)), some (.val (.list ((telF tp sp (repD sp ws sTrue) row).map PyData.int))), none, some (.val (.list row)), x9, x10, x11, some (.val (.int (sp.length : Nat))), none, none, none, none, none, none, none, none, x21, x22, x23, none, none, none, none, none, none]) (s1 := s) (st_pf (den_frz (tl sTrue .tru _ _ rfl rfl (e_wrl h (one "true" _) rfl rfl)))) ?_
  refine run_cons (a := c_law_25) (ρ1 := [none, some .cell, some (.val (hD tp sp)), x3, x4, some (.val (.tuple ws)), some (.val (.list ((telF tp sp (repD sp ws sTrue) row).map PyData.int))), none, some (.val (.list row)), x9, x10, x11, some (.val (.int (sp.length : Nat))), some (.val (repD sp ws sLies)), some (.val (repD sp ws sT0)), none, none, none, none, none, none, x21, x22, x23, none, none, none, none, none, none]) (s1 := s) (s_par2 (s1 := s) (e_wrl h (one "lies" _) rfl rfl) (e_wrl h (two 0 _) rfl rfl)) ?_
  refine run_cons (a := c_law_26) (ρ1 := [none, some .cell, some (.val (hD tp sp)), x3, x4, some (.val (.tuple ws)), some (.val (.list ((telF tp sp (repD sp ws sTrue) row).map PyData.int))), some (.val (repD sp ws sT1)), some (.val (.list row)), x9, x10, x11, some (.val (.int (sp.length : Nat))), some (.val (repD sp ws sLies)), some (.val (repD sp ws sT0)), none, none, none, none, none, none, x21, x22, x23, none, none, none, none, none, none]) (s1 := s) (st_pf (e_wrl h (two 1 _) rfl rfl)) ?_
  refine run_cons (a := c_law_27) (ρ1 := [none, some .cell, some (.val (hD tp sp)), x3, x4, some (.val (.tuple ws)), some (.val (.list ((telF tp sp (repD sp ws sTrue) row).map PyData.int))), some (.val (repD sp ws sT1)), some (.val (.list row)), x9, x10, x11, some (.val (.int (sp.length : Nat))), some (.val (repD sp ws sLies)), some (.val (repD sp ws sT0)), none, none, none, none, none, none, x21, x22, x23, none, none, none, none, none, none]) (s1 := s) (st_ifF (s1 := s) (t_of (fl := .pf) (e_2 (s1 := s) (s2 := s) (tl sLies .lies _ _ rfl rfl (e_var rfl)) (e_neg (i_list (e_var rfl)) (by simp)) (ne_eq (tel_lies h hr)))) run_nil) ?_
  refine run_cons (a := c_law_28) (ρ1 := [none, some .cell, some (.val (hD tp sp)), x3, x4, some (.val (.tuple ws)), some (.val (.list ((telF tp sp (repD sp ws sTrue) row).map PyData.int))), some (.val (repD sp ws sT1)), some (.val (.list row)), x9, x10, x11, some (.val (.int (sp.length : Nat))), some (.val (repD sp ws sLies)), some (.val (repD sp ws sT0)), some (.own (.dict [])), some (.own (.list [])), some (.own (.dict [])), some (.own (.list [])), none, none, x21, x22, x23, none, none, none, none, none, none]) (s1 := s) (by simp [c_law_28, fnD, rho0, denSs, denS, den, dens, denB, denO, denF, denI, denX, dBo, dAnd, dOr, dB, dT, dNot, dIf, dNeg, dIsi, isDict, instB, tyD, sSeq, sRet, sRetv, sNil, sSet, sIf, sDrop, sApp, sPutL, sPutC, sPutD, sPar, sBind, sFrz, Co.putAll, Co.ent, d2, binD, cmpD, Bi.den, dCall, dCons, dNil, dVar, dC, dGlob, dChain, dTup, dLst, pfs?, dFrz, dCallF, xVal, xCel, xNil, dIxC, dIxS, dLenS, dDnew, dDisp1, leD, gtD, geD, ltD, addD, subD, mulD, mulE, modD, fdivD, fdivE, powD, absD, Co.intD, lenD, tupleD, listD, bindT, bindTs, Tgs.len, wipeR, idxE, idxD, atI_0, atI_1, atI_2, ixN_21, dSl, dPart, sliceD]) ?_
  refine run_cons (a := c_law_29) c29 ?_
  have v16 : den (lvl (k + 3)) (.var 16) [none, some .cell, some (.val (hD tp sp)), x3, x4, some (.val (.tuple ws)), some (.val (.list ((telF tp sp (repD sp ws sTrue) row).map PyData.int))), some (.val (repD sp ws sT1)), some (.val (.list row)), x9, x10, y11, some (.val (.int (sp.length : Nat))), some (.val (repD sp ws sLies)), some (.val (repD sp ws sT0)), some (.own (.dict kv1)), some (.own (.list ((telF tp sp (repD sp ws sT0) row).map PyData.int))), some (.own (.dict kv2)), some (.own (.list ((telF tp sp (repD sp ws sEcho) row).map PyData.int))), y19, y20, x21, x22, x23, none, none, none, none, none, none] s = some ((.ln, .list ((telF tp sp (repD sp ws sT0) row).map PyData.int)), s) := by simp [fnD, rho0, denSs, denS, den, dens, denB, denO, denF, denI, denX, dBo, dAnd, dOr, dB, dT, dNot, dIf, dNeg, dIsi, isDict, instB, tyD, sSeq, sRet, sRetv, sNil, sSet, sIf, sDrop, sApp, sPutL, sPutC, sPutD, sPar, sBind, sFrz, Co.putAll, Co.ent, d2, binD, cmpD, Bi.den, dCall, dCons, dNil, dVar, dC, dGlob, dChain, dTup, dLst, pfs?, dFrz, dCallF, xVal, xCel, xNil, dIxC, dIxS, dLenS, dDnew, dDisp1, leD, gtD, geD, ltD, addD, subD, mulD, mulE, modD, fdivD, fdivE, powD, absD, Co.intD, lenD, tupleD, listD, bindT, bindTs, Tgs.len, wipeR, idxE, idxD, atI_0, atI_1, atI_2, ixN_21, dSl, dPart, sliceD]
  have v18 : den (lvl (k + 3)) (.var 18) [none, some .cell, some (.val (hD tp sp)), x3, x4, some (.val (.tuple ws)), some (.val (.list ((telF tp sp (repD sp ws sTrue) row).map PyData.int))), some (.val (repD sp ws sT1)), some (.val (.list row)), x9, x10, y11, some (.val (.int (sp.length : Nat))), some (.val (repD sp ws sLies)), some (.val (repD sp ws sT0)), some (.own (.dict kv1)), some (.own (.list ((telF tp sp (repD sp ws sT0) row).map PyData.int))), some (.own (.dict kv2)), some (.own (.list ((telF tp sp (repD sp ws sEcho) row).map PyData.int))), y19, y20, x21, x22, x23, none, none, none, none, none, none] s = some ((.ln, .list ((telF tp sp (repD sp ws sEcho) row).map PyData.int)), s) := by simp [fnD, rho0, denSs, denS, den, dens, denB, denO, denF, denI, denX, dBo, dAnd, dOr, dB, dT, dNot, dIf, dNeg, dIsi, isDict, instB, tyD, sSeq, sRet, sRetv, sNil, sSet, sIf, sDrop, sApp, sPutL, sPutC, sPutD, sPar, sBind, sFrz, Co.putAll, Co.ent, d2, binD, cmpD, Bi.den, dCall, dCons, dNil, dVar, dC, dGlob, dChain, dTup, dLst, pfs?, dFrz, dCallF, xVal, xCel, xNil, dIxC, dIxS, dLenS, dDnew, dDisp1, leD, gtD, geD, ltD, addD, subD, mulD, mulE, modD, fdivD, fdivE, powD, absD, Co.intD, lenD, tupleD, listD, bindT, bindTs, Tgs.len, wipeR, idxE, idxD, atI_0, atI_1, atI_2, ixN_21, dSl, dPart, sliceD]
  refine run_cons (a := c_law_30) (ρ1 := [none, some .cell, some (.val (hD tp sp)), x3, x4, some (.val (.tuple ws)), some (.val (.list ((telF tp sp (repD sp ws sTrue) row).map PyData.int))), some (.val (repD sp ws sT1)), some (.val (.list row)), x9, x10, y11, some (.val (.int (sp.length : Nat))), some (.val (repD sp ws sLies)), some (.val (repD sp ws sT0)), some (.own (.dict kv1)), some (.own (.list ((telF tp sp (repD sp ws sT0) row).map PyData.int))), some (.own (.dict kv2)), some (.own (.list ((telF tp sp (repD sp ws sEcho) row).map PyData.int))), y19, y20, x21, x22, x23, none, none, none, none, none, none]) (s1 := s) (st_ifF (s1 := s) (t_bo (b_orF (t_of (fl := .pf) (e_2 (s1 := s) (s2 := s) (tl sT0 (.turns 0) _ _ rfl rfl (e_var rfl)) v16 ne_same)) (b_one (t_of (fl := .pf) (e_2 (s1 := s) (s2 := s) (tl sT1 (.turns 1) _ _ rfl rfl (e_var rfl)) (e_neg (by simp [fnD, rho0, denSs, denS, den, dens, denB, denO, denF, denI, denX, dBo, dAnd, dOr, dB, dT, dNot, dIf, dNeg, dIsi, isDict, instB, tyD, sSeq, sRet, sRetv, sNil, sSet, sIf, sDrop, sApp, sPutL, sPutC, sPutD, sPar, sBind, sFrz, Co.putAll, Co.ent, d2, binD, cmpD, Bi.den, dCall, dCons, dNil, dVar, dC, dGlob, dChain, dTup, dLst, pfs?, dFrz, dCallF, xVal, xCel, xNil, dIxC, dIxS, dLenS, dDnew, dDisp1, leD, gtD, geD, ltD, addD, subD, mulD, mulE, modD, fdivD, fdivE, powD, absD, Co.intD, lenD, tupleD, listD, bindT, bindTs, Tgs.len, wipeR, idxE, idxD, atI_0, atI_1, atI_2, ixN_21, dSl, dPart, sliceD, dItemsB, dItemsE, ownKeys, itemsD]) (by simp)) (ne_eq (tel_t1 h hr))))))) run_nil) ?_
  exact run_cons (a := c_law_31) (ρ1 := [none, some .cell, some (.val (hD tp sp)), x3, x4, some (.val (.tuple ws)), some (.val (.list ((telF tp sp (repD sp ws sTrue) row).map PyData.int))), some (.val (repD sp ws sT1)), some (.val (.list row)), x9, x10, y11, some (.val (.int (sp.length : Nat))), some (.val (repD sp ws sLies)), some (.val (repD sp ws sT0)), some (.own (.dict kv1)), some (.own (.list ((telF tp sp (repD sp ws sT0) row).map PyData.int))), some (.own (.dict kv2)), some (.own (.list ((telF tp sp (repD sp ws sEcho) row).map PyData.int))), y19, y20, x21, x22, x23, none, none, none, none, none, none]) (s1 := s) (st_ifF (s1 := s) (t_of (fl := .pf) (e_2 (s1 := s) (s2 := s) (tl sEcho .echo _ _ rfl rfl (e_wrl h (one "echo" _) rfl rfl)) v18 ne_same)) run_nil) run_nil
end
section
variable {ts ss : List (Str × List D)} {row : List D} {x3 x4 x9 x10 x11 x21 x22 x23 : Option Ent}
theorem l4_plain (k : Nat) (h : HouseOk ts ss) (hr : ∀ d ∈ row, WeighOk ts ss d) (hl : row.length ≤ 12) (s : D) (hb : Bag s) :
    ∃ ρ' s', denSs (lvl (k + 3)) (.cons c_law_22 (.cons c_law_23 (.cons c_law_24 (.cons c_law_25 (.cons c_law_26 (.cons c_law_27 (.cons c_law_28 (.cons c_law_29 (.cons c_law_30 (.cons c_law_31 .nil)))))))))) [none, some .cell, some (.val (hD ts ss)), x3, x4, none, none, none, some (.val (.list row)), x9, x10, x11, none, none, none, none, none, none, none, none, none, x21, x22, x23, none, none, none, none, none, none] s = some (.nx ρ', s') := by
  obtain ⟨tp, s1, e1, b1, hp, n1, n2⟩ := ev_plain_house (k + 1) h s hb
  obtain ⟨sp, hsp⟩ : ∃ sp, sp = ss.map fun p => (p.1, five) := ⟨_, rfl⟩
  rw [← hsp] at e1 hp
  have n3 : sp.map (·.1) = ss.map (·.1) := by
    rw [hsp, List.map_map]
    rfl
  have sl : sp.length = ss.length := by rw [hsp, List.length_map]
  obtain ⟨ws, hws⟩ : ∃ ws, ws = (tp.map thD).map hdD := ⟨_, rfl⟩
  have w1 : ws.length = tp.length := by rw [hws]; simp
  have w2 : ∀ x ∈ ws, isInt x := fun x hx => by
    rw [hws] at hx
    obtain ⟨d, hd, rfl⟩ := List.mem_map.mp hx
    obtain ⟨p, hp, rfl⟩ := List.mem_map.mp hd
    obtain ⟨n, e⟩ := n2 p hp
    exact ⟨n, by unfold thD; rw [e]; rfl⟩
  obtain ⟨ρ', c⟩ := l4_rest (x3 := x3) (x4 := x4) (x9 := x9) (x10 := x10) (x11 := x11) (x21 := x21) (x22 := x22) (x23 := x23) k hp w1 w2 (fun d hd => (hr d hd).names n1 n3) hl s1
  refine ⟨ρ', s1, ?_⟩
  refine run_cons (a := c_law_22) (ρ1 := [none, some .cell, some (.val (hD tp sp)), x3, x4, none, none, none, some (.val (.list row)), x9, x10, x11, some (.val (.int (sp.length : Nat))), none, none, none, none, none, none, none, none, x21, x22, x23, none, none, none, none, none, none]) (s1 := s1) (s_par2 (s1 := s1) (e_call (xs := [none, some (hD ts ss)]) (s1 := s) (by simp [fnD, rho0, denSs, denS, den, dens, denB, denO, denF, denI, denX, dBo, dAnd, dOr, dB, dT, dNot, dIf, dNeg, dIsi, isDict, instB, tyD, sSeq, sRet, sRetv, sNil, sSet, sIf, sDrop, sApp, sPutL, sPutC, sPutD, sPar, sBind, sFrz, Co.putAll, Co.ent, d2, binD, cmpD, Bi.den, dCall, dCons, dNil, dVar, dC, dGlob, dChain, dTup, dLst, pfs?, dFrz, dCallF, xVal, xCel, xNil, dIxC, dIxS, dLenS, dDnew, dDisp1, leD, gtD, geD, ltD, addD, subD, mulD, mulE, modD, fdivD, fdivE, powD, absD, Co.intD, lenD, tupleD, listD, bindT, bindTs, Tgs.len, wipeR, idxE, idxD, atI_0, atI_1, atI_2, ixN_21, dSl, dPart, sliceD]) e1 (by simp) rfl) (e_bi1 (r := (.pf, .tuple (ss.map thD))) (by simp [fnD, rho0, denSs, denS, den, dens, denB, denO, denF, denI, denX, dBo, dAnd, dOr, dB, dT, dNot, dIf, dNeg, dIsi, isDict, instB, tyD, sSeq, sRet, sRetv, sNil, sSet, sIf, sDrop, sApp, sPutL, sPutC, sPutD, sPar, sBind, sFrz, Co.putAll, Co.ent, d2, binD, cmpD, Bi.den, dCall, dCons, dNil, dVar, dC, dGlob, dChain, dTup, dLst, pfs?, dFrz, dCallF, xVal, xCel, xNil, dIxC, dIxS, dLenS, dDnew, dDisp1, leD, gtD, geD, ltD, addD, subD, mulD, mulE, modD, fdivD, fdivE, powD, absD, Co.intD, lenD, tupleD, listD, bindT, bindTs, Tgs.len, wipeR, idxE, idxD, atI_0, atI_1, atI_2, ixN_21, dSl, dPart, sliceD, hD]) (by simp [fnD, rho0, denSs, denS, den, dens, denB, denO, denF, denI, denX, dBo, dAnd, dOr, dB, dT, dNot, dIf, dNeg, dIsi, isDict, instB, tyD, sSeq, sRet, sRetv, sNil, sSet, sIf, sDrop, sApp, sPutL, sPutC, sPutD, sPar, sBind, sFrz, Co.putAll, Co.ent, d2, binD, cmpD, Bi.den, dCall, dCons, dNil, dVar, dC, dGlob, dChain, dTup, dLst, pfs?, dFrz, dCallF, xVal, xCel, xNil, dIxC, dIxS, dLenS, dDnew, dDisp1, leD, gtD, geD, ltD, addD, subD, mulD, mulE, modD, fdivD, fdivE, powD, absD, Co.intD, lenD, tupleD, listD, bindT, bindTs, Tgs.len, wipeR, idxE, idxD, atI_0, atI_1, atI_2, ixN_21, dSl, dPart, sliceD, sl]))) ?_
  refine run_cons (a := c_law_23) (ρ1 := [none, some .cell, some (.val (hD tp sp)), x3, x4, some (.val (.tuple ws)), none, none, some (.val (.list row)), x9, x10, x11, some (.val (.int (sp.length : Nat))), none, none, none, none, none, none, none, none, x21, x22, x23, none, none, none, none, none, none]) (s1 := s1) (st_pf (e_bi1 (r := (.fr, .list ws)) ?_ rfl)) c
  rw [hws]
  refine den_map (T := lvl (k + 3)) (own := [(("name" : Str), 21), (("some" : Str), 28)]) (t := .tup (.cons (.one 21) (.cons (.one 28) .nil))) (it := .items (.ix (.var 2) (.cst (.int 0)))) hdD (i_tup (by simp [fnD, rho0, denSs, denS, den, dens, denB, denO, denF, denI, denX, dBo, dAnd, dOr, dB, dT, dNot, dIf, dNeg, dIsi, isDict, instB, tyD, sSeq, sRet, sRetv, sNil, sSet, sIf, sDrop, sApp, sPutL, sPutC, sPutD, sPar, sBind, sFrz, Co.putAll, Co.ent, d2, binD, cmpD, Bi.den, dCall, dCons, dNil, dVar, dC, dGlob, dChain, dTup, dLst, pfs?, dFrz, dCallF, xVal, xCel, xNil, dIxC, dIxS, dLenS, dDnew, dDisp1, leD, gtD, geD, ltD, addD, subD, mulD, mulE, modD, fdivD, fdivE, powD, absD, Co.intD, lenD, tupleD, listD, bindT, bindTs, Tgs.len, wipeR, idxE, idxD, atI_0, atI_1, atI_2, ixN_21, dSl, dPart, sliceD, hD])) fun d hd => ?_
  obtain ⟨p, hp, rfl⟩ := List.mem_map.mp hd
  obtain ⟨n, e⟩ := n2 p hp
  refine ⟨[none, some .cell, some (.val (hD tp sp)), x3, x4, none, none, none, some (.val (.list row)), x9, x10, x11, some (.val (.int (sp.length : Nat))), none, none, none, none, none, none, none, none, some (.val (.str p.1)), x22, x23, none, none, none, none, some (.val (.tuple p.2)), none], by simp [wipeR, bindT, bindTs, Tgs.len, thD], ?_⟩
  unfold thD
  rw [e]
  simp [fnD, rho0, denSs, denS, den, dens, denB, denO, denF, denI, denX, dBo, dAnd, dOr, dB, dT, dNot, dIf, dNeg, dIsi, isDict, instB, tyD, sSeq, sRet, sRetv, sNil, sSet, sIf, sDrop, sApp, sPutL, sPutC, sPutD, sPar, sBind, sFrz, Co.putAll, Co.ent, d2, binD, cmpD, Bi.den, dCall, dCons, dNil, dVar, dC, dGlob, dChain, dTup, dLst, pfs?, dFrz, dCallF, xVal, xCel, xNil, dIxC, dIxS, dLenS, dDnew, dDisp1, leD, gtD, geD, ltD, addD, subD, mulD, mulE, modD, fdivD, fdivE, powD, absD, Co.intD, lenD, tupleD, listD, bindT, bindTs, Tgs.len, wipeR, idxE, idxD, atI_0, atI_1, atI_2, ixN_21, dSl, dPart, sliceD, hdD]
theorem law_run (d : D) (hb : Bag d) : ∃ ρ' s', denSs (lvl 12) c_law (rhoB n_law.length 1) d = some (.nx ρ', s') := by
  obtain ⟨ts, s0, s1, e1, b1, h0, h04⟩ := ev_house4 60 9 d hb
  obtain ⟨ss, e2, h⟩ := ev_both_ways 11 h0 h04 s1
  obtain ⟨row, s2, e3, b2, q3, q4⟩ := ev_rowL 9 12 (by decide) ts ss h s1 b1
  have e4 := ev_worlds 10 h s2
  obtain ⟨y4, y10, y11, y21, y22, y23, s3, c21, b3⟩ := l4_21 9 h q4 s2 b2
  obtain ⟨ρ', s', c⟩ := l4_plain (x3 := some (.val (.list (row.map swW)))) (x4 := y4) (x9 := some (.val (.list (wsF ts ss)))) (x10 := y10) (x11 := y11) (x21 := y21) (x22 := y22) (x23 := y23) 9 h q4 q3 s3 b3
  refine ⟨ρ', s', ?_⟩
  show denSs (lvl 12) c_law [none, some .cell, none, none, none, none, none, none, none, none, none, none, none, none, none, none, none, none, none, none, none, none, none, none, none, none, none, none, none, none] d = _
  refine run_cons (a := c_law_18) (ρ1 := [none, some .cell, some (.val (hD ts ss)), none, none, none, none, none, none, none, none, none, none, none, none, none, none, none, none, none, none, none, none, none, none, none, none, none, none, none]) (s1 := s1) (st_pf (e_call (xs := [some (hD ts s0)]) (s1 := s1) (x_val (s1 := s1) (e_call (xs := [none, some (.int 60), some (.int 9)]) (s1 := d) (by simp [fnD, rho0, denSs, denS, den, dens, denB, denO, denF, denI, denX, dBo, dAnd, dOr, dB, dT, dNot, dIf, dNeg, dIsi, isDict, instB, tyD, sSeq, sRet, sRetv, sNil, sSet, sIf, sDrop, sApp, sPutL, sPutC, sPutD, sPar, sBind, sFrz, Co.putAll, Co.ent, d2, binD, cmpD, Bi.den, dCall, dCons, dNil, dVar, dC, dGlob, dChain, dTup, dLst, pfs?, dFrz, dCallF, xVal, xCel, xNil, dIxC, dIxS, dLenS, dDnew, dDisp1, leD, gtD, geD, ltD, addD, subD, mulD, mulE, modD, fdivD, fdivE, powD, absD, Co.intD, lenD, tupleD, listD, bindT, bindTs, Tgs.len, wipeR, idxE, idxD, atI_0, atI_1, atI_2, ixN_21, dSl, dPart, sliceD]) e1 (by simp) rfl) x_nil) e2 (by simp) rfl)) ?_
  refine run_cons (a := c_law_19) (ρ1 := [none, some .cell, some (.val (hD ts ss)), none, none, none, none, none, some (.val (.list row)), some (.val (.list (wsF ts ss))), none, none, none, none, none, none, none, none, none, none, none, none, none, none, none, none, none, none, none, none]) (s1 := s2) (s_par2 (s1 := s2) (den_frz (e_call (xs := [none, some (hD ts ss), some (.int 12)]) (s1 := s1) (by simp [fnD, rho0, denSs, denS, den, dens, denB, denO, denF, denI, denX, dBo, dAnd, dOr, dB, dT, dNot, dIf, dNeg, dIsi, isDict, instB, tyD, sSeq, sRet, sRetv, sNil, sSet, sIf, sDrop, sApp, sPutL, sPutC, sPutD, sPar, sBind, sFrz, Co.putAll, Co.ent, d2, binD, cmpD, Bi.den, dCall, dCons, dNil, dVar, dC, dGlob, dChain, dTup, dLst, pfs?, dFrz, dCallF, xVal, xCel, xNil, dIxC, dIxS, dLenS, dDnew, dDisp1, leD, gtD, geD, ltD, addD, subD, mulD, mulE, modD, fdivD, fdivE, powD, absD, Co.intD, lenD, tupleD, listD, bindT, bindTs, Tgs.len, wipeR, idxE, idxD, atI_0, atI_1, atI_2, ixN_21, dSl, dPart, sliceD]) e3 (by simp) rfl)) (den_frz (e_call (xs := [some (hD ts ss)]) (s1 := s2) (by simp [fnD, rho0, denSs, denS, den, dens, denB, denO, denF, denI, denX, dBo, dAnd, dOr, dB, dT, dNot, dIf, dNeg, dIsi, isDict, instB, tyD, sSeq, sRet, sRetv, sNil, sSet, sIf, sDrop, sApp, sPutL, sPutC, sPutD, sPar, sBind, sFrz, Co.putAll, Co.ent, d2, binD, cmpD, Bi.den, dCall, dCons, dNil, dVar, dC, dGlob, dChain, dTup, dLst, pfs?, dFrz, dCallF, xVal, xCel, xNil, dIxC, dIxS, dLenS, dDnew, dDisp1, leD, gtD, geD, ltD, addD, subD, mulD, mulE, modD, fdivD, fdivE, powD, absD, Co.intD, lenD, tupleD, listD, bindT, bindTs, Tgs.len, wipeR, idxE, idxD, atI_0, atI_1, atI_2, ixN_21, dSl, dPart, sliceD]) e4 (by simp) rfl))) ?_
  refine run_cons (a := c_law_20) (s1 := s2) (st_fr (d := .list (row.map swW)) ?_) (run_frz rfl (run_cons c21 c))
  refine den_map (T := lvl 12) (own := [(("scale" : Str), 24), (("left" : Str), 25), (("right" : Str), 26)]) (t := .tup (.cons (.one 24) (.cons (.one 25) (.cons (.one 26) .nil)))) (it := .items (.var 8)) swW (i_list (e_var rfl)) fun w hw => ?_
  obtain ⟨sc, l, r, rfl, _⟩ := q4 w hw
  have z3 : 3 ≤ sizeLine := by decide
  refine ⟨[none, some .cell, some (.val (hD ts ss)), none, none, none, none, none, some (.val (.list row)), some (.val (.list (wsF ts ss))), none, none, none, none, none, none, none, none, none, none, none, none, none, none, some (.val (.str sc)), some (.val (.tuple (l.map .str))), some (.val (.tuple (r.map .str))), none, none, none], by simp [wipeR, bindT, bindTs, Tgs.len, wgD], ?_⟩
  unfold swW
  rw [dec_wg]
  simp [fnD, rho0, denSs, denS, den, dens, denB, denO, denF, denI, denX, dBo, dAnd, dOr, dB, dT, dNot, dIf, dNeg, dIsi, isDict, instB, tyD, sSeq, sRet, sRetv, sNil, sSet, sIf, sDrop, sApp, sPutL, sPutC, sPutD, sPar, sBind, sFrz, Co.putAll, Co.ent, d2, binD, cmpD, Bi.den, dCall, dCons, dNil, dVar, dC, dGlob, dChain, dTup, dLst, pfs?, dFrz, dCallF, xVal, xCel, xNil, dIxC, dIxS, dLenS, dDnew, dDisp1, leD, gtD, geD, ltD, addD, subD, mulD, mulE, modD, fdivD, fdivE, powD, absD, Co.intD, lenD, tupleD, listD, bindT, bindTs, Tgs.len, wipeR, idxE, idxD, atI_0, atI_1, atI_2, ixN_21, dSl, dPart, sliceD, wgD, z3]
theorem pure_law : ∀ ns : List Int, ns.length ≤ 63 → ∃ ds, bagsF 11 [none, some (.int 8)] (.tuple [.list (ns.map .int)]) = some (ds, .tuple [.list (ns.map .int)]) ∧ ∀ d ∈ ds, ∃ ρ' s', denSs (lvl 12) c_law (rhoB n_law.length 1) d = some (.nx ρ', s') := fun ns _ => by
  obtain ⟨ds, h1, h2⟩ := bags_ok ns
  exact ⟨ds, h1, fun d hd => law_run d (h2 d hd)⟩
end
end G4
end

section
set_option Elab.async false
set_option linter.all false
set_option maxRecDepth 100000
set_option maxHeartbeats 0
set_option autoImplicit false
namespace G4
open PySem PySem.Spec PyProof.Rows L2 Co
def top (i : Nat) : Stmt := PySem.Challenge.pw_slyscales_k04_whole_what_sorts_have_to_d.main.body.getD i (.Pass ⟨0, 0, 0, 0⟩)
def Γ : Gt := ⟨[("len" : Str), ("isinstance" : Str), ("range" : Str), ("enumerate" : Str), ("zip" : Str), ("list" : Str), ("tuple" : Str), ("abs" : Str), ("int" : Str), ("max" : Str), ("min" : Str), ("sum" : Str), ("all" : Str), ("any" : Str), ("sorted" : Str), ("dict" : Str), ("str" : Str), ("bool" : Str), ("set" : Str), ("repr" : Str)], [], ent.map fun e => (e.x, e.n), false⟩
def d_all_rows : He.DefD := ⟨(("all_rows" : Str), none), ("all_rows" : Str), ("all_rows" : Str), defArgs (top 1), defBody (top 1), defScope (top 1), [], []⟩
theorem s_all_rows : FnScope n_all_rows [("parts" : Str)] (defScope (top 1)) := ⟨rfl, rfl, rfl, by decide +kernel, rfl, by decide +kernel, by decide +kernel⟩
theorem m_all_rows : mSs { Γ with lam := false } n_all_rows c_all_rows (defBody (top 1)) (defScope (top 1)) = true := by decide +kernel
def d_worlds : He.DefD := ⟨(("worlds" : Str), none), ("worlds" : Str), ("worlds" : Str), defArgs (top 2), defBody (top 2), defScope (top 2), [], []⟩
theorem s_worlds : FnScope n_worlds [("house" : Str)] (defScope (top 2)) := ⟨rfl, rfl, rfl, by decide +kernel, rfl, by decide +kernel, by decide +kernel⟩
theorem m_worlds : mSs { Γ with lam := false } n_worlds c_worlds (defBody (top 2)) (defScope (top 2)) = true := by decide +kernel
def d_sign : He.DefD := ⟨(("sign" : Str), none), ("sign" : Str), ("sign" : Str), defArgs (top 3), defBody (top 3), defScope (top 3), [], []⟩
theorem s_sign : FnScope n_sign [("number" : Str)] (defScope (top 3)) := ⟨rfl, rfl, rfl, by decide +kernel, rfl, by decide +kernel, by decide +kernel⟩
theorem m_sign : mSs { Γ with lam := false } n_sign c_sign (defBody (top 3)) (defScope (top 3)) = true := by decide +kernel
def d_outweighs : He.DefD := ⟨(("outweighs" : Str), none), ("outweighs" : Str), ("outweighs" : Str), defArgs (top 4), defBody (top 4), defScope (top 4), [], []⟩
theorem s_outweighs : FnScope n_outweighs [("house" : Str), ("world" : Str), ("weighing" : Str)] (defScope (top 4)) := ⟨rfl, rfl, rfl, by decide +kernel, rfl, by decide +kernel, by decide +kernel⟩
theorem m_outweighs : mSs { Γ with lam := false } n_outweighs c_outweighs (defBody (top 4)) (defScope (top 4)) = true := by decide +kernel
def d_answer : He.DefD := ⟨(("answer" : Str), none), ("answer" : Str), ("answer" : Str), defArgs (top 5), defBody (top 5), defScope (top 5), [], []⟩
theorem s_answer : FnScope n_answer [("house" : Str), ("world" : Str), ("ahead" : Str), ("weighing" : Str)] (defScope (top 5)) := ⟨rfl, rfl, rfl, by decide +kernel, rfl, by decide +kernel, by decide +kernel⟩
theorem m_answer : mSs { Γ with lam := false } n_answer c_answer (defBody (top 5)) (defScope (top 5)) = true := by decide +kernel
def d_tells : He.DefD := ⟨(("tells" : Str), none), ("tells" : Str), ("tells" : Str), defArgs (top 6), defBody (top 6), defScope (top 6), [], []⟩
theorem s_tells : FnScope n_tells [("house" : Str), ("world" : Str), ("row" : Str)] (defScope (top 6)) := ⟨rfl, rfl, rfl, by decide +kernel, rfl, by decide +kernel, by decide +kernel⟩
theorem m_tells : mSs { Γ with lam := false } n_tells c_tells (defBody (top 6)) (defScope (top 6)) = true := by decide +kernel
def d__law_cell_at : He.DefD := ⟨(("_law_cell_at" : Str), none), ("_law_cell_at" : Str), ("_law_cell_at" : Str), defArgs (top 8), defBody (top 8), defScope (top 8), [], []⟩
theorem s__law_cell_at : FnScope n__law_cell_at [("script" : Str), ("k" : Str)] (defScope (top 8)) := ⟨rfl, rfl, rfl, by decide +kernel, rfl, by decide +kernel, by decide +kernel⟩
theorem m__law_cell_at : mSs { Γ with lam := false } n__law_cell_at c__law_cell_at (defBody (top 8)) (defScope (top 8)) = true := by decide +kernel
def d__law_draws : He.DefD := ⟨(("_law_draws" : Str), none), ("_law_draws" : Str), ("_law_draws" : Str), defArgs (top 9), defBody (top 9), defScope (top 9), [], []⟩
theorem s__law_draws : FnScope n__law_draws [("cell" : Str), ("many" : Str), ("size" : Str)] (defScope (top 9)) := ⟨rfl, rfl, rfl, by decide +kernel, rfl, by decide +kernel, by decide +kernel⟩
theorem m__law_draws : mSs { Γ with lam := false } n__law_draws c__law_draws (defBody (top 9)) (defScope (top 9)) = true := by decide +kernel
def d__law_bag : He.DefD := ⟨(("_law_bag" : Str), none), ("_law_bag" : Str), ("_law_bag" : Str), defArgs (top 10), defBody (top 10), defScope (top 10), [], []⟩
theorem s__law_bag : FnScope n__law_bag [("script" : Str), ("k" : Str)] (defScope (top 10)) := ⟨rfl, rfl, rfl, by decide +kernel, rfl, by decide +kernel, by decide +kernel⟩
theorem m__law_bag : mSs { Γ with lam := false } n__law_bag c__law_bag (defBody (top 10)) (defScope (top 10)) = true := by decide +kernel
def d__law_bags : He.DefD := ⟨(("_law_bags" : Str), none), ("_law_bags" : Str), ("_law_bags" : Str), defArgs (top 11), defBody (top 11), defScope (top 11), [], []⟩
theorem s__law_bags : FnScope n__law_bags [("script" : Str), ("limit" : Str)] (defScope (top 11)) := ⟨rfl, rfl, rfl, by decide +kernel, rfl, by decide +kernel, by decide +kernel⟩
theorem m__law_bags : mBags { Γ with lam := false } n__law_bags b_bags (defBody (top 11)) (defScope (top 11)) = true := by decide +kernel
def d__law_take : He.DefD := ⟨(("_law_take" : Str), none), ("_law_take" : Str), ("_law_take" : Str), defArgs (top 12), defBody (top 12), defScope (top 12), [], []⟩
theorem s__law_take : FnScope n__law_take [("bag" : Str), ("many" : Str)] (defScope (top 12)) := ⟨rfl, rfl, rfl, by decide +kernel, rfl, by decide +kernel, by decide +kernel⟩
theorem m__law_take : mSs { Γ with lam := false } n__law_take c__law_take (defBody (top 12)) (defScope (top 12)) = true := by decide +kernel
def d__law_sorts : He.DefD := ⟨(("_law_sorts" : Str), none), ("_law_sorts" : Str), ("_law_sorts" : Str), defArgs (top 13), defBody (top 13), defScope (top 13), [], []⟩
theorem s__law_sorts : FnScope n__law_sorts [("bag" : Str), ("limit" : Str), ("far" : Str)] (defScope (top 13)) := ⟨rfl, rfl, rfl, by decide +kernel, rfl, by decide +kernel, by decide +kernel⟩
theorem m__law_sorts : mSs { Γ with lam := false } n__law_sorts c__law_sorts (defBody (top 13)) (defScope (top 13)) = true := by decide +kernel
def d__law_house : He.DefD := ⟨(("_law_house" : Str), none), ("_law_house" : Str), ("_law_house" : Str), defArgs (top 14), defBody (top 14), defScope (top 14), [], []⟩
theorem s__law_house : FnScope n__law_house [("bag" : Str), ("bound" : Str), ("far" : Str)] (defScope (top 14)) := ⟨rfl, rfl, rfl, by decide +kernel, rfl, by decide +kernel, by decide +kernel⟩
theorem m__law_house : mSs { Γ with lam := false } n__law_house c__law_house (defBody (top 14)) (defScope (top 14)) = true := by decide +kernel
def d__law_weighing : He.DefD := ⟨(("_law_weighing" : Str), none), ("_law_weighing" : Str), ("_law_weighing" : Str), defArgs (top 15), defBody (top 15), defScope (top 15), [], []⟩
theorem s__law_weighing : FnScope n__law_weighing [("bag" : Str), ("house" : Str)] (defScope (top 15)) := ⟨rfl, rfl, rfl, by decide +kernel, rfl, by decide +kernel, by decide +kernel⟩
theorem m__law_weighing : mSs { Γ with lam := false } n__law_weighing c__law_weighing (defBody (top 15)) (defScope (top 15)) = true := by decide +kernel
def d__law_row : He.DefD := ⟨(("_law_row" : Str), none), ("_law_row" : Str), ("_law_row" : Str), defArgs (top 16), defBody (top 16), defScope (top 16), [], []⟩
theorem s__law_row : FnScope n__law_row [("bag" : Str), ("house" : Str), ("limit" : Str)] (defScope (top 16)) := ⟨rfl, rfl, rfl, by decide +kernel, rfl, by decide +kernel, by decide +kernel⟩
theorem m__law_row : mSs { Γ with lam := false } n__law_row c__law_row (defBody (top 16)) (defScope (top 16)) = true := by decide +kernel
def d__law_turned : He.DefD := ⟨(("_law_turned" : Str), none), ("_law_turned" : Str), ("_law_turned" : Str), defArgs (top 17), defBody (top 17), defScope (top 17), [], []⟩
theorem s__law_turned : FnScope n__law_turned [("world" : Str)] (defScope (top 17)) := ⟨rfl, rfl, rfl, by decide +kernel, rfl, by decide +kernel, by decide +kernel⟩
theorem m__law_turned : mSs { Γ with lam := false } n__law_turned c__law_turned (defBody (top 17)) (defScope (top 17)) = true := by decide +kernel
def d__law_both_ways : He.DefD := ⟨(("_law_both_ways" : Str), none), ("_law_both_ways" : Str), ("_law_both_ways" : Str), defArgs (top 18), defBody (top 18), defScope (top 18), [], []⟩
theorem s__law_both_ways : FnScope n__law_both_ways [("house" : Str)] (defScope (top 18)) := ⟨rfl, rfl, rfl, by decide +kernel, rfl, by decide +kernel, by decide +kernel⟩
theorem m__law_both_ways : mSs { Γ with lam := false } n__law_both_ways c__law_both_ways (defBody (top 18)) (defScope (top 18)) = true := by decide +kernel
def d__law_plain_house : He.DefD := ⟨(("_law_plain_house" : Str), none), ("_law_plain_house" : Str), ("_law_plain_house" : Str), defArgs (top 19), defBody (top 19), defScope (top 19), [], []⟩
theorem s__law_plain_house : FnScope n__law_plain_house [("bag" : Str), ("house" : Str)] (defScope (top 19)) := ⟨rfl, rfl, rfl, by decide +kernel, rfl, by decide +kernel, by decide +kernel⟩
theorem m__law_plain_house : mSs { Γ with lam := false } n__law_plain_house c__law_plain_house (defBody (top 19)) (defScope (top 19)) = true := by decide +kernel
def d_law : He.DefD := ⟨(("law" : Str), none), ("law" : Str), ("law" : Str), defArgs (top 20), defBody (top 20), defScope (top 20), [], []⟩
theorem s_law : FnScope n_law [("script" : Str)] (defScope (top 20)) := ⟨rfl, rfl, rfl, by decide +kernel, rfl, by decide +kernel, by decide +kernel⟩
theorem m_law : mLaw { Γ with lam := false } n_law ("_law_bags" : Str) 8 1 c_law (defBody (top 20)) (defScope (top 20)) = true := by decide +kernel
end G4
end

section
set_option Elab.async false
set_option linter.all false
set_option maxRecDepth 100000
set_option maxHeartbeats 0
set_option autoImplicit false
namespace G4
open PySem PySem.Spec PyProof.Rows L2 Co
def fn : List He.DefD := [d_all_rows, d_worlds, d_sign, d_outweighs, d_answer, d_tells, d__law_cell_at, d__law_draws, d__law_bag, d__law_bags, d__law_take, d__law_sorts, d__law_house, d__law_weighing, d__law_row, d__law_turned, d__law_both_ways, d__law_plain_house, d_law]
def fa : List He.Fa := [.glo ("all_rows" : Str), .glo ("worlds" : Str), .glo ("sign" : Str), .glo ("outweighs" : Str), .glo ("answer" : Str), .glo ("tells" : Str), .glo ("_law_cell_at" : Str), .glo ("_law_draws" : Str), .glo ("_law_bag" : Str), .glo ("_law_bags" : Str), .glo ("_law_take" : Str), .glo ("_law_sorts" : Str), .glo ("_law_house" : Str), .glo ("_law_weighing" : Str), .glo ("_law_row" : Str), .glo ("_law_turned" : Str), .glo ("_law_both_ways" : Str), .glo ("_law_plain_house" : Str), .glo ("law" : Str), .free ("len" : Str), .free ("isinstance" : Str), .free ("range" : Str), .free ("enumerate" : Str), .free ("zip" : Str), .free ("list" : Str), .free ("tuple" : Str), .free ("abs" : Str), .free ("int" : Str), .free ("max" : Str), .free ("min" : Str), .free ("sum" : Str), .free ("all" : Str), .free ("any" : Str), .free ("sorted" : Str), .free ("dict" : Str), .free ("str" : Str), .free ("bool" : Str), .free ("set" : Str), .free ("repr" : Str)]
def tf : List He.Defn := []
def exF (K : PySem.W.Frag) : Bool := true
abbrev RR : PySem.W.OpenRow := PySem.W.OpenLaw.row PySem.Challenge.rw_slyscales_k04_whole_what_sorts_have_to_d
abbrev hk : PySem.W.Hook := He.hookX 4 fa fn [] tf exF
def ob (s : PySem.W.SharedT) : He.AlX := He.obsX 4 fa fn [] tf exF (HandSHeadRun.getT s)
theorem ob_eq (s : PySem.W.SharedT) : ob s = hk.obs s.abs := He.obsX_eq (HandSHeadRun.getT_eq s)
theorem run (w : World) : HandSHeadRun.RunEq RR (PySem.W.view RR.prog [20]) hk ob 4000 [("__name__" : Str), ("all_rows" : Str), ("worlds" : Str), ("sign" : Str), ("outweighs" : Str), ("answer" : Str), ("tells" : Str), ("_law_cell_at" : Str), ("_law_draws" : Str), ("_law_bag" : Str), ("_law_bags" : Str), ("_law_take" : Str), ("_law_sorts" : Str), ("_law_house" : Str), ("_law_weighing" : Str), ("_law_row" : Str), ("_law_turned" : Str), ("_law_both_ways" : Str), ("_law_plain_house" : Str)] w := by
  intro os
  kernel_rfl
end G4
end

set_option Elab.async false
set_option linter.all false
set_option maxRecDepth 100000
set_option maxHeartbeats 0
set_option autoImplicit false
namespace G4
open PySem PySem.Spec PyProof.Rows L2 Co
theorem facts {w : World} {K : PySem.W.Frag} {h : Heap} {mg : Str → Option Value} {f : Addr} (X : K.In h) (G : h.Ns mainGlobals mg) (hfa : mg ("law" : Str) = some (.ref f)) (c : He.SaysX fa fn [] tf exF w h K) :
    LamX.LawAtS PySem.Challenge.rw_slyscales_k04_whole_what_sorts_have_to_d w K CX0 13 63 "script" mg f h := by
  have cd := c.t.d
  obtain ⟨fd_all_rows, F_all_rows⟩ := cd.def_ 0 (d := d_all_rows) rfl
  have g_all_rows : mg ("all_rows" : Str) = some (.ref (He.ga K ("all_rows" : Str))) := He.glo_ok X G (cd.fact 0 (f := .glo ("all_rows" : Str)) rfl)
  have b_all_rows : L2.Binds K fd_all_rows [("parts" : Str)] [] := F_all_rows.bindsN fun _ _ _ _ _ _ us hl => match us, hl with | [_], _ => rfl
  obtain ⟨fd_worlds, F_worlds⟩ := cd.def_ 1 (d := d_worlds) rfl
  have g_worlds : mg ("worlds" : Str) = some (.ref (He.ga K ("worlds" : Str))) := He.glo_ok X G (cd.fact 1 (f := .glo ("worlds" : Str)) rfl)
  have b_worlds : L2.Binds K fd_worlds [("house" : Str)] [] := F_worlds.bindsN fun _ _ _ _ _ _ us hl => match us, hl with | [_], _ => rfl
  obtain ⟨fd_sign, F_sign⟩ := cd.def_ 2 (d := d_sign) rfl
  have g_sign : mg ("sign" : Str) = some (.ref (He.ga K ("sign" : Str))) := He.glo_ok X G (cd.fact 2 (f := .glo ("sign" : Str)) rfl)
  have b_sign : L2.Binds K fd_sign [("number" : Str)] [] := F_sign.bindsN fun _ _ _ _ _ _ us hl => match us, hl with | [_], _ => rfl
  obtain ⟨fd_outweighs, F_outweighs⟩ := cd.def_ 3 (d := d_outweighs) rfl
  have g_outweighs : mg ("outweighs" : Str) = some (.ref (He.ga K ("outweighs" : Str))) := He.glo_ok X G (cd.fact 3 (f := .glo ("outweighs" : Str)) rfl)
  have b_outweighs : L2.Binds K fd_outweighs [("house" : Str), ("world" : Str), ("weighing" : Str)] [] := F_outweighs.bindsN fun _ _ _ _ _ _ us hl => match us, hl with | [_, _, _], _ => rfl
  obtain ⟨fd_answer, F_answer⟩ := cd.def_ 4 (d := d_answer) rfl
  have g_answer : mg ("answer" : Str) = some (.ref (He.ga K ("answer" : Str))) := He.glo_ok X G (cd.fact 4 (f := .glo ("answer" : Str)) rfl)
  have b_answer : L2.Binds K fd_answer [("house" : Str), ("world" : Str), ("ahead" : Str), ("weighing" : Str)] [] := F_answer.bindsN fun _ _ _ _ _ _ us hl => match us, hl with | [_, _, _, _], _ => rfl
  obtain ⟨fd_tells, F_tells⟩ := cd.def_ 5 (d := d_tells) rfl
  have g_tells : mg ("tells" : Str) = some (.ref (He.ga K ("tells" : Str))) := He.glo_ok X G (cd.fact 5 (f := .glo ("tells" : Str)) rfl)
  have b_tells : L2.Binds K fd_tells [("house" : Str), ("world" : Str), ("row" : Str)] [] := F_tells.bindsN fun _ _ _ _ _ _ us hl => match us, hl with | [_, _, _], _ => rfl
  obtain ⟨fd__law_cell_at, F__law_cell_at⟩ := cd.def_ 6 (d := d__law_cell_at) rfl
  have g__law_cell_at : mg ("_law_cell_at" : Str) = some (.ref (He.ga K ("_law_cell_at" : Str))) := He.glo_ok X G (cd.fact 6 (f := .glo ("_law_cell_at" : Str)) rfl)
  have b__law_cell_at : L2.Binds K fd__law_cell_at [("script" : Str), ("k" : Str)] [] := F__law_cell_at.bindsN fun _ _ _ _ _ _ us hl => match us, hl with | [_, _], _ => rfl
  obtain ⟨fd__law_draws, F__law_draws⟩ := cd.def_ 7 (d := d__law_draws) rfl
  have g__law_draws : mg ("_law_draws" : Str) = some (.ref (He.ga K ("_law_draws" : Str))) := He.glo_ok X G (cd.fact 7 (f := .glo ("_law_draws" : Str)) rfl)
  have b__law_draws : L2.Binds K fd__law_draws [("cell" : Str), ("many" : Str), ("size" : Str)] [] := F__law_draws.bindsN fun _ _ _ _ _ _ us hl => match us, hl with | [_, _, _], _ => rfl
  obtain ⟨fd__law_bag, F__law_bag⟩ := cd.def_ 8 (d := d__law_bag) rfl
  have g__law_bag : mg ("_law_bag" : Str) = some (.ref (He.ga K ("_law_bag" : Str))) := He.glo_ok X G (cd.fact 8 (f := .glo ("_law_bag" : Str)) rfl)
  have b__law_bag : L2.Binds K fd__law_bag [("script" : Str), ("k" : Str)] [] := F__law_bag.bindsN fun _ _ _ _ _ _ us hl => match us, hl with | [_, _], _ => rfl
  obtain ⟨fd__law_bags, F__law_bags⟩ := cd.def_ 9 (d := d__law_bags) rfl
  have g__law_bags : mg ("_law_bags" : Str) = some (.ref (He.ga K ("_law_bags" : Str))) := He.glo_ok X G (cd.fact 9 (f := .glo ("_law_bags" : Str)) rfl)
  have b__law_bags : L2.Binds K fd__law_bags [("script" : Str), ("limit" : Str)] [] := F__law_bags.bindsN fun _ _ _ _ _ _ us hl => match us, hl with | [_, _], _ => rfl
  obtain ⟨fd__law_take, F__law_take⟩ := cd.def_ 10 (d := d__law_take) rfl
  have g__law_take : mg ("_law_take" : Str) = some (.ref (He.ga K ("_law_take" : Str))) := He.glo_ok X G (cd.fact 10 (f := .glo ("_law_take" : Str)) rfl)
  have b__law_take : L2.Binds K fd__law_take [("bag" : Str), ("many" : Str)] [] := F__law_take.bindsN fun _ _ _ _ _ _ us hl => match us, hl with | [_, _], _ => rfl
  obtain ⟨fd__law_sorts, F__law_sorts⟩ := cd.def_ 11 (d := d__law_sorts) rfl
  have g__law_sorts : mg ("_law_sorts" : Str) = some (.ref (He.ga K ("_law_sorts" : Str))) := He.glo_ok X G (cd.fact 11 (f := .glo ("_law_sorts" : Str)) rfl)
  have b__law_sorts : L2.Binds K fd__law_sorts [("bag" : Str), ("limit" : Str), ("far" : Str)] [] := F__law_sorts.bindsN fun _ _ _ _ _ _ us hl => match us, hl with | [_, _, _], _ => rfl
  obtain ⟨fd__law_house, F__law_house⟩ := cd.def_ 12 (d := d__law_house) rfl
  have g__law_house : mg ("_law_house" : Str) = some (.ref (He.ga K ("_law_house" : Str))) := He.glo_ok X G (cd.fact 12 (f := .glo ("_law_house" : Str)) rfl)
  have b__law_house : L2.Binds K fd__law_house [("bag" : Str), ("bound" : Str), ("far" : Str)] [] := F__law_house.bindsN fun _ _ _ _ _ _ us hl => match us, hl with | [_, _, _], _ => rfl
  obtain ⟨fd__law_weighing, F__law_weighing⟩ := cd.def_ 13 (d := d__law_weighing) rfl
  have g__law_weighing : mg ("_law_weighing" : Str) = some (.ref (He.ga K ("_law_weighing" : Str))) := He.glo_ok X G (cd.fact 13 (f := .glo ("_law_weighing" : Str)) rfl)
  have b__law_weighing : L2.Binds K fd__law_weighing [("bag" : Str), ("house" : Str)] [] := F__law_weighing.bindsN fun _ _ _ _ _ _ us hl => match us, hl with | [_, _], _ => rfl
  obtain ⟨fd__law_row, F__law_row⟩ := cd.def_ 14 (d := d__law_row) rfl
  have g__law_row : mg ("_law_row" : Str) = some (.ref (He.ga K ("_law_row" : Str))) := He.glo_ok X G (cd.fact 14 (f := .glo ("_law_row" : Str)) rfl)
  have b__law_row : L2.Binds K fd__law_row [("bag" : Str), ("house" : Str), ("limit" : Str)] [] := F__law_row.bindsN fun _ _ _ _ _ _ us hl => match us, hl with | [_, _, _], _ => rfl
  obtain ⟨fd__law_turned, F__law_turned⟩ := cd.def_ 15 (d := d__law_turned) rfl
  have g__law_turned : mg ("_law_turned" : Str) = some (.ref (He.ga K ("_law_turned" : Str))) := He.glo_ok X G (cd.fact 15 (f := .glo ("_law_turned" : Str)) rfl)
  have b__law_turned : L2.Binds K fd__law_turned [("world" : Str)] [] := F__law_turned.bindsN fun _ _ _ _ _ _ us hl => match us, hl with | [_], _ => rfl
  obtain ⟨fd__law_both_ways, F__law_both_ways⟩ := cd.def_ 16 (d := d__law_both_ways) rfl
  have g__law_both_ways : mg ("_law_both_ways" : Str) = some (.ref (He.ga K ("_law_both_ways" : Str))) := He.glo_ok X G (cd.fact 16 (f := .glo ("_law_both_ways" : Str)) rfl)
  have b__law_both_ways : L2.Binds K fd__law_both_ways [("house" : Str)] [] := F__law_both_ways.bindsN fun _ _ _ _ _ _ us hl => match us, hl with | [_], _ => rfl
  obtain ⟨fd__law_plain_house, F__law_plain_house⟩ := cd.def_ 17 (d := d__law_plain_house) rfl
  have g__law_plain_house : mg ("_law_plain_house" : Str) = some (.ref (He.ga K ("_law_plain_house" : Str))) := He.glo_ok X G (cd.fact 17 (f := .glo ("_law_plain_house" : Str)) rfl)
  have b__law_plain_house : L2.Binds K fd__law_plain_house [("bag" : Str), ("house" : Str)] [] := F__law_plain_house.bindsN fun _ _ _ _ _ _ us hl => match us, hl with | [_, _], _ => rfl
  obtain ⟨fd_law, F_law⟩ := cd.def_ 18 (d := d_law) rfl
  have g_law : mg ("law" : Str) = some (.ref (He.ga K ("law" : Str))) := He.glo_ok X G (cd.fact 18 (f := .glo ("law" : Str)) rfl)
  have e := hfa.symm.trans g_law
  cases e
  let cs : List (Addr × Addr) := tf.map (He.cT K)
  let tt : List (Addr × Str) := []
  letI : Tbs := ⟨tt⟩
  have hb := FunD.bindsA (ps := ["script"]) F_law fun _ _ _ _ _ _ us hl => match us, hl with | [_], _ => rfl
  refine ⟨fd_law, cs, spLaw K, fun p hp => ?_, fun p hp => ?_, fun p hp => ?_, fun s v => hb s [v] rfl, fun H a ns hl _ ht hS => ?_, fun base hK hN hTB => ?_⟩
  · obtain ⟨q, hq, rfl⟩ := List.mem_map.mp hp
    exact c.empty q hq
  · obtain ⟨q, hq, rfl⟩ := List.mem_map.mp hp
    exact c.out q hq
  · obtain ⟨q, hq, rfl⟩ := List.mem_map.mp hp
    exact PySem.W.codeHd_of_K X (c.hd q hq)
  · refine ⟨a, ns, rfl, hS, fun p hp => ?_, hl, fun _ => rfl⟩
    have hp' : ∃ q ∈ cs, q.2 = p.1 := by
      have : p ∈ tt := hp
      exact absurd this (by simp [tt])
    obtain ⟨q, hq, e⟩ := hp'
    rw [← e]
    exact LamX.TabS.nil (ht q hq)
  · have glo : ∀ k, Glo Γ (lvl k) k PySem.Challenge.pw_slyscales_k04_whole_what_sorts_have_to_d w K mg base := by
      refine tab_ok rfl (by decide +kernel) (fun x hx => ?_) (fun x hx d hd => ?_) (fun e he => ?_)
      · simp only [Γ, List.mem_cons, List.mem_singleton, List.not_mem_nil, or_false] at hx
        rcases hx with rfl | rfl | rfl | rfl | rfl | rfl | rfl | rfl | rfl | rfl | rfl | rfl | rfl | rfl | rfl | rfl | rfl | rfl | rfl | rfl
        · exact He.free_ok X G (cd.fact 19 (f := .free ("len" : Str)) rfl)
        · exact He.free_ok X G (cd.fact 20 (f := .free ("isinstance" : Str)) rfl)
        · exact He.free_ok X G (cd.fact 21 (f := .free ("range" : Str)) rfl)
        · exact He.free_ok X G (cd.fact 22 (f := .free ("enumerate" : Str)) rfl)
        · exact He.free_ok X G (cd.fact 23 (f := .free ("zip" : Str)) rfl)
        · exact He.free_ok X G (cd.fact 24 (f := .free ("list" : Str)) rfl)
        · exact He.free_ok X G (cd.fact 25 (f := .free ("tuple" : Str)) rfl)
        · exact He.free_ok X G (cd.fact 26 (f := .free ("abs" : Str)) rfl)
        · exact He.free_ok X G (cd.fact 27 (f := .free ("int" : Str)) rfl)
        · exact He.free_ok X G (cd.fact 28 (f := .free ("max" : Str)) rfl)
        · exact He.free_ok X G (cd.fact 29 (f := .free ("min" : Str)) rfl)
        · exact He.free_ok X G (cd.fact 30 (f := .free ("sum" : Str)) rfl)
        · exact He.free_ok X G (cd.fact 31 (f := .free ("all" : Str)) rfl)
        · exact He.free_ok X G (cd.fact 32 (f := .free ("any" : Str)) rfl)
        · exact He.free_ok X G (cd.fact 33 (f := .free ("sorted" : Str)) rfl)
        · exact He.free_ok X G (cd.fact 34 (f := .free ("dict" : Str)) rfl)
        · exact He.free_ok X G (cd.fact 35 (f := .free ("str" : Str)) rfl)
        · exact He.free_ok X G (cd.fact 36 (f := .free ("bool" : Str)) rfl)
        · exact He.free_ok X G (cd.fact 37 (f := .free ("set" : Str)) rfl)
        · exact He.free_ok X G (cd.fact 38 (f := .free ("repr" : Str)) rfl)
      · simp only [Γ, List.mem_cons, List.mem_singleton, List.not_mem_nil, or_false] at hx
      · simp only [ent, List.mem_cons, List.mem_singleton, List.not_mem_nil, or_false] at he
        rcases he with rfl | rfl | rfl | rfl | rfl | rfl | rfl | rfl | rfl | rfl | rfl | rfl | rfl | rfl | rfl | rfl | rfl
        · exact ⟨_, _, _, core_ok F_all_rows s_all_rows m_all_rows g_all_rows b_all_rows⟩
        · exact ⟨_, _, _, core_ok F_worlds s_worlds m_worlds g_worlds b_worlds⟩
        · exact ⟨_, _, _, core_ok F_sign s_sign m_sign g_sign b_sign⟩
        · exact ⟨_, _, _, core_ok F_outweighs s_outweighs m_outweighs g_outweighs b_outweighs⟩
        · exact ⟨_, _, _, core_ok F_answer s_answer m_answer g_answer b_answer⟩
        · exact ⟨_, _, _, core_ok F_tells s_tells m_tells g_tells b_tells⟩
        · exact ⟨_, _, _, core_ok F__law_cell_at s__law_cell_at m__law_cell_at g__law_cell_at b__law_cell_at⟩
        · exact ⟨_, _, _, core_ok F__law_draws s__law_draws m__law_draws g__law_draws b__law_draws⟩
        · exact ⟨_, _, _, core_ok F__law_bag s__law_bag m__law_bag g__law_bag b__law_bag⟩
        · exact ⟨_, _, _, core_ok F__law_take s__law_take m__law_take g__law_take b__law_take⟩
        · exact ⟨_, _, _, core_ok F__law_sorts s__law_sorts m__law_sorts g__law_sorts b__law_sorts⟩
        · exact ⟨_, _, _, core_ok F__law_house s__law_house m__law_house g__law_house b__law_house⟩
        · exact ⟨_, _, _, core_ok F__law_weighing s__law_weighing m__law_weighing g__law_weighing b__law_weighing⟩
        · exact ⟨_, _, _, core_ok F__law_row s__law_row m__law_row g__law_row b__law_row⟩
        · exact ⟨_, _, _, core_ok F__law_turned s__law_turned m__law_turned g__law_turned b__law_turned⟩
        · exact ⟨_, _, _, core_ok F__law_both_ways s__law_both_ways m__law_both_ways g__law_both_ways b__law_both_ways⟩
        · exact ⟨_, _, _, core_ok F__law_plain_house s__law_plain_house m__law_plain_house g__law_plain_house b__law_plain_house⟩
    exact law_fn (k := 12) F_law s_law m_law (glo 12) g__law_bags F__law_bags.kp b__law_bags rfl (bags_fn F__law_bags s__law_bags m__law_bags (glo 11)) pure_law
end G4
open PySem PySem.W PySem.Calls PyProof.Rows
theorem PySem.Challenge.cw_slyscales_k04_whole_what_sorts_have_to_d_holds : PySem.Challenge.rw_slyscales_k04_whole_what_sorts_have_to_d.Holds := by
  w_on; o_law
  refine HandSHeadRun.head_any (r := OpenLaw.row PySem.Challenge.rw_slyscales_k04_whole_what_sorts_have_to_d) (q := view (OpenLaw.row PySem.Challenge.rw_slyscales_k04_whole_what_sorts_have_to_d).prog [20]) (H := G4.hk) (ob := G4.ob) (M := 4000) (loose := [("__name__" : PySem.Str), ("all_rows" : PySem.Str), ("worlds" : PySem.Str), ("sign" : PySem.Str), ("outweighs" : PySem.Str), ("answer" : PySem.Str), ("tells" : PySem.Str), ("_law_cell_at" : PySem.Str), ("_law_draws" : PySem.Str), ("_law_bag" : PySem.Str), ("_law_bags" : PySem.Str), ("_law_take" : PySem.Str), ("_law_sorts" : PySem.Str), ("_law_house" : PySem.Str), ("_law_weighing" : PySem.Str), ("_law_row" : PySem.Str), ("_law_turned" : PySem.Str), ("_law_both_ways" : PySem.Str), ("_law_plain_house" : PySem.Str)]) (d := HandSHeadRun.topDef (OpenLaw.row PySem.Challenge.rw_slyscales_k04_whole_what_sorts_have_to_d).prog 20) (kwd := []) G4.ob_eq
    (by kernel_rfl) (fun s => by kernel_rfl) G4.run (by kernel_rfl) (by kernel_rfl) (by kernel_rfl) (by rfl) (by first | assumption | decide +kernel) (by decide +kernel) ⟨rfl, rfl, rfl, rfl, rfl, by decide +kernel⟩ ?hw ?hc
  case hw => w_witness2
  case hc =>
    refine LamX.walk_ofTsE (l := PySem.Challenge.rw_slyscales_k04_whole_what_sorts_have_to_d) (n := 63) (k := 13) (x := "script") (CX := fun _ => L2.CX0) rfl (by decide) (by kernel_rfl) ⟨rfl, by decide, by decide⟩ ?F (fun _ _ _ _ _ z => z)
    intro w mg fa h Y G hmg0
    obtain ⟨K, KX, c⟩ := Y
    have hmg : mg ("law" : PySem.Str) = some (.ref fa) := by
      have e : (HandSHeadRun.topDef (OpenLaw.row PySem.Challenge.rw_slyscales_k04_whole_what_sorts_have_to_d).prog 20).name = ("law" : PySem.Str) := by kernel_rfl
      rw [← e]
      exact hmg0
    exact ⟨K, KX, G4.facts KX G hmg c⟩
