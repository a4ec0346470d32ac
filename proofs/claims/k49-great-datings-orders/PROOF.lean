import PyProof.Rows.All
import Wide.All
import OpenK.AllK
import Wide.FinOn
import PySem.Challenge.RW_digteller_k49_whole_great_datings_with_o
import HandS.ForMost
import HandS.ForExc
import KE.KDictCopyH
import HandS.Flow
import HandS.Style
import HandS.TupAny
import HandS.Wide
import HandS.Deep
import HandS.Conv
import HandS.IsInst
import HandS.Dict
import HandS.Text
import HandS.More
import HandS.Iter
import HandS.TryOnly
import HandS.ExcOwn
import HandS.SortInts
import KE.KEqDeep
import HandS.SortRule
set_option Elab.async false
set_option linter.all false
set_option maxRecDepth 100000
set_option maxHeartbeats 1000000
/-! Dn, part Ba: dicts whose keys are tuples of bools. -/
namespace Dn
open PySem PySem.Spec PyProof.Rows L2
open PySem (Leaf leafKind)
def bLf (b : Bool) : Leaf := .num (if b = true then 1 else 0)
def bKey (k : List Bool) : List Leaf := k.map bLf
abbrev XB := List (List Bool × Addr × Value)
def keyX (x : List Bool × Addr × Value) : List Leaf × Addr × Value := (bKey x.1, x.2)
/-- the object at a is a dict with these keys, at these addresses, and these values -/
def DBh (a : Addr) (xs : XB) (h : Heap) : Prop := xs.length ≤ sizeLine ∧ (a == sysModules) = false ∧ ∃ o es ep, h.get? a = some o ∧ o.ExactDict ∧ o.data = .dict es ep ∧ (∀ (P : Program) (w : World), es.toList = xs.map fun x => entryOfKey (tupleKind (leafKind P w)) (keyX x)) ∧ (xs.map (·.1)).Nodup
def DBo (a : Addr) (xs : XB) : HO := .ext (DBh a xs)
abbrev KB (H : Hp) : List (List Bool × V) → XB → Prop := Paired fun p q => p.1 = q.1 ∧ H q.2.1 = some (.tup (p.1.map .bl)) ∧ RelV p.2 q.2.2
theorem KB.keeps {H H' : Hp} {kvs : List (List Bool × V)} {xs : XB} (r : KB H kvs xs) (ht : ∀ b ys, H b = some (.tup ys) → H' b = some (.tup ys)) : KB H' kvs xs :=
  Paired.mapP r fun _ _ z => ⟨z.1, ht _ _ z.2.1, z.2.2⟩
theorem DBh.obj {a : Addr} {xs : XB} {h h' : Heap} (x : DBh a xs h) (k : ∀ o, h.get? a = some o → h'.get? a = some o) : DBh a xs h' := by
  obtain ⟨z, y, o, es, ep, e, r⟩ := x
  exact ⟨z, y, o, es, ep, k o e, r⟩
section
variable {P : Program} {w : World} {H : Hp} {h : Heap} {a : Addr}
end
theorem atKey_cons {k : List Bool} (q : List Bool × Addr × Value) (qs : XB) : atKey (q :: qs) k = if q.1 = k then some q.2 else atKey qs k := by
  by_cases z : q.1 = k <;> simp [atKey, z]
theorem KB.val {H : Hp} {kvs : List (List Bool × V)} {xs : XB} (r : KB H kvs xs) (k : List Bool) : RelO (valV kvs k) ((atKey xs k).map (·.2)) := by
  induction r with
  | nil => trivial
  | @cons p q _ _ h _ ih =>
    rw [atKey_cons]
    by_cases z : q.1 = k
    · rw [if_pos z, valV_pos (h.1.trans z)]
      exact h.2.2
    · rw [if_neg z, valV_neg (fun e => z (h.1.symm.trans e))]
      exact ih
theorem KB.repl {H : Hp} {kvs : List (List Bool × V)} {xs : XB} (r : KB H kvs xs) (k : List Bool) {y : V} {u : Value} (ry : RelV y u) : KB H (kvs.map fun kv => if kv.1 = k then (kv.1, y) else kv) (xs.map (putAt k u)) := by
  induction r with
  | nil => constructor
  | @cons p q _ _ h _ ih =>
    have eq : p.1 = k ↔ q.1 = k := by rw [h.1]
    refine Paired.cons ?_ ih
    unfold putAt
    dsimp only
    by_cases z : q.1 = k
    · rw [if_pos (eq.mpr z), if_pos z]
      exact ⟨h.1, h.2.1, ry⟩
    · rw [if_neg (mt eq.mp z), if_neg z]
      exact h
theorem KB.put {H : Hp} {kvs : List (List Bool × V)} {xs : XB} (r : KB H kvs xs) (k : List Bool) {b : Addr} {y : V} {u : Value} (hb : H b = some (.tup (k.map .bl))) (ry : RelV y u) : KB H (putK kvs k y) (storedH xs k b u) := by
  have known := (r.val k).isSome_eq
  rw [Option.isSome_map, ← valV_any] at known
  unfold putK storedH
  rw [known]
  split
  · exact r.repl k ry
  · exact Paired.snoc r ⟨rfl, hb, ry⟩
theorem KB.len {H : Hp} {kvs : List (List Bool × V)} {xs : XB} (r : KB H kvs xs) : kvs.length = xs.length := Paired.length r
section
variable {X : Cx} {pins : List (Addr × Obj)} {σ : L2.St} {H : Hp} {s : Shared} {a b : Addr} {v : V} {r' : Value} {A : Around} {E : Value → Shared → Prop} {kvs : List (List Bool × V)} {xs : XB} {k : List Bool}
end
end Dn

set_option Elab.async false
set_option linter.all false
set_option maxRecDepth 100000
/-! Dn, part A: values as trees, a store of mutable objects, the relation to the abstract heap, the readings. -/
namespace Dn
open PySem PySem.Spec PyProof.Rows L2

/-! ### values and objects -/
inductive Va where
  | non | bl (b : Bool) | int (i : Int) | str (x : Str)
  | tup (xs : List Va) | lst (xs : List Va) | ext (xs : List Va) | dicK (kvs : List (Key × Va)) | dicT (kvs : List (List Key × Va)) | ref (i : Nat)
inductive Ob where
  | lst (xs : List Va) | dicK (kvs : List (Key × Va)) | dicT (kvs : List (List Key × Va)) | ins (C : Addr) (fs : List (Str × Va)) | dead | fdK (od : Obj) (ks : List (Key × V)) (kvs : List (Key × Va)) | fdT (od : Obj) (ks : List (List Key × V)) (kvs : List (List Key × Va)) | dicB (kvs : List (List Bool × Va)) | fdB (od : Obj) (xs : XB) (kvs : List (List Bool × Va))
abbrev Sto := List Ob
abbrev En := List (Option Va)

mutual
inductive Rl (K : PySem.W.Frag) (F : Hp) (as : List Addr) : Va → V → Prop
  | non : Rl K F as .non .non
  | bl (b : Bool) : Rl K F as (.bl b) (.bl b)
  | int (i : Int) : Rl K F as (.int i) (.int i)
  | str (x : Str) : Rl K F as (.str x) (.str x)
  | tup {a : Addr} {xs : List Va} {vs : List V} : F a = some (.tup vs) → Rls K F as xs vs → Rl K F as (.tup xs) (.ref a)
  | lst {a : Addr} {xs : List Va} {vs : List V} : F a = some (.lst vs) → Rls K F as xs vs → Rl K F as (.lst xs) (.ref a)
  | ext {a : Addr} {xs : List Va} {vs : List V} : (SqL K F a vs ∨ SqT K F a vs) → Rls K F as xs vs → Rl K F as (.ext xs) (.ref a)
  | dicK {a : Addr} {kvs : List (Key × Va)} {ks : List (Key × V)} : F a = some (.dK ks) → RlK K F as kvs ks → Rl K F as (.dicK kvs) (.ref a)
  | dicT {a : Addr} {kvs : List (List Key × Va)} {ks : List (List Key × V)} : F a = some (.dT ks) → RlT K F as kvs ks → Rl K F as (.dicT kvs) (.ref a)
  | ref {i : Nat} {a : Addr} : as[i]? = some a → Rl K F as (.ref i) (.ref a)
inductive Rls (K : PySem.W.Frag) (F : Hp) (as : List Addr) : List Va → List V → Prop
  | nil : Rls K F as [] []
  | cons {x : Va} {v : V} {xs : List Va} {vs : List V} : Rl K F as x v → Rls K F as xs vs → Rls K F as (x :: xs) (v :: vs)
inductive RlK (K : PySem.W.Frag) (F : Hp) (as : List Addr) : List (Key × Va) → List (Key × V) → Prop
  | nil : RlK K F as [] []
  | cons {k : Key} {x : Va} {v : V} {xs : List (Key × Va)} {vs : List (Key × V)} : Rl K F as x v → RlK K F as xs vs → RlK K F as ((k, x) :: xs) ((k, v) :: vs)
inductive RlT (K : PySem.W.Frag) (F : Hp) (as : List Addr) : List (List Key × Va) → List (List Key × V) → Prop
  | nil : RlT K F as [] []
  | cons {k : List Key} {x : Va} {v : V} {xs : List (List Key × Va)} {vs : List (List Key × V)} : Rl K F as x v → RlT K F as xs vs → RlT K F as ((k, x) :: xs) ((k, v) :: vs)
end

/-- the frozen part and the list of addresses grow -/
structure Le (F : Hp) (as : List Addr) (F' : Hp) (as' : List Addr) : Prop where
  f : ∀ a o, F a = some o → F' a = some o
  a : ∀ (i : Nat) (p : Addr), as[i]? = some p → as'[i]? = some p
theorem Le.refl {F : Hp} {as : List Addr} : Le F as F as := ⟨fun _ _ h => h, fun _ _ h => h⟩
theorem Le.trans {F F1 F2 : Hp} {as as1 as2 : List Addr} (x : Le F as F1 as1) (y : Le F1 as1 F2 as2) : Le F as F2 as2 := ⟨fun a o h => y.f a o (x.f a o h), fun i p h => y.a i p (x.a i p h)⟩
theorem Le.new {F : Hp} {as : List Addr} {p : Addr} {o : HO} (h : F p = none) : Le F as (upd F p o) as := ⟨fun a u e => by
  rw [upd_ne (ne_of_none e h)]
  exact e, fun _ _ h => h⟩
theorem Le.push {F : Hp} {as : List Addr} {p : Addr} : Le F as F (as ++ [p]) := ⟨fun _ _ h => h, fun i a e => by
  rw [List.getElem?_append_left (List.getElem?_eq_some_iff.mp e).1]
  exact e⟩
theorem rd_mono {F F' : Hp} {a : Addr} {u : HO} (e : ∀ a o, F a = some o → F' a = some o) (h : Rd F a u) : Rd F' a u := by
  rcases h with h | ⟨o, h⟩
  · exact Or.inl (e a _ h)
  · exact Or.inr ⟨o, e a _ h⟩
theorem sqL_mono {K : PySem.W.Frag} {F F' : Hp} {a : Addr} {xs : List V} (e : ∀ a o, F a = some o → F' a = some o) (h : SqL K F a xs) : SqL K F' a xs := by
  rcases h with h | h
  · exact Or.inl (rd_mono e h)
  · exact Or.inr h
theorem sqT_mono {K : PySem.W.Frag} {F F' : Hp} {a : Addr} {xs : List V} (e : ∀ a o, F a = some o → F' a = some o) (h : SqT K F a xs) : SqT K F' a xs := by
  rcases h with h | h
  · exact Or.inl (rd_mono e h)
  · exact Or.inr h
section
variable {K : PySem.W.Frag} {F F' G : Hp} {as as' : List Addr}
mutual
theorem Rl.mono (e : Le F as F' as') : ∀ {x : Va} {v : V}, Rl K F as x v → Rl K F' as' x v
  | _, _, .non => .non
  | _, _, .bl b => .bl b
  | _, _, .int i => .int i
  | _, _, .str x => .str x
  | _, _, .tup h r => .tup (e.f _ _ h) (Rls.mono e r)
  | _, _, .lst h r => .lst (e.f _ _ h) (Rls.mono e r)
  | _, _, .ext h r => .ext (h.imp (sqL_mono e.f) (sqT_mono e.f)) (Rls.mono e r)
  | _, _, .dicK h r => .dicK (e.f _ _ h) (RlK.mono e r)
  | _, _, .dicT h r => .dicT (e.f _ _ h) (RlT.mono e r)
  | _, _, .ref h => .ref (e.a _ _ h)
theorem Rls.mono (e : Le F as F' as') : ∀ {xs : List Va} {vs : List V}, Rls K F as xs vs → Rls K F' as' xs vs
  | _, _, .nil => .nil
  | _, _, .cons h r => .cons (Rl.mono e h) (Rls.mono e r)
theorem RlK.mono (e : Le F as F' as') : ∀ {xs : List (Key × Va)} {vs : List (Key × V)}, RlK K F as xs vs → RlK K F' as' xs vs
  | _, _, .nil => .nil
  | _, _, .cons h r => .cons (Rl.mono e h) (RlK.mono e r)
theorem RlT.mono (e : Le F as F' as') : ∀ {xs : List (List Key × Va)} {vs : List (List Key × V)}, RlT K F as xs vs → RlT K F' as' xs vs
  | _, _, .nil => .nil
  | _, _, .cons h r => .cons (Rl.mono e h) (RlT.mono e r)
end
end
section
variable {K : PySem.W.Frag} {F F' H G : Hp} {as : List Addr} {xs ys : List Va} {vs ws : List V}
theorem Rls.len : ∀ {xs : List Va} {vs : List V}, Rls K F as xs vs → xs.length = vs.length
  | _, _, .nil => rfl
  | _, _, .cons _ r => congrArg (· + 1) (Rls.len r)
theorem Rls.app : ∀ {xs ys : List Va} {vs ws : List V}, Rls K F as xs vs → Rls K F as ys ws → Rls K F as (xs ++ ys) (vs ++ ws)
  | _, _, _, _, .nil, s => s
  | _, _, _, _, .cons h r, s => .cons h (Rls.app r s)
theorem Rls.get : ∀ {xs : List Va} {vs : List V} {i : Nat} {x : Va}, Rls K F as xs vs → xs[i]? = some x → ∃ v, vs[i]? = some v ∧ Rl K F as x v
  | _, _, _, _, .nil, e => by simp at e
  | _, _, 0, _, .cons h _, e => by
    simp at e
    subst e
    exact ⟨_, rfl, h⟩
  | _, _, i + 1, x, .cons _ r, e => by
    obtain ⟨v, h1, h2⟩ := Rls.get (i := i) (x := x) r (by simpa using e)
    exact ⟨v, by simpa using h1, h2⟩
theorem Rls.getV : ∀ {xs : List Va} {vs : List V} {i : Nat} {v : V}, Rls K F as xs vs → vs[i]? = some v → ∃ x, xs[i]? = some x ∧ Rl K F as x v
  | _, _, _, _, .nil, e => by simp at e
  | _, _, 0, _, .cons h _, e => by
    simp at e
    subst e
    exact ⟨_, rfl, h⟩
  | _, _, i + 1, x, .cons _ r, e => by
    obtain ⟨v, h1, h2⟩ := Rls.getV (i := i) (v := x) r (by simpa using e)
    exact ⟨v, by simpa using h1, h2⟩
theorem Rls.set {x : Va} {v : V} (h : Rl K F as x v) : ∀ {xs : List Va} {vs : List V} (i : Nat), Rls K F as xs vs → Rls K F as (xs.set i x) (vs.set i v)
  | _, _, _, .nil => .nil
  | _, _, 0, .cons _ t => .cons h t
  | _, _, i + 1, .cons q t => .cons q (Rls.set h i t)
theorem Rls.take : ∀ {xs : List Va} {vs : List V} (n : Nat), Rls K F as xs vs → Rls K F as (xs.take n) (vs.take n)
  | _, _, 0, _ => .nil
  | _, _, _ + 1, .nil => .nil
  | _, _, n + 1, .cons r t => .cons r (Rls.take n t)
theorem Rls.drop : ∀ {xs : List Va} {vs : List V} (n : Nat), Rls K F as xs vs → Rls K F as (xs.drop n) (vs.drop n)
  | _, _, 0, r => r
  | _, _, _ + 1, .nil => .nil
  | _, _, n + 1, .cons _ t => Rls.drop n t
theorem Rls.rep (h : Rls K F as xs vs) : ∀ k : Nat, Rls K F as (List.replicate k xs).flatten (List.replicate k vs).flatten
  | 0 => .nil
  | k + 1 => by
    rw [List.replicate_succ, List.replicate_succ, List.flatten_cons, List.flatten_cons]
    exact h.app (Rls.rep h k)
theorem Rls.ints : ∀ {ns : List Int} {vs : List V}, Rls K F as (ns.map Va.int) vs → vs = ns.map V.int
  | [], _, .nil => rfl
  | n :: ns, _, .cons (.int _) r => congrArg (V.int n :: ·) (Rls.ints r)
theorem Rls.ofInts : ∀ {ns : List Int}, Rls K F as (ns.map Va.int) (ns.map V.int)
  | [] => .nil
  | n :: ns => .cons (.int n) Rls.ofInts
theorem Rls.bls : ∀ {ns : List Bool} {vs : List V}, Rls K F as (ns.map Va.bl) vs → vs = ns.map V.bl
  | [], _, .nil => rfl
  | n :: ns, _, .cons (.bl _) r => congrArg (V.bl n :: ·) (Rls.bls r)
end

/-! ### the store and the heap -/
inductive RlF (K : PySem.W.Frag) (F : Hp) (as : List Addr) : List (Str × Va) → List (Str × V) → Prop
  | nil : RlF K F as [] []
  | cons {f : Str} {x : Va} {v : V} {xs : List (Str × Va)} {vs : List (Str × V)} : Rl K F as x v → RlF K F as xs vs → RlF K F as ((f, x) :: xs) ((f, v) :: vs)
theorem RlF.mono {K : PySem.W.Frag} {F F' : Hp} {as as' : List Addr} (e : Le F as F' as') : ∀ {xs : List (Str × Va)} {vs : List (Str × V)}, RlF K F as xs vs → RlF K F' as' xs vs
  | _, _, .nil => .nil
  | _, _, .cons h r => .cons (h.mono e) (RlF.mono e r)
inductive RlB (K : PySem.W.Frag) (F : Hp) (as : List Addr) : List (List Bool × Va) → List (List Bool × V) → Prop
  | nil : RlB K F as [] []
  | cons {k : List Bool} {x : Va} {v : V} {xs : List (List Bool × Va)} {vs : List (List Bool × V)} : Rl K F as x v → RlB K F as xs vs → RlB K F as ((k, x) :: xs) ((k, v) :: vs)
theorem RlB.mono {K : PySem.W.Frag} {F F' : Hp} {as as' : List Addr} (e : Le F as F' as') : ∀ {xs : List (List Bool × Va)} {vs : List (List Bool × V)}, RlB K F as xs vs → RlB K F' as' xs vs
  | _, _, .nil => .nil
  | _, _, .cons h r => .cons (h.mono e) (RlB.mono e r)
def ObR (K : PySem.W.Frag) (F : Hp) (as : List Addr) (H : Hp) (a : Addr) : Ob → Prop
  | .lst xs => F a = none ∧ ∃ vs, H a = some (.lst vs) ∧ Rls K F as xs vs
  | .dicK kvs => F a = none ∧ ∃ ks, H a = some (.dK ks) ∧ RlK K F as kvs ks
  | .dicT kvs => F a = none ∧ ∃ ks, H a = some (.dT ks) ∧ RlT K F as kvs ks
  | .ins C fs => F a = none ∧ ∃ dx gs, H a = some (.ins C dx gs) ∧ RlF K F as fs gs
  | .dead => True
  | .fdK od ks kvs => F a = none ∧ H a = some (.frz od (.dK ks)) ∧ RlK K F as kvs ks
  | .fdT od ks kvs => F a = none ∧ H a = some (.frz od (.dT ks)) ∧ RlT K F as kvs ks
  | .dicB kvs => F a = none ∧ ∃ ks xs, H a = some (DBo a xs) ∧ KB F ks xs ∧ RlB K F as kvs ks
  | .fdB od xs kvs => F a = none ∧ ∃ ks, H a = some (.frz od (DBo a xs)) ∧ KB F ks xs ∧ RlB K F as kvs ks
/-- F: what is frozen; G: what else stands and stays as it is; as: where the store's objects lie -/
structure Sim (K : PySem.W.Frag) (F G : Hp) (as : List Addr) (s : Sto) (H : Hp) : Prop where
  sub : ∀ a o, F a = some o → H a = some o
  fr : ∀ a o, G a = some o → H a = some o ∧ (F a = none ∨ (F a = some o ∧ ∃ vs, o = .tup vs)) ∧ a ∉ as
  len : as.length = s.length
  here : ∀ a ∈ as, ∃ o, H a = some o
  nd : as.Nodup
  obj : ∀ (i : Nat) (a : Addr) (o : Ob), as[i]? = some a → s[i]? = some o → ObR K F as H a o
section
variable {K : PySem.W.Frag} {F F' H H' G : Hp} {as as' : List Addr} {s : Sto}
theorem ObR.mono {a : Addr} {o : Ob} (e : Le F as F' as') (hF : F' a = none) (hH : H' a = H a) (h : ObR K F as H a o) : ObR K F' as' H' a o := by
  cases o with
  | lst xs =>
    obtain ⟨_, vs, h1, h2⟩ := h
    exact ⟨hF, vs, hH.trans h1, h2.mono e⟩
  | dicK kvs =>
    obtain ⟨_, vs, h1, h2⟩ := h
    exact ⟨hF, vs, hH.trans h1, h2.mono e⟩
  | dicT kvs =>
    obtain ⟨_, vs, h1, h2⟩ := h
    exact ⟨hF, vs, hH.trans h1, h2.mono e⟩
  | ins C fs =>
    obtain ⟨_, dx, gs, h1, h2⟩ := h
    exact ⟨hF, dx, gs, hH.trans h1, h2.mono e⟩
  | dead => trivial
  | fdK od ks kvs =>
    obtain ⟨_, h1, h2⟩ := h
    exact ⟨hF, hH.trans h1, h2.mono e⟩
  | fdT od ks kvs =>
    obtain ⟨_, h1, h2⟩ := h
    exact ⟨hF, hH.trans h1, h2.mono e⟩
  | dicB kvs =>
    obtain ⟨_, ks, xs, h1, h2, h3⟩ := h
    exact ⟨hF, ks, xs, hH.trans h1, h2.keeps fun b ys q => e.f _ _ q, h3.mono e⟩
  | fdB od xs kvs =>
    obtain ⟨_, ks, h1, h2, h3⟩ := h
    exact ⟨hF, ks, hH.trans h1, h2.keeps fun b ys q => e.f _ _ q, h3.mono e⟩
theorem Sim.fnone (S : Sim K F G as s H) {p : Addr} (h : H p = none) : F p = none := by
  cases q : F p with
  | none => rfl
  | some o =>
    rw [S.sub p o q] at h
    cases h
/-- a new frozen thing -/
theorem Sim.froz {p : Addr} {o : HO} (S : Sim K F G as s H) (h : H p = none) : Sim K (upd F p o) G as s (upd H p o) where
  sub := fun a u e => by
    by_cases q : a = p
    · subst q
      rw [upd_same] at e ⊢
      exact e
    · rw [upd_ne q] at e ⊢
      exact S.sub a u e
  fr := fun a u e => by
    obtain ⟨e1, e2, e3⟩ := S.fr a u e
    have ne := ne_of_none e1 h
    rw [upd_ne ne, upd_ne ne]
    exact ⟨e1, e2, e3⟩
  len := S.len
  here := fun a ha => by
    obtain ⟨o', q⟩ := S.here a ha
    rw [upd_ne (ne_of_none q h)]
    exact ⟨o', q⟩
  nd := S.nd
  obj := fun i a ob h1 h2 => by
    obtain ⟨o', q⟩ := S.here a (List.mem_of_getElem? h1)
    have ne := ne_of_none q h
    have r := S.obj i a ob h1 h2
    cases ob with
    | dead => trivial
    | lst xs => exact r.mono (Le.new (S.fnone h)) (by rw [upd_ne ne]; exact r.1) (upd_ne ne)
    | dicK xs => exact r.mono (Le.new (S.fnone h)) (by rw [upd_ne ne]; exact r.1) (upd_ne ne)
    | dicT xs => exact r.mono (Le.new (S.fnone h)) (by rw [upd_ne ne]; exact r.1) (upd_ne ne)
    | ins C xs => exact r.mono (Le.new (S.fnone h)) (by rw [upd_ne ne]; exact r.1) (upd_ne ne)
    | fdK od ks xs => exact r.mono (Le.new (S.fnone h)) (by rw [upd_ne ne]; exact r.1) (upd_ne ne)
    | fdT od ks xs => exact r.mono (Le.new (S.fnone h)) (by rw [upd_ne ne]; exact r.1) (upd_ne ne)
    | dicB xs => exact r.mono (Le.new (S.fnone h)) (by rw [upd_ne ne]; exact r.1) (upd_ne ne)
    | fdB od ks xs => exact r.mono (Le.new (S.fnone h)) (by rw [upd_ne ne]; exact r.1) (upd_ne ne)
theorem ObR.fn {a : Addr} {o : Ob} (h : ObR K F as H a o) (hd : o ≠ .dead) : F a = none := by
  cases o with
  | dead => exact absurd rfl hd
  | lst xs => exact h.1
  | dicK xs => exact h.1
  | dicT xs => exact h.1
  | ins C xs => exact h.1
  | fdK od ks xs => exact h.1
  | fdT od ks xs => exact h.1
  | dicB xs => exact h.1
  | fdB od ks xs => exact h.1
theorem ObR.mono2 {a : Addr} {o : Ob} (e : Le F as F' as') (hF : F a = none → F' a = none) (hH : H' a = H a) (h : ObR K F as H a o) : ObR K F' as' H' a o := by
  cases o with
  | dead => trivial
  | lst xs => exact h.mono e (hF h.1) hH
  | dicK xs => exact h.mono e (hF h.1) hH
  | dicT xs => exact h.mono e (hF h.1) hH
  | ins C xs => exact h.mono e (hF h.1) hH
  | fdK od ks xs => exact h.mono e (hF h.1) hH
  | fdT od ks xs => exact h.mono e (hF h.1) hH
  | dicB xs => exact h.mono e (hF h.1) hH
  | fdB od ks xs => exact h.mono e (hF h.1) hH
/-- a new object in the store; H2: the heap with it -/
theorem Sim.push {p : Addr} {o : Ob} (S : Sim K F G as s H) (h : H p = none) (hk : ∀ a u, H a = some u → H' a = some u) (hp : ObR K F (as ++ [p]) H' p o) (hh : ∃ u, H' p = some u) : Sim K F G (as ++ [p]) (s ++ [o]) H' where
  sub := fun a u e => hk a u (S.sub a u e)
  fr := fun a u e => by
    obtain ⟨e1, e2, e3⟩ := S.fr a u e
    refine ⟨hk a u e1, e2, fun z => ?_⟩
    rcases List.mem_append.mp z with z | z
    · exact e3 z
    · rw [List.mem_singleton.mp z, h] at e1
      cases e1
  len := by rw [List.length_append, List.length_append, S.len]; rfl
  here := fun a ha => by
    rcases List.mem_append.mp ha with q | q
    · obtain ⟨u, e⟩ := S.here a q
      exact ⟨u, hk a u e⟩
    · rw [List.mem_singleton.mp q]
      exact hh
  nd := by
    refine List.nodup_append.mpr ⟨S.nd, by simp, fun a ha b hb e => ?_⟩
    obtain ⟨u, q⟩ := S.here a ha
    rw [List.mem_singleton.mp hb] at e
    rw [e, h] at q
    cases q
  obj := fun i a ob h1 h2 => by
    by_cases hi : i < as.length
    · rw [List.getElem?_append_left hi] at h1
      rw [List.getElem?_append_left (by rw [← S.len]; exact hi)] at h2
      obtain ⟨u, q⟩ := S.here a (List.mem_of_getElem? h1)
      exact (S.obj i a ob h1 h2).mono2 Le.push (fun z => z) ((hk a u q).trans q.symm)
    · have l1 := (List.getElem?_eq_some_iff.mp h1).1
      rw [List.length_append] at l1
      have e : i = as.length := by simp at l1; omega
      subst e
      rw [List.getElem?_concat_length] at h1
      rw [S.len, List.getElem?_concat_length] at h2
      cases h1
      cases h2
      exact hp
/-- an object of the store changes -/
theorem Sim.change {i : Nat} {a : Addr} {o : Ob} {ho : HO} (S : Sim K F G as s H) (h1 : as[i]? = some a) (hf : F a = none) (hp : ObR K F as (upd H a ho) a o) : Sim K F G as (s.set i o) (upd H a ho) where
  sub := fun b u e => by
    have ne : b ≠ a := ne_of_none e hf
    rw [upd_ne ne]
    exact S.sub b u e
  fr := fun b u e => by
    obtain ⟨e1, e2, e3⟩ := S.fr b u e
    have ne : b ≠ a := fun z => e3 (by rw [z]; exact List.mem_of_getElem? h1)
    rw [upd_ne ne]
    exact ⟨e1, e2, e3⟩
  len := by rw [List.length_set, S.len]
  here := fun b hb => by
    by_cases q : b = a
    · subst q
      exact ⟨_, upd_same⟩
    · rw [upd_ne q]
      exact S.here b hb
  nd := S.nd
  obj := fun j b ob e1 e2 => by
    by_cases q : j = i
    · subst q
      rw [h1] at e1
      cases e1
      have l1 := (List.getElem?_eq_some_iff.mp e2).1
      rw [List.getElem?_set_self (by simpa using l1)] at e2
      cases e2
      exact hp
    · rw [List.getElem?_set_ne (Ne.symm q)] at e2
      have ne : b ≠ a := by
        intro e
        subst e
        exact q (by
          obtain ⟨l1, z1⟩ := List.getElem?_eq_some_iff.mp h1
          obtain ⟨l2, z2⟩ := List.getElem?_eq_some_iff.mp e1
          exact (List.getElem_inj S.nd).mp (z2.trans z1.symm))
      exact (S.obj j b ob e1 e2).mono2 Le.refl (fun z => z) (upd_ne ne)
/-- an object of the store is frozen -/
theorem Sim.freeze {i : Nat} {a : Addr} {ho : HO} (S : Sim K F G as s H) (h1 : as[i]? = some a) (hH : H a = some ho) (hf : F a = none) : Sim K (upd F a ho) G as (s.set i .dead) H where
  sub := fun b u e => by
    by_cases q : b = a
    · subst q
      rw [upd_same] at e
      cases e
      exact hH
    · rw [upd_ne q] at e
      exact S.sub b u e
  fr := fun b u e => by
    obtain ⟨e1, e2, e3⟩ := S.fr b u e
    have ne : b ≠ a := fun z => e3 (by rw [z]; exact List.mem_of_getElem? h1)
    rw [upd_ne ne]
    exact ⟨e1, e2, e3⟩
  len := by rw [List.length_set, S.len]
  here := S.here
  nd := S.nd
  obj := fun j b ob e1 e2 => by
    by_cases q : j = i
    · subst q
      have l1 := (List.getElem?_eq_some_iff.mp e2).1
      rw [List.getElem?_set_self (by simpa using l1)] at e2
      cases e2
      trivial
    · rw [List.getElem?_set_ne (Ne.symm q)] at e2
      have ne : b ≠ a := by
        intro e
        subst e
        exact q (by
          obtain ⟨l1, z1⟩ := List.getElem?_eq_some_iff.mp h1
          obtain ⟨l2, z2⟩ := List.getElem?_eq_some_iff.mp e1
          exact (List.getElem_inj S.nd).mp (z2.trans z1.symm))
      exact (S.obj j b ob e1 e2).mono2 (Le.new hf) (fun z => by rw [upd_ne ne]; exact z) rfl
theorem Sim.at (S : Sim K F G as s H) {i : Nat} {o : Ob} (h : s[i]? = some o) : ∃ a, as[i]? = some a := by
  have l := (List.getElem?_eq_some_iff.mp h).1
  rw [← S.len] at l
  exact ⟨as[i], List.getElem?_eq_getElem l⟩
end

/-! ### environments -/
structure ER (K : PySem.W.Frag) (F : Hp) (as : List Addr) (ε : En) (σ : L2.St) : Prop where
  len : ε.length = σ.length
  get : ∀ (i : Nat) (x : Va), ε[i]? = some (some x) → ∃ v, σ[i]? = some (some v) ∧ Rl K F as x v
section
variable {K : PySem.W.Frag} {F F' G : Hp} {as as' : List Addr} {ε : En} {σ : L2.St}
theorem ER.mono (e : Le F as F' as') (h : ER K F as ε σ) : ER K F' as' ε σ := ⟨h.len, fun i x q => by
  obtain ⟨v, h1, h2⟩ := h.get i x q
  exact ⟨v, h1, h2.mono e⟩⟩
theorem ER.set {x : Va} {v : V} (h : ER K F as ε σ) (i : Nat) (r : Rl K F as x v) : ER K F as (ε.set i (some x)) (σ.set i (some v)) := ⟨by rw [List.length_set, List.length_set, h.len], fun j y q => by
  by_cases e : i = j
  · subst e
    have l := (List.getElem?_eq_some_iff.mp q).1
    rw [List.length_set] at l
    rw [List.getElem?_set_self l] at q
    cases q
    exact ⟨v, List.getElem?_set_self (by rw [← h.len]; exact l), r⟩
  · rw [List.getElem?_set_ne e] at q ⊢
    exact h.get j y q⟩
theorem ER.unset (h : ER K F as ε σ) (i : Nat) : ER K F as (ε.set i none) (σ.set i none) := ⟨by rw [List.length_set, List.length_set, h.len], fun j y q => by
  by_cases e : i = j
  · subst e
    have l := (List.getElem?_eq_some_iff.mp q).1
    rw [List.length_set] at l
    rw [List.getElem?_set_self l] at q
    cases q
  · rw [List.getElem?_set_ne e] at q ⊢
    exact h.get j y q⟩
def wip (ε : En) : List Nat → En
  | [] => ε
  | v :: vs => (wip ε vs).set v none
theorem ER.wipe (h : ER K F as ε σ) : ∀ vs : List Nat, ER K F as (wip ε vs) (L2.wipe σ vs)
  | [] => h
  | v :: vs => (ER.wipe h vs).unset v
end

/-! ### results and readings -/
inductive Rs (α : Type) where
  | ok (a : α) (s : Sto) | exc (c : Str) (s : Sto) | bad
def Rs.bind {α β : Type} : Rs α → (α → Sto → Rs β) → Rs β
  | .ok a s, k => k a s
  | .exc c s, _ => .exc c s
  | .bad, _ => .bad
abbrev DE := En → Sto → Rs Va
abbrev DT := En → Sto → Rs Bool
/-- arguments, one after another -/
abbrev DA := List DE
def evA : DA → En → Sto → Rs (List Va)
  | [], _, s => .ok [] s
  | d :: ds, ε, s => (d ε s).bind fun x s1 => (evA ds ε s1).bind fun xs s2 => .ok (x :: xs) s2
theorem evA_len : ∀ {ds : DA} {ε : En} {s s' : Sto} {xs : List Va}, evA ds ε s = .ok xs s' → xs.length = ds.length
  | [], _, _, _, _, h => by
    cases h
    rfl
  | d :: ds, ε, s, s', xs, h => by
    unfold evA at h
    cases q : d ε s with
    | bad =>
      rw [q] at h
      cases h
    | exc c s1 =>
      rw [q] at h
      cases h
    | ok x s1 =>
      rw [q] at h
      dsimp only [Rs.bind] at h
      cases q2 : evA ds ε s1 with
      | bad =>
        rw [q2] at h
        cases h
      | exc c s2 =>
        rw [q2] at h
        cases h
      | ok ys s2 =>
        rw [q2] at h
        cases h
        rw [List.length_cons, List.length_cons, evA_len q2]
/-- sizes, never reckoned by unfolding -/
def leq (a b : Nat) : Prop := a ≤ b
noncomputable instance (a b : Nat) : Decidable (leq a b) := Classical.propDecidable _
def inR (j : Int) : Prop := -1000000000 < j ∧ j < 1000000000
noncomputable instance (j : Int) : Decidable (inR j) := Classical.propDecidable _
inductive Fl where
  | nx (ε : En) (s : Sto) | ret (x : Va) (s : Sto) | brk (ε : En) (s : Sto) | ct (ε : En) (s : Sto) | exc (c : Str) (ε : En) (s : Sto) | bad
abbrev DS := En → Sto → Fl

/-- the classes of exceptions by name -/
abbrev Cls0 := Str → Value
section
variable (K : PySem.W.Frag) (CL : Cls0)
def Pst {α β : Type} (W : Value → Option Addr → Hp → Prop) (F G : Hp) (as : List Addr) (RA : Hp → List Addr → α → β → Prop) : Rs α → (β → Hp → Prop) → Prop
  | .ok x s', Q => ∀ F' as' H' v, Le F as F' as' → Sim K F' G as' s' H' → RA F' as' x v → Q v H'
  | .exc c s', _ => ∀ F' as' H', Le F as F' as' → Sim K F' G as' s' H' → W (CL c) none H'
  | .bad, _ => False
def PF (W : WX) (F G : Hp) (as : List Addr) : Fl → Ends → Prop
  | .nx ε' s', D => ∀ F' as' σ' H', Le F as F' as' → Sim K F' G as' s' H' → ER K F' as' ε' σ' → D.nx σ' H'
  | .ret x s', D => ∀ F' as' H' v, Le F as F' as' → Sim K F' G as' s' H' → Rl K F' as' x v → D.rt v H'
  | .brk ε' s', D => ∀ F' as' σ' H', Le F as F' as' → Sim K F' G as' s' H' → ER K F' as' ε' σ' → D.bk σ' H'
  | .ct ε' s', D => ∀ F' as' σ' H', Le F as F' as' → Sim K F' G as' s' H' → ER K F' as' ε' σ' → D.ct σ' H'
  | .exc c ε' s', _ => ∀ F' as' σ' H', Le F as F' as' → Sim K F' G as' s' H' → ER K F' as' ε' σ' → W (CL c) none σ' H'
  | .bad, _ => False
def tD (W : WX) (d : DE) : TE := fun σ H Q => ∃ F G as ε s, Sim K F G as s H ∧ ER K F as ε σ ∧ Pst K CL (fun c d H => W c d σ H) F G as (Rl K) (d ε s) Q
def tDT (W : WX) (d : DT) : TT := fun σ H Q => ∃ F G as ε s, Sim K F G as s H ∧ ER K F as ε σ ∧ Pst K CL (fun c d H => W c d σ H) F G as (fun _ _ x v => x = v) (d ε s) Q
def tDA (W : WX) (d : DA) : TA := fun σ H Q => ∃ F G as ε s, Sim K F G as s H ∧ ER K F as ε σ ∧ Pst K CL (fun c d H => W c d σ H) F G as (Rls K) (evA d ε s) Q
def tDS (W : WX) (d : DS) : TS := fun D σ H => ∃ F G as ε s, Sim K F G as s H ∧ ER K F as ε σ ∧ PF K CL W F G as (d ε s) D
end
section
variable {K : PySem.W.Frag} {CL : Cls0} {W : Value → Option Addr → Hp → Prop} {F F' G : Hp} {as as' : List Addr}
theorem Pst.le {α β : Type} {RA : Hp → List Addr → α → β → Prop} {r : Rs α} {Q : β → Hp → Prop} (e : Le F as F' as') (h : Pst K CL W F G as RA r Q) : Pst K CL W F' G as' RA r Q := by
  cases r with
  | ok x s => exact fun F2 as2 H v l => h F2 as2 H v (e.trans l)
  | exc c s => exact fun F2 as2 H l => h F2 as2 H (e.trans l)
  | bad => exact h
theorem Pst.bind {α β γ δ : Type} {RA : Hp → List Addr → α → β → Prop} {RC : Hp → List Addr → γ → δ → Prop} {r : Rs α} {k : α → Sto → Rs γ} {Q : δ → Hp → Prop} (h : Pst K CL W F G as RC (r.bind k) Q) :
    Pst K CL W F G as RA r (fun v H1 => ∃ F1 as1 s1 x, Le F as F1 as1 ∧ Sim K F1 G as1 s1 H1 ∧ RA F1 as1 x v ∧ Pst K CL W F1 G as1 RC (k x s1) Q) := by
  cases r with
  | ok x s => exact fun F1 as1 H1 v l S ra => ⟨F1, as1, s, x, l, S, ra, h.le l⟩
  | exc c s => exact h
  | bad => exact h
theorem Pst.ok {α β : Type} {RA : Hp → List Addr → α → β → Prop} {x : α} {s : Sto} {Q : β → Hp → Prop} {H G : Hp} {v : β} (h : Pst K CL W F G as RA (.ok x s) Q) (l : Le F as F' as') (S : Sim K F' G as' s H) (r : RA F' as' x v) : Q v H := h F' as' H v l S r
theorem PF.le {W : WX} {r : Fl} {D : Ends} (e : Le F as F' as') (h : PF K CL W F G as r D) : PF K CL W F' G as' r D := by
  cases r with
  | nx x s => exact fun F2 as2 σ H l => h F2 as2 σ H (e.trans l)
  | brk x s => exact fun F2 as2 σ H l => h F2 as2 σ H (e.trans l)
  | ct x s => exact fun F2 as2 σ H l => h F2 as2 σ H (e.trans l)
  | ret x s => exact fun F2 as2 σ H l => h F2 as2 σ H (e.trans l)
  | exc c x s => exact fun F2 as2 σ H l => h F2 as2 σ H (e.trans l)
  | bad => exact h
end
section
variable {X : Cx}
theorem pe_weak {e : Expr} {t t' : TE} (h : PE X e t) (q : ∀ σ H Q, t' σ H Q → t σ H Q) : PE X e t' := ⟨fun pins s σ H Q I w => h.run pins s σ H Q I (q σ H Q w)⟩
theorem pt_weak {e : Expr} {t t' : TT} (h : PT X e t) (q : ∀ σ H Q, t' σ H Q → t σ H Q) : PT X e t' := ⟨fun pins s σ H Q I w => h.run pins s σ H Q I (q σ H Q w)⟩
theorem pw_weak {e : Expr} {t t' : TT} (h : PW X e t) (q : ∀ σ H Q, t' σ H Q → t σ H Q) : PW X e t' := ⟨fun wh pins s σ H Q I w => h.run wh pins s σ H Q I (q σ H Q w)⟩
theorem pa_weak {e : List Expr} {t t' : TA} (h : PA X e t) (q : ∀ σ H Q, t' σ H Q → t σ H Q) : PA X e t' := ⟨fun pos pins s σ H Q I w => h.run pos pins s σ H Q I (q σ H Q w)⟩
theorem ps_weak {st : Stmt} {t t' : TS} (h : PS X st t) (q : ∀ D σ H, t' D σ H → t D σ H) : PS X st t' := ⟨fun pins s σ H D I w => h.run pins s σ H D I (q D σ H w)⟩
theorem pss_weak {st : List Stmt} {t t' : TS} (h : PSs X st t) (q : ∀ D σ H, t' D σ H → t D σ H) : PSs X st t' := ⟨fun pins s σ H D I w => h.run pins s σ H D I (q D σ H w)⟩
end
end Dn

set_option Elab.async false
set_option linter.all false
set_option maxRecDepth 100000
set_option maxHeartbeats 1000000
/-! Dn, part B: expressions and tests. -/
namespace Dn
open PySem PySem.Spec PyProof.Rows L2

abbrev RE (X : Cx) (CL : Cls0) (W : WX) (e : Expr) (d : DE) : Prop := PE X e (tD X.K CL W d)
abbrev RT (X : Cx) (CL : Cls0) (W : WX) (e : Expr) (d : DT) : Prop := PT X e (tDT X.K CL W d)
abbrev RW (X : Cx) (CL : Cls0) (W : WX) (e : Expr) (d : DT) : Prop := PW X e (tDT X.K CL W d)
abbrev RA (X : Cx) (CL : Cls0) (W : WX) (es : List Expr) (d : DA) : Prop := PA X es (tDA X.K CL W d)

section
variable {K : PySem.W.Frag} {CL : Cls0} {W : Value → Option Addr → Hp → Prop} {F F' H G : Hp} {as as' : List Addr} {s : Sto}
theorem Pst.imp {α β : Type} {RA : Hp → List Addr → α → β → Prop} {r : Rs α} {Q Q' : β → Hp → Prop} (h : Pst K CL W F G as RA r Q) (q : ∀ v H, Q v H → Q' v H) : Pst K CL W F G as RA r Q' := by
  cases r with
  | ok x s => exact fun F2 as2 H v l S ra => q v H (h F2 as2 H v l S ra)
  | exc c s => exact h
  | bad => exact h
/-- the same relation, the answer read otherwise -/
theorem Pst.conv {α β γ : Type} {RA : Hp → List Addr → α → β → Prop} {RB : Hp → List Addr → α → γ → Prop} {r : Rs α} {Q : β → Hp → Prop} {Q' : γ → Hp → Prop} (h : Pst K CL W F G as RA r Q) (q : ∀ F' as' x v H, RB F' as' x v → ∃ w, RA F' as' x w ∧ (Q w H → Q' v H)) : Pst K CL W F G as RB r Q' := by
  cases r with
  | ok x s => exact fun F2 as2 H v l S rb => let ⟨w, ra, f⟩ := q F2 as2 x v H rb; f (h F2 as2 H w l S ra)
  | exc c s => exact h
  | bad => exact h
end

theorem Pst.okv {K : PySem.W.Frag} {CL : Cls0} {W : Value → Option Addr → Hp → Prop} {F H G : Hp} {as : List Addr} {s : Sto} {x : Va} {v : V} {Q : VK} (h : Pst K CL W F G as (Rl K) (.ok x s) Q) (S : Sim K F G as s H) (r : Rl K F as x v) : Q v H := h.ok Le.refl S r
/-! ### reading the store -/
def seqL : Va → Sto → Option (List Va)
  | .lst xs, _ => some xs
  | .ref i, s => match s[i]? with | some (.lst xs) => some xs | _ => none
  | _, _ => none
def seqT : Va → Option (List Va)
  | .tup xs => some xs
  | _ => none
/-- a list or a tuple, read -/
def seqA : Va → Sto → Option (List Va)
  | .lst xs, _ => some xs
  | .tup xs, _ => some xs
  | .ext xs, _ => some xs
  | .ref i, s => match s[i]? with | some (.lst xs) => some xs | _ => none
  | _, _ => none
section
variable {K : PySem.W.Frag} {CL : Cls0} {W : Value → Option Addr → Hp → Prop} {F F' H G : Hp} {as as' : List Addr} {s : Sto} {x : Va} {v : V} {xs : List Va}
theorem Sim.ref (S : Sim K F G as s H) {i : Nat} {a : Addr} {o : Ob} (h : as[i]? = some a) (e : s[i]? = some o) : ObR K F as H a o := S.obj i a o h e
theorem seqL_ok (S : Sim K F G as s H) (r : Rl K F as x v) (h : seqL x s = some xs) : ∃ a vs, v = .ref a ∧ H a = some (.lst vs) ∧ Rls K F as xs vs := by
  cases x with
  | lst ys =>
    cases r with
    | lst hf hr =>
      simp only [seqL, Option.some.injEq] at h
      subst h
      exact ⟨_, _, rfl, S.sub _ _ hf, hr⟩
  | ref i =>
    cases r with
    | ref ha =>
      simp only [seqL] at h
      split at h
      · rename_i ys e
        cases h
        obtain ⟨_, vs, h1, h2⟩ := S.ref ha e
        exact ⟨_, vs, rfl, h1, h2⟩
      · cases h
  | _ => simp [seqL] at h
theorem seqT_ok (S : Sim K F G as s H) (r : Rl K F as x v) (h : seqT x = some xs) : ∃ a vs, v = .ref a ∧ H a = some (.tup vs) ∧ Rls K F as xs vs := by
  cases x with
  | tup ys =>
    cases r with
    | tup hf hr =>
      simp only [seqT, Option.some.injEq] at h
      subst h
      exact ⟨_, _, rfl, S.sub _ _ hf, hr⟩
  | _ => simp [seqT] at h
theorem seqA_ok (S : Sim K F G as s H) (r : Rl K F as x v) (h : seqA x s = some xs) : ∃ a vs, v = .ref a ∧ (SqL K H a vs ∨ SqT K H a vs) ∧ Rls K F as xs vs := by
  cases x with
  | lst ys =>
    obtain ⟨a, vs, h1, h2, h3⟩ := seqL_ok S r (show seqL (.lst ys) s = some xs from h)
    exact ⟨a, vs, h1, .inl (SqL.of h2), h3⟩
  | ref i =>
    obtain ⟨a, vs, h1, h2, h3⟩ := seqL_ok S r (show seqL (.ref i) s = some xs from h)
    exact ⟨a, vs, h1, .inl (SqL.of h2), h3⟩
  | tup ys =>
    obtain ⟨a, vs, h1, h2, h3⟩ := seqT_ok S r (show seqT (.tup ys) = some xs from h)
    exact ⟨a, vs, h1, .inr (SqT.of h2), h3⟩
  | ext ys =>
    cases r with
    | ext hf hr =>
      simp only [seqA, Option.some.injEq] at h
      subst h
      exact ⟨_, _, rfl, hf.imp (sqL_mono S.sub) (sqT_mono S.sub), hr⟩
  | _ => simp [seqA] at h

/-! ### making -/
/-- a new list: frozen, or (bx) an object of the store -/
def mkL (bx : Bool) (xs : List Va) (s : Sto) : Rs Va := if bx then .ok (.ref s.length) (s ++ [.lst xs]) else .ok (.lst xs) s
theorem mkL_ok {bx : Bool} {vs : List V} {Q : VK} (S : Sim K F G as s H) (r : Rls K F as xs vs) (h : Pst K CL W F G as (Rl K) (mkL bx xs s) Q) : ∀ p, H p = none → Q (.ref p) (upd H p (.lst vs)) := by
  intro p hp
  cases bx with
  | false => exact h.ok (Le.new (S.fnone hp)) (S.froz hp) (.lst upd_same (r.mono (Le.new (S.fnone hp))))
  | true =>
    refine h.ok (Le.push (p := p)) (S.push (o := .lst xs) hp (fun a u e => by rw [upd_ne (ne_of_none e hp)]; exact e) ⟨S.fnone hp, vs, upd_same, r.mono Le.push⟩ ⟨_, upd_same⟩) (.ref ?_)
    rw [← S.len]
    exact List.getElem?_concat_length
theorem mkT_ok {vs : List V} {Q : VK} (S : Sim K F G as s H) (r : Rls K F as xs vs) (h : Pst K CL W F G as (Rl K) (.ok (.tup xs) s) Q) : ∀ p, H p = none → Q (.ref p) (upd H p (.tup vs)) := by
  intro p hp
  exact h.ok (Le.new (S.fnone hp)) (S.froz hp) (.tup upd_same (r.mono (Le.new (S.fnone hp))))
end

/-! ### operations by value -/
def Op2 (K : PySem.W.Frag) (r : R2) (g : Va → Va → Sto → Rs Va) : Prop := ∀ (CL : Cls0) (W : Value → Option Addr → Hp → Prop) F G as s H x y v u Q, Sim K F G as s H → Rl K F as x v → Rl K F as y u → Pst K CL W F G as (Rl K) (g x y s) Q → r v u H Q
def Op1 (K : PySem.W.Frag) (r : V → Hp → VK → Prop) (g : Va → Sto → Rs Va) : Prop := ∀ (CL : Cls0) (W : Value → Option Addr → Hp → Prop) F G as s H x v Q, Sim K F G as s H → Rl K F as x v → Pst K CL W F G as (Rl K) (g x s) Q → r v H Q
def OpN (K : PySem.W.Frag) (r : List V → Hp → VK → Prop) (g : List Va → Sto → Rs Va) : Prop := ∀ (CL : Cls0) (W : Value → Option Addr → Hp → Prop) F G as s H x v Q, Sim K F G as s H → Rls K F as x v → Pst K CL W F G as (Rl K) (g x s) Q → r v H Q
def dBin (g : Va → Va → Sto → Rs Va) (da db : DE) : DE := fun ε s => (da ε s).bind fun x s1 => (db ε s1).bind fun y s2 => g x y s2
def dUn (g : Va → Sto → Rs Va) (da : DE) : DE := fun ε s => (da ε s).bind g
abbrev dNil : DA := []
abbrev dCons (da : DE) (dr : DA) : DA := da :: dr
def dApp (g : List Va → Sto → Rs Va) (da : DA) : DE := fun ε s => (evA da ε s).bind g
section
variable {K : PySem.W.Frag} {CL : Cls0} {W : WX} {σ : L2.St} {H G : Hp}
theorem tD_bin {r : R2} {g : Va → Va → Sto → Rs Va} {da db : DE} {Q : VK} (hg : Op2 K r g) (h : tD K CL W (dBin g da db) σ H Q) : tOp r (tD K CL W da) (tD K CL W db) σ H Q := by
  obtain ⟨F, G, as, ε, s, S, E, h⟩ := h
  refine ⟨F, G, as, ε, s, S, E, Pst.imp (Pst.bind h) fun v H1 ⟨F1, as1, s1, x, l, S1, rx, h1⟩ => ?_⟩
  refine ⟨F1, G, as1, ε, s1, S1, E.mono l, Pst.imp (Pst.bind h1) fun u H2 ⟨F2, as2, s2, y, l2, S2, ry, h2⟩ => ?_⟩
  exact hg _ _ _ _ _ _ _ _ _ _ _ _ S2 (rx.mono l2) ry h2
theorem tD_un {r : V → Hp → VK → Prop} {g : Va → Sto → Rs Va} {da : DE} {Q : VK} (hg : Op1 K r g) (h : tD K CL W (dUn g da) σ H Q) : tUn r (tD K CL W da) σ H Q := by
  obtain ⟨F, G, as, ε, s, S, E, h⟩ := h
  exact ⟨F, G, as, ε, s, S, E, Pst.imp (Pst.bind h) fun v H1 ⟨F1, as1, s1, x, l, S1, rx, h1⟩ => hg _ _ _ _ _ _ _ _ _ _ S1 rx h1⟩
theorem tD_app {r : List V → Hp → VK → Prop} {g : List Va → Sto → Rs Va} {da : DA} {Q : VK} (hg : OpN K r g) (h : tD K CL W (dApp g da) σ H Q) : tCB r (tDA K CL W da) σ H Q := by
  obtain ⟨F, G, as, ε, s, S, E, h⟩ := h
  exact ⟨F, G, as, ε, s, S, E, Pst.imp (Pst.bind h) fun v H1 ⟨F1, as1, s1, x, l, S1, rx, h1⟩ => hg _ _ _ _ _ _ _ _ _ _ S1 rx h1⟩
theorem Op2.or {r r' : R2} {g g' : Va → Va → Sto → Rs Va} (h : Op2 K r g) (h' : Op2 K r' g') : Op2 K (fun x y H Q => r x y H Q ∨ r' x y H Q) (fun x y s => match g x y s with | .bad => g' x y s | o => o) := by
  intro CL W F G as s H x y v u Q S rx ry q
  dsimp only at q
  cases e : g x y s with
  | ok a s' =>
    rw [e] at q
    exact .inl (h CL W F G as s H x y v u Q S rx ry (by rw [e]; exact q))
  | exc c s' =>
    rw [e] at q
    exact .inl (h CL W F G as s H x y v u Q S rx ry (by rw [e]; exact q))
  | bad =>
    rw [e] at q
    exact .inr (h' CL W F G as s H x y v u Q S rx ry q)
theorem OpN.or {r r' : List V → Hp → VK → Prop} {g g' : List Va → Sto → Rs Va} (h : OpN K r g) (h' : OpN K r' g') : OpN K (fun x H Q => r x H Q ∨ r' x H Q) (fun x s => match g x s with | .bad => g' x s | o => o) := by
  intro CL W F G as s H x v Q S rx q
  dsimp only at q
  cases e : g x s with
  | ok a s' =>
    rw [e] at q
    exact .inl (h CL W F G as s H x v Q S rx (by rw [e]; exact q))
  | exc c s' =>
    rw [e] at q
    exact .inl (h CL W F G as s H x v Q S rx (by rw [e]; exact q))
  | bad =>
    rw [e] at q
    exact .inr (h' CL W F G as s H x v Q S rx q)
end

/-! ### names, constants, argument lists, displays -/
def dV (i : Nat) : DE := fun ε s => match ε[i]? with | some (some x) => .ok x s | _ => .bad
def dC (x : Va) : DE := fun _ s => .ok x s
section
variable {X : Cx} {CL : Cls0} {W : WX} {e a b : Expr} {es : List Expr} {pos : Pos} {da db : DE} {dr : DA}
theorem re_var (i : Nat) {x : Str} {pos : Pos} (hN : X.N[i]? = some x := by rfl) (hv : Vis X.env.scope x := by first | exact Or.inl rfl | exact Or.inr (Or.inl rfl) | exact Or.inr (Or.inr rfl)) (hd : (x == ("__debug__" : Str)) = false := by decide)
    (hcd : (x == ("__classdict__" : Str)) = false := by decide) : RE X CL W (.Name x pos) (dV i) := pe_weak (pe_var hN hv hd hcd) fun σ H Q h => by
  obtain ⟨F, G, as, ε, s, S, E, h⟩ := h
  unfold dV at h
  split at h
  · rename_i y q
    obtain ⟨v, h1, h2⟩ := E.get i y q
    exact ⟨v, h1, h.ok Le.refl S h2⟩
  · exact h.elim
theorem re_c {x : Va} {v : V} {e : Expr} (h : PE X e (tC v)) (r : ∀ F as, Rl X.K F as x v) : RE X CL W e (dC x) := pe_weak h fun σ H Q q => by
  obtain ⟨F, G, as, ε, s, S, E, q⟩ := q
  exact q.ok Le.refl S (r F as)
theorem re_int {i j} : RE X CL W (.Constant (.int i) j pos) (dC (.int i)) := re_c pe_int fun _ _ => .int i
theorem re_bl {i j} : RE X CL W (.Constant (.bool i) j pos) (dC (.bl i)) := re_c pe_bl fun _ _ => .bl i
theorem re_non {j} : RE X CL W (.Constant .none j pos) (dC .non) := re_c pe_non fun _ _ => .non
theorem re_str {i j} : RE X CL W (.Constant (.str i) j pos) (dC (.str i)) := re_c pe_str fun _ _ => .str i
theorem ra_nil : RA X CL W [] dNil := pa_weak pa_nil fun σ H Q q => by
  obtain ⟨F, G, as, ε, s, S, E, q⟩ := q
  exact q.ok Le.refl S .nil
theorem ra_cons (ha : RE X CL W e da) (hr : RA X CL W es dr) (hs : starEach (e :: es) X.env = (false, eval e X.env) :: starEach es X.env := by rfl) : RA X CL W (e :: es) (dCons da dr) := pa_weak (pa_cons ha hr hs) fun σ H Q q => by
  obtain ⟨F, G, as, ε, s, S, E, h⟩ := q
  refine ⟨F, G, as, ε, s, S, E, Pst.imp (Pst.bind h) fun v H1 ⟨F1, as1, s1, x, l, S1, rx, h1⟩ => ?_⟩
  refine ⟨F1, G, as1, ε, s1, S1, E.mono l, Pst.imp (Pst.bind h1) fun u H2 ⟨F2, as2, s2, y, l2, S2, ry, h2⟩ => ?_⟩
  exact h2.ok Le.refl S2 (.cons (rx.mono l2) ry)
/-- a display; bx: an object of the store -/
def dLst (bx : Bool) (da : DA) : DE := fun ε s => (evA da ε s).bind fun xs s1 => mkL bx xs s1
def dTup (da : DA) : DE := fun ε s => (evA da ε s).bind fun xs s1 => .ok (.tup xs) s1
/-- the items that were reckoned are as many as were written -/
theorem Pst.evA {X : Cx} {CL : Cls0} {W : Value → Option Addr → Hp → Prop} {F G : Hp} {as : List Addr} {ds : DA} {ε : En} {s : Sto} {Q : List V → Hp → Prop} (h : Pst X.K CL W F G as (Rls X.K) (Dn.evA ds ε s) fun vs H => vs.length = ds.length → Q vs H) : Pst X.K CL W F G as (Rls X.K) (Dn.evA ds ε s) Q := by
  cases q : Dn.evA ds ε s with
  | ok xs s' =>
    rw [q] at h
    exact fun F' as' H' v l S r => h F' as' H' v l S r (by rw [← r.len, evA_len q])
  | exc c s' =>
    rw [q] at h
    exact h
  | bad =>
    rw [q] at h
    exact h
theorem le1000 {n : Nat} (h : n ≤ 1000) : n ≤ sizeLine := Nat.le_trans h (by decide)
theorem re_lst (bx : Bool) (h : RA X CL W es dr) (hl : dr.length ≤ 1000 := by decide) : RE X CL W (.List es pos) (dLst bx dr) := pe_weak (pe_lst h) fun σ H Q q => by
  obtain ⟨F, G, as, ε, s, S, E, h⟩ := q
  refine ⟨F, G, as, ε, s, S, E, Pst.evA (Pst.imp (Pst.bind h) fun v H1 ⟨F1, as1, s1, x, l, S1, rx, h1⟩ hv => ?_)⟩
  exact ⟨by rw [hv]; exact le1000 hl, mkL_ok S1 rx h1⟩
theorem re_tup {k : Nat} (h : RA X CL W es dr) (hl : dr.length ≤ 1000 := by decide) : RE X CL W (.Tuple es k pos) (dTup dr) := pe_weak (pe_tup h) fun σ H Q q => by
  obtain ⟨F, G, as, ε, s, S, E, h⟩ := q
  refine ⟨F, G, as, ε, s, S, E, Pst.evA (Pst.imp (Pst.bind h) fun v H1 ⟨F1, as1, s1, x, l, S1, rx, h1⟩ hv => ?_)⟩
  exact ⟨by rw [hv]; exact le1000 hl, mkT_ok S1 rx h1⟩

/-! ### operators -/
theorem re_bin {op : Operator} {r : R2} {g : Va → Va → Sto → Rs Va} (ho : OpR X (binaryOp op) r) (hg : Op2 X.K r g) (ha : RE X CL W a da) (hb : RE X CL W b db) : RE X CL W (.BinOp a op b pos) (dBin g da db) :=
  pe_weak (pe_op ho ha hb) fun _ _ _ h => tD_bin hg h
theorem re_un {op : UnaryOp} {r : V → Hp → VK → Prop} {g : Va → Sto → Rs Va} (ho : UnR X (unaryOp op) r) (hg : Op1 X.K r g) (ha : RE X CL W a da) : RE X CL W (.UnaryOp op a pos) (dUn g da) :=
  pe_weak (pe_un ho ha) fun _ _ _ h => tD_un hg h
theorem re_cmp {op : CmpOp} {r : R2} {g : Va → Va → Sto → Rs Va} (ho : OpR X (compareOp op) r) (hg : Op2 X.K r g) (ha : RE X CL W a da) (hb : RE X CL W b db) (hm : behindInMarks op b = false := by rfl) : RE X CL W (.Compare a [op] [b] pos) (dBin g da db) :=
  pe_weak (pe_cmpR ho ha hb hm) fun _ _ _ h => tD_bin hg h
theorem re_ix {r : R2} {g : Va → Va → Sto → Rs Va} (ho : IxR X r) (hg : Op2 X.K r g) (ha : RE X CL W a da) (hb : RE X CL W b db) (hp : PlainIx b := by exact fun _ _ => rfl) : RE X CL W (.Subscript a b pos) (dBin g da db) :=
  pe_weak (pe_ix ho ha hb hp) fun _ _ _ h => tD_bin hg h
end

/-! #### arithmetic -/
def gInt2 (C : Int → Int → Prop) [∀ i j, Decidable (C i j)] (f : Int → Int → Va) : Va → Va → Sto → Rs Va
  | .int i, .int j, s => if C i j then .ok (f i j) s else .bad
  | _, _, _ => .bad
section
variable {K : PySem.W.Frag}
theorem op2_I {C : Int → Int → Prop} [∀ i j, Decidable (C i j)] {f : Int → Int → Int} : Op2 K (rI C fun i j => .int (f i j)) (gInt2 C fun i j => .int (f i j)) := by
  intro CL W F G as s H x y v u Q S rx ry q
  unfold gInt2 at q
  split at q
  · rename_i i j s0
    cases rx
    cases ry
    split at q
    · rename_i hc
      exact ⟨_, _, rfl, rfl, hc, q.ok Le.refl S (.int _)⟩
    · exact q.elim
  · exact q.elim
theorem op2_I0 {f : Int → Int → Int} : Op2 K (rI0 fun i j => .int (f i j)) (gInt2 (fun _ _ => True) fun i j => .int (f i j)) := by
  intro CL W F G as s H x y v u Q S rx ry q
  unfold gInt2 at q
  split at q
  · rename_i i j s0
    cases rx
    cases ry
    exact ⟨_, _, rfl, rfl, Pst.okv (by simpa using q) S (.int _)⟩
  · exact q.elim
theorem op2_B0 {f : Int → Int → Bool} : Op2 K (rI0 fun i j => .bl (f i j)) (gInt2 (fun _ _ => True) fun i j => .bl (f i j)) := by
  intro CL W F G as s H x y v u Q S rx ry q
  unfold gInt2 at q
  split at q
  · rename_i i j s0
    cases rx
    cases ry
    exact ⟨_, _, rfl, rfl, Pst.okv (by simpa using q) S (.bl _)⟩
  · exact q.elim
end
noncomputable instance : ∀ i j, Decidable (CMul i j) := fun _ _ => Classical.propDecidable _
noncomputable instance : ∀ i j, Decidable (CDiv i j) := fun _ _ => Classical.propDecidable _
noncomputable instance : ∀ i j, Decidable (CPow i j) := fun _ _ => Classical.propDecidable _
noncomputable instance : ∀ i j, Decidable (CMulW i j) := fun _ _ => Classical.propDecidable _
def szOk (i : Int) (n : Nat) : Prop := -(2 ^ 63) ≤ i ∧ i < 2 ^ 63 ∧ n * i.toNat ≤ sizeLine
noncomputable instance : ∀ i n, Decidable (szOk i n) := fun _ _ => Classical.propDecidable _
/-- + of ints, texts, tuples, lists -/
noncomputable def gAdd (bx : Bool) (x y : Va) (s : Sto) : Rs Va := match x, y with
  | .int i, .int j => .ok (.int (i + j)) s
  | .str a, .str b => if leq (a.length + b.length) sizeLine then .ok (.str (a ++ b)) s else .bad
  | .tup xs, .tup ys => if leq (xs.length + ys.length) sizeLine then .ok (.tup (xs ++ ys)) s else .bad
  | x, y => match seqL x s, seqL y s with
    | some xs, some ys => if leq (xs.length + ys.length) sizeLine then mkL bx (xs ++ ys) s else .bad
    | _, _ => .bad
def rAddA (K : PySem.W.Frag) : R2 := fun x y H Q => (rI0 fun i j => .int (i + j)) x y H Q ∨ (∃ i j, x = .str i ∧ y = .str j ∧ i.length + j.length ≤ sizeLine ∧ Q (.str (i ++ j)) H) ∨ rCatA K x y H Q ∨ rCat x y H Q
theorem op_addA {X : Cx} : OpR X (binaryOp .Add) (rAddA X.K) := op_add.or (op_add_str.or (op_catA.or op_cat))
theorem op2_add {K : PySem.W.Frag} {bx : Bool} : Op2 K (rAddA K) (gAdd bx) := by
  intro CL W F G as s H x y v u Q S rx ry q
  unfold gAdd at q
  split at q
  · cases rx
    cases ry
    exact .inl ⟨_, _, rfl, rfl, q.ok Le.refl S (.int _)⟩
  · cases rx
    cases ry
    split at q
    · rename_i hc
      exact .inr (.inl ⟨_, _, rfl, rfl, hc, q.ok Le.refl S (.str _)⟩)
    · exact q.elim
  · rename_i xs ys
    obtain ⟨a, vs, rfl, h2, h3⟩ := seqT_ok S rx (xs := xs) rfl
    obtain ⟨b, us, rfl, h5, h6⟩ := seqT_ok S ry (xs := ys) rfl
    split at q
    · rename_i hc
      refine .inr (.inr (.inl ⟨a, b, vs, us, rfl, rfl, SqT.of h2, SqT.of h5, by rw [← h3.len, ← h6.len]; exact hc, fun e => ?_, fun e1 e2 => ?_, fun _ _ => mkT_ok S (h3.app h6) q⟩))
      · subst e
        cases h3
        exact q.ok Le.refl S ry
      · subst e2
        cases h6
        rw [List.append_nil] at q
        exact q.ok Le.refl S rx
    · exact q.elim
  · split at q
    · rename_i xs ys e1 e2
      obtain ⟨a, vs, rfl, h2, h3⟩ := seqL_ok S rx e1
      obtain ⟨b, us, rfl, h5, h6⟩ := seqL_ok S ry e2
      split at q
      · rename_i hc
        exact .inr (.inr (.inr ⟨a, b, vs, us, rfl, rfl, h2, h5, by rw [← h3.len, ← h6.len]; exact hc, mkL_ok S (h3.app h6) q⟩))
      · exact q.elim
    · exact q.elim
/-- * of ints, of a list and an int -/
noncomputable def gMul (bx : Bool) (x y : Va) (s : Sto) : Rs Va := match x, y with
  | .int i, .int j => if CMul i j ∨ CMulW i j then .ok (.int (i * j)) s else .bad
  | x, .int k => match seqL x s with
    | some xs => if szOk k xs.length then mkL bx (List.replicate k.toNat xs).flatten s else .bad
    | none => .bad
  | _, _ => .bad
def rMulA : R2 := fun x y H Q => (rI CMul fun i j => .int (i * j)) x y H Q ∨ (rI CMulW fun i j => .int (i * j)) x y H Q ∨ rRep x y H Q
theorem op_mulA {X : Cx} : OpR X (binaryOp .Mult) rMulA := op_mul.or (op_mulW.or op_rep)
theorem op2_mul {K : PySem.W.Frag} {bx : Bool} : Op2 K rMulA (gMul bx) := by
  intro CL W F G as s H x y v u Q S rx ry q
  unfold gMul at q
  split at q
  · cases rx
    cases ry
    split at q
    · rename_i hc
      rcases hc with hc | hc
      · exact .inl ⟨_, _, rfl, rfl, hc, q.ok Le.refl S (.int _)⟩
      · exact .inr (.inl ⟨_, _, rfl, rfl, hc, q.ok Le.refl S (.int _)⟩)
    · exact q.elim
  · rename_i k _
    cases ry
    split at q
    · rename_i xs e1
      obtain ⟨a, vs, rfl, h2, h3⟩ := seqL_ok S rx e1
      split at q
      · rename_i hc
        exact .inr (.inr ⟨a, k, vs, rfl, rfl, h2, hc.1, hc.2.1, by rw [← h3.len]; exact hc.2.2, mkL_ok S (h3.rep _) q⟩)
      · exact q.elim
    · exact q.elim
  · exact q.elim
abbrev gSub := gInt2 (fun _ _ => True) fun i j => .int (i - j)
abbrev gMod := gInt2 (fun _ j => 0 < j) fun i j => .int (i % j)
noncomputable abbrev gFdiv := gInt2 CDiv fun i j => .int (i / j)
section
variable {X : Cx} {CL : Cls0} {W : WX} {e a b c : Expr} {es : List Expr} {pos : Pos} {da db dc : DE} {dr : DA}
theorem re_add (bx : Bool) (ha : RE X CL W a da) (hb : RE X CL W b db) : RE X CL W (.BinOp a .Add b pos) (dBin (gAdd bx) da db) := re_bin op_addA op2_add ha hb
theorem re_sub (ha : RE X CL W a da) (hb : RE X CL W b db) : RE X CL W (.BinOp a .Sub b pos) (dBin gSub da db) := re_bin op_sub op2_I0 ha hb
theorem re_mul (bx : Bool) (ha : RE X CL W a da) (hb : RE X CL W b db) : RE X CL W (.BinOp a .Mult b pos) (dBin (gMul bx) da db) := re_bin op_mulA op2_mul ha hb
theorem re_mod (ha : RE X CL W a da) (hb : RE X CL W b db) : RE X CL W (.BinOp a .Mod b pos) (dBin gMod da db) := re_bin op_mod op2_I ha hb
theorem re_fdiv (ha : RE X CL W a da) (hb : RE X CL W b db) : RE X CL W (.BinOp a .FloorDiv b pos) (dBin gFdiv da db) := re_bin op_fdiv op2_I ha hb
def gNeg : Va → Sto → Rs Va
  | .int i, s => .ok (.int (-i)) s
  | _, _ => .bad
theorem op1_neg {K : PySem.W.Frag} : Op1 K (rU fun i => .int (-i)) gNeg := by
  intro CL W F G as s H x v Q S rx q
  unfold gNeg at q
  split at q
  · cases rx
    exact ⟨_, rfl, q.ok Le.refl S (.int _)⟩
  · exact q.elim
theorem re_neg (ha : RE X CL W a da) : RE X CL W (.UnaryOp .USub a pos) (dUn gNeg da) := re_un un_neg op1_neg ha
end

/-! #### data, for == -/
mutual
def toPy : Va → Option PyData
  | .non => some .none
  | .bl b => some (.bool b)
  | .int i => some (.int i)
  | .str x => some (.str x)
  | .tup xs => (toPys xs).map .tuple
  | .lst xs => (toPys xs).map .list
  | .ext _ => none
  | .dicK _ => none
  | .dicT _ => none
  | .ref _ => none
def toPys : List Va → Option (List PyData)
  | [] => some []
  | x :: xs => match toPy x, toPys xs with
    | some d, some ds => some (d :: ds)
    | _, _ => none
end
def toPyS (x : Va) (s : Sto) : Option PyData := match x with
  | .ref i => match s[i]? with
    | some (.lst xs) => (toPys xs).map .list
    | _ => none
  | x => toPy x
section
variable {K : PySem.W.Frag} {F H G : Hp} {as : List Addr} {s : Sto}
mutual
theorem toPy_dp (sub : ∀ a o, F a = some o → H a = some o) : ∀ {x : Va} {v : V} {d : PyData}, Rl K F as x v → toPy x = some d → Dp K H v d
  | _, _, _, .non, h => by
    simp only [toPy, Option.some.injEq] at h
    subst h
    exact .non
  | _, _, _, .bl b, h => by
    simp only [toPy, Option.some.injEq] at h
    subst h
    exact .bl b
  | _, _, _, .int i, h => by
    simp only [toPy, Option.some.injEq] at h
    subst h
    exact .int i
  | _, _, _, .str x, h => by
    simp only [toPy, Option.some.injEq] at h
    subst h
    exact .str x
  | _, _, _, .tup (xs := xs) hf hr, h => by
    simp only [toPy] at h
    cases e : toPys xs with
    | none =>
      rw [e] at h
      cases h
    | some ds =>
      rw [e] at h
      cases h
      exact .tup (SqT.of (sub _ _ hf)) (toPys_dp sub hr e)
  | _, _, _, .lst (xs := xs) hf hr, h => by
    simp only [toPy] at h
    cases e : toPys xs with
    | none =>
      rw [e] at h
      cases h
    | some ds =>
      rw [e] at h
      cases h
      exact .lst (SqL.of (sub _ _ hf)) (toPys_dp sub hr e)
  | _, _, _, .ext _ _, h => by simp [toPy] at h
  | _, _, _, .dicK _ _, h => by simp [toPy] at h
  | _, _, _, .dicT _ _, h => by simp [toPy] at h
  | _, _, _, .ref _, h => by simp [toPy] at h
theorem toPys_dp (sub : ∀ a o, F a = some o → H a = some o) : ∀ {xs : List Va} {vs : List V} {ds : List PyData}, Rls K F as xs vs → toPys xs = some ds → DpAll K H vs ds
  | _, _, _, .nil, h => by
    simp only [toPys, Option.some.injEq] at h
    subst h
    exact .nil
  | _, _, _, .cons (x := x) (xs := xs) h1 h2, h => by
    simp only [toPys] at h
    split at h
    · rename_i d ds e1 e2
      cases h
      exact .cons (toPy_dp sub h1 e1) (toPys_dp sub h2 e2)
    · cases h
end
theorem toPyS_dp {x : Va} {v : V} {d : PyData} (S : Sim K F G as s H) (r : Rl K F as x v) (h : toPyS x s = some d) : Dp K H v d := by
  unfold toPyS at h
  split at h
  · rename_i i
    cases r with
    | ref ha =>
      split at h
      · rename_i xs e
        obtain ⟨_, vs, h1, h2⟩ := S.ref ha e
        cases e2 : toPys xs with
        | none =>
          rw [e2] at h
          cases h
        | some ds =>
          rw [e2] at h
          cases h
          exact .lst (SqL.of h1) (toPys_dp S.sub h2 e2)
      · cases h
  · exact toPy_dp S.sub r h
end
def scalA : Va → Va → Bool
  | .non, .non => true | .non, .int _ => true | .int _, .non => true | .non, .bl _ => true | .bl _, .non => true | .non, .str _ => true | .str _, .non => true
  | .int _, .int _ => true | .bl _, .bl _ => true | .str _, .str _ => true
  | .int _, .str _ => true | .str _, .int _ => true | .bl _, .str _ => true | .str _, .bl _ => true
  | _, _ => false
/-- == of two scalars -/
def eqA : Va → Va → Bool
  | .non, .non => true
  | .int i, .int j => decide (i = j)
  | .bl i, .bl j => decide (i = j)
  | .str i, .str j => decide (i = j)
  | _, _ => false
def shp (d : PyData) : Prop := SeqAt.shaped d = true
noncomputable instance (d : PyData) : Decidable (shp d) := Classical.propDecidable _
noncomputable def gEq (neg : Bool) (x y : Va) (s : Sto) : Rs Va :=
  if scalA x y then .ok (.bl (neg != eqA x y)) s else
  match toPyS x s, toPyS y s with
  | some d, some e => if shp d ∧ shp e then .ok (.bl (neg != PyData.eqv d e)) s else .bad
  | _, _ => .bad
section
variable {K : PySem.W.Frag} {F H G : Hp} {as : List Addr} {x y : Va} {v u : V}
theorem scalA_ok (rx : Rl K F as x v) (ry : Rl K F as y u) (h : scalA x y = true) : scal v u = true ∧ decide (v = u) = eqA x y := by
  cases rx <;> cases ry <;> simp [scalA, scal, eqA] at h ⊢
end
theorem op2_eq {K : PySem.W.Frag} : Op2 K (fun x y H Q => rEq x y H Q ∨ rEqD K x y H Q) (gEq false) := by
  intro CL W F G as s H x y v u Q S rx ry q
  unfold gEq at q
  split at q
  · rename_i h
    obtain ⟨h1, h2⟩ := scalA_ok rx ry h
    refine .inl ⟨h1, ?_⟩
    rw [h2]
    exact Pst.okv (by simpa using q) S (.bl _)
  · split at q
    · rename_i d e h1 h2
      split at q
      · rename_i hc
        exact .inr ⟨d, e, toPyS_dp S rx h1, toPyS_dp S ry h2, hc.1, hc.2, Pst.okv (by simpa using q) S (.bl _)⟩
      · exact q.elim
    · exact q.elim
theorem op2_ne {K : PySem.W.Frag} : Op2 K (fun x y H Q => rNe x y H Q ∨ rNeD K x y H Q) (gEq true) := by
  intro CL W F G as s H x y v u Q S rx ry q
  unfold gEq at q
  split at q
  · rename_i h
    obtain ⟨h1, h2⟩ := scalA_ok rx ry h
    refine .inl ⟨h1, ?_⟩
    rw [h2]
    exact Pst.okv (by simpa using q) S (.bl _)
  · split at q
    · rename_i d e h1 h2
      split at q
      · rename_i hc
        exact .inr ⟨d, e, toPyS_dp S rx h1, toPyS_dp S ry h2, hc.1, hc.2, Pst.okv (by simpa using q) S (.bl _)⟩
      · exact q.elim
    · exact q.elim
/-- is, is not: None and bools -/
def gIs (neg : Bool) (x y : Va) (s : Sto) : Rs Va := match x, y with
  | .bl a, .bl b => .ok (.bl (neg != decide (a = b))) s
  | .non, .non => .ok (.bl (neg != true)) s
  | _, .non => .ok (.bl neg) s
  | _, _ => .bad
theorem op2_is {K : PySem.W.Frag} : Op2 K (fun x y H Q => (y = .non ∧ Q (.bl (decide (x = .non))) H) ∨ rIsB x y H Q) (gIs false) := by
  intro CL W F G as s H x y v u Q S rx ry q
  unfold gIs at q
  split at q
  · cases rx
    cases ry
    exact .inr ⟨_, _, rfl, rfl, Pst.okv (by simpa using q) S (.bl _)⟩
  · cases rx
    cases ry
    exact .inl ⟨rfl, q.ok Le.refl S (.bl _)⟩
  · rename_i h
    cases ry
    refine .inl ⟨rfl, ?_⟩
    rw [decide_eq_false (show ¬ v = .non by intro e; subst e; cases rx; exact h rfl)]
    exact q.ok Le.refl S (.bl _)
  · exact q.elim
theorem op2_isnot {K : PySem.W.Frag} : Op2 K (fun x y H Q => (y = .non ∧ Q (.bl (!decide (x = .non))) H) ∨ rNotB x y H Q) (gIs true) := by
  intro CL W F G as s H x y v u Q S rx ry q
  unfold gIs at q
  split at q
  · cases rx
    cases ry
    exact .inr ⟨_, _, rfl, rfl, Pst.okv (by simpa using q) S (.bl _)⟩
  · cases rx
    cases ry
    exact .inl ⟨rfl, q.ok Le.refl S (.bl _)⟩
  · rename_i h
    cases ry
    refine .inl ⟨rfl, ?_⟩
    rw [decide_eq_false (show ¬ v = .non by intro e; subst e; cases rx; exact h rfl)]
    exact q.ok Le.refl S (.bl _)
  · exact q.elim
section
variable {X : Cx} {CL : Cls0} {W : WX} {e a b c : Expr} {es : List Expr} {pos : Pos} {da db dc : DE} {dr : DA}
theorem op_eqA (hu : X.A.units + 64 < cLine) : OpR X (compareOp .Eq) (fun x y H Q => rEq x y H Q ∨ rEqD X.K x y H Q) := op_eq.or (op_eqD hu)
theorem op_neA (hu : X.A.units + 64 < cLine) : OpR X (compareOp .NotEq) (fun x y H Q => rNe x y H Q ∨ rNeD X.K x y H Q) := op_ne.or (op_neD hu)
theorem op_isA : OpR X (compareOp .Is) (fun x y H Q => (y = .non ∧ Q (.bl (decide (x = .non))) H) ∨ rIsB x y H Q) := op_isN.or op_isBl
theorem op_isnotA : OpR X (compareOp .IsNot) (fun x y H Q => (y = .non ∧ Q (.bl (!decide (x = .non))) H) ∨ rNotB x y H Q) := op_notN.or op_notBl
end
abbrev gLt := gInt2 (fun _ _ => True) fun i j => .bl (decide (i < j))
abbrev gLe := gInt2 (fun _ _ => True) fun i j => .bl (decide (i ≤ j))
abbrev gGt := gInt2 (fun _ _ => True) fun i j => .bl (decide (j < i))
abbrev gGe := gInt2 (fun _ _ => True) fun i j => .bl (decide (j ≤ i))
end Dn

set_option Elab.async false
set_option linter.all false
set_option maxRecDepth 100000
set_option maxHeartbeats 1000000
/-! Dn, part C: dicts read, in, tests, subscripts, slices, built-in calls. -/
namespace Dn
open PySem PySem.Spec PyProof.Rows L2

/-! ### dicts, read -/
def lk {κ α : Type} [DecidableEq κ] (kvs : List (κ × α)) (k : κ) : Option α := (kvs.find? fun kv => decide (kv.1 = k)).map (·.2)
def pt {κ α : Type} [DecidableEq κ] (kvs : List (κ × α)) (k : κ) (v : α) : List (κ × α) :=
  if (kvs.any fun kv => decide (kv.1 = k)) = true then kvs.map (fun kv => if kv.1 = k then (kv.1, v) else kv) else kvs ++ [(k, v)]
def kOf : Va → Option Key
  | .int i => some (.inl i)
  | .str x => some (.inr x)
  | _ => none
def ksOf : List Va → Option (List Key)
  | [] => some []
  | x :: xs => match kOf x, ksOf xs with
    | some k, some ks => some (k :: ks)
    | _, _ => none
def kVa : Key → Va
  | .inl i => .int i
  | .inr x => .str x
def dicK? : Va → Sto → Option (List (Key × Va))
  | .dicK kvs, _ => some kvs
  | .ref i, s => match s[i]? with | some (.dicK kvs) => some kvs | _ => none
  | _, _ => none
/-- .. a locked one, too -/
def dicKr? : Va → Sto → Option (List (Key × Va))
  | .dicK kvs, _ => some kvs
  | .ref i, s => match s[i]? with | some (.dicK kvs) => some kvs | some (.fdK _ _ kvs) => some kvs | _ => none
  | _, _ => none
def dicTr? : Va → Sto → Option (List (List Key × Va))
  | .dicT kvs, _ => some kvs
  | .ref i, s => match s[i]? with | some (.dicT kvs) => some kvs | some (.fdT _ _ kvs) => some kvs | _ => none
  | _, _ => none
/-- d[y], if it is there -/
def gLook (x y : Va) (s : Sto) : Option (Option Va) := match dicKr? x s with
  | some kvs => (kOf y).map (lk kvs)
  | none => match dicTr? x s with
    | some kvs => match y with | .tup ys => (ksOf ys).map (lk kvs) | _ => none
    | none => none
section
variable {K : PySem.W.Frag} {CL : Cls0} {W : Value → Option Addr → Hp → Prop} {F F' H G : Hp} {as as' : List Addr} {s : Sto} {x y : Va} {v u : V}
theorem kOf_ok {k : Key} (r : Rl K F as x v) (h : kOf x = some k) : v = kV k := by
  cases r <;> simp [kOf] at h <;> subst h <;> rfl
theorem ksOf_ok : ∀ {xs : List Va} {vs : List V} {ks : List Key}, Rls K F as xs vs → ksOf xs = some ks → vs = ks.map kV
  | _, _, _, .nil, h => by
    simp only [ksOf, Option.some.injEq] at h
    subst h
    rfl
  | _, _, _, .cons h1 h2, h => by
    simp only [ksOf] at h
    split at h
    · rename_i k ks e1 e2
      cases h
      rw [List.map_cons, ksOf_ok h2 e2, kOf_ok h1 e1]
    · cases h
theorem RlK.lk : ∀ {kvs : List (Key × Va)} {ks : List (Key × V)} (k : Key), RlK K F as kvs ks → (∃ x v, Dn.lk kvs k = some x ∧ valV ks k = some v ∧ Rl K F as x v) ∨ (Dn.lk kvs k = none ∧ valV ks k = none)
  | _, _, k, .nil => .inr ⟨rfl, rfl⟩
  | _, _, k, .cons (k := j) (xs := xs) (vs := vs) h r => by
    unfold Dn.lk valV
    rw [List.find?_cons, List.find?_cons]
    by_cases e : j = k
    · rw [decide_eq_true e]
      exact .inl ⟨_, _, rfl, rfl, h⟩
    · rw [decide_eq_false e]
      exact RlK.lk k r
theorem RlT.lk : ∀ {kvs : List (List Key × Va)} {ks : List (List Key × V)} (k : List Key), RlT K F as kvs ks → (∃ x v, Dn.lk kvs k = some x ∧ valV ks k = some v ∧ Rl K F as x v) ∨ (Dn.lk kvs k = none ∧ valV ks k = none)
  | _, _, k, .nil => .inr ⟨rfl, rfl⟩
  | _, _, k, .cons (k := j) (xs := xs) (vs := vs) h r => by
    unfold Dn.lk valV
    rw [List.find?_cons, List.find?_cons]
    by_cases e : j = k
    · rw [decide_eq_true e]
      exact .inl ⟨_, _, rfl, rfl, h⟩
    · rw [decide_eq_false e]
      exact RlT.lk k r
theorem dicK_ok {kvs : List (Key × Va)} (S : Sim K F G as s H) (r : Rl K F as x v) (h : dicK? x s = some kvs) : ∃ a ks, v = .ref a ∧ H a = some (.dK ks) ∧ RlK K F as kvs ks := by
  cases x with
  | dicK ys =>
    cases r with
    | dicK hf hr =>
      simp only [dicK?, Option.some.injEq] at h
      subst h
      exact ⟨_, _, rfl, S.sub _ _ hf, hr⟩
  | ref i =>
    cases r with
    | ref ha =>
      simp only [dicK?] at h
      split at h
      · rename_i ys e
        cases h
        obtain ⟨_, vs, h1, h2⟩ := S.ref ha e
        exact ⟨_, vs, rfl, h1, h2⟩
      · cases h
  | _ => simp [dicK?] at h
theorem dicKr_ok {kvs : List (Key × Va)} (S : Sim K F G as s H) (r : Rl K F as x v) (h : dicKr? x s = some kvs) : ∃ a ks, v = .ref a ∧ Rd H a (.dK ks) ∧ RlK K F as kvs ks := by
  cases x with
  | dicK ys =>
    cases r with
    | dicK hf hr =>
      simp only [dicKr?, Option.some.injEq] at h
      subst h
      exact ⟨_, _, rfl, .inl (S.sub _ _ hf), hr⟩
  | ref i =>
    cases r with
    | ref ha =>
      simp only [dicKr?] at h
      split at h
      · rename_i ys e
        cases h
        obtain ⟨_, vs, h1, h2⟩ := S.ref ha e
        exact ⟨_, vs, rfl, .inl h1, h2⟩
      · rename_i e
        cases h
        obtain ⟨_, h1, h2⟩ := S.ref ha e
        exact ⟨_, _, rfl, .inr ⟨_, h1⟩, h2⟩
      · cases h
  | _ => simp [dicKr?] at h
theorem dicTr_ok {kvs : List (List Key × Va)} (S : Sim K F G as s H) (r : Rl K F as x v) (h : dicTr? x s = some kvs) : ∃ a ks, v = .ref a ∧ Rd H a (.dT ks) ∧ RlT K F as kvs ks := by
  cases x with
  | dicT ys =>
    cases r with
    | dicT hf hr =>
      simp only [dicTr?, Option.some.injEq] at h
      subst h
      exact ⟨_, _, rfl, .inl (S.sub _ _ hf), hr⟩
  | ref i =>
    cases r with
    | ref ha =>
      simp only [dicTr?] at h
      split at h
      · rename_i ys e
        cases h
        obtain ⟨_, vs, h1, h2⟩ := S.ref ha e
        exact ⟨_, vs, rfl, .inl h1, h2⟩
      · rename_i e
        cases h
        obtain ⟨_, h1, h2⟩ := S.ref ha e
        exact ⟨_, _, rfl, .inr ⟨_, h1⟩, h2⟩
      · cases h
  | _ => simp [dicTr?] at h
theorem gLook_ok {o : Option Va} (S : Sim K F G as s H) (rx : Rl K F as x v) (ry : Rl K F as y u) (h : gLook x y s = some o) : ∃ a o', v = .ref a ∧ DGet H a u o' ∧ ((∃ z w, o = some z ∧ o' = some w ∧ Rl K F as z w) ∨ (o = none ∧ o' = none)) := by
  unfold gLook at h
  split at h
  · rename_i kvs e
    obtain ⟨a, ks, rfl, h1, h2⟩ := dicKr_ok S rx e
    cases e2 : kOf y with
    | none =>
      rw [e2] at h
      cases h
    | some k =>
      rw [e2] at h
      cases h
      refine ⟨a, valV ks k, rfl, by rw [kOf_ok ry e2]; exact .inl ⟨ks, k, h1, rfl, rfl⟩, ?_⟩
      rcases h2.lk k with ⟨z, w, q1, q2, q3⟩ | ⟨q1, q2⟩
      · exact .inl ⟨z, w, q1, q2, q3⟩
      · exact .inr ⟨q1, q2⟩
  · split at h
    · rename_i kvs e
      obtain ⟨a, ks, rfl, h1, h2⟩ := dicTr_ok S rx e
      split at h
      · rename_i ys
        obtain ⟨b, us, rfl, h3, h4⟩ := seqT_ok S ry (xs := ys) rfl
        cases e2 : ksOf ys with
        | none =>
          rw [e2] at h
          cases h
        | some k =>
          rw [e2] at h
          cases h
          refine ⟨a, valV ks k, rfl, .inr ⟨ks, k, b, h1, rfl, by rw [h3, ksOf_ok h4 e2], rfl⟩, ?_⟩
          rcases h2.lk k with ⟨z, w, q1, q2, q3⟩ | ⟨q1, q2⟩
          · exact .inl ⟨z, w, q1, q2, q3⟩
          · exact .inr ⟨q1, q2⟩
      · cases h
    · cases h
end
section
variable {X : Cx}
theorem ix_dict (hu : X.A.units + 64 < cLine) : IxR X (fun x y H Q => ∃ a v, x = .ref a ∧ DGet H a y (some v) ∧ Q v H) := by
  intro value slice pins s σ H x y v u Q I rx ry h hs
  obtain ⟨a, w, rfl, g, q⟩ := h
  cases rx
  have hT := dict_typeIs I g
  unfold subscriptTail
  refine wpAny_bind ?_
  rw [getitemInPython_of_ne hT.not_modules]
  refine wpAny_bind (wpAny_specialOf hT PySem.F.slot_dict_getitem.lookup ?_)
  have fin : wpAny (model X.prog X.w) X.A (subscripted slice false (.ref a) u) (fun r s₃ => wpAny (model X.prog X.w) X.A (letTemporaryGo value (.ref a) r >>= fun _ => pure r) (EP X pins σ Q) X.xe s₃) X.xe s := by
    rw [hs]
    exact wpAny_operating (wpAny_mono (d_getItem (Q := EP X pins σ Q) (by omega) I g ry fun w' s3 I3 rw' => ⟨w, H, I3, rw', q⟩) (fun r s₃ h₃ => wpAny_bind (wpAny_letTemporaryGo (wpAny_pure h₃))) fun _ _ x => x)
  first
    | exact wpAny_pure (wpAny_bind fin)
    | exact wpAny_bind (wpAny_pure (wpAny_bind fin))
    | exact wpAny_bind fin
theorem op_in_dict (hu : X.A.units + 64 < cLine) : OpR X (compareOp .In) (fun y x H Q => ∃ a o, x = .ref a ∧ DGet H a y o ∧ Q (.bl o.isSome) H) := by
  intro pins s σ H y x iv u Q I ry rx h
  obtain ⟨a, o, rfl, g, q⟩ := h
  cases rx
  exact d_in (by omega) I g ry fun s3 I3 => ⟨.bl o.isSome, H, I3, rfl, q⟩
end

/-! ### in, not in -/
def flatA : Va → Bool
  | .non => true | .bl _ => true | .int _ => true | .str _ => true | _ => false
def eqFA : Va → Va → Bool
  | .non, .non => true
  | .bl a, .bl b => a == b
  | .bl a, .int b => (if a then 1 else 0) == b
  | .int a, .bl b => a == (if b then 1 else 0)
  | .int a, .int b => a == b
  | .str a, .str b => a == b
  | _, _ => false
theorem one_sign {w : Str} {c : Nat} (h : w.cps.toList = [c]) : w = ⟨#[c]⟩ := by
  obtain ⟨⟨ls⟩⟩ := w
  have e : ls = [c] := h
  subst e
  rfl
def inA (x : Va) (xs : List Va) : Bool := xs.any fun y => eqFA y x
noncomputable def gIn (neg : Bool) (x y : Va) (s : Sto) : Rs Va := match y with
  | .str z => match x with
    | .str w => match w.cps.toList with
      | [c] => .ok (.bl (neg != decide (c ∈ z.cps.toList))) s
      | _ => .bad
    | _ => .bad
  | y => match gLook y x s with
    | some o => .ok (.bl (neg != o.isSome)) s
    | none => match seqA y s with
      | none => .bad
      | some xs => if flatA x = true ∧ xs.all flatA = true then .ok (.bl (neg != inA x xs)) s else
        match toPyS x s, toPyS y s with
        | some d, some (.list ds) => if shp d ∧ shp (.list ds) then .ok (.bl (neg != ds.any fun z => PyData.eqv z d)) s else .bad
        | _, _ => .bad
section
variable {K : PySem.W.Frag} {CL : Cls0} {W : Value → Option Addr → Hp → Prop} {F F' H G : Hp} {as as' : List Addr} {s : Sto} {x y : Va} {v u : V}
theorem flatA_ok (r : Rl K F as x v) (h : flatA x = true) : flatV v = true := by
  cases r <;> first | rfl | simp [flatA] at h
theorem flatA_all : ∀ {xs : List Va} {vs : List V}, Rls K F as xs vs → xs.all flatA = true → vs.all flatV = true
  | _, _, .nil, _ => rfl
  | _, _, .cons h r, q => by
    rw [List.all_cons, Bool.and_eq_true] at q ⊢
    exact ⟨flatA_ok h q.1, flatA_all r q.2⟩
theorem eqFA_ok (rx : Rl K F as x v) (ry : Rl K F as y u) (hx : flatA x = true) (hy : flatA y = true) : eqV v u = eqFA x y := by
  cases rx <;> first | (exfalso; simp [flatA] at hx; done) | (cases ry <;> first | rfl | (exfalso; simp [flatA] at hy; done))
theorem inA_ok (rx : Rl K F as x v) (hx : flatA x = true) : ∀ {xs : List Va} {vs : List V}, Rls K F as xs vs → xs.all flatA = true → inV v vs = inA x xs
  | _, _, .nil, _ => rfl
  | _, _, .cons h r, q => by
    rw [List.all_cons, Bool.and_eq_true] at q
    have ih := inA_ok rx hx r q.2
    unfold inV inA at ih ⊢
    rw [List.any_cons, List.any_cons, ih, eqFA_ok h rx q.1 hx]
end
def rInA (K : PySem.W.Frag) : R2 := fun x y H Q => (∃ (c : Nat) (z : Str), x = .str ⟨#[c]⟩ ∧ y = .str z ∧ Q (.bl (decide (c ∈ z.cps.toList))) H) ∨ (∃ a o, y = .ref a ∧ DGet H a x o ∧ Q (.bl o.isSome) H) ∨ rIn K false x y H Q ∨ rInD K x y H Q
theorem op_inA {X : Cx} (hu : X.A.units + 65 < cLine) : OpR X (compareOp .In) (rInA X.K) := op_in_sign.or ((op_in_dict (by omega)).or (op_in_seq.or (op_inD hu)))
theorem op2_in {K : PySem.W.Frag} : Op2 K (rInA K) (gIn false) := by
  intro CL W F G as s H x y v u Q S rx ry q
  unfold gIn at q
  split at q
  · cases ry
    split at q
    · cases rx
      split at q
      · rename_i e
        exact .inl ⟨_, _, congrArg V.str (one_sign e), rfl, Pst.okv (by simpa using q) S (.bl _)⟩
      · exact q.elim
    · exact q.elim
  · split at q
    · rename_i o e
      obtain ⟨a, o', rfl, g, h⟩ := gLook_ok S ry rx e
      refine .inr (.inl ⟨a, o', rfl, g, ?_⟩)
      rcases h with ⟨z, w, rfl, rfl, _⟩ | ⟨rfl, rfl⟩
      · exact Pst.okv (by simpa using q) S (.bl _)
      · exact Pst.okv (by simpa using q) S (.bl _)
    · split at q
      · exact q.elim
      · rename_i xs e
        obtain ⟨a, vs, rfl, h2, h3⟩ := seqA_ok S ry e
        split at q
        · rename_i hc
          refine .inr (.inr (.inl ⟨a, vs, rfl, h2, flatA_ok rx hc.1, flatA_all h3 hc.2, ?_⟩))
          rw [inA_ok rx hc.1 h3 hc.2]
          exact Pst.okv (by simpa using q) S (.bl _)
        · split at q
          · rename_i d ds e1 e2
            split at q
            · rename_i hc
              exact .inr (.inr (.inr ⟨d, ds, toPyS_dp S rx e1, toPyS_dp S ry e2, hc.1, hc.2, Pst.okv (by simpa using q) S (.bl _)⟩))
            · exact q.elim
          · exact q.elim
/-! ### subscripts -/
noncomputable def gIx (x y : Va) (s : Sto) : Rs Va := match seqA x s, y with
  | some xs, .int i => match atI xs i with
    | some z => .ok z s
    | none => .bad
  | some _, _ => .bad
  | none, y => match x, y with
    | .str z, .int i => if leq z.length sizeLine then match atI z.cps.toList i with
      | some c => .ok (.str ⟨#[c]⟩) s
      | none => .bad else .bad
    | x, y => match gLook x y s with
      | some (some z) => .ok z s
      | _ => .bad
def rIxA (K : PySem.W.Frag) : R2 := fun x y H Q => rIx K x y H Q ∨ ∃ a v, x = .ref a ∧ DGet H a y (some v) ∧ Q v H
theorem ix_any {X : Cx} (hu : X.A.units + 64 < cLine) : IxR X (rIxA X.K) := ix_seq.or (ix_dict hu)
theorem atI_rl {K : PySem.W.Frag} {F : Hp} {as : List Addr} {xs : List Va} {vs : List V} {i : Int} {z : Va} (r : Rls K F as xs vs) (h : atI xs i = some z) : ∃ w, atI vs i = some w ∧ Rl K F as z w := by
  unfold atI at h ⊢
  rw [r.len] at h
  cases e : ixN vs.length i with
  | none =>
    rw [e] at h
    cases h
  | some j =>
    rw [e] at h
    exact r.get h
theorem op2_ix {K : PySem.W.Frag} : Op2 K (rIxA K) gIx := by
  intro CL W F G as s H x y v u Q S rx ry q
  unfold gIx at q
  split at q
  · rename_i xs i e
    obtain ⟨a, vs, rfl, h2, h3⟩ := seqA_ok S rx e
    cases ry
    split at q
    · rename_i z e2
      obtain ⟨w, h4, h5⟩ := atI_rl h3 e2
      rcases h2 with h2 | h2
      · exact .inl (.inl ⟨a, vs, i, w, rfl, rfl, h2, h4, q.okv S h5⟩)
      · exact .inl (.inr (.inl ⟨a, vs, i, w, rfl, rfl, h2, h4, q.okv S h5⟩))
    · exact q.elim
  · exact q.elim
  · split at q
    · cases rx
      cases ry
      split at q
      · rename_i hc
        split at q
        · rename_i c e2
          exact .inl (.inr (.inr ⟨_, _, c, rfl, rfl, hc, e2, q.okv S (.str _)⟩))
        · exact q.elim
      · exact q.elim
    · split at q
      · rename_i z e
        obtain ⟨a, o', rfl, g, h⟩ := gLook_ok S rx ry e
        rcases h with ⟨z', w, e1, rfl, h3⟩ | ⟨e1, _⟩
        · cases e1
          exact .inr ⟨a, w, rfl, g, q.okv S h3⟩
        · cases e1
      · exact q.elim

/-! ### slices -/
abbrev DO := En → Sto → Rs (Option Int)
def tDO (K : PySem.W.Frag) (CL : Cls0) (W : WX) (d : DO) : TO := fun σ H Q => ∃ F G as ε s, Sim K F G as s H ∧ ER K F as ε σ ∧ Pst K CL (fun c d H => W c d σ H) F G as (fun _ _ x v => x = v) (d ε s) Q
abbrev RO (X : Cx) (CL : Cls0) (W : WX) (e : Option Expr) (d : DO) : Prop := PO X e (tDO X.K CL W d)
def dNo : DO := fun _ s => .ok none s
def dSome (d : DE) : DO := fun ε s => (d ε s).bind fun x s1 => match x with | .int i => .ok (some i) s1 | _ => .bad
def cutA (xs : List Va) (lo hi : Option Int) : List Va := (xs.drop (HT.sIx xs.length 0 lo)).take (HT.sIx xs.length xs.length hi - HT.sIx xs.length 0 lo)
noncomputable def gSl (bx : Bool) (x : Va) (lo hi : Option Int) (s : Sto) : Rs Va := match x with
  | .tup xs => .ok (.tup (cutA xs lo hi)) s
  | .str z => if leq z.length sizeLine then .ok (.str (cutS z lo hi)) s else .bad
  | x => match seqL x s with
    | some xs => mkL bx (cutA xs lo hi) s
    | none => .bad
noncomputable def dSl (bx : Bool) (da : DE) (dl dh : DO) : DE := fun ε s => (da ε s).bind fun x s1 => (dl ε s1).bind fun l s2 => (dh ε s2).bind fun h s3 => gSl bx x l h s3
theorem cutA_rl {K : PySem.W.Frag} {F : Hp} {as : List Addr} {xs : List Va} {vs : List V} (lo hi : Option Int) (r : Rls K F as xs vs) : Rls K F as (cutA xs lo hi) (cutV vs lo hi) := by
  unfold cutA cutV
  rw [r.len]
  exact (r.drop _).take _
theorem cut_whole {xs : List V} {lo hi : Option Int} (h : HT.sIx xs.length 0 lo = 0 ∧ HT.sIx xs.length xs.length hi = xs.length) : cutV xs lo hi = xs := by
  unfold cutV
  rw [h.1, h.2]
  simp
section
variable {X : Cx} {CL : Cls0} {W : WX} {e a b c : Expr} {es rest : List Expr} {pos : Pos} {da db dc : DE} {dr : DA} {dl dh : DO} {lo hi : Option Expr} {ta tb tc : DT}
theorem ro_no : RO X CL W none dNo := ⟨fun pins s σ H Q I h => po_none.run pins s σ H Q I (by
  obtain ⟨F, G, as, ε, s, S, E, h⟩ := h
  exact h.ok Le.refl S rfl)⟩
theorem ro_some (ha : RE X CL W a da) : RO X CL W (some a) (dSome da) := ⟨fun pins s σ H Q I h => (po_some ha).run pins s σ H Q I (by
  obtain ⟨F, G, as, ε, s, S, E, h⟩ := h
  refine ⟨F, G, as, ε, s, S, E, Pst.imp (Pst.bind h) fun v H1 ⟨F1, as1, s1, x, l, S1, rx, h1⟩ => ?_⟩
  split at h1
  · cases rx
    exact ⟨_, rfl, h1.ok Le.refl S1 rfl⟩
  · exact h1.elim)⟩
theorem re_sl (bx : Bool) {p2 : Pos} (ha : RE X CL W a da) (hl : RO X CL W lo dl) (hh : RO X CL W hi dh) : RE X CL W (.Subscript a (.Slice lo hi none p2) pos) (dSl bx da dl dh) :=
  pe_weak (pe_slice (sl_tupA.or (sl_list.or sl_str)) ha hl hh) fun σ H Q h => by
    obtain ⟨F, G, as, ε, s, S, E, h⟩ := h
    refine ⟨F, G, as, ε, s, S, E, Pst.imp (Pst.bind h) fun v H1 ⟨F1, as1, s1, x, l1, S1, rx, h1⟩ => ?_⟩
    refine ⟨F1, G, as1, ε, s1, S1, E.mono l1, Pst.imp (Pst.bind h1) fun o1 H2 ⟨F2, as2, s2, o1', l2, S2, e1, h2⟩ => ?_⟩
    subst e1
    refine ⟨F2, G, as2, ε, s2, S2, (E.mono l1).mono l2, Pst.imp (Pst.bind h2) fun o2 H3 ⟨F3, as3, s3, o2', l3, S3, e2, h3⟩ => ?_⟩
    subst e2
    have rx3 := (rx.mono l2).mono l3
    unfold gSl at h3
    split at h3
    · obtain ⟨p, vs, rfl, q1, q2⟩ := seqT_ok S3 rx3 rfl
      refine .inl ⟨p, vs, rfl, SqT.of q1, fun hw => ?_, fun _ => mkT_ok S3 (cutA_rl _ _ q2) h3⟩
      have r2 := cutA_rl o1' o2' q2
      rw [cut_whole hw] at r2
      cases rx3 with
      | tup hf hr =>
        have e3 := S3.sub _ _ hf
        rw [q1] at e3
        cases e3
        exact h3.okv S3 (.tup hf r2)
    · cases rx3
      split at h3
      · rename_i hc
        exact .inr (.inr ⟨_, rfl, hc, h3.okv S3 (.str _)⟩)
      · exact h3.elim
    · split at h3
      · rename_i xs e3
        obtain ⟨p, vs, rfl, q1, q2⟩ := seqL_ok S3 rx3 e3
        exact .inr (.inl ⟨p, vs, rfl, SqL.of q1, mkL_ok S3 (cutA_rl _ _ q2) h3⟩)
      · exact h3.elim

/-! ### comparisons -/
theorem re_eq (hu : X.A.units + 65 < cLine) (ha : RE X CL W a da) (hb : RE X CL W b db) (hm : behindInMarks .Eq b = false := by rfl) : RE X CL W (.Compare a [.Eq] [b] pos) (dBin (gEq false) da db) := re_cmp (op_eqA (by omega)) op2_eq ha hb hm
theorem re_is (ha : RE X CL W a da) (hb : RE X CL W b db) (hm : behindInMarks .Is b = false := by rfl) : RE X CL W (.Compare a [.Is] [b] pos) (dBin (gIs false) da db) := re_cmp op_isA op2_is ha hb hm
theorem re_isnot (ha : RE X CL W a da) (hb : RE X CL W b db) (hm : behindInMarks .IsNot b = false := by rfl) : RE X CL W (.Compare a [.IsNot] [b] pos) (dBin (gIs true) da db) := re_cmp op_isnotA op2_isnot ha hb hm
theorem re_in (hu : X.A.units + 65 < cLine) (ha : RE X CL W a da) (hb : RE X CL W b db) (hm : behindInMarks .In b = false := by rfl) : RE X CL W (.Compare a [.In] [b] pos) (dBin (gIn false) da db) := re_cmp (op_inA hu) op2_in ha hb hm
theorem re_le (ha : RE X CL W a da) (hb : RE X CL W b db) (hm : behindInMarks .LtE b = false := by rfl) : RE X CL W (.Compare a [.LtE] [b] pos) (dBin gLe da db) := re_cmp op_le op2_B0 ha hb hm
theorem re_gt (ha : RE X CL W a da) (hb : RE X CL W b db) (hm : behindInMarks .Gt b = false := by rfl) : RE X CL W (.Compare a [.Gt] [b] pos) (dBin gGt da db) := re_cmp op_gt op2_B0 ha hb hm
theorem re_ge (ha : RE X CL W a da) (hb : RE X CL W b db) (hm : behindInMarks .GtE b = false := by rfl) : RE X CL W (.Compare a [.GtE] [b] pos) (dBin gGe da db) := re_cmp op_ge op2_B0 ha hb hm
theorem re_sub2 (hu : X.A.units + 65 < cLine) (ha : RE X CL W a da) (hb : RE X CL W b db) (hp : PlainIx b := by exact fun _ _ => rfl) : RE X CL W (.Subscript a b pos) (dBin gIx da db) := re_ix (ix_any (by omega)) op2_ix ha hb hp

/-! ### tests -/
/-- a value that is a bool -/
def dTB (da : DE) : DT := fun ε s => (da ε s).bind fun x s1 => match x with | .bl b => .ok b s1 | _ => .bad
noncomputable def truA (x : Va) (s : Sto) : Option Bool := match x with
  | .non => some false
  | .bl b => some b
  | .int i => some (i != 0)
  | .str y => if leq y.length sizeLine then some ((y.length : Int) != 0) else none
  | x => match seqA x s with
    | some xs => some !xs.isEmpty
    | none => match dicK? x s with
      | some kvs => some !kvs.isEmpty
      | none => none
/-- a value's truth -/
noncomputable def dTr (da : DE) : DT := fun ε s => (da ε s).bind fun x s1 => match truA x s1 with | some b => .ok b s1 | none => .bad
def dAnd (ta tb : DT) : DT := fun ε s => (ta ε s).bind fun b s1 => if b = true then tb ε s1 else .ok false s1
def dOr (ta tb : DT) : DT := fun ε s => (ta ε s).bind fun b s1 => if b = true then .ok true s1 else tb ε s1
def dNot (ta : DT) : DT := fun ε s => (ta ε s).bind fun b s1 => .ok (!b) s1
theorem truA_ok {K : PySem.W.Frag} {F H G : Hp} {as : List Addr} {s : Sto} {x : Va} {v : V} {k : Bool} (S : Sim K F G as s H) (r : Rl K F as x v) (h : truA x s = some k) : TruV K v H k := by
  have seqq : ∀ {xs : List Va} {vs : List V}, Rls K F as xs vs → (!xs.isEmpty) = !vs.isEmpty := fun r => by
    cases r <;> rfl
  have dicq : ∀ {xs : List (Key × Va)} {vs : List (Key × V)}, RlK K F as xs vs → (!xs.isEmpty) = !vs.isEmpty := fun r => by
    cases r <;> rfl
  unfold truA at h
  split at h
  · cases r
    exact (Option.some.inj h).symm
  · cases r
    exact (Option.some.inj h).symm
  · cases r
    exact (Option.some.inj h).symm
  · cases r
    split at h
    · rename_i hc
      exact ⟨hc, (Option.some.inj h).symm⟩
    · cases h
  · split at h
    · rename_i xs e
      cases h
      obtain ⟨a, vs, rfl, h2, h3⟩ := seqA_ok S r e
      rcases h2 with h2 | h2
      · exact .inl ⟨vs, h2, seqq h3⟩
      · exact .inr (.inl ⟨vs, h2, seqq h3⟩)
    · split at h
      · rename_i kvs e
        cases h
        obtain ⟨a, ks, rfl, h2, h3⟩ := dicK_ok S r e
        exact .inr (.inr ⟨ks, h2, dicq h3⟩)
      · cases h
theorem rt_val (h : RE X CL W a da) {t : TE} (he : PT X a (tTest t)) (hq : ∀ σ H Q, tD X.K CL W da σ H Q → t σ H Q) : RT X CL W a (dTB da) := pt_weak he fun σ H Q q => by
  refine hq σ H _ ?_
  obtain ⟨F, G, as, ε, s, S, E, h⟩ := q
  refine ⟨F, G, as, ε, s, S, E, Pst.imp (Pst.bind h) fun v H1 ⟨F1, as1, s1, x, l, S1, rx, h1⟩ => ?_⟩
  split at h1
  · cases rx
    exact ⟨_, rfl, h1.ok Le.refl S1 rfl⟩
  · exact h1.elim
/-- a comparison as a test -/
theorem rt_cmp {op : CmpOp} {r : R2} {g : Va → Va → Sto → Rs Va} (ho : OpR X (compareOp op) r) (hg : Op2 X.K r g) (ha : RE X CL W a da) (hb : RE X CL W b db) (hm : behindInMarks op b = false := by rfl) : RT X CL W (.Compare a [op] [b] pos) (dTB (dBin g da db)) :=
  rt_val (re_cmp (pos := pos) ho hg ha hb hm) (pt_cmpR ho ha hb hm) fun _ _ _ h => tD_bin hg h
theorem rt_eq (hu : X.A.units + 65 < cLine) (ha : RE X CL W a da) (hb : RE X CL W b db) (hm : behindInMarks .Eq b = false := by rfl) : RT X CL W (.Compare a [.Eq] [b] pos) (dTB (dBin (gEq false) da db)) := rt_cmp (op_eqA (by omega)) op2_eq ha hb hm
theorem rt_ne (hu : X.A.units + 65 < cLine) (ha : RE X CL W a da) (hb : RE X CL W b db) (hm : behindInMarks .NotEq b = false := by rfl) : RT X CL W (.Compare a [.NotEq] [b] pos) (dTB (dBin (gEq true) da db)) := rt_cmp (op_neA (by omega)) op2_ne ha hb hm
theorem rt_is (ha : RE X CL W a da) (hb : RE X CL W b db) (hm : behindInMarks .Is b = false := by rfl) : RT X CL W (.Compare a [.Is] [b] pos) (dTB (dBin (gIs false) da db)) := rt_cmp op_isA op2_is ha hb hm
theorem rt_isnot (ha : RE X CL W a da) (hb : RE X CL W b db) (hm : behindInMarks .IsNot b = false := by rfl) : RT X CL W (.Compare a [.IsNot] [b] pos) (dTB (dBin (gIs true) da db)) := rt_cmp op_isnotA op2_isnot ha hb hm
theorem rt_lt (ha : RE X CL W a da) (hb : RE X CL W b db) (hm : behindInMarks .Lt b = false := by rfl) : RT X CL W (.Compare a [.Lt] [b] pos) (dTB (dBin gLt da db)) := rt_cmp op_lt op2_B0 ha hb hm
theorem rt_le (ha : RE X CL W a da) (hb : RE X CL W b db) (hm : behindInMarks .LtE b = false := by rfl) : RT X CL W (.Compare a [.LtE] [b] pos) (dTB (dBin gLe da db)) := rt_cmp op_le op2_B0 ha hb hm
theorem rt_gt (ha : RE X CL W a da) (hb : RE X CL W b db) (hm : behindInMarks .Gt b = false := by rfl) : RT X CL W (.Compare a [.Gt] [b] pos) (dTB (dBin gGt da db)) := rt_cmp op_gt op2_B0 ha hb hm
/-- any other expression, by its truth -/
theorem rt_tr (h : RE X CL W a da) (he : ∀ whole, isTrue a X.env whole = (do let v ← whole; standAt a.pos; holding [v] (truthy v)) := by exact fun _ => rfl) : RT X CL W a (dTr da) := pt_weak (pt_truth h he) fun σ H Q q => by
  obtain ⟨F, G, as, ε, s, S, E, h⟩ := q
  refine ⟨F, G, as, ε, s, S, E, Pst.imp (Pst.bind h) fun v H1 ⟨F1, as1, s1, x, l, S1, rx, h1⟩ => ?_⟩
  split at h1
  · rename_i b e
    exact ⟨b, truA_ok S1 rx e, h1.ok Le.refl S1 rfl⟩
  · exact h1.elim
theorem tDT_and {σ : L2.St} {H : Hp} {Q : Bool → Hp → Prop} {K : PySem.W.Frag} (h : tDT K CL W (dAnd ta tb) σ H Q) : tAnd (tDT K CL W ta) (tDT K CL W tb) σ H Q := by
  obtain ⟨F, G, as, ε, s, S, E, h⟩ := h
  refine ⟨F, G, as, ε, s, S, E, Pst.imp (Pst.bind h) fun v H1 ⟨F1, as1, s1, x, l, S1, rx, h1⟩ => ?_⟩
  subst rx
  cases x with
  | true => exact iteT ⟨F1, G, as1, ε, s1, S1, E.mono l, h1⟩
  | false => exact iteF (h1.ok Le.refl S1 rfl)
theorem tDT_or {σ : L2.St} {H : Hp} {Q : Bool → Hp → Prop} {K : PySem.W.Frag} (h : tDT K CL W (dOr ta tb) σ H Q) : tOr (tDT K CL W ta) (tDT K CL W tb) σ H Q := by
  obtain ⟨F, G, as, ε, s, S, E, h⟩ := h
  refine ⟨F, G, as, ε, s, S, E, Pst.imp (Pst.bind h) fun v H1 ⟨F1, as1, s1, x, l, S1, rx, h1⟩ => ?_⟩
  subst rx
  cases x with
  | true => exact iteT (h1.ok Le.refl S1 rfl)
  | false => exact iteF ⟨F1, G, as1, ε, s1, S1, E.mono l, h1⟩
theorem rw_and1 (ha : RT X CL W a ta) : RW X CL W (.BoolOp .And [a] pos) ta := pw_and1 ha
theorem rw_or1 (ha : RT X CL W a ta) : RW X CL W (.BoolOp .Or [a] pos) ta := pw_or1 ha
theorem rw_and (ha : RT X CL W a ta) (hb : RW X CL W (.BoolOp .And (b :: rest) pos) tb) : RW X CL W (.BoolOp .And (a :: b :: rest) pos) (dAnd ta tb) := pw_weak (pw_and ha hb) fun _ _ _ h => tDT_and h
theorem rw_or (ha : RT X CL W a ta) (hb : RW X CL W (.BoolOp .Or (b :: rest) pos) tb) : RW X CL W (.BoolOp .Or (a :: b :: rest) pos) (dOr ta tb) := pw_weak (pw_or ha hb) fun _ _ _ h => tDT_or h
theorem rt_not (ha : RT X CL W a ta) : RT X CL W (.UnaryOp .Not a pos) (dNot ta) := pt_weak (pt_not ha) fun σ H Q h => by
  obtain ⟨F, G, as, ε, s, S, E, h⟩ := h
  refine ⟨F, G, as, ε, s, S, E, Pst.imp (Pst.bind h) fun v H1 ⟨F1, as1, s1, x, l, S1, rx, h1⟩ => ?_⟩
  subst rx
  exact h1.ok Le.refl S1 rfl
/-- as values -/
noncomputable def dAndV (da db : DE) : DE := fun ε s => (da ε s).bind fun x s1 => match truA x s1 with | some true => db ε s1 | some false => .ok x s1 | none => .bad
noncomputable def dOrV (da db : DE) : DE := fun ε s => (da ε s).bind fun x s1 => match truA x s1 with | some true => .ok x s1 | some false => db ε s1 | none => .bad
noncomputable def dNotV (da : DE) : DE := fun ε s => (da ε s).bind fun x s1 => match truA x s1 with | some b => .ok (.bl (!b)) s1 | none => .bad
theorem re_one {op} (h : RE X CL W a da) : RE X CL W (.BoolOp op [a] pos) da := pe_one h
theorem re_and (ha : RE X CL W a da) (hb : RE X CL W (.BoolOp .And (b :: rest) pos) db) : RE X CL W (.BoolOp .And (a :: b :: rest) pos) (dAndV da db) := pe_weak (pe_andT ha hb) fun σ H Q h => by
  obtain ⟨F, G, as, ε, s, S, E, h⟩ := h
  refine ⟨F, G, as, ε, s, S, E, Pst.imp (Pst.bind h) fun v H1 ⟨F1, as1, s1, x, l, S1, rx, h1⟩ => ?_⟩
  split at h1
  · rename_i e
    exact ⟨true, truA_ok S1 rx e, iteT ⟨F1, G, as1, ε, s1, S1, E.mono l, h1⟩⟩
  · rename_i e
    exact ⟨false, truA_ok S1 rx e, iteF (h1.okv S1 rx)⟩
  · exact h1.elim
theorem re_not (ha : RE X CL W a da) : RE X CL W (.UnaryOp .Not a pos) (dNotV da) := pe_weak (pe_notT ha) fun σ H Q h => by
  obtain ⟨F, G, as, ε, s, S, E, h⟩ := h
  refine ⟨F, G, as, ε, s, S, E, Pst.imp (Pst.bind h) fun v H1 ⟨F1, as1, s1, x, l, S1, rx, h1⟩ => ?_⟩
  split at h1
  · rename_i b e
    exact ⟨b, truA_ok S1 rx e, h1.okv S1 (.bl _)⟩
  · exact h1.elim
def dIf (ta : DT) (da db : DE) : DE := fun ε s => (ta ε s).bind fun b s1 => if b = true then da ε s1 else db ε s1
theorem re_if (hc : RT X CL W c ta) (ha : RE X CL W a da) (hb : RE X CL W b db) : RE X CL W (.IfExp c a b pos) (dIf ta da db) := pe_weak (pe_ifExp hc ha hb) fun σ H Q h => by
  obtain ⟨F, G, as, ε, s, S, E, h⟩ := h
  refine ⟨F, G, as, ε, s, S, E, Pst.imp (Pst.bind h) fun v H1 ⟨F1, as1, s1, x, l, S1, rx, h1⟩ => ?_⟩
  subst rx
  cases x with
  | true => exact iteT ⟨F1, G, as1, ε, s1, S1, E.mono l, h1⟩
  | false => exact iteF ⟨F1, G, as1, ε, s1, S1, E.mono l, h1⟩
end
end Dn

set_option Elab.async false
set_option linter.all false
set_option maxRecDepth 100000
set_option maxHeartbeats 1000000
/-! Dn, part D: statements, loops, comprehensions, calls, defs. -/
namespace Dn
open PySem PySem.Spec PyProof.Rows L2

/-- where one stands -/
structure Okc (X : Cx) (W : WX) (k : Nat) : Prop where
  calm : X.calm = true
  tk : Takes X W
  hp : PassesOwn (model X.prog X.w) X.A X.env X.xe
  room : Room k X.A
  nd : X.N.Nodup
theorem Okc.hu {X : Cx} {W : WX} {k : Nat} (O : Okc X W k) : X.A.units + 65 < cLine := by
  have := O.room.un
  omega

abbrev RS (X : Cx) (CL : Cls0) (W : WX) (st : Stmt) (d : DS) : Prop := PS X st (tDS X.K CL W d)
abbrev RSs (X : Cx) (CL : Cls0) (W : WX) (st : List Stmt) (d : DS) : Prop := PSs X st (tDS X.K CL W d)

/-! ### built-in calls -/
section
variable {X : Cx} {CL : Cls0} {W : WX} {k : Nat} {x : Str} {p pos : Pos} {e : Expr} {es : List Expr} {id T : String} {dr : DA} {de : DE}
theorem re_callB {r : List V → Hp → VK → Prop} {g : List Va → Sto → Rs Va} (hc : CallR X (.builtin id) r) (hg : OpN X.K r g) (hG : Gl X x) (hm : X.mg x = none) (hv : bootBuiltins x = some (.builtin id)) (ha : RA X CL W (e :: es) dr) (hn : x ≠ "__name__" := by decide) (hdb : (x == ("__debug__" : Str)) = false := by decide)
    (he : starEach (e :: es) X.env = (false, eval e X.env) :: starEach es X.env := by rfl) (hpl : (backTo pos (starEach es X.env)).any (·.1) = false := by rfl) : RE X CL W (.Call (.Name x p) (e :: es) [] pos) (dApp g dr) :=
  pe_weak (pe_callB hc hG hm hv ha hn hdb he hpl) fun _ _ _ h => tD_app hg h
theorem re_callTy {r : List V → Hp → VK → Prop} {g : List Va → Sto → Rs Va} (hc : CallR X (.type T) r) (hg : OpN X.K r g) (hG : Gl X x) (hm : X.mg x = none) (hv : bootBuiltins x = some (.type T)) (ha : RA X CL W (e :: es) dr) (hn : x ≠ "__name__" := by decide) (hdb : (x == ("__debug__" : Str)) = false := by decide)
    (he : starEach (e :: es) X.env = (false, eval e X.env) :: starEach es X.env := by rfl) (hpl : (backTo pos (starEach es X.env)).any (·.1) = false := by rfl) : RE X CL W (.Call (.Name x p) (e :: es) [] pos) (dApp g dr) :=
  pe_weak (pe_callTy hc hG hm hv ha hn hdb he hpl) fun _ _ _ h => tD_app hg h
end
section
variable {K : PySem.W.Frag}
theorem Rls1 {F : Hp} {as : List Addr} {x : Va} {vs : List V} (r : Rls K F as [x] vs) : ∃ v, vs = [v] ∧ Rl K F as x v := by
  cases r with
  | cons h t =>
    cases t
    exact ⟨_, rfl, h⟩
theorem Rls2 {F : Hp} {as : List Addr} {x y : Va} {vs : List V} (r : Rls K F as [x, y] vs) : ∃ v u, vs = [v, u] ∧ Rl K F as x v ∧ Rl K F as y u := by
  cases r with
  | cons h t =>
    obtain ⟨u, rfl, h2⟩ := Rls1 t
    exact ⟨_, _, rfl, h, h2⟩
noncomputable def gLen (xs : List Va) (s : Sto) : Rs Va := match xs with
  | [.str z] => if leq z.length sizeLine then .ok (.int z.length) s else .bad
  | [x] => match seqA x s with
    | some ys => .ok (.int ys.length) s
    | none => match dicK? x s with
      | some kvs => .ok (.int kvs.length) s
      | none => .bad
  | _ => .bad
def rLenA (K : PySem.W.Frag) : List V → Hp → VK → Prop := fun xs H Q => (∃ x n, xs = [x] ∧ LenV K x H n ∧ Q (.int n) H) ∨ ∃ a kvs, xs = [V.ref a] ∧ H a = some (.dK kvs) ∧ Q (.int kvs.length) H
theorem call_lenA {X : Cx} : CallR X (.builtin "len") (rLenA X.K) := call_len.or call_lenD
theorem RlK.len {F : Hp} {as : List Addr} : ∀ {xs : List (Key × Va)} {vs : List (Key × V)}, RlK K F as xs vs → xs.length = vs.length
  | _, _, .nil => rfl
  | _, _, .cons _ r => congrArg (· + 1) (RlK.len r)
theorem opN_len : OpN K (rLenA K) gLen := by
  intro CL W F G as s H x v Q S rx q
  unfold gLen at q
  split at q
  · obtain ⟨v, rfl, r⟩ := Rls1 rx
    cases r
    split at q
    · rename_i hc
      exact .inl ⟨_, _, rfl, ⟨hc, rfl⟩, q.okv S (.int _)⟩
    · exact q.elim
  · obtain ⟨v, rfl, r⟩ := Rls1 rx
    split at q
    · rename_i ys e
      obtain ⟨a, vs, rfl, h2, h3⟩ := seqA_ok S r e
      refine .inl ⟨_, ys.length, rfl, ?_, q.okv S (.int _)⟩
      rcases h2 with h2 | h2
      · exact .inl ⟨vs, h2, h3.len⟩
      · exact .inr ⟨vs, h2, h3.len⟩
    · split at q
      · rename_i kvs e
        obtain ⟨a, ks, rfl, h2, h3⟩ := dicK_ok S r e
        refine .inr ⟨a, ks, rfl, h2, ?_⟩
        rw [← h3.len]
        exact q.okv S (.int _)
      · exact q.elim
  · exact q.elim
noncomputable def gInt (xs : List Va) (s : Sto) : Rs Va := match xs with
  | [.int i] => .ok (.int i) s
  | [.bl b] => .ok (.int (if b then 1 else 0)) s
  | [.str a] => match PySem.intText? a with
    | some n => if leq a.length 640 then .ok (.int n) s else .bad
    | none => .bad
  | _ => .bad
def rIntA : List V → Hp → VK → Prop := fun xs H Q => ((∃ i, xs = [.int i] ∧ Q (.int i) H) ∨ ∃ k, xs = [.bl k] ∧ Q (.int (if k then 1 else 0)) H) ∨ ∃ a n, xs = [.str a] ∧ PySem.intText? a = some n ∧ a.length ≤ 640 ∧ Q (.int n) H
theorem call_intA {X : Cx} : CallR X (.type "int") rIntA := call_int1.or call_int_str
theorem opN_int : OpN K rIntA gInt := by
  intro CL W F G as s H x v Q S rx q
  unfold gInt at q
  split at q
  · obtain ⟨v, rfl, r⟩ := Rls1 rx
    cases r
    exact .inl (.inl ⟨_, rfl, q.okv S (.int _)⟩)
  · obtain ⟨v, rfl, r⟩ := Rls1 rx
    cases r
    exact .inl (.inr ⟨_, rfl, q.okv S (.int _)⟩)
  · obtain ⟨v, rfl, r⟩ := Rls1 rx
    cases r
    split at q
    · rename_i n e
      split at q
      · rename_i hc
        exact .inr ⟨_, n, rfl, e, hc, q.okv S (.int _)⟩
      · exact q.elim
    · exact q.elim
  · exact q.elim
def gAbs (xs : List Va) (s : Sto) : Rs Va := match xs with
  | [.int i] => .ok (.int (if i < 0 then -i else i)) s
  | _ => .bad
theorem opN_abs : OpN K (fun xs H Q => ∃ i, xs = [.int i] ∧ Q (.int (if i < 0 then -i else i)) H) gAbs := by
  intro CL W F G as s H x v Q S rx q
  unfold gAbs at q
  split at q
  · obtain ⟨v, rfl, r⟩ := Rls1 rx
    cases r
    exact ⟨_, rfl, q.okv S (.int _)⟩
  · exact q.elim
def gMax2 (xs : List Va) (s : Sto) : Rs Va := match xs with
  | [.int i, .int j] => .ok (.int (if j > i then j else i)) s
  | _ => .bad
def gMin2 (xs : List Va) (s : Sto) : Rs Va := match xs with
  | [.int i, .int j] => .ok (.int (if j < i then j else i)) s
  | _ => .bad
theorem opN_max2 : OpN K (fun xs H Q => ∃ i j, xs = [.int i, .int j] ∧ Q (.int (if j > i then j else i)) H) gMax2 := by
  intro CL W F G as s H x v Q S rx q
  unfold gMax2 at q
  split at q
  · obtain ⟨v, u, rfl, r, r2⟩ := Rls2 rx
    cases r
    cases r2
    exact ⟨_, _, rfl, q.okv S (.int _)⟩
  · exact q.elim
theorem opN_min2 : OpN K (fun xs H Q => ∃ i j, xs = [.int i, .int j] ∧ Q (.int (if j < i then j else i)) H) gMin2 := by
  intro CL W F G as s H x v Q S rx q
  unfold gMin2 at q
  split at q
  · obtain ⟨v, u, rfl, r, r2⟩ := Rls2 rx
    cases r
    cases r2
    exact ⟨_, _, rfl, q.okv S (.int _)⟩
  · exact q.elim
/-- list(..) of a list, a tuple; of a dict -/
def gList (bx : Bool) (xs : List Va) (s : Sto) : Rs Va := match xs with
  | [x] => match seqA x s with
    | some ys => mkL bx ys s
    | none => match dicK? x s with
      | some kvs => mkL bx (kvs.map fun kv => kVa kv.1) s
      | none => .bad
  | _ => .bad
def rListA (K : PySem.W.Frag) : List V → Hp → VK → Prop := fun xs H Q => (∃ p ys, xs = [.ref p] ∧ (SqL K H p ys ∨ SqT K H p ys) ∧ ∀ l, H l = none → Q (.ref l) (upd H l (.lst ys))) ∨ rListD xs H Q
theorem call_listA {X : Cx} (hc : X.calm = true) : CallR X (.type "list") (rListA X.K) := call_list_of.or (call_list_dK hc)
theorem RlK.keys {F : Hp} {as : List Addr} : ∀ {xs : List (Key × Va)} {vs : List (Key × V)}, RlK K F as xs vs → Rls K F as (xs.map fun kv => kVa kv.1) (vs.map fun kv => kV kv.1)
  | _, _, .nil => .nil
  | _, _, .cons (k := k) _ r => .cons (by cases k <;> constructor) (RlK.keys r)
theorem opN_list {bx : Bool} : OpN K (rListA K) (gList bx) := by
  intro CL W F G as s H x v Q S rx q
  unfold gList at q
  split at q
  · obtain ⟨v, rfl, r⟩ := Rls1 rx
    split at q
    · rename_i ys e
      obtain ⟨a, vs, rfl, h2, h3⟩ := seqA_ok S r e
      exact .inl ⟨a, vs, rfl, h2, mkL_ok S h3 q⟩
    · split at q
      · rename_i kvs e
        obtain ⟨a, ks, rfl, h2, h3⟩ := dicK_ok S r e
        exact .inr ⟨a, ks, rfl, h2, mkL_ok S h3.keys q⟩
      · exact q.elim
  · exact q.elim
end
section
variable {X : Cx} {CL : Cls0} {W : WX} {k : Nat} {x : Str} {p pos : Pos} {e e2 : Expr} {es : List Expr} {dr : DA} {de d1 d2 : DE}
theorem re_len (hm : X.mg "len" = none) (ha : RA X CL W [e] dr) (hG : Gl X "len" := by rfl) (he : starEach [e] X.env = (false, eval e X.env) :: starEach [] X.env := by rfl) : RE X CL W (.Call (.Name "len" p) [e] [] pos) (dApp gLen dr) := re_callB call_lenA opN_len hG hm PySem.boot_len ha (he := he)
theorem re_intc (hm : X.mg "int" = none) (ha : RA X CL W [e] dr) (hG : Gl X "int" := by rfl) (he : starEach [e] X.env = (false, eval e X.env) :: starEach [] X.env := by rfl) : RE X CL W (.Call (.Name "int" p) [e] [] pos) (dApp gInt dr) := re_callTy call_intA opN_int hG hm (by decide +kernel) ha (he := he)
theorem re_abs (hm : X.mg "abs" = none) (ha : RA X CL W [e] dr) (hG : Gl X "abs" := by rfl) (he : starEach [e] X.env = (false, eval e X.env) :: starEach [] X.env := by rfl) : RE X CL W (.Call (.Name "abs" p) [e] [] pos) (dApp gAbs dr) := re_callB call_abs opN_abs hG hm (by decide +kernel) ha (he := he)
theorem re_max2 (O : Okc X W k) (hm : X.mg "max" = none) (ha : RA X CL W [e, e2] dr) (hG : Gl X "max" := by rfl) (he : starEach [e, e2] X.env = (false, eval e X.env) :: starEach [e2] X.env := by rfl) (hpl : (backTo pos (starEach [e2] X.env)).any (·.1) = false := by rfl) : RE X CL W (.Call (.Name "max" p) [e, e2] [] pos) (dApp gMax2 dr) := re_callB (call_max2 O.calm) opN_max2 hG hm (by decide +kernel) ha (he := he) (hpl := hpl)
theorem re_min2 (O : Okc X W k) (hm : X.mg "min" = none) (ha : RA X CL W [e, e2] dr) (hG : Gl X "min" := by rfl) (he : starEach [e, e2] X.env = (false, eval e X.env) :: starEach [e2] X.env := by rfl) (hpl : (backTo pos (starEach [e2] X.env)).any (·.1) = false := by rfl) : RE X CL W (.Call (.Name "min" p) [e, e2] [] pos) (dApp gMin2 dr) := re_callB (call_min2 O.calm) opN_min2 hG hm (by decide +kernel) ha (he := he) (hpl := hpl)
theorem re_list (O : Okc X W k) (bx : Bool) (hm : X.mg "list" = none) (ha : RA X CL W [e] dr) (hG : Gl X "list" := by rfl) (he : starEach [e] X.env = (false, eval e X.env) :: starEach [] X.env := by rfl) : RE X CL W (.Call (.Name "list" p) [e] [] pos) (dApp (gList bx) dr) := re_callTy (call_listA O.calm) opN_list hG hm (by decide +kernel) ha (he := he)
/-- isinstance(e, T), T a built-in type -/
def tyA (x : Va) (s : Sto) : Option String := match x with
  | .non => some "NoneType"
  | .bl _ => some "bool"
  | .int _ => some "int"
  | .str _ => some "str"
  | .tup _ => some "tuple"
  | .lst _ => some "list"
  | .dicK _ => some "dict"
  | .dicT _ => some "dict"
  | .ref i => match s[i]? with
    | some (.lst _) => some "list"
    | some (.dicK _) => some "dict"
    | some (.dicT _) => some "dict"
    | _ => none
  | .ext _ => none
def gIsi (T : String) (x : Va) (s : Sto) : Rs Va := match tyA x s with
  | some t => match kitB t T with
    | some b => .ok (.bl b) s
    | none => .bad
  | none => .bad
theorem tyA_ok {K : PySem.W.Frag} {F G H : Hp} {as : List Addr} {s : Sto} {x : Va} {v : V} {t : String} (S : Sim K F G as s H) (r : Rl K F as x v) (h : tyA x s = some t) : TyX K H v (.type t) := by
  cases r with
  | non => cases h; exact .base .non
  | bl b => cases h; exact .base (.bl b)
  | int i => cases h; exact .base (.int i)
  | str z => cases h; exact .base (.str z)
  | tup hf hr => cases h; exact .base (.tup (S.sub _ _ hf))
  | lst hf hr => cases h; exact .base (.lst (S.sub _ _ hf))
  | dicK hf hr => cases h; exact .base (.dK (S.sub _ _ hf))
  | dicT hf hr => cases h; exact .base (.dT (S.sub _ _ hf))
  | ext _ _ => cases h
  | ref ha =>
    simp only [tyA] at h
    split at h
    · rename_i e
      cases h
      obtain ⟨_, vs, h1, _⟩ := S.ref ha e
      exact .base (.lst h1)
    · rename_i e
      cases h
      obtain ⟨_, vs, h1, _⟩ := S.ref ha e
      exact .base (.dK h1)
    · rename_i e
      cases h
      obtain ⟨_, vs, h1, _⟩ := S.ref ha e
      exact .base (.dT h1)
    · cases h
theorem re_isi {T : Str} {Ty : String} {p2 : Pos} (hm : X.mg "isinstance" = none) (hmT : X.mg T = none) (hvT : bootBuiltins T = some (.type Ty)) (ha : RE X CL W e de) (hG : Gl X "isinstance" := by rfl) (hGT : Gl X T := by rfl) (hnT : T ≠ "__name__" := by decide) (hdT : (T == ("__debug__" : Str)) = false := by decide)
    (he : starEach [e, .Name T p2] X.env = (false, eval e X.env) :: starEach [.Name T p2] X.env := by rfl) (he2 : starEach [.Name T p2] X.env = (false, eval (.Name T p2) X.env) :: starEach [] X.env := by rfl) (hpl : (backTo pos (starEach [.Name T p2] X.env)).any (·.1) = false := by rfl) :
    RE X CL W (.Call (.Name "isinstance" p) [e, .Name T p2] [] pos) (dUn (gIsi Ty) de) :=
  pe_weak (pe_callB call_isi hG hm boot_isinstance (pa_cons ha (pa_cons (pe_bltn (v := .ty Ty) hGT hmT hvT rfl hnT hdT) pa_nil he2) he) (he := he) (hpl := hpl)) fun σ H Q h => by
    obtain ⟨F, G, as, ε, s, S, E, h⟩ := h
    refine ⟨F, G, as, ε, s, S, E, Pst.imp (Pst.bind h) fun v H1 ⟨F1, as1, s1, y, l, S1, rx, h1⟩ => ?_⟩
    unfold gIsi at h1
    split at h1
    · rename_i t e1
      split at h1
      · rename_i b e2
        exact ⟨v, .ty Ty, .type t, .type Ty, b, rfl, .ty Ty, tyA_ok S1 rx e1, kit_ty e2, h1.okv S1 (.bl _)⟩
      · exact h1.elim
    · exact h1.elim
end

/-! ### statements -/
def Rs.fl {α : Type} (r : Rs α) (ε : En) (k : α → Sto → Fl) : Fl := match r with
  | .ok a s => k a s
  | .exc c s => .exc c ε s
  | .bad => .bad
section
variable {K : PySem.W.Frag} {CL : Cls0} {W : WX} {F F' G : Hp} {as as' : List Addr}
theorem PF.bind {α β : Type} {RA : Hp → List Addr → α → β → Prop} {r : Rs α} {ε : En} {σ : L2.St} {k : α → Sto → Fl} {D : Ends} (E : ER K F as ε σ) (h : PF K CL W F G as (r.fl ε k) D) :
    Pst K CL (fun c d H => W c d σ H) F G as RA r (fun v H1 => ∃ F1 as1 s1 x, Le F as F1 as1 ∧ Sim K F1 G as1 s1 H1 ∧ RA F1 as1 x v ∧ PF K CL W F1 G as1 (k x s1) D) := by
  cases r with
  | ok x s => exact fun F1 as1 H1 v l S ra => ⟨F1, as1, s, x, l, S, ra, h.le l⟩
  | exc c s => exact fun F1 as1 H1 l S => h F1 as1 σ H1 l S (E.mono l)
  | bad => exact h
theorem PF.imp {r : Fl} {D D' : Ends} (h : PF K CL W F G as r D) (h1 : ∀ σ H, D.nx σ H → D'.nx σ H) (h2 : ∀ v H, D.rt v H → D'.rt v H) (h3 : ∀ σ H, D.bk σ H → D'.bk σ H) (h4 : ∀ σ H, D.ct σ H → D'.ct σ H) : PF K CL W F G as r D' := by
  cases r with
  | nx x s => exact fun F2 as2 σ H l S E => h1 σ H (h F2 as2 σ H l S E)
  | brk x s => exact fun F2 as2 σ H l S E => h3 σ H (h F2 as2 σ H l S E)
  | ct x s => exact fun F2 as2 σ H l S E => h4 σ H (h F2 as2 σ H l S E)
  | ret x s => exact fun F2 as2 H v l S E => h2 v H (h F2 as2 H v l S E)
  | exc c x s => exact h
  | bad => exact h
end
def sSeq (d1 d2 : DS) : DS := fun ε s => match d1 ε s with
  | .nx ε' s' => d2 ε' s'
  | r => r
def sNext : DS := fun ε s => .nx ε s
def sBrk : DS := fun ε s => .brk ε s
def sCt : DS := fun ε s => .ct ε s
def sSet (i : Nat) (de : DE) : DS := fun ε s => (de ε s).fl ε fun x s1 => .nx (ε.set i (some x)) s1
def sRet (de : DE) : DS := fun ε s => (de ε s).fl ε fun x s1 => .ret x s1
def sRetN : DS := fun _ s => .ret .non s
def sDrop (de : DE) : DS := fun ε s => (de ε s).fl ε fun _ s1 => .nx ε s1
def sIf (t : DT) (d1 d2 : DS) : DS := fun ε s => (t ε s).fl ε fun b s1 => if b = true then d1 ε s1 else d2 ε s1
section
variable {X : Cx} {CL : Cls0} {W : WX} {k : Nat} {st : Stmt} {rest body : List Stmt} {d1 d2 : DS} {x : Str} {p pos pos' : Pos} {e a b : Expr} {de da db : DE} {dt : DT}
theorem rss_nil : RSs X CL W [] sNext := pss_weak pss_nil fun D σ H h => by
  obtain ⟨F, G, as, ε, s, S, E, h⟩ := h
  exact h F as σ H Le.refl S E
theorem tDS_seq {D : Ends} {σ : L2.St} {H : Hp} {K : PySem.W.Frag} (h : tDS K CL W (sSeq d1 d2) D σ H) : tSeq (tDS K CL W d1) (tDS K CL W d2) D σ H := by
  obtain ⟨F, G, as, ε, s, S, E, h⟩ := h
  refine ⟨F, G, as, ε, s, S, E, ?_⟩
  unfold sSeq at h
  cases q : d1 ε s with
  | nx ε' s' =>
    rw [q] at h
    exact fun F1 as1 σ1 H1 l S1 E1 => ⟨F1, G, as1, ε', s', S1, E1, h.le l⟩
  | ret y s' =>
    rw [q] at h
    exact h
  | brk ε' s' =>
    rw [q] at h
    exact h
  | ct ε' s' =>
    rw [q] at h
    exact h
  | exc c ε' s' =>
    rw [q] at h
    exact h
  | bad =>
    rw [q] at h
    exact h
theorem rss_cons (h1 : RS X CL W st d1) (h2 : RSs X CL W rest d2) : RSs X CL W (st :: rest) (sSeq d1 d2) := pss_weak (pss_cons h1 h2) fun _ _ _ h => tDS_seq h
theorem rss_one (h1 : RS X CL W st d1) : RSs X CL W [st] d1 := pss_one h1
theorem rs_continue : RS X CL W (.Continue pos) sCt := ps_weak ps_continue fun D σ H h => by
  obtain ⟨F, G, as, ε, s, S, E, h⟩ := h
  exact h F as σ H Le.refl S E
theorem tDS_set {D : Ends} {σ : L2.St} {H : Hp} {i : Nat} {t : TE} (ht : ∀ Q, tD X.K CL W de σ H Q → t σ H Q) (h : tDS X.K CL W (sSet i de) D σ H) : tAsg t (gName i) D σ H := by
  obtain ⟨F, G, as, ε, s, S, E, h⟩ := h
  refine ht _ ⟨F, G, as, ε, s, S, E, Pst.imp (PF.bind E h) fun v H1 ⟨F1, as1, s1, y, l, S1, rx, h1⟩ => ?_⟩
  exact h1 F1 as1 _ H1 Le.refl S1 ((E.mono l).set i rx)
theorem rs_set {i : Nat} (O : Okc X W k) (hi : X.N[i]? = some x) (hx : Loc X.env.scope x) (he : RE X CL W e de) (hs : swapsWith e (some (.Name x pos')) pos.line X.env = pure false := by rfl) (hf : X.fn x = true ∨ X.env.scope.names.lookup x = some .local := by first | exact .inl rfl | exact .inr rfl | assumption) :
    RS X CL W (.Assign [.Name x pos'] e pos) (sSet i de) := ps_weak (ps_set O.nd hi hx he hs hf) fun _ _ _ h => tDS_set (fun _ q => q) h
theorem rs_ret (he : RE X CL W e de) : RS X CL W (.Return (some e) pos) (sRet de) := ps_weak (ps_ret he) fun D σ H h => by
  obtain ⟨F, G, as, ε, s, S, E, h⟩ := h
  refine ⟨F, G, as, ε, s, S, E, Pst.imp (PF.bind E h) fun v H1 ⟨F1, as1, s1, y, l, S1, rx, h1⟩ => ?_⟩
  exact h1 F1 as1 H1 v Le.refl S1 rx
theorem rs_expr (he : RE X CL W e de) (hs : swapsWith e none pos.line X.env = pure false := by rfl) : RS X CL W (.Expr e pos) (sDrop de) := ps_weak (ps_expr he hs) fun D σ H h => by
  obtain ⟨F, G, as, ε, s, S, E, h⟩ := h
  refine ⟨F, G, as, ε, s, S, E, Pst.imp (PF.bind E h) fun v H1 ⟨F1, as1, s1, y, l, S1, rx, h1⟩ => ?_⟩
  exact h1 F1 as1 σ H1 Le.refl S1 (E.mono l)
theorem rs_if {c : Expr} {b1 b2 : List Stmt} (hc : RT X CL W c dt) (h1 : RSs X CL W b1 d1) (h2 : RSs X CL W b2 d2) : RS X CL W (.If c b1 b2 pos) (sIf dt d1 d2) := ps_weak (ps_if hc h1 h2) fun D σ H h => by
  obtain ⟨F, G, as, ε, s, S, E, h⟩ := h
  refine ⟨F, G, as, ε, s, S, E, Pst.imp (PF.bind E h) fun v H1 ⟨F1, as1, s1, y, l, S1, rx, h1⟩ => ?_⟩
  subst rx
  cases y with
  | true => exact iteT ⟨F1, G, as1, ε, s1, S1, E.mono l, h1⟩
  | false => exact iteF ⟨F1, G, as1, ε, s1, S1, E.mono l, h1⟩
end

/-! ### stores -/
/-- o[i] = v -/
noncomputable def gSetIx (v o i : Va) (s : Sto) : Option Sto := match o with
  | .ref n => match s[n]? with
    | some (.lst xs) => match i with
      | .int j => match ixN xs.length j with
        | some m => some (s.set n (.lst (xs.set m v)))
        | none => none
      | _ => none
    | some (.dicK kvs) => match kOf i with
      | some key => if leq kvs.length 1000000 then some (s.set n (.dicK (pt kvs key v))) else none
      | none => none
    | some (.dicT kvs) => match i with
      | .tup ys => match ksOf ys with
        | some key => if leq kvs.length 1000000 then some (s.set n (.dicT (pt kvs key v))) else none
        | none => none
      | _ => none
    | _ => none
  | _ => none
section
variable {K : PySem.W.Frag} {CL : Cls0} {F F' G H : Hp} {as as' : List Addr} {s s' : Sto} {x y z : Va} {v u w : V}
theorem RlK.any {kvs : List (Key × Va)} {ks : List (Key × V)} (r : RlK K F as kvs ks) (k : Key) : (kvs.any fun kv => decide (kv.1 = k)) = ks.any fun kv => decide (kv.1 = k) := by
  induction kvs generalizing ks with
  | nil => cases r; rfl
  | cons p r' ih =>
    cases r with
    | cons h t => rw [List.any_cons, List.any_cons, ih t]
theorem RlT.any {kvs : List (List Key × Va)} {ks : List (List Key × V)} (r : RlT K F as kvs ks) (k : List Key) : (kvs.any fun kv => decide (kv.1 = k)) = ks.any fun kv => decide (kv.1 = k) := by
  induction kvs generalizing ks with
  | nil => cases r; rfl
  | cons p r' ih =>
    cases r with
    | cons h t => rw [List.any_cons, List.any_cons, ih t]
theorem RlK.app {kvs kvs' : List (Key × Va)} {ks ks' : List (Key × V)} (r : RlK K F as kvs ks) (r' : RlK K F as kvs' ks') : RlK K F as (kvs ++ kvs') (ks ++ ks') := by
  induction kvs generalizing ks with
  | nil => cases r; exact r'
  | cons p q ih =>
    cases r with
    | cons h t => exact .cons h (ih t)
theorem RlT.app {kvs kvs' : List (List Key × Va)} {ks ks' : List (List Key × V)} (r : RlT K F as kvs ks) (r' : RlT K F as kvs' ks') : RlT K F as (kvs ++ kvs') (ks ++ ks') := by
  induction kvs generalizing ks with
  | nil => cases r; exact r'
  | cons p q ih =>
    cases r with
    | cons h t => exact .cons h (ih t)
theorem RlK.upd {kvs : List (Key × Va)} {ks : List (Key × V)} (r : RlK K F as kvs ks) (k : Key) (h : Rl K F as x v) : RlK K F as (kvs.map fun kv => if kv.1 = k then (kv.1, x) else kv) (ks.map fun kv => if kv.1 = k then (kv.1, v) else kv) := by
  induction kvs generalizing ks with
  | nil => cases r; exact .nil
  | cons p q ih =>
    cases r with
    | cons h0 t =>
      rename_i k0 _ _ _
      rw [List.map_cons, List.map_cons]
      by_cases e : k0 = k
      · rw [if_pos e, if_pos e]
        exact .cons h (ih t)
      · rw [if_neg e, if_neg e]
        exact .cons h0 (ih t)
theorem RlT.upd {kvs : List (List Key × Va)} {ks : List (List Key × V)} (r : RlT K F as kvs ks) (k : List Key) (h : Rl K F as x v) : RlT K F as (kvs.map fun kv => if kv.1 = k then (kv.1, x) else kv) (ks.map fun kv => if kv.1 = k then (kv.1, v) else kv) := by
  induction kvs generalizing ks with
  | nil => cases r; exact .nil
  | cons p q ih =>
    cases r with
    | cons h0 t =>
      rename_i k0 _ _ _
      rw [List.map_cons, List.map_cons]
      by_cases e : k0 = k
      · rw [if_pos e, if_pos e]
        exact .cons h (ih t)
      · rw [if_neg e, if_neg e]
        exact .cons h0 (ih t)
theorem RlK.put {kvs : List (Key × Va)} {ks : List (Key × V)} (r : RlK K F as kvs ks) (k : Key) (h : Rl K F as x v) : RlK K F as (pt kvs k x) (putK ks k v) := by
  unfold pt putK
  rw [r.any k]
  split
  · exact r.upd k h
  · exact r.app (.cons h .nil)
theorem RlT.put {kvs : List (List Key × Va)} {ks : List (List Key × V)} (r : RlT K F as kvs ks) (k : List Key) (h : Rl K F as x v) : RlT K F as (pt kvs k x) (putK ks k v) := by
  unfold pt putK
  rw [r.any k]
  split
  · exact r.upd k h
  · exact r.app (.cons h .nil)
theorem RlT.len : ∀ {xs : List (List Key × Va)} {vs : List (List Key × V)}, RlT K F as xs vs → xs.length = vs.length
  | _, _, .nil => rfl
  | _, _, .cons _ r => congrArg (· + 1) (RlT.len r)
/-- a store by values: the list's, the dict's -/
def rSetA : V → V → V → Hp → (Hp → Prop) → Prop := fun o i v H Q => rSetL o i v H Q ∨ ∃ a H', o = .ref a ∧ DPut H a i v H' ∧ Q H'
theorem gSetIx_ok {Q : Hp → Prop} (S : Sim K F G as s H) (rv : Rl K F as z w) (rx : Rl K F as x v) (ry : Rl K F as y u) (h : gSetIx z x y s = some s') (q : ∀ H', Sim K F G as s' H' → Q H') : rSetA v u w H Q := by
  unfold gSetIx at h
  split at h
  · cases rx with
    | ref ha =>
      split at h
      · rename_i n xs e
        obtain ⟨hf, vs, h1, h2⟩ := S.ref ha e
        split at h
        · cases ry
          split at h
          · rename_i m e2
            cases h
            refine .inl ⟨_, vs, _, m, rfl, rfl, h1, by rw [← h2.len]; exact e2, q _ ?_⟩
            exact S.change ha hf ⟨hf, _, upd_same, Rls.set rv m h2⟩
          · cases h
        · cases h
      · rename_i n kvs e
        obtain ⟨hf, ks, h1, h2⟩ := S.ref ha e
        split at h
        · rename_i key e2
          split at h
          · rename_i hc
            cases h
            refine .inr ⟨_, _, rfl, by rw [kOf_ok ry e2]; exact DPut.k h1 (by rw [← h2.len]; exact Nat.lt_of_le_of_lt hc (by decide)), q _ ?_⟩
            exact S.change ha hf ⟨hf, _, upd_same, h2.put key rv⟩
          · cases h
        · cases h
      · rename_i n kvs e
        obtain ⟨hf, ks, h1, h2⟩ := S.ref ha e
        split at h
        · obtain ⟨b, us, rfl, h3, h4⟩ := seqT_ok S ry rfl
          split at h
          · rename_i key e2
            split at h
            · rename_i hc
              cases h
              refine .inr ⟨_, _, rfl, DPut.t h1 (by rw [h3, ksOf_ok h4 e2]) (by rw [← h2.len]; exact Nat.lt_of_le_of_lt hc (by decide)), q _ ?_⟩
              exact S.change ha hf ⟨hf, _, upd_same, h2.put key rv⟩
            · cases h
          · cases h
        · cases h
      · cases h
  · cases h
end
section
variable {X : Cx} {CL : Cls0} {W : WX} {k : Nat} {x : Str} {p pos pos' : Pos} {e o i : Expr} {de d0 di : DE}
theorem set_any (hu : X.A.units + 65 < cLine) : PSet X rSetA := by
  intro pins s σ H o i v ov iv u Q I r1 r2 r3 h
  rcases h with h | ⟨a, H', rfl, h, q⟩
  · exact set_list pins s σ H o i v ov iv u Q I r1 r2 r3 h
  · cases r1
    exact d_setItem (by omega) I h r2 r3 fun s4 I4 => ⟨H', I4, q⟩
noncomputable def sSetIx (d0 di de : DE) : DS := fun ε s => (de ε s).fl ε fun v s1 => (d0 ε s1).fl ε fun o s2 => (di ε s2).fl ε fun i s3 => match gSetIx v o i s3 with
  | some s4 => .nx ε s4
  | none => .bad
theorem rs_setIx (O : Okc X W k) (ho : RE X CL W o d0) (hi : RE X CL W i di) (he : RE X CL W e de) (hs : swapsWithSole [.Subscript o i pos'] e pos.line X.env = pure false := by rfl) (hw : swappedStores [.Subscript o i pos'] e X.env = pure none := by rfl)
    (h1 : (assignEach [.Subscript o i pos'] X.env).map (·.2) = [assign (.Subscript o i pos') X.env] := by rfl)
    (ha : ∀ v, assign (.Subscript o i pos') X.env v = (do
      let ov ← holding [v] (eval o X.env)
      let iv ← holding [v, ov] (eval i X.env)
      standAt pos'
      holding [v, ov, iv] (setItem ov iv v)
      release [v, ov, iv] []) := by intro _; rfl) : RS X CL W (.Assign [.Subscript o i pos'] e pos) (sSetIx d0 di de) :=
  ps_weak (ps_asg he (pg_sub ho hi (set_any O.hu) ha) hs hw h1) fun D σ H h => by
    obtain ⟨F, G, as, ε, s, S, E, h⟩ := h
    refine ⟨F, G, as, ε, s, S, E, Pst.imp (PF.bind E h) fun v H1 ⟨F1, as1, s1, y, l, S1, rx, h1⟩ => ?_⟩
    refine ⟨F1, G, as1, ε, s1, S1, E.mono l, Pst.imp (PF.bind (E.mono l) h1) fun v2 H2 ⟨F2, as2, s2, y2, l2, S2, rx2, h2⟩ => ?_⟩
    refine ⟨F2, G, as2, ε, s2, S2, (E.mono l).mono l2, Pst.imp (PF.bind ((E.mono l).mono l2) h2) fun v3 H3 ⟨F3, as3, s3, y3, l3, S3, rx3, h3⟩ => ?_⟩
    split at h3
    · rename_i s4 e4
      exact gSetIx_ok S3 ((rx.mono l2).mono l3) (rx2.mono l3) rx3 e4 fun H' S4 => h3 F3 as3 σ H' Le.refl S4 (((E.mono l).mono l2).mono l3)
    · exact h3.elim
end

end Dn

set_option Elab.async false
set_option linter.all false
set_option maxRecDepth 100000
set_option maxHeartbeats 1000000
/-! Dn, part E: targets, loops, comprehensions. -/
namespace Dn
open PySem PySem.Spec PyProof.Rows L2

/-! ### targets -/
abbrev DG := Va → En → Sto → Option En
/-- ts: the slots that are stored -/
structure RG (X : Cx) (tg : Expr) (g : TG) (dg : DG) (ts : List Nat) : Prop where
  pg : PG X tg g
  ok : ∀ F G as s H x v ε ε' σ Q, Sim X.K F G as s H → Rl X.K F as x v → ER X.K F as ε σ → dg x ε s = some ε' → (∀ σ', ER X.K F as ε' σ' → σ'.length = σ.length → (∀ i, i ∉ ts → σ'[i]? = σ[i]?) → Q σ' H) → g v σ H Q
def dgName (i : Nat) : DG := fun x ε _ => some (ε.set i (some x))
def setAll : List Nat → List Va → En → En
  | i :: is, x :: xs, ε => setAll is xs (ε.set i (some x))
  | _, _, ε => ε
def dgTup (is : List Nat) : DG := fun x ε _ => match x with
  | .tup xs => if xs.length = is.length then some (setAll is xs ε) else none
  | _ => none
structure RGs (X : Cx) (ts : List Expr) (g : TGs) (is : List Nat) : Prop where
  pgs : PGs X ts g
  ok : ∀ F as H xs vs ε σ Q, Rls X.K F as xs vs → xs.length = is.length → ER X.K F as ε σ → (∀ σ', ER X.K F as (setAll is xs ε) σ' → σ'.length = σ.length → (∀ i, i ∉ is → σ'[i]? = σ[i]?) → Q σ' H) → g vs σ H Q
section
variable {X : Cx} {CL : Cls0} {W : WX} {k : Nat} {x : Str} {p pos pos' : Pos}
theorem rg_name {i : Nat} (O : Okc X W k) (hi : X.N[i]? = some x) (hx : Loc X.env.scope x) (hf : X.fn x = true ∨ X.env.scope.names.lookup x = some .local := by first | exact .inl rfl | exact .inr rfl | assumption) : RG X (.Name x pos) (gName i) (dgName i) [i] where
  pg := pg_name O.nd hi hx hf
  ok := fun F G as s H x v ε ε' σ Q S r E h q => by
    cases h
    refine q _ (E.set i r) (by rw [List.length_set]) fun j hj => List.getElem?_set_ne fun e => hj (by simp [e])
theorem rgs_nil : RGs X [] gNil [] where
  pgs := pgs_nil
  ok := fun F as H xs vs ε σ Q r hl E q => by
    cases r with
    | nil => exact ⟨rfl, q σ E rfl fun _ _ => rfl⟩
    | cons _ _ => simp at hl
theorem rgs_cons {i : Nat} {is : List Nat} {es : List Expr} {u : TGs} (O : Okc X W k) (hi : X.N[i]? = some x) (hx : Loc X.env.scope x) (h2 : RGs X es u is) (hf : X.fn x = true ∨ X.env.scope.names.lookup x = some .local := by first | exact .inl rfl | exact .inr rfl | assumption)
    (hs : (assignEach (.Name x pos :: es) X.env).map (·.2) = assign (.Name x pos) X.env :: (assignEach es X.env).map (·.2) := by rfl) : RGs X (.Name x pos :: es) (gCons (gName i) u) (i :: is) where
  pgs := pgs_cons (pg_name O.nd hi hx hf) h2.pgs hs
  ok := fun F as H xs vs ε σ Q r hl E q => by
    cases r with
    | nil => simp at hl
    | cons h t =>
      refine ⟨_, _, rfl, h2.ok F as H _ _ _ _ Q t (by simpa using hl) (E.set i h) fun σ' E' hl' ho => q σ' E' (by rw [hl', List.length_set]) fun j hj => ?_⟩
      rw [List.mem_cons, not_or] at hj
      rw [ho j hj.2]
      exact List.getElem?_set_ne fun e => hj.1 e.symm
theorem rg_tup {es : List Expr} {j : Nat} {is : List Nat} {u : TGs} {n : Nat} (O : Okc X W k) (h : RGs X es u is) (hn : (assignEach es X.env).length = n := by rfl) (hst : (assignEach es X.env).findIdx? (·.1) = none := by rfl) (hl : is.length = n := by rfl) : RG X (.Tuple es j pos) (gTup X.K n u) (dgTup is) is where
  pg := pg_tup O.calm h.pgs hn hst
  ok := fun F G as s H x v ε ε' σ Q S r E hd q => by
    unfold dgTup at hd
    split at hd
    · split at hd
      · rename_i hc
        cases hd
        obtain ⟨a, vs, rfl, h1, h2⟩ := seqT_ok S r rfl
        exact ⟨a, vs, rfl, SqT.of h1, by rw [← h2.len, hc, hl], h.ok F as H _ _ _ _ Q h2 hc E q⟩
      · cases hd
    · cases hd
end

/-! ### what is walked -/
/-- a list of the store that the turns leave as it is -/
def okk (ck : Option (Nat × Ob)) (s : Sto) : Prop := match ck with
  | none => True
  | some (n, o) => s[n]? = some o
structure Src (K : PySem.W.Frag) (J : It) (F : Hp) (as : List Addr) (ck : Option (Nat × Ob)) (xs : List Va) : Prop where
  stop : ∀ F' G as' s' H, Le F as F' as' → Sim K F' G as' s' H → okk ck s' → J.stop xs.length H
  go : ∀ i F' G as' s' H, i < xs.length → Le F as F' as' → Sim K F' G as' s' H → okk ck s' → J.go i H
  yl : ∀ i F' G as' s' H x H', i < xs.length → Le F as F' as' → Sim K F' G as' s' H → okk ck s' → J.yld i H x H' → ∃ z F2, xs[i]? = some z ∧ Le F' as' F2 as' ∧ Sim K F2 G as' s' H' ∧ Rl K F2 as' z x
abbrev DI := En → Sto → Rs (Option (Nat × Ob) × List Va)
structure RI (X : Cx) (CL : Cls0) (W : WX) (tg iter : Expr) (wi : TI) (di : DI) : Prop where
  pi : PI X tg iter wi
  ok : ∀ σ H R, (∃ F G as ε s, Sim X.K F G as s H ∧ ER X.K F as ε σ ∧ Pst X.K CL (fun c d H => W c d σ H) F G as (fun F' as' src J => Src X.K J F' as' src.1 src.2) (di ε s) R) → wi σ H R
section
variable {K : PySem.W.Frag} {F : Hp} {as : List Addr} {a : Addr} {xs : List Va}
theorem src_l (h : ∀ F' G as' s' H, Le F as F' as' → Sim K F' G as' s' H → ∃ vs, SqL K H a vs ∧ Rls K F' as' xs vs) : Src K (Itl K a) F as none xs where
  stop := fun F' G as' s' H l S o => by
    obtain ⟨vs, h1, h2⟩ := h F' G as' s' H l S
    exact ⟨vs, h1, by rw [h2.len]; exact Nat.le_refl _⟩
  go := fun i F' G as' s' H hi l S o => by
    obtain ⟨vs, h1, h2⟩ := h F' G as' s' H l S
    obtain ⟨v, h3, h4⟩ := h2.get (List.getElem?_eq_getElem hi)
    exact ⟨vs, v, h1, h3⟩
  yl := fun i F' G as' s' H x H' hi l S o y => by
    obtain ⟨e, y⟩ := y
    subst e
    obtain ⟨vs, h1, h2⟩ := h F' G as' s' _ l S
    obtain ⟨z, z1, z2⟩ := h2.getV (y vs h1)
    exact ⟨z, F', z1, Le.refl, S, z2⟩
theorem src_r {n : Nat} (h : as[n]? = some a) : Src K (Itl K a) F as (some (n, .lst xs)) xs where
  stop := fun F' G as' s' H l S o => by
    obtain ⟨_, vs, h1, h2⟩ := S.ref (l.a _ _ h) o
    exact ⟨vs, SqL.of h1, by rw [h2.len]; exact Nat.le_refl _⟩
  go := fun i F' G as' s' H hi l S o => by
    obtain ⟨_, vs, h1, h2⟩ := S.ref (l.a _ _ h) o
    obtain ⟨v, h3, h4⟩ := h2.get (List.getElem?_eq_getElem hi)
    exact ⟨vs, v, SqL.of h1, h3⟩
  yl := fun i F' G as' s' H x H' hi l S o y => by
    obtain ⟨e, y⟩ := y
    subst e
    obtain ⟨_, vs, h1, h2⟩ := S.ref (l.a _ _ h) o
    obtain ⟨z, z1, z2⟩ := h2.getV (y vs (SqL.of h1))
    exact ⟨z, F', z1, Le.refl, S, z2⟩
theorem src_t (h : ∀ F' G as' s' H, Le F as F' as' → Sim K F' G as' s' H → ∃ vs, SqT K H a vs ∧ Rls K F' as' xs vs) : Src K (Itt K a) F as none xs where
  stop := fun F' G as' s' H l S o => by
    obtain ⟨vs, h1, h2⟩ := h F' G as' s' H l S
    exact ⟨vs, h1, by rw [h2.len]; exact Nat.le_refl _⟩
  go := fun i F' G as' s' H hi l S o => by
    obtain ⟨vs, h1, h2⟩ := h F' G as' s' H l S
    obtain ⟨v, h3, h4⟩ := h2.get (List.getElem?_eq_getElem hi)
    exact ⟨vs, v, h1, h3⟩
  yl := fun i F' G as' s' H x H' hi l S o y => by
    obtain ⟨e, y⟩ := y
    subst e
    obtain ⟨vs, h1, h2⟩ := h F' G as' s' _ l S
    obtain ⟨z, z1, z2⟩ := h2.getV (y vs h1)
    exact ⟨z, F', z1, Le.refl, S, z2⟩
def rgA (a b : Int) : List Va := (List.range (b - a).toNat).map fun i => Va.int (a + (i : Nat))
theorem rgA_get {a b : Int} {i : Nat} (h : i < (b - a).toNat) : (rgA a b)[i]? = some (.int (a + i)) := by
  unfold rgA
  rw [List.getElem?_map, List.getElem?_range h]
  rfl
theorem rgA_len {a b : Int} : (rgA a b).length = (b - a).toNat := by
  unfold rgA
  rw [List.length_map, List.length_range]
theorem src_g {lo hi : Int} : Src K (Itr lo (hi - lo).toNat) F as none (rgA lo hi) where
  stop := fun F' G as' s' H l S o => by
    show (hi - lo).toNat ≤ _
    rw [rgA_len]
    exact Nat.le_refl _
  go := fun i F' G as' s' H hi l S o => by
    rw [rgA_len] at hi
    exact hi
  yl := fun i F' G as' s' H x H' hi l S o y => by
    rw [rgA_len] at hi
    obtain ⟨e, y⟩ := y
    subst e y
    exact ⟨_, F', rgA_get hi, Le.refl, S, .int _⟩
end
/-- a list or a tuple walked -/
def iSeq (K : PySem.W.Frag) (tl : TE) : TI := fun σ H R => tl σ H fun x H1 => ∃ a, x = .ref a ∧ (((∃ xs, SqL K H1 a xs) ∧ R (Itl K a) H1) ∨ ((∃ xs, SqT K H1 a xs) ∧ R (Itt K a) H1))
theorem pie_new {X : Cx} {pins : List (Addr × Obj)} {σ : L2.St} {H : Hp} {s : Shared} {tg : Expr} {o : Obj} {tn : Nat → Heap → Prop} {J : It} {R : It → Hp → Prop} (I : Inv X pins σ H s) (T : Turn X.prog X.w X.K tg J [s.heap.objs.size] s.heap.objs.size tn) (st : tn 0 (s.heap.push o)) (r : R J H) :
    PIE X pins σ tg R (.ref s.heap.objs.size) { s with heap := s.heap.push o } := by
  refine ⟨_, _, tn, J, H, rfl, I.kept (t' := s.toks) fun b u k => Heap.get?_push_of_some _ k, T, st, ?_, r⟩
  intro b hb
  obtain rfl := List.mem_singleton.mp hb
  exact I.fpOk (Nat.le_refl _) (I.hok.fresh (Nat.le_refl _))
theorem pi_seq {X : Cx} {tg : Expr} {l : Expr} {tl : TE} (hl : PE X l tl) : PI X tg l (iSeq X.K tl) := by
  constructor
  intro pins s σ H R I h
  refine thn (hl.run pins s σ H _ I h) ?_
  rintro u s1 ⟨_, H1, I1, rx, a, rfl, it⟩
  obtain rfl : u = Value.ref a := rx
  rcases it with ⟨⟨xs, hq⟩, q⟩ | ⟨⟨xs, hq⟩, q⟩
  · obtain ⟨its, -, here, -⟩ := I1.list hq
    exact wpAny_pyIter_list here.isList (pie_new I1 (turn_list a _) ⟨_, Heap.get?_push_size _ rfl, rfl, rfl⟩ q)
  · obtain ⟨its, -, here, -⟩ := I1.tuple hq
    exact wpAny_pyIter_tuple (items := its.toArray) here (pie_new I1 (turn_tuple a _) ⟨_, Heap.get?_push_size _ rfl, rfl, rfl⟩ q)
def dSeq (de : DE) : DI := fun ε s => (de ε s).bind fun x s1 => match x with
  | .ref n => match s1[n]? with
    | some (.lst xs) => .ok (some (n, .lst xs), xs) s1
    | _ => .bad
  | .lst xs => .ok (none, xs) s1
  | .tup xs => .ok (none, xs) s1
  | .ext xs => .ok (none, xs) s1
  | _ => .bad
noncomputable def dRg1 (da : DA) : DI := fun ε s => (evA da ε s).bind fun vs s1 => match vs with
  | [.int j] => if inR j then .ok (none, rgA 0 j) s1 else .bad
  | _ => .bad
noncomputable def dRg2 (da : DA) : DI := fun ε s => (evA da ε s).bind fun vs s1 => match vs with
  | [.int i, .int j] => if inR i ∧ inR j then .ok (none, rgA i j) s1 else .bad
  | _ => .bad
section
variable {X : Cx} {CL : Cls0} {W : WX} {k : Nat} {tg iter a b : Expr} {de : DE} {da : DA} {p pos : Pos}
theorem ri_seq (h : RE X CL W iter de) : RI X CL W tg iter (iSeq X.K (tD X.K CL W de)) (dSeq de) where
  pi := pi_seq h
  ok := fun σ H R q => by
    obtain ⟨F, G, as, ε, s, S, E, q⟩ := q
    refine ⟨F, G, as, ε, s, S, E, Pst.imp (Pst.bind q) fun v H1 ⟨F1, as1, s1, y, l, S1, rx, h1⟩ => ?_⟩
    split at h1
    · cases rx with
      | ref ha =>
        split at h1
        · rename_i e
          obtain ⟨hf, vs, q1, q2⟩ := S1.ref ha e
          exact ⟨_, rfl, .inl ⟨⟨vs, SqL.of q1⟩, h1.ok Le.refl S1 (src_r ha)⟩⟩
        · exact h1.elim
    · cases rx with
      | lst hf hr => exact ⟨_, rfl, .inl ⟨⟨_, SqL.of (S1.sub _ _ hf)⟩, h1.ok Le.refl S1 (src_l fun F' G as' s' H l S => ⟨_, SqL.of (S.sub _ _ (l.f _ _ hf)), hr.mono l⟩)⟩⟩
    · cases rx with
      | tup hf hr => exact ⟨_, rfl, .inr ⟨⟨_, SqT.of (S1.sub _ _ hf)⟩, h1.ok Le.refl S1 (src_t fun F' G as' s' H l S => ⟨_, SqT.of (S.sub _ _ (l.f _ _ hf)), hr.mono l⟩)⟩⟩
    · cases rx with
      | ext hf hr =>
        rcases hf with hf | hf
        · exact ⟨_, rfl, .inl ⟨⟨_, sqL_mono S1.sub hf⟩, h1.ok Le.refl S1 (src_l fun F' G as' s' H l S => ⟨_, sqL_mono S.sub (sqL_mono l.f hf), hr.mono l⟩)⟩⟩
        · exact ⟨_, rfl, .inr ⟨⟨_, sqT_mono S1.sub hf⟩, h1.ok Le.refl S1 (src_t fun F' G as' s' H l S => ⟨_, sqT_mono S.sub (sqT_mono l.f hf), hr.mono l⟩)⟩⟩
    · exact h1.elim
theorem ri_rg1 (hm : X.mg "range" = none) (ha : RA X CL W [a] da) (hG : Gl X "range" := by rfl) (hst : starEach [a] X.env = [(false, eval a X.env)] := by rfl) : RI X CL W tg (.Call (.Name "range" p) [a] [] pos) (iRng1 (tDA X.K CL W da)) (dRg1 da) where
  pi := pi_range1 hG hm ha hst
  ok := fun σ H R q => by
    obtain ⟨F, G, as, ε, s, S, E, q⟩ := q
    refine ⟨F, G, as, ε, s, S, E, Pst.imp (Pst.bind q) fun v H1 ⟨F1, as1, s1, y, l, S1, rx, h1⟩ => ?_⟩
    split at h1
    · obtain ⟨v, rfl, r⟩ := Rls1 rx
      cases r
      split at h1
      · rename_i hc
        unfold inR at hc
        refine ⟨_, rfl, by omega, by omega, ?_⟩
        have z := h1.ok Le.refl S1 src_g
        rw [Int.sub_zero] at z
        exact z
      · exact h1.elim
    · exact h1.elim
end

/-! ### for -/
open Classical in
noncomputable def lp (ck : Option (Nat × Ob)) (body : Va → DS) : List Va → DS
  | [], ε, s => if okk ck s then .nx ε s else .bad
  | x :: r, ε, s => if okk ck s then (match body x ε s with
    | .nx ε' s' => lp ck body r ε' s'
    | .ct ε' s' => lp ck body r ε' s'
    | .brk ε' s' => .nx ε' s'
    | o => o) else .bad
def fBody (dg : DG) (db : DS) (x : Va) : DS := fun ε s => match dg x ε s with
  | some ε' => db ε' s
  | none => .bad
noncomputable def sFor (di : DI) (dg : DG) (db : DS) : DS := fun ε s => (di ε s).fl ε fun src s1 => lp src.1 (fBody dg db) src.2 ε s1
section
variable {K : PySem.W.Frag} {CL : Cls0} {W : WX}
def AtLp (K : PySem.W.Frag) (CL : Cls0) (W : WX) (F G : Hp) (as : List Addr) (D : Ends) (ck : Option (Nat × Ob)) (d : List Va → DS) (xs : List Va) (i : Nat) (σ : L2.St) (H : Hp) : Prop :=
  ∃ F' as' ε' s', Le F as F' as' ∧ Sim K F' G as' s' H ∧ ER K F' as' ε' σ ∧ okk ck s' ∧ PF K CL W F' G as' (d (xs.drop i) ε' s') D
theorem lp_ck {ck : Option (Nat × Ob)} {body : Va → DS} {r : List Va} {ε : En} {s : Sto} {F G : Hp} {as : List Addr} {D : Ends} (h : PF K CL W F G as (lp ck body r ε s) D) : okk ck s := by
  cases r with
  | nil =>
    unfold lp at h
    split at h
    · assumption
    · exact h.elim
  | cons x r =>
    unfold lp at h
    split at h
    · assumption
    · exact h.elim
end
section
variable {X : Cx} {CL : Cls0} {W : WX} {k : Nat} {tg iter : Expr} {body : List Stmt} {wi : TI} {g : TG} {dg : DG} {ts : List Nat} {db : DS} {di : DI} {pos p : Pos}
theorem rs_for (O : Okc X W k) (hi : RI X CL W tg iter wi di) (hg : RG X tg g dg ts) (hb : RSs X CL W body db) (hs : ∀ x, foldedSetIterable iter X.env x = pure x := by intro _; rfl) : RS X CL W (.For tg iter body [] pos) (sFor di dg db) :=
  ps_weak (ps_for O.hp O.calm hi.pi hg.pg hb hs) fun D σ H h => by
    obtain ⟨F, G, as, ε, s, S, E, h⟩ := h
    refine hi.ok σ H _ ⟨F, G, as, ε, s, S, E, Pst.imp (PF.bind E h) fun J H1 ⟨F1, as1, s1, src, l, S1, sr, h1⟩ => ?_⟩
    obtain ⟨ck, xs⟩ := src
    dsimp only at sr h1
    refine ⟨fun i m σ H => m = xs.length - i ∧ i ≤ xs.length ∧ AtLp X.K CL W F1 G as1 D ck (lp ck (fBody dg db)) xs i σ H, ⟨xs.length, by simp, Nat.zero_le _, F1, as1, ε, s1, Le.refl, S1, E.mono l, lp_ck h1, h1⟩, ?_⟩
    rintro i m σ2 H2 ⟨rfl, hi2, F', as', ε', s', l', S', E', ok', h'⟩
    by_cases hlt : i < xs.length
    · refine .inr ⟨sr.go i F' G as' s' H2 hlt l' S' ok', AtLp X.K CL W F1 G as1 D ck (lp ck (fBody dg db)) xs (i + 1), fun σ3 H3 p3 => ⟨xs.length - (i + 1), by omega, rfl, hlt, p3⟩, fun v H3 y => ?_⟩
      obtain ⟨z, F2, e, l2, S2, r⟩ := sr.yl i F' G as' s' H2 v H3 hlt l' S' ok' y
      have ed : xs.drop i = z :: xs.drop (i + 1) := by
        obtain ⟨q1, q2⟩ := List.getElem?_eq_some_iff.mp e
        rw [List.drop_eq_getElem_cons q1, q2]
      rw [ed] at h'
      unfold lp fBody at h'
      rw [if_pos ok'] at h'
      cases q : dg z ε' s' with
      | none =>
        rw [q] at h'
        exact h'.elim
      | some ε2 =>
        rw [q] at h'
        dsimp only at h'
        refine hg.ok F2 G as' s' H3 z v ε' ε2 σ2 _ S2 r (E'.mono l2) q fun σ' E2 _ _ => ⟨F2, G, as', ε2, s', S2, E2, ?_⟩
        have h' := PF.le l2 h'
        cases q2 : db ε2 s' with
        | nx ε3 s3 =>
          rw [q2] at h'
          exact fun F4 as4 σ4 H4 l4 S4 E4 => ⟨F4, as4, ε3, s3, (l'.trans l2).trans l4, S4, E4, lp_ck h', PF.le l4 h'⟩
        | ct ε3 s3 =>
          rw [q2] at h'
          exact fun F4 as4 σ4 H4 l4 S4 E4 => ⟨F4, as4, ε3, s3, (l'.trans l2).trans l4, S4, E4, lp_ck h', PF.le l4 h'⟩
        | brk ε3 s3 =>
          rw [q2] at h'
          exact h'
        | ret y s3 =>
          rw [q2] at h'
          exact h'
        | exc c ε3 s3 =>
          rw [q2] at h'
          exact h'
        | bad =>
          rw [q2] at h'
          exact h'
    · have ei : i = xs.length := by omega
      subst ei
      refine .inl ⟨sr.stop F' G as' s' H2 l' S' ok', ?_⟩
      rw [List.drop_length] at h'
      unfold lp at h'
      rw [if_pos ok'] at h'
      exact h' F' as' σ2 H2 Le.refl S' E'
end

/-! ### comprehensions -/
def Rs.noexc {α : Type} : Rs α → Rs α
  | .ok a s => .ok a s
  | _ => .bad
open Classical in
noncomputable def cl (ck : Option (Nat × Ob)) (dg : DG) (dt : DT) (del : DE) (ε : En) : List Va → List Va → Sto → Rs (List Va)
  | [], acc, s => if okk ck s then .ok acc s else .bad
  | x :: r, acc, s => if okk ck s then (match dg x ε s with
    | none => .bad
    | some ε2 => (dt ε2 s).noexc.bind fun b s1 => if b = true then (del ε2 s1).noexc.bind fun y s2 => cl ck dg dt del ε r (acc ++ [y]) s2 else cl ck dg dt del ε r acc s1) else .bad
noncomputable def dLc (bx : Bool) (di : DI) (dg : DG) (dt : DT) (del : DE) (vs : List Nat) : DE := fun ε s => (di ε s).bind fun src s1 => if leq src.2.length 100000 then (cl src.1 dg dt del (wip ε vs) src.2 [] s1).bind fun acc s2 => mkL bx acc s2 else .bad
abbrev W0 : WX := fun _ _ _ _ => False
section
variable {K : PySem.W.Frag} {CL : Cls0} {W : Value → Option Addr → Hp → Prop} {F G H : Hp} {as : List Addr} {s : Sto}
theorem Pst.noexc {α β : Type} {RA : Hp → List Addr → α → β → Prop} {r : Rs α} {Q : β → Hp → Prop} {W' : Value → Option Addr → Hp → Prop} (h : Pst K CL W F G as RA r.noexc Q) : Pst K CL W' F G as RA r Q := by
  cases r with
  | ok x s => exact h
  | exc c s => exact h.elim
  | bad => exact h.elim
/-- the new list stands in what is kept -/
theorem Sim.hide {D : Addr} {o : HO} (S : Sim K F G as s H) (h : H D = none) : Sim K F (upd G D o) as s (upd H D o) where
  sub := fun a u e => by
    have ne : a ≠ D := fun z => by
      rw [z, S.fnone h] at e
      cases e
    rw [upd_ne ne]
    exact S.sub a u e
  fr := fun a u e => by
    by_cases q : a = D
    · subst q
      rw [upd_same] at e ⊢
      refine ⟨e, .inl (S.fnone h), fun z => ?_⟩
      obtain ⟨w, hw⟩ := S.here a z
      rw [h] at hw
      cases hw
    · rw [upd_ne q] at e ⊢
      exact S.fr a u e
  len := S.len
  here := fun a ha => by
    obtain ⟨w, hw⟩ := S.here a ha
    rw [upd_ne (ne_of_none hw h)]
    exact ⟨w, hw⟩
  nd := S.nd
  obj := fun i a ob h1 h2 => by
    obtain ⟨w, hw⟩ := S.here a (List.mem_of_getElem? h1)
    exact (S.obj i a ob h1 h2).mono2 Le.refl (fun z => z) (upd_ne (ne_of_none hw h))
theorem Sim.hid {D : Addr} {o : HO} (S : Sim K F (upd G D o) as s H) (ho : ∀ vs, o ≠ .tup vs) : F D = none := by
  obtain ⟨_, d2, _⟩ := S.fr D o upd_same
  rcases d2 with d | ⟨_, vs, e⟩
  · exact d
  · exact absurd e (ho vs)
theorem Sim.hidden {D : Addr} {o o' : HO} (S : Sim K F (upd G D o) as s H) (ho : ∀ vs, o ≠ .tup vs := by intro _ z; cases z) : Sim K F (upd G D o') as s (upd H D o') := by
  obtain ⟨d1, _, d3⟩ := S.fr D o upd_same
  have d2 := S.hid ho
  refine ⟨fun a u e => ?_, fun a u e => ?_, S.len, fun a ha => ?_, S.nd, fun i a ob h1 h2 => ?_⟩
  · have ne : a ≠ D := ne_of_none e d2
    rw [upd_ne ne]
    exact S.sub a u e
  · by_cases q : a = D
    · subst q
      rw [upd_same] at e ⊢
      exact ⟨e, .inl d2, d3⟩
    · rw [upd_ne q] at e ⊢
      exact S.fr a u (by rw [upd_ne q]; exact e)
  · obtain ⟨w, hw⟩ := S.here a ha
    have ne : a ≠ D := fun z => d3 (by rw [← z]; exact ha)
    rw [upd_ne ne]
    exact ⟨w, hw⟩
  · have ne : a ≠ D := fun z => d3 (by rw [← z]; exact List.mem_of_getElem? h1)
    exact (S.obj i a ob h1 h2).mono2 Le.refl (fun z => z) (upd_ne ne)
/-- it is frozen, or becomes an object of the store -/
theorem Sim.shown {D : Addr} {accV : List V} {acc : List Va} {bx : Bool} {Q : VK} (hG : G D = none) (S : Sim K F (upd G D (.lst accV)) as s H) (r : Rls K F as acc accV) (h : Pst K CL W F G as (Rl K) (mkL bx acc s) Q) : Q (.ref D) H := by
  obtain ⟨d1, _, d3⟩ := S.fr D _ upd_same
  have d2 := S.hid (fun _ z => by cases z)
  cases bx with
  | false =>
    refine h.ok (F' := upd F D (.lst accV)) (as' := as) (Le.new d2) ⟨fun a u e => ?_, fun a u e => ?_, S.len, S.here, S.nd, fun i a ob h1 h2 => ?_⟩ (.lst upd_same (r.mono (Le.new d2)))
    · by_cases q : a = D
      · subst q
        rw [upd_same] at e
        cases e
        exact d1
      · rw [upd_ne q] at e
        exact S.sub a u e
    · have q : a ≠ D := fun z => by
        rw [z, hG] at e
        cases e
      obtain ⟨e1, e2, e3⟩ := S.fr a u (by rw [upd_ne q]; exact e)
      rw [upd_ne q]
      exact ⟨e1, e2, e3⟩
    · have ne : a ≠ D := fun z => d3 (by rw [← z]; exact List.mem_of_getElem? h1)
      exact (S.obj i a ob h1 h2).mono2 (Le.new d2) (fun z => by rw [upd_ne ne]; exact z) rfl
  | true =>
    refine h.ok (F' := F) (as' := as ++ [D]) Le.push ⟨S.sub, fun a u e => ?_, by rw [List.length_append, List.length_append, S.len]; rfl, fun a ha => ?_, ?_, fun i a ob h1 h2 => ?_⟩ (.ref ?_)
    · have q : a ≠ D := fun z => by
        rw [z, hG] at e
        cases e
      obtain ⟨e1, e2, e3⟩ := S.fr a u (by rw [upd_ne q]; exact e)
      refine ⟨e1, e2, fun z => ?_⟩
      rcases List.mem_append.mp z with z | z
      · exact e3 z
      · exact q (List.mem_singleton.mp z)
    · rcases List.mem_append.mp ha with z | z
      · exact S.here a z
      · rw [List.mem_singleton.mp z]
        exact ⟨_, d1⟩
    · refine List.nodup_append.mpr ⟨S.nd, by simp, fun a ha b hb e => ?_⟩
      rw [List.mem_singleton.mp hb] at e
      exact d3 (by rw [← e]; exact ha)
    · by_cases hi : i < as.length
      · rw [List.getElem?_append_left hi] at h1
        rw [List.getElem?_append_left (by rw [← S.len]; exact hi)] at h2
        exact (S.obj i a ob h1 h2).mono2 Le.push (fun z => z) rfl
      · have l1 := (List.getElem?_eq_some_iff.mp h1).1
        rw [List.length_append] at l1
        have e : i = as.length := by simp at l1; omega
        subst e
        rw [List.getElem?_concat_length] at h1
        rw [S.len, List.getElem?_concat_length] at h2
        cases h1
        cases h2
        exact ⟨d2, accV, d1, r.mono Le.push⟩
    · rw [← S.len]
      exact List.getElem?_concat_length
end
theorem wipe_in {σ : L2.St} {i : Nat} : ∀ {vs : List Nat}, i ∈ vs → i < σ.length → (wipe σ vs)[i]? = some none
  | v :: vs, h, hl => by
    unfold wipe
    by_cases e : v = i
    · subst e
      rw [List.getElem?_set_self (by rw [wipe_length]; exact hl)]
    · rw [List.getElem?_set_ne e]
      rcases List.mem_cons.mp h with z | z
      · exact absurd z.symm e
      · exact wipe_in z hl
theorem wipe_eq {σ σ' : L2.St} {vs ts : List Nat} (hs : ∀ i ∈ ts, i ∈ vs) (hl : σ'.length = (wipe σ vs).length) (h : ∀ i, i ∉ ts → σ'[i]? = (wipe σ vs)[i]?) : wipe σ' vs = wipe σ vs := by
  apply List.ext_getElem?
  intro i
  rw [wipe_length] at hl
  by_cases hi : i ∈ vs
  · by_cases hz : i < σ.length
    · rw [wipe_in hi (by rw [hl]; exact hz), wipe_in hi hz]
    · rw [List.getElem?_eq_none (by rw [wipe_length, hl]; omega), List.getElem?_eq_none (by rw [wipe_length]; omega)]
  · rw [wipe_out hi]
    exact h i fun z => hi (hs i z)
section
variable {X : Cx} {CL : Cls0} {W : WX} {k : Nat} {elt tg iter : Expr} {ifs : List Expr} {scope : Scope} {own : List (Str × Nat)} {wi : TI} {g : TG} {dg : DG} {ts : List Nat} {dt : DT} {del : DE} {di : DI} {pos spos : Pos}
theorem tD_lc {σ : L2.St} {H : Hp} {Q : VK} (bx : Bool) (hi : RI X CL W tg iter wi di) (hg : ∀ F G as s H x v ε ε' σ Q, Sim X.K F G as s H → Rl X.K F as x v → ER X.K F as ε σ → dg x ε s = some ε' → (∀ σ', ER X.K F as ε' σ' → σ'.length = σ.length → (∀ i, i ∉ ts → σ'[i]? = σ[i]?) → Q σ' H) → g v σ H Q) {vs : List Nat} (hts : ∀ i ∈ ts, i ∈ vs)
    (h : tD X.K CL W (dLc bx di dg dt del vs) σ H Q) : tLc wi g (tDT X.K CL W0 dt) (tD X.K CL W0 del) vs σ H Q := by
  obtain ⟨F, G, as, ε, s, S, E, h⟩ := h
  refine hi.ok σ H _ ⟨F, G, as, ε, s, S, E, Pst.imp (Pst.bind h) fun J H1 ⟨F1, as1, s1, src, l, S1, sr, h1⟩ => ?_⟩
  obtain ⟨ck, xs⟩ := src
  dsimp only at sr h1
  split at h1
  case isFalse => exact h1.elim
  case isTrue hlen =>
  unfold leq at hlen
  intro D hD
  have hGD : G D = none := by
    cases q : G D with
    | none => rfl
    | some o =>
      have := (S1.fr D o q).1
      rw [hD] at this
      cases this
  refine ⟨fun i m H => m = xs.length - i ∧ i ≤ xs.length ∧ ∃ F' as' s' acc accV, Le F1 as1 F' as' ∧ Sim X.K F' (upd G D (.lst accV)) as' s' H ∧ Rls X.K F' as' acc accV ∧ acc.length ≤ i ∧
    Pst X.K CL (fun c d H => W c d σ H) F' G as' (Rl X.K) ((cl ck dg dt del (wip ε vs) (xs.drop i) acc s').bind fun acc s2 => mkL bx acc s2) Q,
    ⟨xs.length, by simp, Nat.zero_le _, F1, as1, s1, [], [], Le.refl, S1.hide hD, .nil, Nat.le_refl _, h1⟩, ?_⟩
  rintro i m H2 ⟨rfl, hi2, F', as', s', acc, accV, l', S', ra, hacc, h'⟩
  have ok' : okk ck s' := by
    cases q : xs.drop i with
    | nil =>
      rw [q] at h'
      unfold cl at h'
      split at h'
      · assumption
      · exact h'.elim
    | cons y r =>
      rw [q] at h'
      unfold cl at h'
      split at h'
      · assumption
      · exact h'.elim
  by_cases hlt : i < xs.length
  · refine .inr ⟨sr.go i F' _ as' s' H2 hlt l' S' ok', fun H3 => i + 1 ≤ xs.length ∧ ∃ F' as' s' acc accV, Le F1 as1 F' as' ∧ Sim X.K F' (upd G D (.lst accV)) as' s' H3 ∧ Rls X.K F' as' acc accV ∧ acc.length ≤ i + 1 ∧
      Pst X.K CL (fun c d H => W c d σ H) F' G as' (Rl X.K) ((cl ck dg dt del (wip ε vs) (xs.drop (i + 1)) acc s').bind fun acc s2 => mkL bx acc s2) Q, fun H3 p3 => ⟨xs.length - (i + 1), by omega, rfl, p3⟩, fun v H3 y => ?_⟩
    obtain ⟨z, F2, e, l2, S2, r⟩ := sr.yl i F' _ as' s' H2 v H3 hlt l' S' ok' y
    have ed : xs.drop i = z :: xs.drop (i + 1) := by
      obtain ⟨q1, q2⟩ := List.getElem?_eq_some_iff.mp e
      rw [List.drop_eq_getElem_cons q1, q2]
    rw [ed] at h'
    unfold cl at h'
    rw [if_pos ok'] at h'
    have EW : ER X.K F2 as' (wip ε vs) (wipe σ vs) := ER.wipe (E.mono ((l.trans l').trans l2)) vs
    cases q : dg z (wip ε vs) s' with
    | none =>
      rw [q] at h'
      exact h'.elim
    | some ε2 =>
      rw [q] at h'
      dsimp only at h'
      refine hg F2 _ as' s' H3 z v _ ε2 _ _ S2 r EW q fun σ2 E2 hl2 ho2 => ⟨wipe_eq hts hl2 ho2, ?_⟩
      refine ⟨F2, _, as', ε2, s', S2, E2, ?_⟩
      have h' := Pst.le l2 h'
      cases q3 : dt ε2 s' with
      | exc c s3 =>
        rw [q3] at h'
        exact h'.elim
      | bad =>
        rw [q3] at h'
        exact h'.elim
      | ok b s3 =>
        rw [q3] at h'
        intro F3 as3 H4 b' l3 S3 eb
        subst eb
        cases b with
        | true =>
          rw [if_pos rfl]
          dsimp only [Rs.noexc, Rs.bind] at h'
          rw [if_pos rfl] at h'
          refine ⟨F3, _, as3, ε2, s3, S3, E2.mono l3, ?_⟩
          cases q4 : del ε2 s3 with
          | exc c s4 =>
            rw [q4] at h'
            exact h'.elim
          | bad =>
            rw [q4] at h'
            exact h'.elim
          | ok y s4 =>
            rw [q4] at h'
            intro F4 as4 H5 w l4 S4 ry
            have la : accV.length ≤ 100000 := by rw [← ra.len]; omega
            refine ⟨accV, (S4.fr D _ upd_same).1, Nat.lt_of_le_of_lt la (by decide), by omega, F4, as4, s4, acc ++ [y], accV ++ [w], ((l'.trans l2).trans l3).trans l4, S4.hidden, ((ra.mono ((l2.trans l3).trans l4)).app (.cons ry .nil)), by rw [List.length_append]; simp; omega, ?_⟩
            exact Pst.le (l3.trans l4) h'
        | false =>
          rw [if_neg (by decide)]
          dsimp only [Rs.noexc, Rs.bind] at h'
          rw [if_neg (by decide)] at h'
          exact ⟨by omega, F3, as3, s3, acc, accV, (l'.trans l2).trans l3, S3, ra.mono (l2.trans l3), by omega, Pst.le l3 h'⟩
  · have ei : i = xs.length := by omega
    subst ei
    refine .inl ⟨sr.stop F' _ as' s' H2 l' S' ok', ?_⟩
    rw [List.drop_length] at h'
    unfold cl at h'
    rw [if_pos ok'] at h'
    exact S'.shown hGD ra h'
abbrev RTs (X : Cx) (CL : Cls0) (W : WX) (ifs : List Expr) (d : DT) : Prop := PTs X ifs (tDT X.K CL W d)
def dYes : DT := fun _ s => .ok true s
theorem rts_nil : RTs X CL W [] dYes := ⟨fun pins s σ H Q I h => pts_nil.run pins s σ H Q I (by
  obtain ⟨F, G, as, ε, s, S, E, h⟩ := h
  exact h.ok Le.refl S rfl)⟩
theorem rts_one {c : Expr} (h : RT X CL W c dt) : RTs X CL W [c] dt := pts_one h
theorem re_lc (O : Okc X W k) (bx : Bool) (hi : RI X CL W tg iter wi di) (ok : BlkOk X.N X.env.scope scope own)
    (hg : ∀ (s : Shared) (H : Hp) (C : Addr) (cl : List (Str × Addr)) (fp : List Addr), Okc (X.blk s H scope (compEnvC scope cl C X.env) fp) W0 k → RG (X.blk s H scope (compEnvC scope cl C X.env) fp) tg g dg ts)
    (ht : ∀ (s : Shared) (H : Hp) (C : Addr) (cl : List (Str × Addr)) (fp : List Addr), Okc (X.blk s H scope (compEnvC scope cl C X.env) fp) W0 k → RTs (X.blk s H scope (compEnvC scope cl C X.env) fp) CL W0 ifs dt)
    (he : ∀ (s : Shared) (H : Hp) (C : Addr) (cl : List (Str × Addr)) (fp : List Addr), Okc (X.blk s H scope (compEnvC scope cl C X.env) fp) W0 k → RE (X.blk s H scope (compEnvC scope cl C X.env) fp) CL W0 elt del)
    (hts : ∀ i ∈ ts, i ∈ own.map (·.2) := by decide) (hs : ∀ x, foldedSetIterable iter X.env x = pure x := by intro _; rfl) :
    RE X CL W (.ListComp elt [⟨tg, iter, ifs, 0⟩] scope pos) (dLc bx di dg dt del (own.map (·.2))) := by
  have OB : ∀ (s : Shared) (H : Hp) (C : Addr) (cl : List (Str × Addr)) (fp : List Addr), Okc (X.blk s H scope (compEnvC scope cl C X.env) fp) W0 k := fun s H C cl fp => ⟨O.calm, takes0, PassesOwn.never, O.room, O.nd⟩
  refine pe_weak (pe_lc (te := tD X.K CL W0 del) (tt := tDT X.K CL W0 dt) (g := g) O.calm O.nd hi.pi ok (fun s H C cl fp => (hg s H C cl fp (OB s H C cl fp)).pg) (fun s H C cl fp => ht s H C cl fp (OB s H C cl fp)) (fun s H C cl fp => he s H C cl fp (OB s H C cl fp)) hs) fun σ H Q h => ?_
  exact tD_lc bx hi (hg X.s_0 (fun _ => none) 0 [] [] (OB _ _ _ _ _)).ok hts h
theorem rs_setLc {i : Nat} {y : Str} {py : Pos} (O : Okc X W k) (hy : X.N[i]? = some y) (hyl : X.env.scope.names.lookup y = some .local) (hsw : swapsWith (.ListComp elt [⟨tg, iter, ifs, 0⟩] scope pos) (some (.Name y py)) spos.line X.env = pure true) (bx : Bool) (hi : RI X CL W tg iter wi di) (ok : BlkOk X.N X.env.scope scope own)
    (hg : ∀ (s : Shared) (H : Hp) (C : Addr) (cl : List (Str × Addr)) (fp : List Addr), Okc (X.blk s H scope (compEnvC scope cl C X.env) fp) W0 k → RG (X.blk s H scope (compEnvC scope cl C X.env) fp) tg g dg ts)
    (ht : ∀ (s : Shared) (H : Hp) (C : Addr) (cl : List (Str × Addr)) (fp : List Addr), Okc (X.blk s H scope (compEnvC scope cl C X.env) fp) W0 k → RTs (X.blk s H scope (compEnvC scope cl C X.env) fp) CL W0 ifs dt)
    (he : ∀ (s : Shared) (H : Hp) (C : Addr) (cl : List (Str × Addr)) (fp : List Addr), Okc (X.blk s H scope (compEnvC scope cl C X.env) fp) W0 k → RE (X.blk s H scope (compEnvC scope cl C X.env) fp) CL W0 elt del)
    (hts : ∀ i ∈ ts, i ∈ own.map (·.2) := by decide) (hs : ∀ x, foldedSetIterable iter X.env x = pure x := by intro _; rfl) :
    RS X CL W (.Assign [.Name y py] (.ListComp elt [⟨tg, iter, ifs, 0⟩] scope pos) spos) (sSet i (dLc bx di dg dt del (own.map (·.2)))) := by
  have OB : ∀ (s : Shared) (H : Hp) (C : Addr) (cl : List (Str × Addr)) (fp : List Addr), Okc (X.blk s H scope (compEnvC scope cl C X.env) fp) W0 k := fun s H C cl fp => ⟨O.calm, takes0, PassesOwn.never, O.room, O.nd⟩
  refine ps_weak (ps_setLc (te := tD X.K CL W0 del) (tt := tDT X.K CL W0 dt) (g := g) O.calm O.nd hy hyl hsw hi.pi ok (fun s H C cl fp => (hg s H C cl fp (OB s H C cl fp)).pg) (fun s H C cl fp => ht s H C cl fp (OB s H C cl fp)) (fun s H C cl fp => he s H C cl fp (OB s H C cl fp)) hs) fun D σ H h => ?_
  exact tDS_set (fun Q q => tD_lc bx hi (hg X.s_0 (fun _ => none) 0 [] [] (OB _ _ _ _ _)).ok hts q) h
end
end Dn

set_option Elab.async false
set_option linter.all false
set_option maxRecDepth 100000
set_option maxHeartbeats 1000000
/-! Dn, part F: calls and defs; freezing; while; raise. -/
namespace Dn
open PySem PySem.Spec PyProof.Rows L2

/-! ### what a def promises -/
def spF (K : PySem.W.Frag) (CL : Cls0) (n : Nat) (F0 : List Va → Sto → Rs Va) : Sp := fun vs H Q E => ∃ F G as s args, Sim K F G as s H ∧ Rls K F as args vs ∧ args.length = n ∧ Pst K CL E F G as (Rl K) (F0 args s) Q
def gFn (n : Nat) (F0 : List Va → Sto → Rs Va) : List Va → Sto → Rs Va := fun xs s => if xs.length = n then F0 xs s else .bad
section
variable {X : Cx} {CL : Cls0} {W : WX} {k j : Nat} {f : Addr} {fd : FuncData} {ps : List Str} {F0 : List Va → Sto → Rs Va} {x : Str} {p pos : Pos} {e : Expr} {es : List Expr} {dr : DA}
theorem re_call (O : Okc X W j) (F : FnOk X.prog X.w X.K X.mg X.base (L2.CX X.prog X.w) k f fd ps (spF X.K CL ps.length F0)) (hk : k ≤ j) (hm : X.mg x = some (.ref f)) (hkp : PySem.W.keepIn X.K (.ref f) = true) (hb : Binds X.K fd ps []) (ha : RA X CL W (e :: es) dr) (hg : Gl X x := by rfl)
    (hdb : (x == ("__debug__" : Str)) = false := by decide) (he : starEach (e :: es) X.env = (false, eval e X.env) :: starEach es X.env := by rfl) (hpl : (backTo pos (starEach es X.env)).any (·.1) = false := by rfl) :
    RE X CL W (.Call (.Name x p) (e :: es) [] pos) (dApp (gFn ps.length F0) dr) :=
  pe_weak (pe_callS (E := WE W) F (O.room.mono hk) hg hm hkp hb (fun σ => passAt O.tk σ) ha hdb he hpl) fun σ H Q h => by
    obtain ⟨F, G, as, ε, s, S, E, h⟩ := h
    refine ⟨F, G, as, ε, s, S, E, Pst.imp (Pst.bind h) fun v H1 ⟨F1, as1, s1, y, l, S1, rx, h1⟩ => ?_⟩
    unfold gFn at h1
    split at h1
    · rename_i hc
      exact ⟨F1, G, as1, s1, y, S1, rx, hc, h1⟩
    · exact h1.elim
end

/-! ### refs below a bound -/
mutual
def vaB (n : Nat) : Va → Prop
  | .ref i => i < n
  | .tup xs => vasB n xs
  | .lst xs => vasB n xs
  | .ext xs => vasB n xs
  | .dicK kvs => vksB n kvs
  | .dicT kvs => vtsB n kvs
  | .non => True
  | .bl _ => True
  | .int _ => True
  | .str _ => True
def vasB (n : Nat) : List Va → Prop
  | [] => True
  | x :: xs => vaB n x ∧ vasB n xs
def vksB (n : Nat) : List (Key × Va) → Prop
  | [] => True
  | (_, x) :: xs => vaB n x ∧ vksB n xs
def vtsB (n : Nat) : List (List Key × Va) → Prop
  | [] => True
  | (_, x) :: xs => vaB n x ∧ vtsB n xs
end
def vfsB (n : Nat) : List (Str × Va) → Prop
  | [] => True
  | (_, x) :: xs => vaB n x ∧ vfsB n xs
def vbsB (n : Nat) : List (List Bool × Va) → Prop
  | [] => True
  | (_, x) :: xs => vaB n x ∧ vbsB n xs
def obB (n : Nat) : Ob → Prop
  | .lst xs => vasB n xs
  | .dicK kvs => vksB n kvs
  | .dicT kvs => vtsB n kvs
  | .ins _ fs => vfsB n fs
  | .dead => True
  | .fdK _ _ kvs => vksB n kvs
  | .fdT _ _ kvs => vtsB n kvs
  | .dicB kvs => vbsB n kvs
  | .fdB _ _ kvs => vbsB n kvs
def WFn (n : Nat) (s : Sto) : Prop := ∀ o ∈ s, obB n o
section
variable {K : PySem.W.Frag} {F G H : Hp} {as : List Addr} {s : Sto}
mutual
theorem Rl.bnd : ∀ {x : Va} {v : V}, Rl K F as x v → vaB as.length x
  | _, _, .non => trivial
  | _, _, .bl b => trivial
  | _, _, .int i => trivial
  | _, _, .str x => trivial
  | _, _, .tup _ r => Rls.bnd r
  | _, _, .lst _ r => Rls.bnd r
  | _, _, .ext _ r => Rls.bnd r
  | _, _, .dicK _ r => RlK.bnd r
  | _, _, .dicT _ r => RlT.bnd r
  | _, _, .ref h => (List.getElem?_eq_some_iff.mp h).1
theorem Rls.bnd : ∀ {xs : List Va} {vs : List V}, Rls K F as xs vs → vasB as.length xs
  | _, _, .nil => trivial
  | _, _, .cons h r => ⟨Rl.bnd h, Rls.bnd r⟩
theorem RlK.bnd : ∀ {xs : List (Key × Va)} {vs : List (Key × V)}, RlK K F as xs vs → vksB as.length xs
  | _, _, .nil => trivial
  | _, _, .cons h r => ⟨Rl.bnd h, RlK.bnd r⟩
theorem RlT.bnd : ∀ {xs : List (List Key × Va)} {vs : List (List Key × V)}, RlT K F as xs vs → vtsB as.length xs
  | _, _, .nil => trivial
  | _, _, .cons h r => ⟨Rl.bnd h, RlT.bnd r⟩
end
theorem RlF.bnd : ∀ {xs : List (Str × Va)} {vs : List (Str × V)}, RlF K F as xs vs → vfsB as.length xs
  | _, _, .nil => trivial
  | _, _, .cons h r => ⟨Rl.bnd h, RlF.bnd r⟩
mutual
theorem Rl.cut (n : Nat) : ∀ {x : Va} {v : V}, Rl K F as x v → vaB n x → Rl K F (as.take n) x v
  | _, _, .non, _ => .non
  | _, _, .bl b, _ => .bl b
  | _, _, .int i, _ => .int i
  | _, _, .str x, _ => .str x
  | _, _, .tup h r, b => .tup h (Rls.cut n r b)
  | _, _, .lst h r, b => .lst h (Rls.cut n r b)
  | _, _, .ext h r, b => .ext h (Rls.cut n r b)
  | _, _, .dicK h r, b => .dicK h (RlK.cut n r b)
  | _, _, .dicT h r, b => .dicT h (RlT.cut n r b)
  | _, _, .ref h, b => .ref (by rw [List.getElem?_take_of_lt b]; exact h)
theorem Rls.cut (n : Nat) : ∀ {xs : List Va} {vs : List V}, Rls K F as xs vs → vasB n xs → Rls K F (as.take n) xs vs
  | _, _, .nil, _ => .nil
  | _, _, .cons h r, b => .cons (Rl.cut n h b.1) (Rls.cut n r b.2)
theorem RlK.cut (n : Nat) : ∀ {xs : List (Key × Va)} {vs : List (Key × V)}, RlK K F as xs vs → vksB n xs → RlK K F (as.take n) xs vs
  | _, _, .nil, _ => .nil
  | _, _, .cons h r, b => .cons (Rl.cut n h b.1) (RlK.cut n r b.2)
theorem RlT.cut (n : Nat) : ∀ {xs : List (List Key × Va)} {vs : List (List Key × V)}, RlT K F as xs vs → vtsB n xs → RlT K F (as.take n) xs vs
  | _, _, .nil, _ => .nil
  | _, _, .cons h r, b => .cons (Rl.cut n h b.1) (RlT.cut n r b.2)
end
theorem RlF.cut (n : Nat) : ∀ {xs : List (Str × Va)} {vs : List (Str × V)}, RlF K F as xs vs → vfsB n xs → RlF K F (as.take n) xs vs
  | _, _, .nil, _ => .nil
  | _, _, .cons h r, b => .cons (Rl.cut n h b.1) (RlF.cut n r b.2)
theorem RlB.cut (n : Nat) : ∀ {xs : List (List Bool × Va)} {vs : List (List Bool × V)}, RlB K F as xs vs → vbsB n xs → RlB K F (as.take n) xs vs
  | _, _, .nil, _ => .nil
  | _, _, .cons h r, b => .cons (Rl.cut n h b.1) (RlB.cut n r b.2)
theorem RlB.bnd : ∀ {xs : List (List Bool × Va)} {vs : List (List Bool × V)}, RlB K F as xs vs → vbsB as.length xs
  | _, _, .nil => trivial
  | _, _, .cons h r => ⟨Rl.bnd h, RlB.bnd r⟩
theorem Sim.wf (S : Sim K F G as s H) : WFn s.length s := fun o ho => by
  obtain ⟨i, hi, e⟩ := List.mem_iff_getElem.mp ho
  have e2 : s[i]? = some o := by rw [List.getElem?_eq_getElem hi, e]
  obtain ⟨a, ha⟩ := S.at e2
  have r := S.obj i a o ha e2
  rw [← S.len]
  cases o with
  | lst xs => obtain ⟨_, vs, _, h⟩ := r; exact h.bnd
  | dicK xs => obtain ⟨_, vs, _, h⟩ := r; exact h.bnd
  | dicT xs => obtain ⟨_, vs, _, h⟩ := r; exact h.bnd
  | ins C xs => obtain ⟨_, dx, vs, _, h⟩ := r; exact h.bnd
  | dead => trivial
  | fdK od ks xs => obtain ⟨_, _, h⟩ := r; exact h.bnd
  | fdT od ks xs => obtain ⟨_, _, h⟩ := r; exact h.bnd
  | dicB xs => obtain ⟨_, ks, ys, _, _, h⟩ := r; exact h.bnd
  | fdB od ys xs => obtain ⟨_, ks, _, _, h⟩ := r; exact h.bnd
theorem ObR.cut {a : Addr} {o : Ob} (n : Nat) (h : ObR K F as H a o) (b : obB n o) : ObR K F (as.take n) H a o := by
  cases o with
  | lst xs => obtain ⟨hf, vs, h1, h2⟩ := h; exact ⟨hf, vs, h1, h2.cut n b⟩
  | dicK xs => obtain ⟨hf, vs, h1, h2⟩ := h; exact ⟨hf, vs, h1, h2.cut n b⟩
  | dicT xs => obtain ⟨hf, vs, h1, h2⟩ := h; exact ⟨hf, vs, h1, h2.cut n b⟩
  | ins C xs => obtain ⟨hf, dx, vs, h1, h2⟩ := h; exact ⟨hf, dx, vs, h1, h2.cut n b⟩
  | dead => trivial
  | fdK od ks xs => obtain ⟨hf, h1, h2⟩ := h; exact ⟨hf, h1, h2.cut n b⟩
  | fdT od ks xs => obtain ⟨hf, h1, h2⟩ := h; exact ⟨hf, h1, h2.cut n b⟩
  | dicB xs => obtain ⟨hf, ks, ys, h1, h2, h3⟩ := h; exact ⟨hf, ks, ys, h1, h2, h3.cut n b⟩
  | fdB od ys xs => obtain ⟨hf, ks, h1, h2, h3⟩ := h; exact ⟨hf, ks, h1, h2, h3.cut n b⟩
theorem Sim.cut (n : Nat) (S : Sim K F G as s H) (w : WFn n (s.take n)) : Sim K F G (as.take n) (s.take n) H where
  sub := S.sub
  fr := fun a o e => by
    obtain ⟨h1, h2, h3⟩ := S.fr a o e
    exact ⟨h1, h2, fun z => h3 (List.mem_of_mem_take z)⟩
  len := by rw [List.length_take, List.length_take, S.len]
  here := fun a ha => S.here a (List.mem_of_mem_take ha)
  nd := S.nd.sublist (List.take_sublist _ _)
  obj := fun i a o h1 h2 => by
    have hi : i < n := by
      have := (List.getElem?_eq_some_iff.mp h2).1
      rw [List.length_take] at this
      omega
    have e2 := h2
    rw [List.getElem?_take_of_lt hi] at h1 h2
    exact (S.obj i a o h1 h2).cut n (w o (List.mem_of_getElem? e2))
/-- .. and one object kept behind them -/
theorem Sim.cutBox (n : Nat) {i : Nat} {a : Addr} {o : Ob} (S : Sim K F G as s H) (w : WFn n (s.take n)) (hn : n ≤ s.length) (hi : n ≤ i) (ha : as[i]? = some a) (ho : s[i]? = some o) (hb : obB n o) : Sim K F G (as.take n ++ [a]) (s.take n ++ [o]) H := by
  have S1 := S.cut n w
  have hm : a ∉ as.take n := fun z => by
    obtain ⟨j, hj, e⟩ := List.mem_iff_getElem.mp z
    rw [List.length_take] at hj
    rw [List.getElem_take] at e
    obtain ⟨l2, e2⟩ := List.getElem?_eq_some_iff.mp ha
    have := (List.getElem_inj S.nd).mp (e.trans e2.symm)
    omega
  refine ⟨S.sub, fun b u e => ?_, by rw [List.length_append, List.length_append, S1.len]; rfl, fun b hb => ?_, ?_, fun j b ob h1 h2 => ?_⟩
  · obtain ⟨h1, h2, h3⟩ := S.fr b u e
    refine ⟨h1, h2, fun z => h3 ?_⟩
    rcases List.mem_append.mp z with z | z
    · exact List.mem_of_mem_take z
    · rw [List.mem_singleton.mp z]
      exact List.mem_of_getElem? ha
  · rcases List.mem_append.mp hb with z | z
    · exact S1.here b z
    · rw [List.mem_singleton.mp z]
      exact S.here a (List.mem_of_getElem? ha)
  · refine List.nodup_append.mpr ⟨S1.nd, by simp, fun b hb c hc e => ?_⟩
    rw [List.mem_singleton.mp hc] at e
    exact hm (by rw [← e]; exact hb)
  · by_cases hj : j < (as.take n).length
    · rw [List.getElem?_append_left hj] at h1
      rw [List.getElem?_append_left (by rw [← S1.len]; exact hj)] at h2
      exact (S1.obj j b ob h1 h2).mono2 Le.push (fun z => z) rfl
    · have l1 := (List.getElem?_eq_some_iff.mp h1).1
      rw [List.length_append] at l1
      have e : j = (as.take n).length := by simp at l1 hj ⊢; omega
      subst e
      rw [List.getElem?_concat_length] at h1
      rw [S1.len, List.getElem?_concat_length] at h2
      cases h1
      cases h2
      exact ((S.obj i a o ha ho).cut n hb).mono2 Le.push (fun z => z) rfl
end

/-! ### freezing -/
mutual
inductive Frz : Va → Sto → Va → Sto → Prop
  | same (x : Va) (s : Sto) : Frz x s x s
  | lst {i : Nat} {xs xs' : List Va} {s s1 : Sto} : s[i]? = some (.lst xs) → Frzs xs s xs' s1 → s1[i]? = some (.lst xs) → Frz (.ref i) s (.lst xs') (s1.set i .dead)
  | dicK {i : Nat} {kvs : List (Key × Va)} {s : Sto} : s[i]? = some (.dicK kvs) → Frz (.ref i) s (.dicK kvs) (s.set i .dead)
  | dicT {i : Nat} {kvs : List (List Key × Va)} {s : Sto} : s[i]? = some (.dicT kvs) → Frz (.ref i) s (.dicT kvs) (s.set i .dead)
  | tup {xs xs' : List Va} {s s' : Sto} : Frzs xs s xs' s' → Frz (.tup xs) s (.tup xs') s'
  | lstI {xs xs' : List Va} {s s' : Sto} : Frzs xs s xs' s' → Frz (.lst xs) s (.lst xs') s'
inductive Frzs : List Va → Sto → List Va → Sto → Prop
  | nil (s : Sto) : Frzs [] s [] s
  | cons {x x' : Va} {xs xs' : List Va} {s s1 s2 : Sto} : Frz x s x' s1 → Frzs xs s1 xs' s2 → Frzs (x :: xs) s (x' :: xs') s2
end
theorem Frzs.same : ∀ (xs : List Va) (s : Sto), Frzs xs s xs s
  | [], s => .nil s
  | x :: xs, s => .cons (.same x s) (Frzs.same xs s)
section
variable {K : PySem.W.Frag} {G H : Hp} {as : List Addr}
mutual
theorem frz_ok : ∀ {x x' : Va} {s s' : Sto}, Frz x s x' s' → ∀ {F : Hp} {v : V}, Sim K F G as s H → Rl K F as x v → ∃ F', Le F as F' as ∧ Sim K F' G as s' H ∧ Rl K F' as x' v
  | _, _, _, _, .same x s, F, v, S, r => ⟨F, Le.refl, S, r⟩
  | _, _, _, _, .lst (i := i) (xs := xs) (xs' := xs') e h e2, F, v, S, r => by
    cases r with
    | ref ha =>
      obtain ⟨hf, vs, h1, h2⟩ := S.ref ha e
      obtain ⟨F1, l1, S1, r1⟩ := frzs_ok h S h2
      obtain ⟨hf1, vs1, h3, h4⟩ := S1.ref ha e2
      exact ⟨_, l1.trans (Le.new hf1), S1.freeze ha h1 hf1, .lst upd_same (r1.mono (Le.new hf1))⟩
  | _, _, _, _, .dicK e, F, v, S, r => by
    cases r with
    | ref ha =>
      obtain ⟨hf, vs, h1, h2⟩ := S.ref ha e
      exact ⟨_, Le.new hf, S.freeze ha h1 hf, .dicK upd_same (h2.mono (Le.new hf))⟩
  | _, _, _, _, .dicT e, F, v, S, r => by
    cases r with
    | ref ha =>
      obtain ⟨hf, vs, h1, h2⟩ := S.ref ha e
      exact ⟨_, Le.new hf, S.freeze ha h1 hf, .dicT upd_same (h2.mono (Le.new hf))⟩
  | _, _, _, _, .tup h, F, v, S, r => by
    cases r with
    | tup hf hr =>
      obtain ⟨F1, l1, S1, r1⟩ := frzs_ok h S hr
      exact ⟨F1, l1, S1, .tup (l1.f _ _ hf) r1⟩
  | _, _, _, _, .lstI h, F, v, S, r => by
    cases r with
    | lst hf hr =>
      obtain ⟨F1, l1, S1, r1⟩ := frzs_ok h S hr
      exact ⟨F1, l1, S1, .lst (l1.f _ _ hf) r1⟩
theorem frzs_ok : ∀ {xs xs' : List Va} {s s' : Sto}, Frzs xs s xs' s' → ∀ {F : Hp} {vs : List V}, Sim K F G as s H → Rls K F as xs vs → ∃ F', Le F as F' as ∧ Sim K F' G as s' H ∧ Rls K F' as xs' vs
  | _, _, _, _, .nil s, F, v, S, r => by
    cases r
    exact ⟨F, Le.refl, S, .nil⟩
  | _, _, _, _, .cons h1 h2, F, v, S, r => by
    cases r with
    | cons q1 q2 =>
      obtain ⟨F1, l1, S1, r1⟩ := frz_ok h1 S q1
      obtain ⟨F2, l2, S2, r2⟩ := frzs_ok h2 S1 (q2.mono l1)
      exact ⟨F2, l1.trans l2, S2, .cons (r1.mono l2) r2⟩
end
end

/-! ### defs -/
/-- how a def's end stands to its mirror's -/
inductive Fin (n : Nat) (raw : Fl) : Rs Va → Prop
  | bad : Fin n raw .bad
  | exc {c : Str} {s0 : Sto} {ε : En} : raw = .exc c ε s0 → WFn n (s0.take n) → Fin n raw (.exc c (s0.take n))
  | ok {v0 v : Va} {s0 s1 : Sto} : (raw = .ret v0 s0 ∨ ∃ ε, raw = .nx ε s0 ∧ v0 = .non) → Frz v0 s0 v s1 → vaB n v → WFn n (s1.take n) → Fin n raw (.ok v (s1.take n))
  | box {v0 : Va} {s0 s1 : Sto} {i : Nat} {o : Ob} : raw = .ret v0 s0 → Frz v0 s0 (.ref i) s1 → n ≤ i → s1[i]? = some o → obB n o → WFn n (s1.take n) → Fin n raw (.ok (.ref n) (s1.take n ++ [o]))
  | keep {v0 : Va} {s0 : Sto} : (raw = .ret v0 s0 ∨ ∃ ε, raw = .nx ε s0 ∧ v0 = .non) → Fin n raw (.ok v0 s0)
def startA (n : Nat) (args : List Va) : En := args.map some ++ List.replicate (n - args.length) none
theorem ER.start {K : PySem.W.Frag} {F : Hp} {as : List Addr} {N : List Str} {args : List Va} {vs : List V} (r : Rls K F as args vs) : ER K F as (startA N.length args) (L2.start N vs) where
  len := by
    unfold startA L2.start
    rw [List.length_append, List.length_append, List.length_map, List.length_map, List.length_replicate, List.length_replicate, r.len]
  get := fun i x h => by
    unfold startA at h
    by_cases hi : i < args.length
    · rw [List.getElem?_append_left (by simpa using hi), List.getElem?_map] at h
      cases e : args[i]? with
      | none =>
        rw [e] at h
        cases h
      | some y =>
        rw [e] at h
        cases h
        obtain ⟨v, h1, h2⟩ := r.get e
        refine ⟨v, ?_, h2⟩
        unfold L2.start
        rw [List.getElem?_append_left (by rw [List.length_map, ← r.len]; exact hi), List.getElem?_map, h1]
        rfl
    · rw [List.getElem?_append_right (by simpa using hi), List.getElem?_replicate] at h
      split at h <;> cases h
section
variable {P : Program} {w : World} {K : PySem.W.Frag} {mg : Str → Option Value} {base : Heap} {CL : Cls0}
theorem take_le {as as' : List Addr} {n : Nat} {F F' : Hp} (l : Le F as F' as') (h : as.length = n) : Le F as F' (as'.take n) := ⟨l.f, fun i p e => by
  have hi := (List.getElem?_eq_some_iff.mp e).1
  rw [List.getElem?_take_of_lt (by omega)]
  exact l.a i p e⟩
theorem fin_ok {W : WX} {E : XK} {F G : Hp} {as : List Addr} {n : Nat} {raw : Fl} {r : Rs Va} {Q : VK} (hW : ∀ c d σ H, E c d H → W c d σ H) (hl : as.length = n) (f : Fin n raw r) (h : Pst K CL E F G as (Rl K) r Q) : PF K CL W F G as raw { nx := fun _ H' => Q .non H', rt := Q } := by
  cases f with
  | bad => exact h.elim
  | exc e w =>
    subst e
    exact fun F' as' σ' H' l S E' => hW _ _ _ _ (h F' (as'.take n) H' (take_le l hl) (S.cut n w))
  | ok e z b w =>
    have go : ∀ F' as' H' v, Le F as F' as' → Sim K F' G as' _ H' → Rl K F' as' _ v → Q v H' := fun F' as' H' v l S r => by
      obtain ⟨F2, l2, S2, r2⟩ := frz_ok z S r
      exact h F2 (as'.take n) H' v (take_le (l.trans l2) hl) (S2.cut n w) (r2.cut n b)
    rcases e with e | ⟨ε, e, e2⟩
    · subst e
      exact go
    · subst e e2
      exact fun F' as' σ' H' l S _ => go F' as' H' .non l S .non
  | box e z hi ho hb w =>
    subst e
    intro F' as' H' v l S r
    obtain ⟨F2, l2, S2, r2⟩ := frz_ok z S r
    cases r2 with
    | @ref _ a ha =>
      have hn : n ≤ as'.length := by
        have := (List.getElem?_eq_some_iff.mp ha).1
        omega
      refine h F2 (as'.take n ++ [a]) H' _ ⟨(l.trans l2).f, fun i p e => ?_⟩ (S2.cutBox n w (by rw [← S2.len]; exact hn) hi ha ho hb) (.ref ?_)
      · have := (take_le (l.trans l2) hl).a i p e
        rw [List.getElem?_append_left (List.getElem?_eq_some_iff.mp this).1]
        exact this
      · have e3 : (as'.take n).length = n := by rw [List.length_take]; omega
        have := List.getElem?_concat_length (l := as'.take n) (a := a)
        rw [e3] at this
        exact this
  | keep e =>
    rcases e with e | ⟨ε, e, e2⟩
    · subst e
      exact h
    · subst e e2
      exact fun F' as' σ' H' l S _ => h F' as' H' .non l S .non
theorem fn_D {x qual : Str} {st : Stmt} {f : Addr} {fd : FuncData} {N ps : List Str} {k : Nat} {b : DS} {F0 : List Va → Sto → Rs Va} (F : Fun K x qual st f fd) (S : FnScope N ps (defScope st))
    (hb : ∀ (cdv : Value) (A : Around) (outer : List Env) (s : Shared) (H : Hp) (E : XK), Okc (cxOf (L2.CX P w) P w K mg base N qual (defScope st) f cdv A outer s H E) (fun cls d _ H => E cls d H) k →
      RSs (cxOf (L2.CX P w) P w K mg base N qual (defScope st) f cdv A outer s H E) CL (fun cls d _ H => E cls d H) (defBody st) b)
    (hfin : ∀ args s, WFn s.length s → vasB s.length args → args.length = ps.length → Fin s.length (b (startA N.length args) s) (F0 args s)) : FnOk P w K mg base (L2.CX P w) (k + 1) f fd ps (spF K CL ps.length F0) := by
  refine F.okX S (fun vs H Q E h => ?_) (fun cdv A outer s H vs Q E hr h => ?_)
  · obtain ⟨_, _, _, _, args, _, r, hl, _⟩ := h
    rw [← r.len]
    exact hl
  · obtain ⟨F1, G, as, st', args, Sm, ra, hl, hp⟩ := h
    refine ⟨_, hb cdv A outer s H E ⟨rfl, takes_of rfl rfl rfl rfl, passes_of rfl, hr, S.nd⟩, F1, G, as, _, st', Sm, ER.start ra, ?_⟩
    exact fin_ok (fun _ _ _ _ h => h) Sm.len (hfin args st' Sm.wf (by rw [← Sm.len]; exact ra.bnd) hl) hp
end

/-! ### raise -/
def sRaise (c : Str) : DS := fun ε s => .exc c ε s
theorem rs_raise {X : Cx} {CL : Cls0} {W : WX} {k : Nat} {e : Expr} {C : Addr} {c : Str} {pos : Pos} (O : Okc X W k) (hC : CL c = .ref C) (he : PMk X e (fun _ H Q => Q (.ref C) none H)) : RS X CL W (.Raise (some e) none pos) (sRaise c) :=
  ps_weak (ps_raise O.calm O.tk he) fun D σ H h => by
    obtain ⟨F, G, as, ε, s, S, E, h⟩ := h
    have := h F as σ H Le.refl S E
    rw [hC] at this
    exact this

/-! ### while -/
def wl (c : DT) (b : DS) : Nat → DS
  | 0, _, _ => .bad
  | n + 1, ε, s => (c ε s).fl ε fun t s1 => if t = true then (match b ε s1 with
    | .nx ε' s' => wl c b n ε' s'
    | .ct ε' s' => wl c b n ε' s'
    | .brk ε' s' => .nx ε' s'
    | o => o) else .nx ε s1
section
variable {X : Cx} {CL : Cls0} {W : WX} {k : Nat} {c : Expr} {body : List Stmt} {dc : DT} {db : DS} {pos : Pos}
end

/-! ### the law -/
theorem law_sp {K : PySem.W.Frag} {CL : Cls0} {F0 : List Va → Sto → Rs Va} {H : Hp} {a : Addr} {ns : List Int} (hS : SqL K H a (ns.map V.int)) (h : F0 [.ext (ns.map .int)] [] = .ok (.bl true) []) :
    spF K CL 1 F0 [.ref a] H (fun v _ => v = .bl true) fun _ _ _ => False := by
  refine ⟨H, fun _ => none, [], [], [.ext (ns.map .int)], ⟨fun _ _ h => h, fun _ _ h => (nomatch h), rfl, fun _ h => (nomatch h), List.nodup_nil, fun i a o h => by simp at h⟩, .cons (.ext (.inl hS) Rls.ofInts) .nil, rfl, ?_⟩
  rw [h]
  intro F' as' H' v l S r
  cases r
  rfl
theorem law_cx {P : Program} {w : World} {H : Hp} {s : Shared} {e : Value} {s' : Shared} (h : L2.CX P w [] H s (fun _ _ _ => False) e s') : False := by
  obtain ⟨_, _, _, _, _, _, _, _, _, _, _, _, z⟩ := h
  exact z.elim
end Dn

set_option Elab.async false
set_option linter.all false
set_option maxRecDepth 100000
set_option maxHeartbeats 1000000
/-! Dn, part G: the text's defs, calls by name; simp sets for evaluation. -/
namespace Dn
open PySem PySem.Spec PyProof.Rows L2

/-- a def of the text -/
def Txt (K : PySem.W.Frag) (mg : Str → Option Value) (x : Str) (st : Stmt) (ps : List Str) : Prop := ∃ f fd, Fun K x x st f fd ∧ mg x = some (.ref f) ∧ Binds K fd ps []
/-- a def that may be called -/
def Cal (P : Program) (w : World) (K : PySem.W.Frag) (mg : Str → Option Value) (base : Heap) (CL : Cls0) (x : Str) (ps : List Str) (k : Nat) (F0 : List Va → Sto → Rs Va) : Prop :=
  ∃ f fd, FnOk P w K mg base (L2.CX P w) k f fd ps (spF K CL ps.length F0) ∧ mg x = some (.ref f) ∧ PySem.W.keepIn K (.ref f) = true ∧ Binds K fd ps []
section
variable {P : Program} {w : World} {K : PySem.W.Frag} {mg : Str → Option Value} {base : Heap} {CL : Cls0}
theorem txt_mk {x : Str} {st : Stmt} {ps : List Str} {f : Addr} {oc : Value} {od an : Option Addr} {osl : Array (Option Value)} {kV doc pm cdv ct : Value} (hm : mg x = some (.ref f)) (l : K.lookup f = some ⟨oc, od, .func (PySem.W.fnOf x x (defArgs st) (defBody st) (defScope st) .none kV doc pm an cdv ct), osl⟩)
    (c : PySem.W.codeIn K cdv x = true) (k : PySem.W.keepIn K (.ref f) = true)
    (b : ∀ (kV doc pm : Value) (an : Option Addr) (cdv ct : Value) (us : List Value), us.length = ps.length → bindArgs (PySem.W.fnOf x x (defArgs st) (defBody st) (defScope st) .none kV doc pm an cdv ct) ⟨us, []⟩ = pure (ps.zip us)) : Txt K mg x st ps :=
  ⟨f, _, fun_mk l c k, hm, (fun_mk l c k).binds b⟩
theorem cal_D {x : Str} {st : Stmt} {N ps : List Str} {k : Nat} {b : DS} {F0 : List Va → Sto → Rs Va} (T : Txt K mg x st ps) (S : FnScope N ps (defScope st))
    (hb : ∀ (f : Addr) (cdv : Value) (A : Around) (outer : List Env) (s : Shared) (H : Hp) (E : XK), Okc (cxOf (L2.CX P w) P w K mg base N x (defScope st) f cdv A outer s H E) (fun cls d _ H => E cls d H) k →
      RSs (cxOf (L2.CX P w) P w K mg base N x (defScope st) f cdv A outer s H E) CL (fun cls d _ H => E cls d H) (defBody st) b)
    (hfin : ∀ args s, WFn s.length s → vasB s.length args → args.length = ps.length → Fin s.length (b (startA N.length args) s) (F0 args s)) : Cal P w K mg base CL x ps (k + 1) F0 := by
  obtain ⟨f, fd, F, hm, hbn⟩ := T
  exact ⟨f, fd, fn_D F S (hb f) hfin, hm, F.kp, hbn⟩
theorem Cal.mono {x : Str} {ps : List Str} {j k : Nat} {F0 : List Va → Sto → Rs Va} (C : Cal P w K mg base CL x ps j F0) (h : j ≤ k) : Cal P w K mg base CL x ps k F0 := by
  obtain ⟨f, fd, F, r⟩ := C
  exact ⟨f, fd, F.mono h, r⟩
/-- another mirror, which answers less -/
theorem Cal.imp {x : Str} {ps : List Str} {k : Nat} {F0 F1 : List Va → Sto → Rs Va} (C : Cal P w K mg base CL x ps k F0) (h : ∀ args s, WFn s.length s → vasB s.length args → args.length = ps.length → F1 args s ≠ .bad → F0 args s = F1 args s) : Cal P w K mg base CL x ps k F1 := by
  obtain ⟨f, fd, F, r⟩ := C
  refine ⟨f, fd, F.imp fun vs H Q E q => ?_, r⟩
  obtain ⟨F2, G, as, s, args, S, ra, hl, hp⟩ := q
  refine ⟨F2, G, as, s, args, S, ra, hl, ?_⟩
  rw [h args s S.wf (by rw [← S.len]; exact ra.bnd) hl (fun z => by rw [z] at hp; exact hp)]
  exact hp
end
section
variable {X : Cx} {CL : Cls0} {W : WX} {k j : Nat} {ps : List Str} {F0 : List Va → Sto → Rs Va} {x : Str} {p pos : Pos} {e : Expr} {es : List Expr} {dr : DA}
theorem re_fn (O : Okc X W j) (C : Cal X.prog X.w X.K X.mg X.base CL x ps k F0) (hk : k ≤ j) (ha : RA X CL W (e :: es) dr) (hg : Gl X x := by rfl)
    (hdb : (x == ("__debug__" : Str)) = false := by decide) (he : starEach (e :: es) X.env = (false, eval e X.env) :: starEach es X.env := by rfl) (hpl : (backTo pos (starEach es X.env)).any (·.1) = false := by rfl) :
    RE X CL W (.Call (.Name x p) (e :: es) [] pos) (dApp (gFn ps.length F0) dr) := by
  obtain ⟨f, fd, F, hm, hkp, hb⟩ := C
  exact re_call O F hk hm hkp hb ha hg hdb he hpl
end
end Dn

set_option Elab.async false
set_option linter.all false
set_option maxRecDepth 100000
set_option maxHeartbeats 1000000
/-! Dn, part I: more built-in calls, methods of lists, chains of comparisons. -/
namespace Dn
open PySem PySem.Spec PyProof.Rows L2
def blsOf : List Va → Option (List Bool)
  | [] => some []
  | .bl i :: xs => (blsOf xs).map (i :: ·)
  | _ :: _ => none
theorem blsOf_eq : ∀ {xs : List Va} {ns : List Bool}, blsOf xs = some ns → xs = ns.map .bl
  | [], ns, h => by
    cases h
    rfl
  | x :: xs, ns, h => by
    cases x <;> simp [blsOf] at h
    obtain ⟨ms, h1, h2⟩ := h
    rw [← h2, blsOf_eq h1]
    rfl
theorem blsOf_map (ns : List Bool) : blsOf (ns.map .bl) = some ns := by
  induction ns with
  | nil => rfl
  | cons n ns ih => rw [List.map_cons, blsOf, ih]; rfl
def intsOf : List Va → Option (List Int)
  | [] => some []
  | .int i :: xs => (intsOf xs).map (i :: ·)
  | _ :: _ => none
theorem intsOf_map (ns : List Int) : intsOf (ns.map .int) = some ns := by
  induction ns with
  | nil => rfl
  | cons n ns ih => rw [List.map_cons, intsOf, ih]; rfl
theorem intsOf_eq : ∀ {xs : List Va} {ns : List Int}, intsOf xs = some ns → xs = ns.map .int
  | [], ns, h => by
    cases h
    rfl
  | x :: xs, ns, h => by
    cases x <;> simp [intsOf] at h
    obtain ⟨ms, h1, h2⟩ := h
    rw [← h2, intsOf_eq h1]
    rfl
section
variable {K : PySem.W.Frag}
def gAll (xs : List Va) (s : Sto) : Rs Va := match xs with
  | [x] => match seqL x s with
    | some ys => match blsOf ys with
      | some bs => .ok (.bl (bs.all id)) s
      | none => .bad
    | none => .bad
  | _ => .bad
def gAny (xs : List Va) (s : Sto) : Rs Va := match xs with
  | [x] => match seqL x s with
    | some ys => match blsOf ys with
      | some bs => .ok (.bl (bs.any id)) s
      | none => .bad
    | none => .bad
  | _ => .bad
theorem opN_all : OpN K (rAll K) gAll := by
  intro CL W F G as s H x v Q S rx q
  unfold gAll at q
  split at q
  · obtain ⟨v, rfl, r⟩ := Rls1 rx
    split at q
    · rename_i ys e
      obtain ⟨a, vs, rfl, h2, h3⟩ := seqL_ok S r e
      split at q
      · rename_i bs e2
        rw [blsOf_eq e2] at h3
        rw [h3.bls] at h2
        exact ⟨a, bs, rfl, SqL.of h2, q.okv S (.bl _)⟩
      · exact q.elim
    · exact q.elim
  · exact q.elim
theorem opN_any : OpN K (rAny K) gAny := by
  intro CL W F G as s H x v Q S rx q
  unfold gAny at q
  split at q
  · obtain ⟨v, rfl, r⟩ := Rls1 rx
    split at q
    · rename_i ys e
      obtain ⟨a, vs, rfl, h2, h3⟩ := seqL_ok S r e
      split at q
      · rename_i bs e2
        rw [blsOf_eq e2] at h3
        rw [h3.bls] at h2
        exact ⟨a, bs, rfl, SqL.of h2, q.okv S (.bl _)⟩
      · exact q.elim
    · exact q.elim
  · exact q.elim
end
section
variable {X : Cx} {CL : Cls0} {W : WX} {k : Nat} {x : Str} {p pos apos p2 p1 p3 : Pos} {e e2 o a b c : Expr} {es : List Expr} {dr da : DA} {de d1 d2 d3 : DE}
theorem re_all (O : Okc X W k) (hm : X.mg "all" = none) (ha : RA X CL W [e] dr) (hG : Gl X "all" := by rfl) (he : starEach [e] X.env = (false, eval e X.env) :: starEach [] X.env := by rfl) : RE X CL W (.Call (.Name "all" p) [e] [] pos) (dApp gAll dr) := re_callB (cr_all O.calm) opN_all hG hm (by decide +kernel) ha (he := he)
theorem re_any (O : Okc X W k) (hm : X.mg "any" = none) (ha : RA X CL W [e] dr) (hG : Gl X "any" := by rfl) (he : starEach [e] X.env = (false, eval e X.env) :: starEach [] X.env := by rfl) : RE X CL W (.Call (.Name "any" p) [e] [] pos) (dApp gAny dr) := re_callB (cr_any O.calm) opN_any hG hm (by decide +kernel) ha (he := he)
/-- list(range(n)), list(range(i, j)) -/
noncomputable def gRg (bx : Bool) (i j : Int) (s : Sto) : Rs Va := if inR i ∧ inR j ∧ leq (j - i).toNat 100000 then mkL bx (rgA i j) s else .bad
noncomputable def dLstRg1 (bx : Bool) (de : DE) : DE := fun ε s => (de ε s).bind fun x s1 => match x with
  | .int j => gRg bx 0 j s1
  | _ => .bad
theorem rgA_rl {K : PySem.W.Frag} {F : Hp} {as : List Addr} {i j : Int} : Rls K F as (rgA i j) (rgV i j) := by
  unfold rgA rgV
  generalize List.range (j - i).toNat = l
  induction l with
  | nil => exact .nil
  | cons n l ih => exact .cons (.int _) ih
theorem gRg_ok {K : PySem.W.Frag} {W : Value → Option Addr → Hp → Prop} {F G H : Hp} {as : List Addr} {s : Sto} {bx : Bool} {i j : Int} {Q : VK} (S : Sim K F G as s H) (h : Pst K CL W F G as (Rl K) (gRg bx i j s) Q) : RgOk i j ∧ ∀ q, H q = none → Q (.ref q) (upd H q (.lst (rgV i j))) := by
  unfold gRg at h
  split at h
  · rename_i hc
    refine ⟨?_, mkL_ok S rgA_rl h⟩
    unfold inR leq at hc
    unfold RgOk
    omega
  · exact h.elim
theorem re_lstRg1 (O : Okc X W k) (bx : Bool) (hm : X.mg "list" = none) (hm2 : X.mg "range" = none) (ha : RE X CL W a d1) (hG : Gl X "list" := by rfl) (hG2 : Gl X "range" := by rfl)
    (na : starEach [a] X.env = (false, eval a X.env) :: starEach [] X.env := by rfl) (na2 : starEach [.Call (.Name "range" p2) [a] [] p3] X.env = (false, eval (.Call (.Name "range" p2) [a] [] p3) X.env) :: starEach [] X.env := by rfl) :
    RE X CL W (.Call (.Name "list" p) [.Call (.Name "range" p2) [a] [] p3] [] pos) (dLstRg1 bx d1) :=
  pe_weak (pe_listRg O.calm hG hm (prg_1 hG2 hm2 ha na) na2) fun σ H Q h => by
    obtain ⟨F, G, as, ε, s, S, E, h⟩ := h
    refine ⟨F, G, as, ε, s, S, E, Pst.imp (Pst.bind h) fun v H1 ⟨F1, as1, s1, y, l, S1, rx, h1⟩ => ?_⟩
    split at h1
    · cases rx
      exact ⟨_, rfl, gRg_ok S1 h1⟩
    · exact h1.elim
/-! ### methods of lists -/
def Mt1 (K : PySem.W.Frag) (r : V → List V → Hp → VK → Prop) (g : Va → List Va → Sto → Rs Va) : Prop := ∀ (CL : Cls0) (W : Value → Option Addr → Hp → Prop) F G as s H x v xs vs Q, Sim K F G as s H → Rl K F as x v → Rls K F as xs vs → Pst K CL W F G as (Rl K) (g x xs s) Q → r v vs H Q
def isL (x : Va) (s : Sto) : Bool := (seqL x s).isSome
def dMt (g : Va → List Va → Sto → Rs Va) (do_ : DE) (da : DA) : DE := fun ε s => (do_ ε s).bind fun x s1 => if isL x s1 = true then (evA da ε s1).bind fun xs s2 => g x xs s2 else .bad
theorem isL_ok {K : PySem.W.Frag} {F G H : Hp} {as : List Addr} {s : Sto} {x : Va} {v : V} (S : Sim K F G as s H) (r : Rl K F as x v) (h : isL x s = true) : tyV K "list" v H := by
  unfold isL at h
  obtain ⟨ys, e⟩ := Option.isSome_iff_exists.mp h
  obtain ⟨a, vs, rfl, h2, _⟩ := seqL_ok S r e
  exact .inl ⟨rfl, vs, SqL.of h2⟩
theorem re_mt {name : Str} {id : String} {r : V → List V → Hp → VK → Prop} {g : Va → List Va → Sto → Rs Va} (slot : Slot "list" name id) (hty : typeOf (.builtin id) = pure (.type "method_descriptor")) (hm : MtR X id r) (hg : Mt1 X.K r g) (ho : RE X CL W o de) (ha : RA X CL W (e :: es) da)
    (hbase : attributeBase o name X.env (eval o X.env) = eval o X.env := by rfl)
    (hfew : ((backTo pos (starEach (e :: es) X.env)).all (fun x => !x.1) && (backToKw pos (keywordEach [] X.env)).all (fun x => x.1.isSome)
      && decide ((e :: es).length + ([] : List Keyword).length + (if ([] : List Keyword).isEmpty then 0 else 1) < 30)) = true := by rfl)
    (hline : (apos.endLine == pos.line) = true := by rfl) (hs : starEach (e :: es) X.env = (false, eval e X.env) :: starEach es X.env := by rfl) (hplain : (backTo pos (starEach es X.env)).any (·.1) = false := by rfl) :
    RE X CL W (.Call (.Attribute o name apos) (e :: es) [] pos) (dMt g de da) :=
  pe_weak (pe_bm PySem.F.plainAttrs_list slot hty hm ho ha hbase hfew hline hs hplain) fun σ H Q h => by
    obtain ⟨F, G, as, ε, s, S, E, h⟩ := h
    refine ⟨F, G, as, ε, s, S, E, Pst.imp (Pst.bind h) fun v H1 ⟨F1, as1, s1, y, l, S1, rx, h1⟩ => ?_⟩
    split at h1
    · rename_i hL
      refine ⟨isL_ok S1 rx hL, F1, G, as1, ε, s1, S1, E.mono l, Pst.imp (Pst.bind h1) fun vs H2 ⟨F2, as2, s2, ys, l2, S2, rs, h2⟩ => ?_⟩
      exact hg _ _ _ _ _ _ _ _ _ _ _ _ S2 (rx.mono l2) rs h2
    · exact h1.elim
def dMt0 (g : Va → Sto → Rs Va) (do_ : DE) : DE := fun ε s => (do_ ε s).bind fun x s1 => if isL x s1 = true then g x s1 else .bad
/-- an object of the store that is a list -/
theorem ref_list {K : PySem.W.Frag} {F G H : Hp} {as : List Addr} {s : Sto} {i : Nat} {xs : List Va} {v : V} (S : Sim K F G as s H) (r : Rl K F as (.ref i) v) (e : s[i]? = some (.lst xs)) : ∃ a vs, v = .ref a ∧ as[i]? = some a ∧ F a = none ∧ H a = some (.lst vs) ∧ Rls K F as xs vs := by
  cases r with
  | ref ha =>
    obtain ⟨hf, vs, h1, h2⟩ := S.ref ha e
    exact ⟨_, vs, rfl, ha, hf, h1, h2⟩
noncomputable def gAppend (x : Va) (vs : List Va) (s : Sto) : Rs Va := match x, vs with
  | .ref i, [y] => match s[i]? with
    | some (.lst xs) => if leq xs.length 1000000 then .ok .non (s.set i (.lst (xs ++ [y]))) else .bad
    | _ => .bad
  | _, _ => .bad
theorem lt_line {n : Nat} (h : n ≤ 1000000) : n < sizeLine := Nat.lt_of_le_of_lt h (by decide)
theorem mt1_append {K : PySem.W.Frag} : Mt1 K rAppend gAppend := by
  intro CL W F G as s H x v xs vs Q S rx rs q
  unfold gAppend at q
  split at q
  · obtain ⟨w, rfl, ry⟩ := Rls1 rs
    split at q
    · rename_i xs e
      obtain ⟨a, us, rfl, ha, hf, h1, h2⟩ := ref_list S rx e
      split at q
      · rename_i hc
        refine ⟨a, us, w, rfl, rfl, h1, lt_line (by rw [← h2.len]; exact hc), ?_⟩
        exact q.okv (S.change ha hf ⟨hf, _, upd_same, h2.app (.cons ry .nil)⟩) .non
      · exact q.elim
    · exact q.elim
  · exact q.elim
theorem re_mAppend (ho : RE X CL W o de) (ha : RA X CL W [e] da) (hbase : attributeBase o "append" X.env (eval o X.env) = eval o X.env := by rfl)
    (hfew : ((backTo pos (starEach [e] X.env)).all (fun x => !x.1) && (backToKw pos (keywordEach [] X.env)).all (fun x => x.1.isSome) && decide ([e].length + ([] : List Keyword).length + (if ([] : List Keyword).isEmpty then 0 else 1) < 30)) = true := by rfl)
    (hline : (apos.endLine == pos.line) = true := by rfl) (hs : starEach [e] X.env = (false, eval e X.env) :: starEach [] X.env := by rfl) (hplain : (backTo pos (starEach [] X.env)).any (·.1) = false := by rfl) :
    RE X CL W (.Call (.Attribute o "append" apos) [e] [] pos) (dMt gAppend de da) := re_mt PySem.F.slot_list_append PySem.F.type_list_append mt_append mt1_append ho ha hbase hfew hline hs hplain
noncomputable def gExtend (x : Va) (vs : List Va) (s : Sto) : Rs Va := match x, vs with
  | .ref i, [y] => match s[i]?, seqL y s with
    | some (.lst xs), some ys => if leq (xs.length + ys.length) 1000000 then .ok .non (s.set i (.lst (xs ++ ys))) else .bad
    | _, _ => .bad
  | _, _ => .bad
theorem mt1_extend {K : PySem.W.Frag} : Mt1 K rExtend gExtend := by
  intro CL W F G as s H x v xs vs Q S rx rs q
  unfold gExtend at q
  split at q
  · obtain ⟨w, rfl, ry⟩ := Rls1 rs
    split at q
    · rename_i xs ys e e2
      obtain ⟨a, us, rfl, ha, hf, h1, h2⟩ := ref_list S rx e
      obtain ⟨b, ws, rfl, h3, h4⟩ := seqL_ok S ry e2
      split at q
      · rename_i hc
        refine ⟨a, b, us, ws, rfl, rfl, h1, h3, Nat.le_of_lt (lt_line (by rw [← h2.len, ← h4.len]; exact hc)), ?_⟩
        exact q.okv (S.change ha hf ⟨hf, _, upd_same, h2.app h4⟩) .non
      · exact q.elim
    · exact q.elim
  · exact q.elim
theorem re_mExtend (ho : RE X CL W o de) (ha : RA X CL W [e] da) (hbase : attributeBase o "extend" X.env (eval o X.env) = eval o X.env := by rfl)
    (hfew : ((backTo pos (starEach [e] X.env)).all (fun x => !x.1) && (backToKw pos (keywordEach [] X.env)).all (fun x => x.1.isSome) && decide ([e].length + ([] : List Keyword).length + (if ([] : List Keyword).isEmpty then 0 else 1) < 30)) = true := by rfl)
    (hline : (apos.endLine == pos.line) = true := by rfl) (hs : starEach [e] X.env = (false, eval e X.env) :: starEach [] X.env := by rfl) (hplain : (backTo pos (starEach [] X.env)).any (·.1) = false := by rfl) :
    RE X CL W (.Call (.Attribute o "extend" apos) [e] [] pos) (dMt gExtend de da) := re_mt PySem.F.slot_list_extend PySem.F.type_list_extend mt_extend mt1_extend ho ha hbase hfew hline hs hplain
/-! ### chains of comparisons of ints -/
end
end Dn

set_option Elab.async false
set_option linter.all false
set_option maxRecDepth 100000
set_option maxHeartbeats 1000000
/-! Dn, part H: equations by which a denotation is reckoned. -/
namespace Dn
open PySem PySem.Spec PyProof.Rows L2
section
variable {α β : Type} {a : α} {s s' : Sto} {c : Str} {k : α → Sto → Rs β} {kf : α → Sto → Fl} {ε ε' : En} {x y : Va}
@[simp] theorem bind_ok : (Rs.ok a s).bind k = k a s := rfl
@[simp] theorem bind_exc : (Rs.exc c s : Rs α).bind k = .exc c s := rfl
@[simp] theorem bind_bad : (Rs.bad : Rs α).bind k = .bad := rfl
@[simp] theorem fl_ok : (Rs.ok a s).fl ε kf = kf a s := rfl
@[simp] theorem fl_exc : (Rs.exc c s : Rs α).fl ε kf = .exc c ε s := rfl
@[simp] theorem fl_bad : (Rs.bad : Rs α).fl ε kf = .bad := rfl
@[simp] theorem noexc_ok : (Rs.ok a s).noexc = .ok a s := rfl
@[simp] theorem noexc_bad : (Rs.bad : Rs α).noexc = .bad := rfl
@[simp] theorem e_C : dC x ε s = .ok x s := rfl
@[simp] theorem e_V {i : Nat} : dV i ε s = match ε[i]? with | some (some x) => .ok x s | _ => .bad := rfl
@[simp] theorem e_Nil : evA [] ε s = .ok [] s := rfl
@[simp] theorem e_Cons {da : DE} {dr : DA} : evA (da :: dr) ε s = (da ε s).bind fun x s1 => (evA dr ε s1).bind fun xs s2 => .ok (x :: xs) s2 := rfl
@[simp] theorem e_Bin {g : Va → Va → Sto → Rs Va} {da db : DE} : dBin g da db ε s = (da ε s).bind fun x s1 => (db ε s1).bind fun y s2 => g x y s2 := rfl
@[simp] theorem e_Un {g : Va → Sto → Rs Va} {da : DE} : dUn g da ε s = (da ε s).bind g := rfl
@[simp] theorem e_App {g : List Va → Sto → Rs Va} {da : DA} : dApp g da ε s = (evA da ε s).bind g := rfl
@[simp] theorem e_Lst {b : Bool} {da : DA} : dLst b da ε s = (evA da ε s).bind fun xs s1 => mkL b xs s1 := rfl
@[simp] theorem e_Tup {da : DA} : dTup da ε s = (evA da ε s).bind fun xs s1 => .ok (.tup xs) s1 := rfl
@[simp] theorem e_Sl {b : Bool} {da : DE} {dl dh : DO} : dSl b da dl dh ε s = (da ε s).bind fun x s1 => (dl ε s1).bind fun l s2 => (dh ε s2).bind fun h s3 => gSl b x l h s3 := rfl
@[simp] theorem e_No : dNo ε s = .ok none s := rfl
@[simp] theorem e_Some {d : DE} : dSome d ε s = (d ε s).bind fun x s1 => match x with | .int i => .ok (some i) s1 | _ => .bad := rfl
@[simp] theorem e_TB {da : DE} : dTB da ε s = (da ε s).bind fun x s1 => match x with | .bl b => .ok b s1 | _ => .bad := rfl
@[simp] theorem e_Tr {da : DE} : dTr da ε s = (da ε s).bind fun x s1 => match truA x s1 with | some b => .ok b s1 | none => .bad := rfl
@[simp] theorem e_And {ta tb : DT} : dAnd ta tb ε s = (ta ε s).bind fun b s1 => if b = true then tb ε s1 else .ok false s1 := rfl
@[simp] theorem e_Or {ta tb : DT} : dOr ta tb ε s = (ta ε s).bind fun b s1 => if b = true then .ok true s1 else tb ε s1 := rfl
@[simp] theorem e_Not {ta : DT} : dNot ta ε s = (ta ε s).bind fun b s1 => .ok (!b) s1 := rfl
@[simp] theorem e_AndV {da db : DE} : dAndV da db ε s = (da ε s).bind fun x s1 => match truA x s1 with | some true => db ε s1 | some false => .ok x s1 | none => .bad := rfl
@[simp] theorem e_OrV {da db : DE} : dOrV da db ε s = (da ε s).bind fun x s1 => match truA x s1 with | some true => .ok x s1 | some false => db ε s1 | none => .bad := rfl
@[simp] theorem e_NotV {da : DE} : dNotV da ε s = (da ε s).bind fun x s1 => match truA x s1 with | some b => .ok (.bl (!b)) s1 | none => .bad := rfl
@[simp] theorem e_If {ta : DT} {da db : DE} : dIf ta da db ε s = (ta ε s).bind fun b s1 => if b = true then da ε s1 else db ε s1 := rfl
@[simp] theorem e_Yes : dYes ε s = .ok true s := rfl
@[simp] theorem e_seq {d1 d2 : DS} : sSeq d1 d2 ε s = match d1 ε s with | .nx ε' s' => d2 ε' s' | r => r := rfl
@[simp] theorem e_next : sNext ε s = .nx ε s := rfl
@[simp] theorem e_brk : sBrk ε s = .brk ε s := rfl
@[simp] theorem e_ct : sCt ε s = .ct ε s := rfl
@[simp] theorem e_set {i : Nat} {de : DE} : sSet i de ε s = (de ε s).fl ε fun x s1 => .nx (ε.set i (some x)) s1 := rfl
@[simp] theorem e_ret {de : DE} : sRet de ε s = (de ε s).fl ε fun x s1 => .ret x s1 := rfl
@[simp] theorem e_retN : sRetN ε s = .ret .non s := rfl
@[simp] theorem e_drop {de : DE} : sDrop de ε s = (de ε s).fl ε fun _ s1 => .nx ε s1 := rfl
@[simp] theorem e_ifS {t : DT} {d1 d2 : DS} : sIf t d1 d2 ε s = (t ε s).fl ε fun b s1 => if b = true then d1 ε s1 else d2 ε s1 := rfl
@[simp] theorem e_setIx {d0 di de : DE} : sSetIx d0 di de ε s = (de ε s).fl ε fun v s1 => (d0 ε s1).fl ε fun o s2 => (di ε s2).fl ε fun i s3 => match gSetIx v o i s3 with | some s4 => .nx ε s4 | none => .bad := rfl
@[simp] theorem e_for {di : DI} {dg : DG} {db : DS} : sFor di dg db ε s = (di ε s).fl ε fun src s1 => lp src.1 (fBody dg db) src.2 ε s1 := rfl
@[simp] theorem e_Mt {g : Va → List Va → Sto → Rs Va} {do_ : DE} {da : DA} : dMt g do_ da ε s = (do_ ε s).bind fun x s1 => if isL x s1 = true then (evA da ε s1).bind fun xs s2 => g x xs s2 else .bad := rfl
@[simp] theorem e_Mt0 {g : Va → Sto → Rs Va} {do_ : DE} : dMt0 g do_ ε s = (do_ ε s).bind fun x s1 => if isL x s1 = true then g x s1 else .bad := rfl
@[simp] theorem e_LstRg1 {bx : Bool} {d1 : DE} : dLstRg1 bx d1 ε s = (d1 ε s).bind fun x s1 => match x with | .int j => gRg bx 0 j s1 | _ => .bad := rfl
@[simp] theorem e_raise : sRaise c ε s = .exc c ε s := rfl
@[simp] theorem e_rg1 {da : DA} : dRg1 da ε s = (evA da ε s).bind fun vs s1 => match vs with | [.int j] => if inR j then .ok (none, rgA 0 j) s1 else .bad | _ => .bad := rfl
@[simp] theorem e_rg2 {da : DA} : dRg2 da ε s = (evA da ε s).bind fun vs s1 => match vs with | [.int i, .int j] => if inR i ∧ inR j then .ok (none, rgA i j) s1 else .bad | _ => .bad := rfl
@[simp] theorem e_dgName {i : Nat} : dgName i x ε s = some (ε.set i (some x)) := rfl
end
@[simp] theorem g_add_int {bx : Bool} {i j : Int} {s : Sto} : gAdd bx (.int i) (.int j) s = .ok (.int (i + j)) s := rfl
@[simp] theorem g_sub {i j : Int} {s : Sto} : gSub (.int i) (.int j) s = .ok (.int (i - j)) s := rfl
@[simp] theorem g_neg {i : Int} {s : Sto} : gNeg (.int i) s = .ok (.int (-i)) s := rfl
@[simp] theorem g_lt {i j : Int} {s : Sto} : gLt (.int i) (.int j) s = .ok (.bl (decide (i < j))) s := rfl
@[simp] theorem g_le {i j : Int} {s : Sto} : gLe (.int i) (.int j) s = .ok (.bl (decide (i ≤ j))) s := rfl
@[simp] theorem g_gt {i j : Int} {s : Sto} : gGt (.int i) (.int j) s = .ok (.bl (decide (j < i))) s := rfl
@[simp] theorem g_ge {i j : Int} {s : Sto} : gGe (.int i) (.int j) s = .ok (.bl (decide (j ≤ i))) s := rfl
@[simp] theorem g_mod {i j : Int} {s : Sto} : gMod (.int i) (.int j) s = if 0 < j then .ok (.int (i % j)) s else .bad := rfl
@[simp] theorem g_fdiv {i j : Int} {s : Sto} : gFdiv (.int i) (.int j) s = if CDiv i j then .ok (.int (i / j)) s else .bad := rfl
@[simp] theorem g_mul {bx : Bool} {i j : Int} {s : Sto} : gMul bx (.int i) (.int j) s = if CMul i j ∨ CMulW i j then .ok (.int (i * j)) s else .bad := rfl
theorem cmul_l {i j : Int} (h : -(2 ^ 64) < i ∧ i < 2 ^ 64) : CMul i j ∨ CMulW i j := .inl (.inl h)
theorem cmul_r {i j : Int} (h : -(2 ^ 64) < j ∧ j < 2 ^ 64) : CMul i j ∨ CMulW i j := .inl (.inr h)
@[simp] theorem g_eq_int {b : Bool} {i j : Int} {s : Sto} : gEq b (.int i) (.int j) s = .ok (.bl (b != decide (i = j))) s := rfl
@[simp] theorem g_eq_bl {b : Bool} {i j : Bool} {s : Sto} : gEq b (.bl i) (.bl j) s = .ok (.bl (b != decide (i = j))) s := rfl
@[simp] theorem g_eq_str {b : Bool} {i j : Str} {s : Sto} : gEq b (.str i) (.str j) s = .ok (.bl (b != decide (i = j))) s := rfl
@[simp] theorem g_len_lst {xs : List Va} {s : Sto} : gLen [.lst xs] s = .ok (.int xs.length) s := rfl
@[simp] theorem g_len_ext {xs : List Va} {s : Sto} : gLen [.ext xs] s = .ok (.int xs.length) s := rfl
@[simp] theorem g_len_tup {xs : List Va} {s : Sto} : gLen [.tup xs] s = .ok (.int xs.length) s := rfl
@[simp] theorem g_int_int {i : Int} {s : Sto} : gInt [.int i] s = .ok (.int i) s := rfl
@[simp] theorem g_int_bl {i : Bool} {s : Sto} : gInt [.bl i] s = .ok (.int (if i then 1 else 0)) s := rfl
@[simp] theorem g_abs {i : Int} {s : Sto} : gAbs [.int i] s = .ok (.int (if i < 0 then -i else i)) s := rfl
@[simp] theorem g_list_ext {xs : List Va} {bx : Bool} {s : Sto} : gList bx [.ext xs] s = mkL bx xs s := rfl
@[simp] theorem g_list_lst {xs : List Va} {bx : Bool} {s : Sto} : gList bx [.lst xs] s = mkL bx xs s := rfl
@[simp] theorem g_list_tup {xs : List Va} {bx : Bool} {s : Sto} : gList bx [.tup xs] s = mkL bx xs s := rfl
@[simp] theorem g_mkL_f {xs : List Va} {s : Sto} : mkL false xs s = .ok (.lst xs) s := rfl
@[simp] theorem g_mkL_t {xs : List Va} {s : Sto} : mkL true xs s = .ok (.ref s.length) (s ++ [.lst xs]) := rfl
@[simp] theorem g_ix_lst {xs : List Va} {i : Int} {s : Sto} : gIx (.lst xs) (.int i) s = match atI xs i with | some z => .ok z s | none => .bad := rfl
@[simp] theorem g_ix_tup {xs : List Va} {i : Int} {s : Sto} : gIx (.tup xs) (.int i) s = match atI xs i with | some z => .ok z s | none => .bad := rfl
theorem g_ix_ref {n : Nat} {xs : List Va} {i : Int} {s : Sto} (h : s[n]? = some (.lst xs)) : gIx (.ref n) (.int i) s = match atI xs i with | some z => .ok z s | none => .bad := by
  have hs : seqA (.ref n) s = some xs := by simp only [seqA, h]
  unfold gIx
  rw [hs]
  all_goals rfl
theorem g_set_ref {n : Nat} {xs : List Va} {i : Int} {v : Va} {s : Sto} {m : Nat} (h : s[n]? = some (.lst xs)) (hi : ixN xs.length i = some m) : gSetIx v (.ref n) (.int i) s = some (s.set n (.lst (xs.set m v))) := by
  unfold gSetIx
  simp only [h, hi]
@[simp] theorem e_gFn {n : Nat} {F : List Va → Sto → Rs Va} {xs : List Va} {s : Sto} (h : xs.length = n) : gFn n F xs s = F xs s := if_pos h
@[simp] theorem e_fBody {dg : DG} {db : DS} {x : Va} {ε : En} {s : Sto} : fBody dg db x ε s = match dg x ε s with | some ε' => db ε' s | none => .bad := rfl
@[simp] theorem lp_nil {body : Va → DS} {ε : En} {s : Sto} : lp none body [] ε s = .nx ε s := by
  rw [lp, if_pos (show okk none s from trivial)]
@[simp] theorem lp_cons {body : Va → DS} {x : Va} {r : List Va} {ε : En} {s : Sto} : lp none body (x :: r) ε s = match body x ε s with
    | .nx ε' s' => lp none body r ε' s'
    | .ct ε' s' => lp none body r ε' s'
    | .brk ε' s' => .nx ε' s'
    | o => o := by
  rw [lp, if_pos (show okk none s from trivial)]
  all_goals (cases body x ε s <;> rfl)
@[simp] theorem cl_nil {dg : DG} {dt : DT} {del : DE} {ε : En} {acc : List Va} {s : Sto} : cl none dg dt del ε [] acc s = .ok acc s := by
  rw [cl, if_pos (show okk none s from trivial)]
@[simp] theorem cl_cons {dg : DG} {dt : DT} {del : DE} {ε : En} {x : Va} {r acc : List Va} {s : Sto} : cl none dg dt del ε (x :: r) acc s = match dg x ε s with
    | none => .bad
    | some ε2 => (dt ε2 s).noexc.bind fun b s1 => if b = true then (del ε2 s1).noexc.bind fun y s2 => cl none dg dt del ε r (acc ++ [y]) s2 else cl none dg dt del ε r acc s1 := by
  rw [cl, if_pos (show okk none s from trivial)]
  all_goals (cases dg x ε s <;> rfl)
@[simp] theorem e_Lc {bx : Bool} {di : DI} {dg : DG} {dt : DT} {del : DE} {vs : List Nat} {ε : En} {s : Sto} : dLc bx di dg dt del vs ε s = (di ε s).bind fun src s1 => if leq src.2.length 100000 then (cl src.1 dg dt del (wip ε vs) src.2 [] s1).bind fun acc s2 => mkL bx acc s2 else .bad := rfl
theorem cl_map {α : Type} (e f : α → Va) {j : Nat} {dt : DT} {del : DE} {ε : En} {s : Sto} (p : α → Bool) : ∀ (l : List α) (acc : List Va), (∀ a ∈ l, dt (ε.set j (some (e a))) s = .ok (p a) s) → (∀ a ∈ l, p a = true → del (ε.set j (some (e a))) s = .ok (f a) s) →
    cl none (dgName j) dt del ε (l.map e) acc s = .ok (acc ++ (l.filter p).map f) s
  | [], acc, _, _ => by
    rw [List.map_nil, cl_nil, List.filter_nil, List.map_nil, List.append_nil]
  | a :: l, acc, h1, h2 => by
    rw [List.map_cons, cl_cons, e_dgName]
    dsimp only
    rw [h1 a List.mem_cons_self]
    simp only [noexc_ok, bind_ok]
    cases hp : p a with
    | true =>
      rw [if_pos rfl, h2 a List.mem_cons_self hp]
      simp only [noexc_ok, bind_ok]
      rw [cl_map e f p l _ (fun b hb => h1 b (List.mem_cons_of_mem _ hb)) (fun b hb => h2 b (List.mem_cons_of_mem _ hb)), List.filter_cons_of_pos hp, List.map_cons, List.append_assoc]
      rfl
    | false =>
      rw [if_neg (by decide), cl_map e f p l _ (fun b hb => h1 b (List.mem_cons_of_mem _ hb)) (fun b hb => h2 b (List.mem_cons_of_mem _ hb)), List.filter_cons_of_neg (by rw [hp]; decide)]
theorem cl_all {α : Type} (e f : α → Va) {j : Nat} {del : DE} {ε : En} {s : Sto} (l : List α) (acc : List Va) (h2 : ∀ a ∈ l, del (ε.set j (some (e a))) s = .ok (f a) s) :
    cl none (dgName j) dYes del ε (l.map e) acc s = .ok (acc ++ l.map f) s := by
  have := cl_map e f (j := j) (dt := dYes) (del := del) (ε := ε) (s := s) (fun _ => true) l acc (fun _ _ => rfl) (fun a ha _ => h2 a ha)
  rw [List.filter_eq_self.mpr (fun _ _ => rfl)] at this
  exact this
theorem toNat_inj {a b : Char} (h : a.toNat = b.toNat) : a = b := Char.ext (UInt32.toNat_inj.mp h)
@[simp] theorem ofString_inj {a b : String} : (Str.ofString a = Str.ofString b) = (a = b) := by
  apply propext
  constructor
  · intro h
    rw [Str.ofString_eq_toList, Str.ofString_eq_toList] at h
    injection h with h
    have h := congrArg Array.toList h
    have h : a.toList.map Char.toNat = b.toList.map Char.toNat := h
    exact String.toList_inj.mp (List.map_inj_right (fun _ _ => toNat_inj) |>.mp h)
  · intro h
    rw [h]
theorem get_set {s : Sto} {n : Nat} {o o' : Ob} (h : s[n]? = some o) : (s.set n o')[n]? = some o' := List.getElem?_set_self (List.getElem?_eq_some_iff.mp h).1
theorem get_set_ne {s : Sto} {n m : Nat} {o' : Ob} (h : n ≠ m) : (s.set n o')[m]? = s[m]? := List.getElem?_set_ne h
theorem atI_0 {x : Va} {xs : List Va} : atI (x :: xs) 0 = some x := atI_nat (j := 0) rfl
theorem atI_1 {x y : Va} {xs : List Va} : atI (x :: y :: xs) 1 = some y := atI_nat (j := 1) rfl
theorem atI_2 {x y z : Va} {xs : List Va} : atI (x :: y :: z :: xs) 2 = some z := atI_nat (j := 2) rfl
theorem atI_3 {x y z u : Va} {xs : List Va} : atI (x :: y :: z :: u :: xs) 3 = some u := atI_nat (j := 3) rfl
end Dn

set_option Elab.async false
set_option linter.all false
set_option maxRecDepth 100000
set_option maxHeartbeats 1000000
/-! Dn, part L: the laws' own helpers: the stream of draws. -/
namespace Dn
open PySem PySem.Spec PyProof.Rows L2

structure Stm where
  sc : List Int
  x : Int
  y : Nat
  z : Int
def Stm.ob (t : Stm) : Ob := .lst [.lst (t.sc.map .int), .int t.x, .int t.y, .int t.z]
def Stm.of : Ob → Option Stm
  | .lst [.lst sc, .int x, .int y, .int z] => match intsOf sc with
    | some ns => if 0 ≤ y then some ⟨ns, x, y.toNat, z⟩ else none
    | none => none
  | _ => none
theorem Stm.of_ob (t : Stm) : Stm.of t.ob = some t := by
  show (match intsOf (t.sc.map Va.int) with | some ns => if (0 : Int) ≤ (t.y : Int) then some (⟨ns, t.x, (t.y : Int).toNat, t.z⟩ : Stm) else none | none => none) = some t
  rw [intsOf_map]
  simp
theorem Stm.ob_of {o : Ob} {t : Stm} (h : Stm.of o = some t) : o = t.ob := by
  unfold Stm.of at h
  split at h
  · rename_i sc x y z
    split at h
    · rename_i ns e
      split at h
      · rename_i hy
        cases h
        rw [intsOf_eq e]
        show _ = Ob.lst [.lst (ns.map .int), .int x, .int (y.toNat : Nat), .int z]
        rw [Int.toNat_of_nonneg hy]
      · cases h
    · cases h
  · cases h
/-- the stream at a -/
def stAt (s : Sto) (a : Nat) : Option Stm := (s[a]?).bind Stm.of
theorem stAt_get {s : Sto} {a : Nat} {t : Stm} (h : stAt s a = some t) : s[a]? = some t.ob := by
  unfold stAt at h
  cases e : s[a]? with
  | none =>
    rw [e] at h
    cases h
  | some o =>
    rw [e] at h
    rw [Stm.ob_of h]
@[simp] theorem stAt_set {s : Sto} {a : Nat} {t t' : Stm} (h : stAt s a = some t) : stAt (s.set a t'.ob) a = some t' := by
  unfold stAt
  rw [get_set (stAt_get h)]
  exact Stm.of_ob t'
/-- what a draw takes, and the stream behind it -/
def Stm.pull (t : Stm) : Stm := if t.x = 0 ∧ t.y < t.sc.length then { t with x := if t.sc.getD t.y 0 < 0 then -(t.sc.getD t.y 0) else t.sc.getD t.y 0, y := t.y + 1 } else t
def Stm.draw (t : Stm) (m : Int) : Int × Stm :=
  if t.pull.x = 0 then (((t.pull.z * 48271 + 11) % 2147483647 / 97) % m, { t.pull with z := (t.pull.z * 48271 + 11) % 2147483647 }) else (t.pull.x % m, { t.pull with x := t.pull.x / m })
noncomputable def F_l_draw (args : List Va) (s : Sto) : Rs Va := match args with
  | [.ref a, .int m] => match stAt s a with
    | some t => if 0 < m ∧ m < 1073741824 then .ok (.int (t.draw m).1) (s.set a (t.draw m).2.ob) else .bad
    | none => .bad
  | _ => .bad
noncomputable def b_l_draw : DS := (sSeq (sIf (dAnd (dTB (dBin (gEq false) (dBin gIx (dV 0) (dC (.int 1))) (dC (.int 0)))) (dTB (dBin gLt (dBin gIx (dV 0) (dC (.int 2))) (dApp gLen (dCons (dBin gIx (dV 0) (dC (.int 0))) dNil))))) (sSeq (sSetIx (dV 0) (dC (.int 1)) (dApp gAbs (dCons (dApp gInt (dCons (dBin gIx (dBin gIx (dV 0) (dC (.int 0))) (dBin gIx (dV 0) (dC (.int 2)))) dNil)) dNil)))
  (sSetIx (dV 0) (dC (.int 2)) (dBin (gAdd false) (dBin gIx (dV 0) (dC (.int 2))) (dC (.int 1))))) sNext)
  (sSeq (sIf (dTB (dBin (gEq false) (dBin gIx (dV 0) (dC (.int 1))) (dC (.int 0)))) (sSeq (sSetIx (dV 0) (dC (.int 3)) (dBin gMod (dApp gInt (dCons (dBin (gAdd false) (dBin (gMul false) (dBin gIx (dV 0) (dC (.int 3))) (dC (.int 48271))) (dC (.int 11))) dNil)) (dC (.int 2147483647))))
  (sRet (dBin gMod (dApp gInt (dCons (dBin gFdiv (dBin gIx (dV 0) (dC (.int 3))) (dC (.int 97))) dNil)) (dV 1)))) sNext)
  (sSeq (sSet 2 (dBin gMod (dApp gInt (dCons (dBin gIx (dV 0) (dC (.int 1))) dNil)) (dV 1)))
  (sSeq (sSetIx (dV 0) (dC (.int 1)) (dBin gFdiv (dBin gIx (dV 0) (dC (.int 1))) (dV 1)))
  (sRet (dV 2))))))
/-- what stands in a stream's object -/
theorem ob_get {s : Sto} {a : Nat} {t : Stm} (h : s[a]? = some t.ob) : s[a]? = some (.lst [.lst (t.sc.map .int), .int t.x, .int t.y, .int t.z]) := h
theorem at_int {ns : List Int} {y : Nat} (h : y < ns.length) : atI (ns.map Va.int) (y : Int) = some (.int (ns.getD y 0)) := by
  refine atI_nat ?_
  rw [List.getElem?_map, List.getElem?_eq_getElem h, List.getD_eq_getElem?_getD, List.getElem?_eq_getElem h]
  rfl
theorem wf_set {s : Sto} {a n : Nat} {o : Ob} (w : WFn n s) (h : obB n o) : WFn n (s.set a o) := fun u hu => by
  rcases List.mem_or_eq_of_mem_set hu with z | z
  · exact w u z
  · rw [z]
    exact h
theorem vasB_ints {n : Nat} : ∀ {ns : List Int}, vasB n (ns.map .int)
  | [] => trivial
  | _ :: _ => ⟨trivial, vasB_ints⟩
theorem Stm.b (t : Stm) (n : Nat) : obB n t.ob := ⟨vasB_ints, trivial, trivial, trivial, trivial⟩
/-- the end of a def that made nothing that stays -/
theorem Fin.ret0 {raw : Fl} {v : Va} {s s0 : Sto} (h : raw = .ret v s0) (hl : s0.length = s.length) (hv : vaB s.length v) (hw : WFn s.length s0) : Fin s.length raw (.ok v s0) := by
  have e : s0.take s.length = s0 := by rw [← hl]; exact List.take_length
  have := Fin.ok (n := s.length) (raw := raw) (.inl h) (.same v s0) hv (by rw [e]; exact hw)
  rw [e] at this
  exact this
theorem set1 {s : Sto} {n : Nat} {a b c d v : Va} (h : s[n]? = some (.lst [a, b, c, d])) : gSetIx v (.ref n) (.int 1) s = some (s.set n (.lst [a, v, c, d])) := g_set_ref h (show ixN 4 1 = some 1 from rfl)
theorem set2 {s : Sto} {n : Nat} {a b c d v : Va} (h : s[n]? = some (.lst [a, b, c, d])) : gSetIx v (.ref n) (.int 2) s = some (s.set n (.lst [a, b, v, d])) := g_set_ref h (show ixN 4 2 = some 2 from rfl)
theorem set3 {s : Sto} {n : Nat} {a b c d v : Va} (h : s[n]? = some (.lst [a, b, c, d])) : gSetIx v (.ref n) (.int 3) s = some (s.set n (.lst [a, b, c, v])) := g_set_ref h (show ixN 4 3 = some 3 from rfl)
theorem set_same {s : Sto} {n : Nat} {o : Ob} (h : s[n]? = some o) : s.set n o = s := by
  obtain ⟨h1, h2⟩ := List.getElem?_eq_some_iff.mp h
  rw [← h2]
  exact List.set_getElem_self h1
theorem draw_run1 {s : Sto} {a : Nat} {t : Stm} {m : Int} (hs : s[a]? = some t.ob) : sIf (dAnd (dTB (dBin (gEq false) (dBin gIx (dV 0) (dC (.int 1))) (dC (.int 0)))) (dTB (dBin gLt (dBin gIx (dV 0) (dC (.int 2))) (dApp gLen (dCons (dBin gIx (dV 0) (dC (.int 0))) dNil))))) (sSeq (sSetIx (dV 0) (dC (.int 1)) (dApp gAbs (dCons (dApp gInt (dCons (dBin gIx (dBin gIx (dV 0) (dC (.int 0))) (dBin gIx (dV 0) (dC (.int 2)))) dNil)) dNil)))
  (sSetIx (dV 0) (dC (.int 2)) (dBin (gAdd false) (dBin gIx (dV 0) (dC (.int 2))) (dC (.int 1))))) sNext [some (.ref a), some (.int m), none] s = .nx [some (.ref a), some (.int m), none] (s.set a t.pull.ob) := by
  have h0 := set_same hs
  have hs := ob_get hs
  unfold Stm.pull
  by_cases h1 : t.x = 0
  · by_cases h2 : t.y < t.sc.length
    · rw [if_pos ⟨h1, h2⟩]
      simp [g_ix_ref hs, atI_1, atI_2, atI_0, h1, h2, at_int h2, set1 hs, g_ix_ref (get_set hs), set2 (get_set hs), Stm.ob]
    · rw [if_neg (fun h => h2 h.2), h0]
      simp [g_ix_ref hs, atI_1, atI_2, atI_0, h1, h2]
  · rw [if_neg (fun h => h1 h.1), h0]
    simp [g_ix_ref hs, atI_1, h1]
theorem cmul_c {i : Int} : CMul i 48271 ∨ CMulW i 48271 := cmul_r (by decide)
theorem draw_run2 {s2 : Sto} {a : Nat} {u : Stm} {m : Int} (h2 : s2[a]? = some u.ob) (hm : 0 < m ∧ m < 1073741824) : (sSeq (sIf (dTB (dBin (gEq false) (dBin gIx (dV 0) (dC (.int 1))) (dC (.int 0)))) (sSeq (sSetIx (dV 0) (dC (.int 3)) (dBin gMod (dApp gInt (dCons (dBin (gAdd false) (dBin (gMul false) (dBin gIx (dV 0) (dC (.int 3))) (dC (.int 48271))) (dC (.int 11))) dNil)) (dC (.int 2147483647))))
  (sRet (dBin gMod (dApp gInt (dCons (dBin gFdiv (dBin gIx (dV 0) (dC (.int 3))) (dC (.int 97))) dNil)) (dV 1)))) sNext)
  (sSeq (sSet 2 (dBin gMod (dApp gInt (dCons (dBin gIx (dV 0) (dC (.int 1))) dNil)) (dV 1)))
  (sSeq (sSetIx (dV 0) (dC (.int 1)) (dBin gFdiv (dBin gIx (dV 0) (dC (.int 1))) (dV 1)))
  (sRet (dV 2))))) [some (.ref a), some (.int m), none] s2 =
    if u.x = 0 then .ret (.int (((u.z * 48271 + 11) % 2147483647 / 97) % m)) (s2.set a { u with z := (u.z * 48271 + 11) % 2147483647 : Stm }.ob) else .ret (.int (u.x % m)) (s2.set a { u with x := u.x / m : Stm }.ob) := by
  have hm2 : CDiv u.x m := hm
  have h2 := ob_get h2
  by_cases h1 : u.x = 0
  · rw [if_pos h1]
    simp [g_ix_ref h2, atI_1, atI_3, h1, cmul_c, set3 h2, g_ix_ref (get_set h2), Stm.ob, CDiv, hm.1]
  · rw [if_neg h1]
    simp [g_ix_ref h2, atI_1, atI_3, h1, set1 h2, g_ix_ref (get_set h2), Stm.ob, hm2, hm.1]
theorem draw_run {s : Sto} {a : Nat} {t : Stm} {m : Int} (hs : s[a]? = some t.ob) (hm : 0 < m ∧ m < 1073741824) : b_l_draw [some (.ref a), some (.int m), none] s = .ret (.int (t.draw m).1) (s.set a (t.draw m).2.ob) := by
  unfold b_l_draw
  rw [e_seq, draw_run1 hs]
  dsimp only
  rw [draw_run2 (get_set hs) hm]
  unfold Stm.draw
  simp only [List.set_set]
  split <;> rfl
theorem fin_l_draw (args : List Va) (s : Sto) (wf : WFn s.length s) (_ : vasB s.length args) (hl : args.length = 2) : Fin s.length (b_l_draw (startA 3 args) s) (F_l_draw args s) := by
  unfold F_l_draw
  split
  · rename_i a m
    split
    · rename_i t e
      split
      · rename_i hm
        exact Fin.ret0 (draw_run (stAt_get e) hm) (by rw [List.length_set]) trivial (wf_set wf (Stm.b _ _))
      · exact .bad
    · exact .bad
  · exact .bad
end Dn

set_option Elab.async false
set_option linter.all false
set_option maxRecDepth 100000
set_option maxHeartbeats 4000000
/-! Dn, part M: the laws' own helpers: stream, pick, units, other, record, keeps. -/
namespace Dn
open PySem PySem.Spec PyProof.Rows L2

theorem stAt_of {s : Sto} {a : Nat} {t : Stm} (h : s[a]? = some t.ob) : stAt s a = some t := by
  unfold stAt
  rw [h]
  exact Stm.of_ob t
theorem stAt_lt {s : Sto} {a : Nat} {t : Stm} (h : stAt s a = some t) : a < s.length := (List.getElem?_eq_some_iff.mp (stAt_get h)).1
theorem stAt_put {s : Sto} {a : Nat} {t : Stm} (h : a < s.length) : stAt (s.set a t.ob) a = some t := stAt_of (List.getElem?_set_self h)
theorem Stm.draw_in (t : Stm) {m : Int} (h : 0 < m) : 0 ≤ (t.draw m).1 ∧ (t.draw m).1 < m := by
  unfold Stm.draw
  split
  · exact ⟨Int.emod_nonneg _ (by omega), Int.emod_lt_of_pos _ h⟩
  · exact ⟨Int.emod_nonneg _ (by omega), Int.emod_lt_of_pos _ h⟩
theorem atI_in {α : Type} {xs : List α} {i : Int} (d : α) (h0 : 0 ≤ i) (h1 : i < xs.length) : atI xs i = some (xs.getD i.toNat d) := by
  have e : i = (i.toNat : Int) := by omega
  have h2 : i.toNat < xs.length := by omega
  rw [e]
  refine atI_nat ?_
  rw [Int.toNat_natCast, List.getElem?_eq_getElem h2, List.getD_eq_getElem?_getD, List.getElem?_eq_getElem h2]
  rfl
theorem vasB_get {n : Nat} : ∀ {xs : List Va} {i : Nat}, vasB n xs → vaB n (xs.getD i .non)
  | [], i, _ => by
    rw [List.getD_nil]
    trivial
  | x :: xs, 0, h => h.1
  | x :: xs, i + 1, h => by
    rw [List.getD_cons_succ]
    exact vasB_get h.2
theorem getD_map {α β : Type} (f : α → β) (xs : List α) (i : Nat) (d : α) (e : β) (h : i < xs.length) : (xs.map f).getD i e = f (xs.getD i d) := by
  rw [List.getD_eq_getElem?_getD, List.getD_eq_getElem?_getD, List.getElem?_map, List.getElem?_eq_getElem h]
  rfl

/-! ### the stream -/
def mixed : List Int → Int → Int
  | [], m => m
  | c :: cs, m => mixed cs ((m * 48271 + c % 65521 + 1) % 2147483647)
def Stm.mk0 (sc : List Int) : Stm := ⟨sc, 0, 0, mixed sc 17⟩
noncomputable def b_l_stream : DS := (sSeq (sSet 1 (dC (.int 17)))
  (sSeq (sFor (dSeq (dV 0)) (dgName 2)
   (sSet 1 (dBin gMod (dApp gInt (dCons (dBin (gAdd false) (dBin (gAdd false) (dBin (gMul false) (dV 1) (dC (.int 48271))) (dBin gMod (dApp gInt (dCons (dV 2) dNil)) (dC (.int 65521)))) (dC (.int 1))) dNil)) (dC (.int 2147483647)))))
  (sRet (dLst true (dCons (dApp (gList false) (dCons (dV 0) dNil)) (dCons (dC (.int 0)) (dCons (dC (.int 0)) (dCons (dV 1) dNil))))))))
theorem stream_loop (ns all : List Int) (s : Sto) : ∀ (m : Int) (y : Option Va), ∃ y', lp none (fBody (dgName 2) (sSet 1 (dBin gMod (dApp gInt (dCons (dBin (gAdd false) (dBin (gAdd false) (dBin (gMul false) (dV 1) (dC (.int 48271))) (dBin gMod (dApp gInt (dCons (dV 2) dNil)) (dC (.int 65521)))) (dC (.int 1))) dNil)) (dC (.int 2147483647))))) (ns.map .int) [some (.ext (all.map .int)), some (.int m), y] s =
    .nx [some (.ext (all.map .int)), some (.int (mixed ns m)), y'] s := by
  induction ns with
  | nil =>
    intro m y
    refine ⟨y, ?_⟩
    rw [List.map_nil, lp_nil]
    rfl
  | cons c cs ih =>
    intro m y
    obtain ⟨y', e⟩ := ih ((m * 48271 + c % 65521 + 1) % 2147483647) (some (.int c))
    refine ⟨y', ?_⟩
    rw [List.map_cons, lp_cons]
    simp [cmul_c]
    exact e
noncomputable def F_l_stream (args : List Va) (s : Sto) : Rs Va := match args with
  | [.ext xs] => match intsOf xs with
    | some ns => .ok (.ref s.length) (s ++ [(Stm.mk0 ns).ob])
    | none => .bad
  | _ => .bad
/-- the end of a def that hands back a new object and nothing else stays -/
theorem Fin.box0 {raw : Fl} {s : Sto} {o : Ob} (h : raw = .ret (.ref s.length) (s ++ [o])) (ho : obB s.length o) (hw : WFn s.length s) : Fin s.length raw (.ok (.ref s.length) (s ++ [o])) := by
  have e : (s ++ [o]).take s.length = s := by rw [List.take_left]
  have := Fin.box (n := s.length) (raw := raw) (i := s.length) (o := o) h (.same _ _) (Nat.le_refl _) List.getElem?_concat_length ho (by rw [e]; exact hw)
  rw [e] at this
  exact this
theorem fin_l_stream (args : List Va) (s : Sto) (wf : WFn s.length s) (_ : vasB s.length args) (hl : args.length = 1) : Fin s.length (b_l_stream (startA 3 args) s) (F_l_stream args s) := by
  unfold F_l_stream
  split
  · rename_i xs
    split
    · rename_i ns e
      have e2 := intsOf_eq e
      subst e2
      refine Fin.box0 ?_ (Stm.b _ _) wf
      unfold b_l_stream startA
      obtain ⟨y', e3⟩ := stream_loop ns ns s 17 none
      simp [dSeq, e3, Stm.ob, Stm.mk0]
    · exact .bad
  · exact .bad

/-! ### a pick -/
noncomputable def b_l_pick : DS := (sRet (dBin gIx (dV 1) (dApp (gFn 2 F_l_draw) (dCons (dV 0) (dCons (dApp gLen (dCons (dV 1) dNil)) dNil)))))
noncomputable def F_l_pick (args : List Va) (s : Sto) : Rs Va := match args with
  | [.ref a, .lst xs] => match stAt s a with
    | some t => if 0 < xs.length ∧ xs.length < 1073741824 then .ok (xs.getD (t.draw xs.length).1.toNat .non) (s.set a (t.draw xs.length).2.ob) else .bad
    | none => .bad
  | [.ref a, .ref j] => match stAt s a, s[j]? with
    | some t, some (.lst xs) => if 0 < xs.length ∧ xs.length < 1073741824 ∧ j ≠ a then .ok (xs.getD (t.draw xs.length).1.toNat .non) (s.set a (t.draw xs.length).2.ob) else .bad
    | _, _ => .bad
  | _ => .bad
theorem fin_l_pick (args : List Va) (s : Sto) (wf : WFn s.length s) (wa : vasB s.length args) (hl : args.length = 2) : Fin s.length (b_l_pick (startA 2 args) s) (F_l_pick args s) := by
  unfold F_l_pick
  split
  · rename_i a xs
    split
    · rename_i t e
      split
      · rename_i hc
        have hd := t.draw_in (m := xs.length) (by omega)
        have hc2 : (0 : Int) < xs.length ∧ (xs.length : Int) < 1073741824 := by omega
        refine Fin.ret0 ?_ (by rw [List.length_set]) (vasB_get wa.2.1) (wf_set wf (Stm.b _ _))
        unfold b_l_pick startA
        simp [F_l_draw, e, hc2, hc.1, atI_in Va.non hd.1 hd.2]

      · exact .bad
    · exact .bad
  · rename_i a j
    split
    · rename_i t xs e e2
      split
      · rename_i hc
        have hd := t.draw_in (m := xs.length) (by omega)
        have hc2 : (0 : Int) < xs.length ∧ (xs.length : Int) < 1073741824 := by omega
        refine Fin.ret0 ?_ (by rw [List.length_set]) (vasB_get (wf _ (List.mem_of_getElem? e2))) (wf_set wf (Stm.b _ _))
        have e3 : (s.set a (t.draw xs.length).2.ob)[j]? = some (.lst xs) := by rw [get_set_ne (Ne.symm hc.2.2)]; exact e2
        unfold b_l_pick startA
        simp [F_l_draw, e, hc2, hc.1, gLen, seqA, e2, g_ix_ref e3, atI_in Va.non hd.1 hd.2]

      · exact .bad
    · exact .bad
  · exact .bad

/-! ### units, other units -/
noncomputable def b_l_other : DS := (sRet (dBin gMod (dApp gInt (dCons (dBin (gAdd false) (dBin (gAdd false) (dV 2) (dC (.int 1))) (dApp (gFn 2 F_l_draw) (dCons (dV 0) (dCons (dBin gSub (dV 1) (dC (.int 1))) dNil)))) dNil)) (dV 1)))
theorem draw_eq {s : Sto} {a : Nat} {t : Stm} {m : Int} (h : stAt s a = some t) (h1 : 0 < m) (h2 : m < 1073741824) : F_l_draw [.ref a, .int m] s = .ok (.int (t.draw m).1) (s.set a (t.draw m).2.ob) := by
  unfold F_l_draw
  simp only [h, h1, h2, and_self, if_true]
def otherM (t : Stm) (n a : Int) : Int × Stm := ((a + 1 + (t.draw (n - 1)).1) % n, (t.draw (n - 1)).2)
noncomputable def F_l_other (args : List Va) (s : Sto) : Rs Va := match args with
  | [.ref a, .int n, .int u] => match stAt s a with
    | some t => if 2 ≤ n ∧ n < 1073741824 then .ok (.int (otherM t n u).1) (s.set a (otherM t n u).2.ob) else .bad
    | none => .bad
  | _ => .bad
theorem fin_l_other (args : List Va) (s : Sto) (wf : WFn s.length s) (wa : vasB s.length args) (hl : args.length = 3) : Fin s.length (b_l_other (startA 3 args) s) (F_l_other args s) := by
  unfold F_l_other
  split
  · rename_i a n u
    split
    · rename_i t e
      split
      · rename_i hc
        refine Fin.ret0 ?_ (by rw [List.length_set]) trivial (wf_set wf (Stm.b _ _))
        unfold b_l_other startA otherM
        simp [draw_eq e (show 0 < n - 1 by omega) (show n - 1 < 1073741824 by omega), show 0 < n by omega]
      · exact .bad
    · exact .bad
  · exact .bad

/-! ### records -/
inductive Rec where
  | before (a b g : Int) | same (a b : Int) | within (a b g : Int) | since (a y w : Int) | upto (a y w : Int) | kind (a : Int) (k : Str)
def Rec.va : Rec → Va
  | .before a b g => .tup [.str "before", .int a, .int b, .int g]
  | .same a b => .tup [.str "same", .int a, .int b]
  | .within a b g => .tup [.str "within", .int a, .int b, .int g]
  | .since a y w => .tup [.str "since", .int a, .int y, .int w]
  | .upto a y w => .tup [.str "until", .int a, .int y, .int w]
  | .kind a k => .tup [.str "kind", .int a, .str k]
theorem Rec.b (r : Rec) (n : Nat) : vaB n r.va := by
  cases r <;> exact ⟨trivial, trivial, trivial, by first | exact trivial | exact ⟨trivial, trivial⟩⟩
def kindNames : List Str := ["a", "b", "c", "pot", "zzzzzzzz"]
theorem pick_eq {s : Sto} {a : Nat} {t : Stm} {xs : List Va} (h : stAt s a = some t) (h1 : 0 < xs.length) (h2 : xs.length < 1073741824) : F_l_pick [.ref a, .lst xs] s = .ok (xs.getD (t.draw xs.length).1.toNat .non) (s.set a (t.draw xs.length).2.ob) := by
  unfold F_l_pick
  simp only [h, h1, h2, and_self, if_true]
end Dn

set_option Elab.async false
set_option linter.all false
set_option maxRecDepth 100000
set_option maxHeartbeats 4000000
/-! Dn, part N: a drawn record. -/
namespace Dn
open PySem PySem.Spec PyProof.Rows L2

theorem getD_mem {α : Type} {xs : List α} {i : Nat} {d : α} (h : i < xs.length) : xs.getD i d ∈ xs := by
  rw [List.getD_eq_getElem?_getD, List.getElem?_eq_getElem h]
  exact List.getElem_mem h
section
variable {s : Sto} {a : Nat} {u : Stm}
theorem draw_st (la : a < s.length) {m : Int} (h1 : 0 < m) (h2 : m < 1073741824) : F_l_draw [.ref a, .int m] (s.set a u.ob) = .ok (.int (u.draw m).1) (s.set a (u.draw m).2.ob) := by
  rw [draw_eq (stAt_put la) h1 h2, List.set_set]
theorem other_st (la : a < s.length) {n b : Int} (h1 : 2 ≤ n) (h2 : n < 1073741824) : F_l_other [.ref a, .int n, .int b] (s.set a u.ob) = .ok (.int (otherM u n b).1) (s.set a (otherM u n b).2.ob) := by
  unfold F_l_other
  simp only [stAt_put la, h1, h2, and_self, if_true, List.set_set]
end
end Dn

set_option Elab.async false
set_option linter.all false
set_option maxRecDepth 100000
set_option maxHeartbeats 4000000
/-! Dn, part O: a value that is the same as another one; whether a dating keeps a record. -/
namespace Dn
open PySem PySem.Spec PyProof.Rows L2
theorem isi_of {T t : String} {x : Va} {s : Sto} {b : Bool} (h : tyA x s = some t) (k : kitB t T = some b) : gIsi T x s = .ok (.bl b) s := by
  unfold gIsi
  rw [h]
  dsimp only
  rw [k]
@[simp] theorem isi_tuple_tuple {xs : List Va} {s : Sto} : gIsi "tuple" (.tup xs) s = .ok (.bl true) s := isi_of (show tyA (.tup xs) s = some "tuple" from rfl) (by decide +kernel)
@[simp] theorem isi_tuple_list {xs : List Va} {s : Sto} : gIsi "tuple" (.lst xs) s = .ok (.bl false) s := isi_of (show tyA (.lst xs) s = some "list" from rfl) (by decide +kernel)
@[simp] theorem isi_tuple_str {x : Str} {s : Sto} : gIsi "tuple" (.str x) s = .ok (.bl false) s := isi_of (show tyA (.str x) s = some "str" from rfl) (by decide +kernel)
@[simp] theorem isi_tuple_int {i : Int} {s : Sto} : gIsi "tuple" (.int i) s = .ok (.bl false) s := isi_of (show tyA (.int i) s = some "int" from rfl) (by decide +kernel)
@[simp] theorem isi_tuple_bool {b : Bool} {s : Sto} : gIsi "tuple" (.bl b) s = .ok (.bl false) s := isi_of (show tyA (.bl b) s = some "bool" from rfl) (by decide +kernel)
@[simp] theorem isi_tuple_NoneType  {s : Sto} : gIsi "tuple" (.non) s = .ok (.bl false) s := isi_of (show tyA (.non) s = some "NoneType" from rfl) (by decide +kernel)
@[simp] theorem isi_list_tuple {xs : List Va} {s : Sto} : gIsi "list" (.tup xs) s = .ok (.bl false) s := isi_of (show tyA (.tup xs) s = some "tuple" from rfl) (by decide +kernel)
@[simp] theorem isi_list_list {xs : List Va} {s : Sto} : gIsi "list" (.lst xs) s = .ok (.bl true) s := isi_of (show tyA (.lst xs) s = some "list" from rfl) (by decide +kernel)
@[simp] theorem isi_list_str {x : Str} {s : Sto} : gIsi "list" (.str x) s = .ok (.bl false) s := isi_of (show tyA (.str x) s = some "str" from rfl) (by decide +kernel)
@[simp] theorem isi_list_int {i : Int} {s : Sto} : gIsi "list" (.int i) s = .ok (.bl false) s := isi_of (show tyA (.int i) s = some "int" from rfl) (by decide +kernel)
@[simp] theorem isi_list_bool {b : Bool} {s : Sto} : gIsi "list" (.bl b) s = .ok (.bl false) s := isi_of (show tyA (.bl b) s = some "bool" from rfl) (by decide +kernel)
@[simp] theorem isi_list_NoneType  {s : Sto} : gIsi "list" (.non) s = .ok (.bl false) s := isi_of (show tyA (.non) s = some "NoneType" from rfl) (by decide +kernel)
@[simp] theorem isi_str_tuple {xs : List Va} {s : Sto} : gIsi "str" (.tup xs) s = .ok (.bl false) s := isi_of (show tyA (.tup xs) s = some "tuple" from rfl) (by decide +kernel)
@[simp] theorem isi_str_list {xs : List Va} {s : Sto} : gIsi "str" (.lst xs) s = .ok (.bl false) s := isi_of (show tyA (.lst xs) s = some "list" from rfl) (by decide +kernel)
@[simp] theorem isi_str_str {x : Str} {s : Sto} : gIsi "str" (.str x) s = .ok (.bl true) s := isi_of (show tyA (.str x) s = some "str" from rfl) (by decide +kernel)
@[simp] theorem isi_str_int {i : Int} {s : Sto} : gIsi "str" (.int i) s = .ok (.bl false) s := isi_of (show tyA (.int i) s = some "int" from rfl) (by decide +kernel)
@[simp] theorem isi_str_bool {b : Bool} {s : Sto} : gIsi "str" (.bl b) s = .ok (.bl false) s := isi_of (show tyA (.bl b) s = some "bool" from rfl) (by decide +kernel)
@[simp] theorem isi_str_NoneType  {s : Sto} : gIsi "str" (.non) s = .ok (.bl false) s := isi_of (show tyA (.non) s = some "NoneType" from rfl) (by decide +kernel)
@[simp] theorem isi_int_tuple {xs : List Va} {s : Sto} : gIsi "int" (.tup xs) s = .ok (.bl false) s := isi_of (show tyA (.tup xs) s = some "tuple" from rfl) (by decide +kernel)
@[simp] theorem isi_int_list {xs : List Va} {s : Sto} : gIsi "int" (.lst xs) s = .ok (.bl false) s := isi_of (show tyA (.lst xs) s = some "list" from rfl) (by decide +kernel)
@[simp] theorem isi_int_str {x : Str} {s : Sto} : gIsi "int" (.str x) s = .ok (.bl false) s := isi_of (show tyA (.str x) s = some "str" from rfl) (by decide +kernel)
@[simp] theorem isi_int_int {i : Int} {s : Sto} : gIsi "int" (.int i) s = .ok (.bl true) s := isi_of (show tyA (.int i) s = some "int" from rfl) (by decide +kernel)
@[simp] theorem isi_int_bool {b : Bool} {s : Sto} : gIsi "int" (.bl b) s = .ok (.bl true) s := isi_of (show tyA (.bl b) s = some "bool" from rfl) (by decide +kernel)
@[simp] theorem isi_int_NoneType  {s : Sto} : gIsi "int" (.non) s = .ok (.bl false) s := isi_of (show tyA (.non) s = some "NoneType" from rfl) (by decide +kernel)
@[simp] theorem isi_bool_tuple {xs : List Va} {s : Sto} : gIsi "bool" (.tup xs) s = .ok (.bl false) s := isi_of (show tyA (.tup xs) s = some "tuple" from rfl) (by decide +kernel)
@[simp] theorem isi_bool_list {xs : List Va} {s : Sto} : gIsi "bool" (.lst xs) s = .ok (.bl false) s := isi_of (show tyA (.lst xs) s = some "list" from rfl) (by decide +kernel)
@[simp] theorem isi_bool_str {x : Str} {s : Sto} : gIsi "bool" (.str x) s = .ok (.bl false) s := isi_of (show tyA (.str x) s = some "str" from rfl) (by decide +kernel)
@[simp] theorem isi_bool_int {i : Int} {s : Sto} : gIsi "bool" (.int i) s = .ok (.bl false) s := isi_of (show tyA (.int i) s = some "int" from rfl) (by decide +kernel)
@[simp] theorem isi_bool_bool {b : Bool} {s : Sto} : gIsi "bool" (.bl b) s = .ok (.bl true) s := isi_of (show tyA (.bl b) s = some "bool" from rfl) (by decide +kernel)
@[simp] theorem isi_bool_NoneType  {s : Sto} : gIsi "bool" (.non) s = .ok (.bl false) s := isi_of (show tyA (.non) s = some "NoneType" from rfl) (by decide +kernel)
theorem Fin.ret1 {raw : Fl} {v : Va} {s : Sto} (h : raw = .ret v s) (hv : vaB s.length v) (hw : WFn s.length s) : Fin s.length raw (.ok v s) := Fin.ret0 h rfl hv hw
end Dn

set_option Elab.async false
set_option linter.all false
set_option maxRecDepth 100000
set_option maxHeartbeats 4000000
/-! Dn, part P: the same value: the body. -/
namespace Dn
open PySem PySem.Spec PyProof.Rows L2
end Dn

set_option Elab.async false
set_option linter.all false
set_option maxRecDepth 100000
set_option maxHeartbeats 4000000
/-! Dn, part Q: whether a dating keeps a record: the law's helper and the program's def. -/
namespace Dn
open PySem PySem.Spec PyProof.Rows L2
/-- a value that is a record's -/
def recOf : Va → Option Rec
  | .tup [.str w, .int a, .int b, .int g] => if w = "before" then some (.before a b g) else if w = "within" then some (.within a b g) else if w = "since" then some (.since a b g) else if w = "until" then some (.upto a b g) else none
  | .tup [.str w, .int a, .int b] => if w = "same" then some (.same a b) else none
  | .tup [.str w, .int a, .str k] => if w = "kind" then some (.kind a k) else none
  | _ => none
theorem recOf_va (r : Rec) : recOf r.va = some r := by
  cases r <;> simp [recOf, Rec.va]
theorem recOf_eq {x : Va} {r : Rec} (h : recOf x = some r) : x = r.va := by
  unfold recOf at h
  split at h
  · split at h
    · rename_i e
      cases h
      rw [e]
      rfl
    · split at h
      · rename_i e
        cases h
        rw [e]
        rfl
      · split at h
        · rename_i e
          cases h
          rw [e]
          rfl
        · split at h
          · rename_i e
            cases h
            rw [e]
            rfl
          · cases h
  · split at h
    · rename_i e
      cases h
      rw [e]
      rfl
    · cases h
  · split at h
    · rename_i e
      cases h
      rw [e]
      rfl
    · cases h
  · cases h
/-- the year of a unit -/
def yr (ys : List Int) (a : Int) : Int := ys.getD a.toNat 0
def Rec.keeps (ys : List Int) : Rec → Bool
  | .before a b g => decide (yr ys a + g ≤ yr ys b)
  | .same a b => decide (yr ys a = yr ys b)
  | .within a b g => decide (yr ys b ≤ yr ys a + g)
  | .since a y _ => decide (y ≤ yr ys a)
  | .upto a y _ => decide (yr ys a ≤ y)
  | .kind _ _ => true
/-- its units are below n -/
def Rec.fits (n : Int) : Rec → Prop
  | .before a b _ => (0 ≤ a ∧ a < n) ∧ (0 ≤ b ∧ b < n)
  | .same a b => (0 ≤ a ∧ a < n) ∧ (0 ≤ b ∧ b < n)
  | .within a b _ => (0 ≤ a ∧ a < n) ∧ (0 ≤ b ∧ b < n)
  | .since a _ _ => 0 ≤ a ∧ a < n
  | .upto a _ _ => 0 ≤ a ∧ a < n
  | .kind a _ => 0 ≤ a ∧ a < n
noncomputable instance (n : Int) (r : Rec) : Decidable (r.fits n) := Classical.propDecidable _
noncomputable def F_keeps (args : List Va) (s : Sto) : Rs Va := match args with
  | [x, d] => match recOf x, seqL d s with
    | some r, some xs => match intsOf xs with
      | some ys => if r.fits ys.length then .ok (.bl (r.keeps ys)) s else .bad
      | none => .bad
    | _, _ => .bad
  | _ => .bad
noncomputable abbrev F_l_keeps := F_keeps
noncomputable def b_l_keeps : DS := (sSeq (sSet 2 (dBin gIx (dV 0) (dC (.int 0))))
  (sSeq (sIf (dTB (dBin (gEq false) (dV 2) (dC (.str "kind")))) (sRet (dC (.bl true))) sNext)
  (sSeq (sIf (dTB (dBin (gEq false) (dV 2) (dC (.str "since")))) (sRet (dBin gGe (dBin gIx (dV 1) (dBin gIx (dV 0) (dC (.int 1)))) (dBin gIx (dV 0) (dC (.int 2))))) sNext)
  (sSeq (sIf (dTB (dBin (gEq false) (dV 2) (dC (.str "until")))) (sRet (dBin gLe (dBin gIx (dV 1) (dBin gIx (dV 0) (dC (.int 1)))) (dBin gIx (dV 0) (dC (.int 2))))) sNext)
  (sSeq (sSet 3 (dBin gSub (dBin gIx (dV 1) (dBin gIx (dV 0) (dC (.int 2)))) (dBin gIx (dV 1) (dBin gIx (dV 0) (dC (.int 1))))))
  (sSeq (sIf (dTB (dBin (gEq false) (dV 2) (dC (.str "same")))) (sRet (dBin (gEq false) (dV 3) (dC (.int 0)))) sNext)
  (sSeq (sIf (dTB (dBin (gEq false) (dV 2) (dC (.str "before")))) (sRet (dBin gGe (dV 3) (dBin gIx (dV 0) (dC (.int 3))))) sNext)
  (sRet (dBin gLe (dV 3) (dBin gIx (dV 0) (dC (.int 3))))))))))))
theorem ix_yr {d : Va} {ys : List Int} {s : Sto} {a : Int} (h : seqL d s = some (ys.map .int)) (h0 : 0 ≤ a) (h1 : a < ys.length) : gIx d (.int a) s = .ok (.int (yr ys a)) s := by
  have h2 : seqA d s = some (ys.map .int) := by
    cases d <;> simp [seqL] at h <;> simp [seqA, h]
  unfold gIx
  rw [h2]
  dsimp only
  rw [atI_in .non h0 (by rw [List.length_map]; exact h1), getD_map Va.int ys a.toNat 0 .non (by omega)]
  rfl
theorem l_keeps_run {r : Rec} {d : Va} {ys : List Int} {s : Sto} (h : seqL d s = some (ys.map .int)) (hf : r.fits ys.length) : b_l_keeps [some r.va, some d, none, none] s = .ret (.bl (r.keeps ys)) s := by
  unfold b_l_keeps
  cases r with
  | before a b g =>
    obtain ⟨⟨a0, a1⟩, b0, b1⟩ := hf
    simp [Rec.va, atI_0, atI_1, atI_2, atI_3, ix_yr h a0 a1, ix_yr h b0 b1, Rec.keeps]
    omega
  | same a b =>
    obtain ⟨⟨a0, a1⟩, b0, b1⟩ := hf
    simp [Rec.va, atI_0, atI_1, atI_2, ix_yr h a0 a1, ix_yr h b0 b1, Rec.keeps]
    omega
  | within a b g =>
    obtain ⟨⟨a0, a1⟩, b0, b1⟩ := hf
    simp [Rec.va, atI_0, atI_1, atI_2, atI_3, ix_yr h a0 a1, ix_yr h b0 b1, Rec.keeps]
    omega
  | since a y w =>
    obtain ⟨a0, a1⟩ := hf
    simp [Rec.va, atI_0, atI_1, atI_2, ix_yr h a0 a1, Rec.keeps]
  | upto a y w =>
    obtain ⟨a0, a1⟩ := hf
    simp [Rec.va, atI_0, atI_1, atI_2, ix_yr h a0 a1, Rec.keeps]
  | kind a k => simp [Rec.va, atI_0, Rec.keeps]
theorem fin_l_keeps (args : List Va) (s : Sto) (wf : WFn s.length s) (wa : vasB s.length args) (hl : args.length = 2) : Fin s.length (b_l_keeps (startA 4 args) s) (F_keeps args s) := by
  unfold F_keeps
  split
  · split
    · rename_i r xs e1 e2
      split
      · rename_i ys e3
        split
        · rename_i hc
          rw [recOf_eq e1]
          rw [intsOf_eq e3] at e2
          exact Fin.ret1 (l_keeps_run e2 hc) trivial wf
        · exact .bad
      · exact .bad
    · exact .bad
  · exact .bad
end Dn

set_option Elab.async false
set_option linter.all false
set_option maxRecDepth 100000
set_option maxHeartbeats 1000000
/-! Dn, part R: dicts that are written: those of the module, displays; tuples of the module. -/
namespace Dn
open PySem PySem.Spec PyProof.Rows L2
def entIs : List DictEntry → List (Str × Int) → Prop
  | [], [] => True
  | e :: r, p :: q => (∃ t t', e.key = .str p.1 t ∧ e.val = .int p.2 t') ∧ entIs r q
  | _, _ => False
/-- a dict of the module, texts to numbers -/
def KSI (K : PySem.W.Frag) (w : World) (d : Addr) (kvs : List (Str × Int)) : Prop := ∃ es n, KDict K w d es n ∧ entIs es.toList kvs
def lkS : List (Str × Int) → Str → Option Int
  | [], _ => none
  | (k, i) :: r, z => if k = z then some i else lkS r z
theorem isStr_key {x z : Str} {t : Tok} : (Value.str x t).isStr z = decide (x = z) := by
  rw [PySem.W.isStr_of]
  by_cases h : x = z
  · subst h
    simp [Value.isStrOf]
  · rw [decide_eq_false h]
    simp [Value.isStrOf, h]
    try exact fun e => h e.symm
theorem ent_find : ∀ {l : List DictEntry} {kvs : List (Str × Int)} {z : Str}, entIs l kvs → (match lkS kvs z with
    | some i => ∃ e t, l.find? (·.key.isStr z) = some e ∧ e.val = .int i t
    | none => l.find? (·.key.isStr z) = none)
  | [], [], z, _ => rfl
  | [], _ :: _, _, h => h.elim
  | _ :: _, [], _, h => h.elim
  | e :: r, (k, i) :: q, z, h => by
    obtain ⟨⟨t, t', h1, h2⟩, h3⟩ := h
    have ih := ent_find (z := z) h3
    unfold lkS
    by_cases hk : k = z
    · rw [if_pos hk]
      refine ⟨e, t', ?_, h2⟩
      rw [List.find?_cons_of_pos (by rw [h1, isStr_key]; exact decide_eq_true hk)]
    · rw [if_neg hk, List.find?_cons_of_neg (by rw [h1, isStr_key, decide_eq_false hk]; decide)]
      exact ih
theorem ent_ref : ∀ {l : List DictEntry} {kvs : List (Str × Int)}, entIs l kvs → l.any (·.refKey) = false
  | [], [], _ => rfl
  | [], _ :: _, h => h.elim
  | _ :: _, [], h => h.elim
  | e :: r, (k, i) :: q, h => by
    obtain ⟨⟨t, t', h1, h2⟩, h3⟩ := h
    rw [List.any_cons, ent_ref h3]
    simp [DictEntry.refKey, h1]
theorem KSI.ns {K : PySem.W.Frag} {w : World} {d : Addr} {es : Array DictEntry} {n : Nat} {kvs : List (Str × Int)} (D : KDict K w d es n) (h : entIs es.toList kvs) (z : Str) : (match lkS kvs z with
    | some i => ∃ t, PySem.W.nsIn K d z = some (some (.int i t))
    | none => PySem.W.nsIn K d z = some none) := by
  have f := ent_find (z := z) h
  have r := ent_ref h
  unfold PySem.W.nsIn
  rw [D.at_]
  dsimp only
  cases e : lkS kvs z with
  | some i =>
    rw [e] at f
    obtain ⟨u, t, f1, f2⟩ := f
    exact ⟨t, by rw [f1, ← f2]⟩
  | none =>
    rw [e] at f
    dsimp only at f ⊢
    rw [f, r]
    rfl
section
variable {X : Cx} {CL : Cls0} {W : WX} {a b : Expr} {da db : DE} {pos p : Pos} {d : Addr} {kvs : List (Str × Int)} {x : Str}
end
/-! ### displays -/
section
variable {K : PySem.W.Frag} {CL : Cls0} {W : Value → Option Addr → Hp → Prop} {F H G : Hp} {as : List Addr} {s : Sto}
end
/-! ### sources: a text, enumerate -/
end Dn

set_option Elab.async false
set_option linter.all false
set_option maxRecDepth 100000
set_option maxHeartbeats 1000000
/-! Dn, part S: assignments to several names. -/
namespace Dn
open PySem PySem.Spec PyProof.Rows L2
def sPar (i j : Nat) (da : DA) : DS := fun ε s => (evA da ε s).fl ε fun xs s1 => match xs with
  | [x, y] => .nx ((ε.set i (some x)).set j (some y)) s1
  | _ => .bad
def sAsg (dg : DG) (de : DE) : DS := fun ε s => (de ε s).fl ε fun x s1 => match dg x ε s1 with
  | some ε' => .nx ε' s1
  | none => .bad
section
variable {X : Cx} {CL : Cls0} {W : WX} {k : Nat} {a b e tg : Expr} {da : DA} {de : DE} {pos px py pt pt2 : Pos} {kt k2 : Nat} {x y : Str}
theorem rs_par {i j : Nat} (O : Okc X W k) (hi : X.N[i]? = some x) (hj : X.N[j]? = some y) (hij : i ≠ j) (hx : X.env.scope.names.lookup x = some .local) (hy : X.env.scope.names.lookup y = some .local) (ha : RA X CL W [a, b] da)
    (hw : swappedStores [.Tuple [.Name x px, .Name y py] kt pt] (.Tuple [a, b] k2 pt2) X.env = pure (some [x, y])) (hs : swapsWithSole [.Tuple [.Name x px, .Name y py] kt pt] (.Tuple [a, b] k2 pt2) pos.line X.env = pure false := by rfl) :
    RS X CL W (.Assign [.Tuple [.Name x px, .Name y py] kt pt] (.Tuple [a, b] k2 pt2) pos) (sPar i j da) := ps_weak (ps_par O.calm O.nd hi hj hij hx hy ha hw hs) fun D σ H h => by
  obtain ⟨F, G, as, ε, s, S, E, h⟩ := h
  refine ⟨F, G, as, ε, s, S, E, Pst.imp (PF.bind E h) fun v H1 ⟨F1, as1, s1, y, l, S1, rx, h1⟩ => ?_⟩
  split at h1
  · rename_i xs p q
    obtain ⟨v1, v2, e, r1, r2⟩ : ∃ v1 v2, v = [v1, v2] ∧ Rl X.K F1 as1 p v1 ∧ Rl X.K F1 as1 q v2 := by
      cases rx with
      | cons r1 t => cases t with
        | cons r2 t => cases t with
          | nil => exact ⟨_, _, rfl, r1, r2⟩
    exact ⟨v1, v2, e, h1 F1 as1 _ H1 Le.refl S1 (((E.mono l).set i r1).set j r2)⟩
  · exact h1.elim
end
@[simp] theorem e_par {i j : Nat} {da : DA} {ε : En} {s : Sto} : sPar i j da ε s = (evA da ε s).fl ε fun xs s1 => match xs with
  | [x, y] => .nx ((ε.set i (some x)).set j (some y)) s1
  | _ => .bad := rfl
@[simp] theorem e_asg {dg : DG} {de : DE} {ε : En} {s : Sto} : sAsg dg de ε s = (de ε s).fl ε fun x s1 => match dg x ε s1 with
  | some ε' => .nx ε' s1
  | none => .bad := rfl
end Dn

set_option Elab.async false
set_option linter.all false
set_option maxRecDepth 100000
set_option maxHeartbeats 1000000
/-! Dn, part T: mirrors by what is told of them; lists that are frozen at a return. -/
namespace Dn
open PySem PySem.Spec PyProof.Rows L2
/-- a def's mirror, of which P alone is known -/
noncomputable def mir (nb : Nat) (b : DS) (P : List Va → Sto → Rs Va → Prop) (args : List Va) (s : Sto) : Rs Va := open Classical in
  if h : ∃ r, P args s r ∧ Fin s.length (b (startA nb args) s) r then h.choose else .bad
theorem fin_mir {nb : Nat} {b : DS} {P : List Va → Sto → Rs Va → Prop} (args : List Va) (s : Sto) : Fin s.length (b (startA nb args) s) (mir nb b P args s) := by
  unfold mir
  split
  · rename_i h
    exact h.choose_spec.2
  · exact .bad
theorem mir_p {nb : Nat} {b : DS} {P : List Va → Sto → Rs Va → Prop} {args : List Va} {s : Sto} {r : Rs Va} (h1 : P args s r) (h2 : Fin s.length (b (startA nb args) s) r) : P args s (mir nb b P args s) := by
  have h : ∃ r, P args s r ∧ Fin s.length (b (startA nb args) s) r := ⟨r, h1, h2⟩
  unfold mir
  rw [dif_pos h]
  exact h.choose_spec.1
theorem take_set {s : Sto} {n i : Nat} {o : Ob} (h : n ≤ i) : (s.set i o).take n = s.take n := by
  apply List.ext_getElem?
  intro j
  by_cases hj : j < n
  · rw [List.getElem?_take_of_lt hj, List.getElem?_take_of_lt hj, List.getElem?_set_ne (by omega)]
  · rw [List.getElem?_take_eq_none (by omega), List.getElem?_take_eq_none (by omega)]
theorem Fin.frz1 {n i : Nat} {raw : Fl} {s0 : Sto} {xs : List Va} (h : raw = .ret (.ref i) s0) (hi : n ≤ i) (ho : s0[i]? = some (.lst xs)) (hx : vasB n xs) (hw : WFn n (s0.take n)) : Fin n raw (.ok (.lst xs) (s0.take n)) := by
  have := Fin.ok (n := n) (raw := raw) (v := .lst xs) (.inl h) (.lst ho (Frzs.same xs s0) ho) hx (by rw [take_set hi]; exact hw)
  rw [take_set hi] at this
  exact this
/-- the new object behind the store is what is handed back -/
theorem Fin.frzS {raw : Fl} {s s1 : Sto} {xs : List Va} (h : raw = .ret (.ref s.length) (s1 ++ [.lst xs])) (hl : s1.length = s.length) (hx : vasB s.length xs) (hw : WFn s.length s1) : Fin s.length raw (.ok (.lst xs) s1) := by
  have e : (s1 ++ [Ob.lst xs]).take s.length = s1 := by rw [← hl, List.take_left]
  have := Fin.frz1 (n := s.length) (i := s.length) h (Nat.le_refl _) (by rw [← hl]; exact List.getElem?_concat_length) hx (by rw [e]; exact hw)
  rw [e] at this
  exact this
/-- rows of a table, frozen one by one -/
theorem frz_rows (k : Nat) : ∀ (rows : List (List Va)) (j : Nat) (s : Sto), (∀ i, (h : i < rows.length) → s[j + i]? = some (.lst (rows[i]))) → j + rows.length ≤ k → ∃ s', Frzs ((List.range rows.length).map fun i => .ref (j + i)) s (rows.map .lst) s' ∧ (∀ i, k ≤ i → s'[i]? = s[i]?) ∧ ∀ n, n ≤ j → s'.take n = s.take n
  | [], j, s, _, _ => ⟨s, .nil s, fun _ _ => rfl, fun _ _ => rfl⟩
  | r :: rows, j, s, h, hk => by
    rw [List.length_cons] at hk
    have h0 := h 0 (by rw [List.length_cons]; omega)
    obtain ⟨s', g1, g2, g3⟩ := frz_rows k rows (j + 1) (s.set j .dead) (fun i hi => by
      rw [List.getElem?_set_ne (by omega)]
      have := h (i + 1) (by rw [List.length_cons]; omega)
      rw [show j + 1 + i = j + (i + 1) by omega, this]
      rfl) (by omega)
    refine ⟨s', ?_, fun i hi => by rw [g2 i hi, List.getElem?_set_ne (by omega)], fun n hn => by rw [g3 n (by omega), take_set hn]⟩
    rw [List.length_cons, List.range_succ_eq_map, List.map_cons, List.map_map, List.map_cons]
    refine .cons (.lst h0 (Frzs.same _ _) h0) ?_
    have e : ((fun i => Va.ref (j + i)) ∘ Nat.succ) = fun i => Va.ref (j + 1 + i) := by
      funext i
      show Va.ref (j + (i + 1)) = _
      rw [show j + (i + 1) = j + 1 + i by omega]
    rw [e]
    exact g1
theorem vasB_rows {n : Nat} : ∀ {rows : List (List Va)}, (∀ r ∈ rows, vasB n r) → vasB n (rows.map .lst)
  | [], _ => trivial
  | r :: rows, h => ⟨h r List.mem_cons_self, vasB_rows fun x hx => h x (List.mem_cons_of_mem _ hx)⟩
theorem Fin.frzT {raw : Fl} {s s1 : Sto} {rows : List (List Va)} (h : raw = .ret (.ref (s.length + rows.length)) (s1 ++ rows.map .lst ++ [.lst ((List.range rows.length).map fun i => .ref (s.length + i))])) (hl : s1.length = s.length) (hx : ∀ r ∈ rows, vasB s.length r) (hw : WFn s.length s1) : Fin s.length raw (.ok (.lst (rows.map .lst)) s1) := by
  have ho : (s1 ++ rows.map Ob.lst ++ [Ob.lst ((List.range rows.length).map fun i => Va.ref (s.length + i))])[s.length + rows.length]? = some (.lst ((List.range rows.length).map fun i => .ref (s.length + i))) := by
    rw [show s.length + rows.length = (s1 ++ rows.map Ob.lst).length by rw [List.length_append, List.length_map, hl]]
    exact List.getElem?_concat_length
  obtain ⟨s', g1, g2, g3⟩ := frz_rows (s.length + rows.length) rows s.length (s1 ++ rows.map Ob.lst ++ [Ob.lst ((List.range rows.length).map fun i => Va.ref (s.length + i))]) (fun i hi => by
    rw [List.append_assoc, List.getElem?_append_right (by omega), hl, show s.length + i - s.length = i by omega, List.getElem?_append_left (by rw [List.length_map]; exact hi), List.getElem?_map, List.getElem?_eq_getElem hi]
    rfl) (Nat.le_refl _)
  have e : (s'.set (s.length + rows.length) .dead).take s.length = s1 := by
    rw [take_set (by omega), g3 _ (Nat.le_refl _), List.append_assoc, ← hl, List.take_left]
  have := Fin.ok (n := s.length) (raw := raw) (v := .lst (rows.map .lst)) (.inl h) (.lst ho g1 (by rw [g2 _ (Nat.le_refl _)]; exact ho)) (vasB_rows hx) (by rw [e]; exact hw)
  rw [e] at this
  exact this
end Dn

set_option Elab.async false
set_option linter.all false
set_option maxRecDepth 100000
set_option maxHeartbeats 1000000
/-! Dn, part Ex: own exceptions raised; try with one clause. -/
namespace Dn
open PySem PySem.Spec PyProof.Rows L2
abbrev veTail : List Value := [.type "ValueError", .type "Exception", .type "BaseException", .type "object"]
/-- an own exception class below ValueError -/
def Xcl (K : PySem.W.Frag) (mg : Str → Option Value) (CL : Cls0) (x : Str) : Prop := ∃ C : Addr, CL x = .ref C ∧ mg x = some (.ref C) ∧ PySem.W.excIn K C veTail "ValueError.__new__" = true ∧ PySem.W.keepIn K (.ref C) = true ∧
  PySem.W.subIn K (.ref C) (.type "BaseException") = some true ∧ PySem.W.typeIn K (.ref C) = some (.type "type")
def lkC : List (Str × Bool) → Str → Option Bool
  | [], _ => none
  | (c, b) :: r, x => if c = x then some b else lkC r x
def noEx : Fl → Fl
  | .exc _ _ _ => .bad
  | r => r
def sTry (d1 : DS) (tbl : List (Str × Bool)) (d2 : DS) : DS := fun ε s => match d1 ε s with
  | .exc c ε' s' => match lkC tbl c with
    | some true => noEx (d2 ε' s')
    | some false => .exc c ε' s'
    | none => .bad
  | r => r
theorem PF.noEx {K : PySem.W.Frag} {CL : Cls0} {W W' : WX} {F G : Hp} {as : List Addr} {r : Fl} {D : Ends} (h : PF K CL W F G as (Dn.noEx r) D) : PF K CL W' F G as r D := by
  cases r with
  | exc c ε s => exact h.elim
  | nx ε s => exact h
  | ret x s => exact h
  | brk ε s => exact h
  | ct ε s => exact h
  | bad => exact h
section
variable {X : Cx} {CL : Cls0} {W : WX} {k : Nat} {x m : Str} {j : Nat} {p p2 pos pos' np : Pos} {body suite : List Stmt} {b₀ : Stmt} {tbl : List (Str × Bool)} {d1 d2 : DS}
theorem rs_raiseX (O : Okc X W k) (T : Xcl X.K X.mg CL x) (hg : Gl X x := by rfl) (hdb : (x == ("__debug__" : Str)) = false := by decide) : RS X CL W (.Raise (some (.Call (.Name x p) [.Constant (.str m) j p2] [] pos)) none pos') (sRaise x) := by
  obtain ⟨C, h1, h2, h3, h4, h5, h6⟩ := T
  exact rs_raise O h1 (pmk_own PySem.F.excBase_ValueError h3 h2 h4 (raises_own h5 h6) hg hdb)
end
section
variable {X : Cx} {CL : Cls0} {W : WX} {p pos pos' : Pos} {e o i : Expr} {de d0 di : DE}
end
@[simp] theorem e_try {d1 d2 : DS} {tbl : List (Str × Bool)} {ε : En} {s : Sto} : sTry d1 tbl d2 ε s = match d1 ε s with
  | .exc c ε' s' => match lkC tbl c with
    | some true => noEx (d2 ε' s')
    | some false => .exc c ε' s'
    | none => .bad
  | r => r := rfl
end Dn

set_option linter.all false
set_option maxRecDepth 100000
/-! Dm, part A: greatest ways between places, in plain Lean: a table that is closed place by place. -/
namespace Dm
abbrev Edge := Nat × Nat × Int
abbrev Tb := Nat → Nat → Option Int
/-- a dating keeps all steps -/
def Feas (E : List Edge) (y : Nat → Int) : Prop := ∀ e ∈ E, y e.1 + e.2.2 ≤ y e.2.1
def Holds (E : List Edge) : Prop := ∃ y, Feas E y
def InN (n : Nat) (E : List Edge) : Prop := ∀ e ∈ E, e.1 ≤ n ∧ e.2.1 ≤ n
/-- a way, with its sum -/
inductive Wk (E : List Edge) (i : Nat) : Nat → Int → Prop
  | nil : Wk E i i 0
  | snoc {u v : Nat} {w c : Int} : Wk E i u w → (u, v, c) ∈ E → Wk E i v (w + c)
theorem Wk.trans {E : List Edge} {i j k : Nat} {w c : Int} (a : Wk E i j w) (b : Wk E j k c) : Wk E i k (w + c) := by
  induction b with
  | nil =>
    rw [Int.add_zero]
    exact a
  | snoc _ h ih =>
    rw [← Int.add_assoc]
    exact .snoc ih h
theorem Wk.one {E : List Edge} {i j : Nat} {c : Int} (h : (i, j, c) ∈ E) : Wk E i j c := by
  have := Wk.snoc .nil h
  rw [Int.zero_add] at this
  exact this
theorem Wk.feas {E : List Edge} {y : Nat → Int} (h : Feas E y) {i j : Nat} {w : Int} (k : Wk E i j w) : y i + w ≤ y j := by
  induction k with
  | nil => omega
  | snoc _ e ih =>
    have := h _ e
    dsimp only at this
    omega
def ltO : Option Int → Int → Bool
  | none, _ => true
  | some v, w => decide (v < w)
def relax (T : Tb) (i j : Nat) (w : Int) : Tb := if ltO (T i j) w = true then fun a b => if a = i ∧ b = j then some w else T a b else T
def tb0 : Tb := fun i j => if i = j then some 0 else none
def addE (E : List Edge) (T : Tb) : Tb := E.foldl (fun T e => relax T e.1 e.2.1 e.2.2) T
def rowF (k i : Nat) (f : Int) (T : Tb) (j : Nat) : Tb := match T k j with | none => T | some s => relax T i j (f + s)
def fwRow (k i : Nat) (f : Int) (js : List Nat) (T : Tb) : Tb := js.foldl (rowF k i f) T
def stF (js : List Nat) (k : Nat) (T : Tb) (i : Nat) : Tb := match T i k with | none => T | some f => fwRow k i f js T
def fwStage (js : List Nat) (is : List Nat) (k : Nat) (T : Tb) : Tb := is.foldl (stF js k) T
theorem rowF_none {k i j : Nat} {f : Int} {T : Tb} (h : T k j = none) : rowF k i f T j = T := by
  unfold rowF
  rw [h]
theorem rowF_some {k i j : Nat} {f s : Int} {T : Tb} (h : T k j = some s) : rowF k i f T j = relax T i j (f + s) := by
  unfold rowF
  rw [h]
theorem stF_none {js : List Nat} {k i : Nat} {T : Tb} (h : T i k = none) : stF js k T i = T := by
  unfold stF
  rw [h]
theorem stF_some {js : List Nat} {k i : Nat} {f : Int} {T : Tb} (h : T i k = some f) : stF js k T i = fwRow k i f js T := by
  unfold stF
  rw [h]
def fwAll (js is ks : List Nat) (T : Tb) : Tb := ks.foldl (fun T k => fwStage js is k T) T
def fw (n : Nat) (E : List Edge) : Tb := fwAll (List.range (n + 1)) (List.range (n + 1)) (List.range (n + 1)) (addE E tb0)
/-- a table grows -/
def Grow (T U : Tb) : Prop := ∀ i j v, T i j = some v → ∃ v', U i j = some v' ∧ v ≤ v'
theorem Grow.refl {T : Tb} : Grow T T := fun _ _ v h => ⟨v, h, Int.le_refl _⟩
theorem Grow.trans {T U V : Tb} (a : Grow T U) (b : Grow U V) : Grow T V := fun i j v h => by
  obtain ⟨v1, h1, l1⟩ := a i j v h
  obtain ⟨v2, h2, l2⟩ := b i j v1 h1
  exact ⟨v2, h2, by omega⟩
theorem relax_ne {T : Tb} {i j a b : Nat} {w : Int} (h : ¬ (a = i ∧ b = j)) : relax T i j w a b = T a b := by
  unfold relax
  split
  · exact if_neg h
  · rfl
theorem relax_at {T : Tb} {i j : Nat} {w : Int} : ∃ v, relax T i j w i j = some v ∧ w ≤ v := by
  unfold relax
  split
  · exact ⟨w, if_pos ⟨rfl, rfl⟩, Int.le_refl _⟩
  · rename_i h
    cases e : T i j with
    | none =>
      rw [e] at h
      exact absurd rfl h
    | some v =>
      rw [e] at h
      exact ⟨v, rfl, by
        have : ¬ v < w := fun q => h (decide_eq_true q)
        omega⟩
theorem relax_or {T : Tb} {i j a b : Nat} {w v : Int} (h : relax T i j w a b = some v) : T a b = some v ∨ (a = i ∧ b = j ∧ v = w) := by
  by_cases hc : a = i ∧ b = j
  · unfold relax at h
    split at h
    · have h : (if a = i ∧ b = j then some w else T a b) = some v := h
      rw [if_pos hc] at h
      exact .inr ⟨hc.1, hc.2, (Option.some.inj h).symm⟩
    · exact .inl h
  · rw [relax_ne hc] at h
    exact .inl h
theorem relax_grow {T : Tb} {i j : Nat} {w : Int} : Grow T (relax T i j w) := fun a b v h => by
  by_cases hc : a = i ∧ b = j
  · obtain ⟨e1, e2⟩ := hc
    subst e1 e2
    unfold relax
    split
    · rename_i hl
      rw [h] at hl
      exact ⟨w, if_pos ⟨rfl, rfl⟩, Int.le_of_lt (of_decide_eq_true hl)⟩
    · exact ⟨v, h, Int.le_refl _⟩
  · exact ⟨v, by rw [relax_ne hc]; exact h, Int.le_refl _⟩
theorem foldl_grow {α : Type} {f : Tb → α → Tb} (hf : ∀ T a, Grow T (f T a)) : ∀ (l : List α) (T : Tb), Grow T (l.foldl f T)
  | [], T => .refl
  | a :: l, T => (hf T a).trans (foldl_grow hf l (f T a))
theorem fwRow_grow {k i : Nat} {f : Int} {js : List Nat} {T : Tb} : Grow T (fwRow k i f js T) := foldl_grow (fun T j => by
  unfold rowF
  split
  · exact .refl
  · exact relax_grow) js T
theorem fwStage_grow {js is : List Nat} {k : Nat} {T : Tb} : Grow T (fwStage js is k T) := foldl_grow (fun T i => by
  unfold stF
  split
  · exact .refl
  · exact fwRow_grow) is T
theorem fwAll_grow {js is ks : List Nat} {T : Tb} : Grow T (fwAll js is ks T) := foldl_grow (fun T k => fwStage_grow) ks T
theorem addE_grow {E : List Edge} {T : Tb} : Grow T (addE E T) := foldl_grow (fun T e => relax_grow) E T
/-! every entry is a way's sum -/
def Snd (E : List Edge) (T : Tb) : Prop := ∀ i j w, T i j = some w → Wk E i j w
theorem foldl_inv {α : Type} {P : Tb → Prop} {f : Tb → α → Tb} : ∀ (l : List α) (T : Tb), P T → (∀ T a, a ∈ l → P T → P (f T a)) → P (l.foldl f T)
  | [], T, h, _ => h
  | a :: l, T, h, hf => foldl_inv l (f T a) (hf T a List.mem_cons_self h) (fun T b hb => hf T b (List.mem_cons_of_mem _ hb))
theorem relax_snd {E : List Edge} {T : Tb} {i j : Nat} {w : Int} (h : Snd E T) (hw : Wk E i j w) : Snd E (relax T i j w) := fun a b v e => by
  rcases relax_or e with e | ⟨e1, e2, e3⟩
  · exact h a b v e
  · subst e1 e2 e3
    exact hw
theorem fw_snd {E : List Edge} {n : Nat} : Snd E (fw n E) := by
  unfold fw fwAll
  refine foldl_inv _ _ ?_ (fun T k _ hT => ?_)
  · unfold addE
    refine foldl_inv _ _ (fun i j w e => ?_) (fun T e he hT => relax_snd hT (.one he))
    unfold tb0 at e
    split at e
    · rename_i hij
      subst hij
      cases e
      exact .nil
    · cases e
  · unfold fwStage
    refine foldl_inv (P := Snd E) _ _ hT (fun U i _ hU => ?_)
    unfold stF
    split
    · exact hU
    · rename_i f hf
      have hw := hU _ _ _ hf
      unfold fwRow
      refine foldl_inv (P := Snd E) _ _ hU (fun V j _ hV => ?_)
      unfold rowF
      split
      · exact hV
      · rename_i s hs
        exact relax_snd hV (hw.trans (hV _ _ _ hs))
/-! closed through a place -/
def Tri (n : Nat) (T : Tb) (m : Nat) : Prop := ∀ i j f s, i ≤ n → j ≤ n → T i m = some f → T m j = some s → ∃ v, T i j = some v ∧ f + s ≤ v
theorem row_same {k : Nat} {js : List Nat} {U : Tb} (h : U k k = some 0) : fwRow k k 0 js U = U := by
  unfold fwRow
  induction js with
  | nil => rfl
  | cons j js ih =>
    rw [List.foldl_cons]
    have e : rowF k k 0 U j = U := by
      cases hs : U k j with
      | none => exact rowF_none hs
      | some s =>
        rw [rowF_some hs]
        unfold relax
        rw [hs, if_neg]
        intro q
        have : s < 0 + s := of_decide_eq_true q
        omega
    rw [e]
    exact ih
structure RowP (k i : Nat) (f : Int) (js : List Nat) (U V : Tb) : Prop where
  ne : ∀ a b, a ≠ i → V a b = U a b
  ge : ∀ b s, b ∈ js → U k b = some s → ∃ v, V i b = some v ∧ f + s ≤ v
  or : ∀ b v, V i b = some v → U i b = some v ∨ ∃ s, U k b = some s ∧ v = f + s
theorem row_p {k i : Nat} {f : Int} (hi : i ≠ k) : ∀ (js : List Nat) (U : Tb), RowP k i f js U (fwRow k i f js U)
  | [], U => ⟨fun _ _ _ => rfl, fun _ _ h => absurd h (List.not_mem_nil), fun _ _ h => .inl h⟩
  | j :: js, U => by
    have key : ∃ U1, rowF k i f U j = U1 ∧ (∀ a b, a ≠ i → U1 a b = U a b) ∧ Grow U U1 ∧ (∀ s, U k j = some s → ∃ v, U1 i j = some v ∧ f + s ≤ v) ∧ (∀ b v, U1 i b = some v → U i b = some v ∨ ∃ s, U k b = some s ∧ v = f + s) := by
      cases e : U k j with
      | none => exact ⟨U, rowF_none e, fun _ _ _ => rfl, .refl, fun _ h => (by cases h), fun _ _ h => Or.inl h⟩
      | some s =>
        refine ⟨_, rowF_some e, fun a b ha => relax_ne (fun q => ha q.1), relax_grow, fun s' hs => ?_, fun b v h => ?_⟩
        · cases hs
          exact relax_at
        · rcases relax_or h with h | ⟨_, e2, e3⟩
          · exact .inl h
          · subst e2
            exact .inr ⟨s, e, e3⟩
    obtain ⟨U1, e1, n1, g1, a1, o1⟩ := key
    have ih := row_p (f := f) hi js U1
    have eq : fwRow k i f (j :: js) U = fwRow k i f js U1 := by
      unfold fwRow
      rw [List.foldl_cons, e1]
    rw [eq]
    have g2 : Grow U1 (fwRow k i f js U1) := fwRow_grow
    refine ⟨fun a b ha => (ih.ne a b ha).trans (n1 a b ha), fun b s hb hs => ?_, fun b v h => ?_⟩
    · rcases List.mem_cons.mp hb with hb | hb
      · subst hb
        obtain ⟨v, h1, h2⟩ := a1 s hs
        obtain ⟨v', h3, h4⟩ := g2 _ _ _ h1
        exact ⟨v', h3, by omega⟩
      · exact ih.ge b s hb (by rw [n1 k b (Ne.symm hi)]; exact hs)
    · rcases ih.or b v h with h | ⟨s, h, e⟩
      · exact o1 b v h
      · rw [n1 k b (Ne.symm hi)] at h
        exact .inr ⟨s, h, e⟩
/-- what a stage keeps -/
structure StP (T : Tb) (k : Nat) (U : Tb) : Prop where
  row : ∀ j, U k j = T k j
  col : ∀ i, U i k = T i k
  or : ∀ i j v, U i j = some v → T i j = some v ∨ ∃ f s, T i k = some f ∧ T k j = some s ∧ v = f + s
theorem stage_p {T : Tb} {k : Nat} {js : List Nat} (h0 : T k k = some 0) : ∀ (is : List Nat) (U : Tb), StP T k U → StP T k (fwStage js is k U) ∧ ∀ i ∈ is, ∀ j ∈ js, ∀ f s, T i k = some f → T k j = some s → ∃ v, fwStage js is k U i j = some v ∧ f + s ≤ v
  | [], U, S => ⟨S, fun _ h => absurd h (List.not_mem_nil)⟩
  | i :: is, U, S => by
    have key : ∃ U1, stF js k U i = U1 ∧ StP T k U1 ∧ ∀ j ∈ js, ∀ f s, T i k = some f → T k j = some s → ∃ v, U1 i j = some v ∧ f + s ≤ v := by
      cases e : U i k with
      | none =>
        refine ⟨U, stF_none e, S, fun j hj f s hf => ?_⟩
        rw [S.col, hf] at e
        cases e
      | some f =>
        by_cases hi : i = k
        · subst hi
          have e2 : U i i = some 0 := by rw [S.row]; exact h0
          have ef : f = 0 := by
            rw [e2] at e
            exact (Option.some.inj e).symm
          subst ef
          refine ⟨U, by rw [stF_some e, row_same e2], S, fun j hj f s hf hs => ?_⟩
          rw [h0] at hf
          cases hf
          exact ⟨s, by rw [S.row]; exact hs, by omega⟩
        · have R := row_p (f := f) hi js U
          have ek : ∀ b, U k b = T k b := S.row
          refine ⟨_, stF_some e, ⟨fun j => ?_, fun a => ?_, fun a b v h => ?_⟩, fun j hj f' s hf hs => ?_⟩
          · rw [R.ne k j (Ne.symm hi)]
            exact S.row j
          · by_cases ha : a = i
            · subst ha
              have ⟨v, hv, _⟩ : ∃ v', fwRow k a f js U a k = some v' ∧ f ≤ v' := fwRow_grow a k f e
              rcases R.or k v hv with q | ⟨s, q, e3⟩
              · rw [hv, ← q]
                exact S.col a
              · rw [ek, h0] at q
                cases q
                rw [hv, e3, Int.add_zero, ← S.col, e]
            · rw [R.ne a k ha]
              exact S.col a
          · by_cases ha : a = i
            · subst ha
              rcases R.or b v h with q | ⟨s, q, e3⟩
              · exact S.or a b v q
              · exact .inr ⟨f, s, by rw [← S.col]; exact e, by rw [← ek]; exact q, e3⟩
            · rw [R.ne a b ha] at h
              exact S.or a b v h
          · rw [← S.col, e] at hf
            cases hf
            exact R.ge j s hj (by rw [ek]; exact hs)
    obtain ⟨U1, e1, S1, b1⟩ := key
    have eq : fwStage js (i :: is) k U = fwStage js is k U1 := by
      unfold fwStage
      rw [List.foldl_cons, e1]
    rw [eq]
    obtain ⟨S2, b2⟩ := stage_p (js := js) h0 is U1 S1
    refine ⟨S2, fun a ha j hj f s hf hs => ?_⟩
    rcases List.mem_cons.mp ha with ha | ha
    · subst ha
      obtain ⟨v, h1, h2⟩ := b1 j hj f s hf hs
      obtain ⟨v', h3, h4⟩ := (fwStage_grow (js := js) (is := is) (k := k) (T := U1)) _ _ _ h1
      exact ⟨v', h3, by omega⟩
    · exact b2 a ha j hj f s hf hs
theorem stage_tri {n : Nat} {T : Tb} {k m : Nat} (hk : k ≤ n) (hm : m ≤ n) (h0 : T k k = some 0) (t : Tri n T m) : Tri n (fwStage (List.range (n + 1)) (List.range (n + 1)) k T) m := by
  obtain ⟨S, b⟩ := stage_p (js := List.range (n + 1)) h0 (List.range (n + 1)) T ⟨fun _ => rfl, fun _ => rfl, fun _ _ _ h => .inl h⟩
  have g : Grow T (fwStage (List.range (n + 1)) (List.range (n + 1)) k T) := fwStage_grow
  generalize fwStage (List.range (n + 1)) (List.range (n + 1)) k T = U at S b g
  have bb : ∀ i j f s, i ≤ n → j ≤ n → T i k = some f → T k j = some s → ∃ v, U i j = some v ∧ f + s ≤ v := fun i j f s hi hj => b i (List.mem_range.mpr (by omega)) j (List.mem_range.mpr (by omega)) f s
  intro i j f s hi hj hf hs
  rcases S.or i m f hf with hf | ⟨f1, f2, p1, p2, e1⟩
  · rcases S.or m j s hs with hs | ⟨s1, s2, q1, q2, e2⟩
    · obtain ⟨v, h1, h2⟩ := t i j f s hi hj hf hs
      obtain ⟨v', h3, h4⟩ := g _ _ _ h1
      exact ⟨v', h3, by omega⟩
    · obtain ⟨v, h1, h2⟩ := t i k f s1 hi hk hf q1
      obtain ⟨v', h3, h4⟩ := bb i j v s2 hi hj h1 q2
      exact ⟨v', h3, by omega⟩
  · rcases S.or m j s hs with hs | ⟨s1, s2, q1, q2, e2⟩
    · obtain ⟨v, h1, h2⟩ := t k j f2 s hk hj p2 hs
      obtain ⟨v', h3, h4⟩ := bb i j f1 v hi hj p1 h1
      exact ⟨v', h3, by omega⟩
    · obtain ⟨v, h1, h2⟩ := t k k f2 s1 hk hk p2 q1
      rw [h0] at h1
      cases h1
      obtain ⟨v', h3, h4⟩ := bb i j f1 s2 hi hj p1 q2
      exact ⟨v', h3, by omega⟩
theorem stage_new {n : Nat} {T : Tb} {k : Nat} (hk : k ≤ n) (h0 : T k k = some 0) : Tri n (fwStage (List.range (n + 1)) (List.range (n + 1)) k T) k := by
  obtain ⟨S, b⟩ := stage_p (js := List.range (n + 1)) h0 (List.range (n + 1)) T ⟨fun _ => rfl, fun _ => rfl, fun _ _ _ h => .inl h⟩
  intro i j f s hi hj hf hs
  rw [S.col] at hf
  rw [S.row] at hs
  exact b i (List.mem_range.mpr (by omega)) j (List.mem_range.mpr (by omega)) f s hf hs
/-- nothing above 0 stands in the diagonal -/
def Calm (n : Nat) (T : Tb) : Prop := ∀ i v, i ≤ n → T i i = some v → v ≤ 0
def Diag (n : Nat) (T : Tb) : Prop := ∀ i, i ≤ n → ∃ v, T i i = some v ∧ 0 ≤ v
theorem Diag.grow {n : Nat} {T U : Tb} (d : Diag n T) (g : Grow T U) : Diag n U := fun i hi => by
  obtain ⟨v, h1, h2⟩ := d i hi
  obtain ⟨v', h3, h4⟩ := g _ _ _ h1
  exact ⟨v', h3, by omega⟩
theorem Calm.back {n : Nat} {T U : Tb} (c : Calm n U) (g : Grow T U) : Calm n T := fun i v hi h => by
  obtain ⟨v', h3, h4⟩ := g _ _ _ h
  have := c i v' hi h3
  omega
theorem diag0 {n : Nat} {T : Tb} (d : Diag n T) (c : Calm n T) {i : Nat} (hi : i ≤ n) : T i i = some 0 := by
  obtain ⟨v, h1, h2⟩ := d i hi
  have := c i v hi h1
  rw [h1, show v = 0 by omega]
theorem all_tri {n : Nat} : ∀ (ks : List Nat) (T : Tb) (done : List Nat), (∀ k ∈ ks, k ≤ n) → (∀ k ∈ done, k ≤ n) → Diag n T → Calm n (fwAll (List.range (n + 1)) (List.range (n + 1)) ks T) → (∀ m ∈ done, Tri n T m) → ∀ m, m ∈ done ∨ m ∈ ks → Tri n (fwAll (List.range (n + 1)) (List.range (n + 1)) ks T) m
  | [], T, done, _, _, _, _, t, m, hm => hm.elim (t m) (fun h => absurd h (List.not_mem_nil))
  | k :: ks, T, done, hk, hd, d, c, t, m, hm => by
    have eq : fwAll (List.range (n + 1)) (List.range (n + 1)) (k :: ks) T = fwAll (List.range (n + 1)) (List.range (n + 1)) ks (fwStage (List.range (n + 1)) (List.range (n + 1)) k T) := rfl
    rw [eq] at c ⊢
    have g1 : Grow T (fwStage (List.range (n + 1)) (List.range (n + 1)) k T) := fwStage_grow
    have c1 := c.back fwAll_grow
    have kn := hk k List.mem_cons_self
    have h0 := diag0 d (c1.back g1) kn
    refine all_tri ks _ (k :: done) (fun a ha => hk a (List.mem_cons_of_mem _ ha)) (fun a ha => ?_) (d.grow g1) c (fun a ha => ?_) m ?_
    · rcases List.mem_cons.mp ha with ha | ha
      · rw [ha]; exact kn
      · exact hd a ha
    · rcases List.mem_cons.mp ha with ha | ha
      · rw [ha]; exact stage_new kn h0
      · exact stage_tri kn (hd a ha) h0 (t a ha)
    · rcases hm with hm | hm
      · exact .inl (List.mem_cons_of_mem _ hm)
      · rcases List.mem_cons.mp hm with hm | hm
        · exact .inl (by rw [hm]; exact List.mem_cons_self)
        · exact .inr hm
theorem addE_ge : ∀ (E : List Edge) (T : Tb), ∀ e ∈ E, ∃ v, addE E T e.1 e.2.1 = some v ∧ e.2.2 ≤ v
  | [], _, _, h => absurd h (List.not_mem_nil)
  | e :: E, T, e', h => by
    have eq : addE (e :: E) T = addE E (relax T e.1 e.2.1 e.2.2) := rfl
    rw [eq]
    rcases List.mem_cons.mp h with h | h
    · rw [h]
      obtain ⟨v, h1, h2⟩ := relax_at (T := T) (i := e.1) (j := e.2.1) (w := e.2.2)
      obtain ⟨v', h3, h4⟩ := addE_grow (E := E) _ _ _ h1
      exact ⟨v', h3, by omega⟩
    · exact addE_ge E _ e' h
theorem tb0_diag {n : Nat} : Diag n tb0 := fun i _ => ⟨0, if_pos rfl, Int.le_refl _⟩
theorem fw_diag {n : Nat} {E : List Edge} : Diag n (fw n E) := (tb0_diag.grow addE_grow).grow fwAll_grow
theorem fw_edge {n : Nat} {E : List Edge} {e : Edge} (h : e ∈ E) : ∃ v, fw n E e.1 e.2.1 = some v ∧ e.2.2 ≤ v := by
  obtain ⟨v, h1, h2⟩ := addE_ge E tb0 e h
  obtain ⟨v', h3, h4⟩ := (fwAll_grow (js := List.range (n + 1)) (is := List.range (n + 1)) (ks := List.range (n + 1)) (T := addE E tb0)) _ _ _ h1
  exact ⟨v', h3, by omega⟩
theorem fw_tri {n : Nat} {E : List Edge} (c : Calm n (fw n E)) {m : Nat} (hm : m ≤ n) : Tri n (fw n E) m :=
  all_tri (List.range (n + 1)) _ [] (fun k hk => by have := List.mem_range.mp hk; omega) (fun _ h => absurd h (List.not_mem_nil)) (tb0_diag.grow addE_grow) c (fun _ h => absurd h (List.not_mem_nil)) m (.inr (List.mem_range.mpr (by omega)))
/-- where it is calm: each way is below its entry -/
theorem fw_way {n : Nat} {E : List Edge} (hE : InN n E) (c : Calm n (fw n E)) {i j : Nat} {w : Int} (hi : i ≤ n) (h : Wk E i j w) : j ≤ n ∧ ∃ v, fw n E i j = some v ∧ w ≤ v := by
  induction h with
  | nil => exact ⟨hi, 0, diag0 fw_diag c hi, Int.le_refl _⟩
  | @snoc u v w c' _ he ih =>
    obtain ⟨hu, x, h1, h2⟩ := ih
    obtain ⟨y, h3, h4⟩ := fw_edge (n := n) he
    have h4 : c' ≤ y := h4
    have hv := (hE _ he).2
    obtain ⟨z, h5, h6⟩ := fw_tri c hu i v x y hi hv h1 h3
    exact ⟨hv, z, h5, by omega⟩
/-! a dating out of the table -/
def maxO : Option Int → Option Int → Option Int
  | none, b => b
  | some a, none => some a
  | some a, some b => some (max a b)
def top (T : Tb) (j : Nat) : Nat → Option Int
  | 0 => T 0 j
  | i + 1 => maxO (T (i + 1) j) (top T j i)
theorem maxO_l {a : Int} {b : Option Int} : ∃ m, maxO (some a) b = some m ∧ a ≤ m := by
  cases b with
  | none => exact ⟨a, rfl, Int.le_refl _⟩
  | some b => exact ⟨max a b, rfl, by omega⟩
theorem maxO_r {a : Option Int} {b : Int} : ∃ m, maxO a (some b) = some m ∧ b ≤ m := by
  cases a with
  | none => exact ⟨b, rfl, Int.le_refl _⟩
  | some a => exact ⟨max a b, rfl, by omega⟩
theorem maxO_or {a b : Option Int} {m : Int} (h : maxO a b = some m) : a = some m ∨ b = some m := by
  cases a with
  | none => exact .inr h
  | some a =>
    cases b with
    | none => exact .inl h
    | some b =>
      have e : max a b = m := Option.some.inj h
      by_cases q : a ≤ b
      · exact .inr (by rw [← e]; congr 1; omega)
      · exact .inl (by rw [← e]; congr 1; omega)
theorem top_ge {T : Tb} {j : Nat} : ∀ (k i : Nat) (v : Int), i ≤ k → T i j = some v → ∃ m, top T j k = some m ∧ v ≤ m
  | 0, i, v, hi, h => ⟨v, by rw [show i = 0 by omega] at h; exact h, Int.le_refl _⟩
  | k + 1, i, v, hi, h => by
    unfold top
    by_cases e : i = k + 1
    · rw [← e, h]
      exact maxO_l
    · obtain ⟨m, h1, h2⟩ := top_ge k i v (by omega) h
      rw [h1]
      obtain ⟨m', h3, h4⟩ := maxO_r (a := T (k + 1) j) (b := m)
      exact ⟨m', h3, by omega⟩
theorem top_at {T : Tb} {j : Nat} : ∀ (k : Nat) (m : Int), top T j k = some m → ∃ i, i ≤ k ∧ T i j = some m
  | 0, m, h => ⟨0, Nat.le_refl _, h⟩
  | k + 1, m, h => by
    unfold top at h
    rcases maxO_or h with h | h
    · exact ⟨k + 1, Nat.le_refl _, h⟩
    · obtain ⟨i, h1, h2⟩ := top_at k m h
      exact ⟨i, by omega, h2⟩
theorem fw_holds {n : Nat} {E : List Edge} (hE : InN n E) (c : Calm n (fw n E)) : Holds E := by
  refine ⟨fun j => (top (fw n E) j n).getD 0, fun e he => ?_⟩
  obtain ⟨ha, hb⟩ := hE e he
  obtain ⟨m, h1, h2⟩ := top_ge n e.1 0 ha (diag0 fw_diag c ha)
  obtain ⟨i, hi, h3⟩ := top_at n m h1
  obtain ⟨w, h4, h5⟩ := fw_edge (n := n) he
  obtain ⟨v, h6, h7⟩ := fw_tri c ha i e.2.1 m w hi hb h3 h4
  obtain ⟨m', h8, h9⟩ := top_ge n i v hi h6
  dsimp only
  rw [h1, h8]
  show m + e.2.2 ≤ m'
  omega
theorem holds_calm {n : Nat} {E : List Edge} (h : Holds E) : Calm n (fw n E) := fun i v _ e => by
  obtain ⟨y, hy⟩ := h
  have := (fw_snd i i v e).feas hy
  omega
theorem calm_iff {n : Nat} {E : List Edge} (hE : InN n E) : Calm n (fw n E) ↔ Holds E := ⟨fw_holds hE, holds_calm⟩
theorem Holds.sub {E E' : List Edge} (h : Holds E) (s : ∀ e ∈ E', e ∈ E) : Holds E' := by
  obtain ⟨y, hy⟩ := h
  exact ⟨y, fun e he => hy e (s e he)⟩
end Dm

set_option linter.all false
set_option maxRecDepth 100000
/-! Dm, part B: ways that are made longer step by step, until nothing is new. -/
namespace Dm
abbrev Fd := Nat → Option Int
def setF (D : Fd) (i : Nat) (v : Int) : Fd := fun a => if a = i then some v else D a
def bfE (S : Fd × Bool) (e : Edge) : Fd × Bool := match S.1 e.1 with
  | none => S
  | some v => if ltO (S.1 e.2.1) (v + e.2.2) = true then (setF S.1 e.2.1 (v + e.2.2), true) else S
def bfRound (E : List Edge) (D : Fd) : Fd × Bool := E.foldl bfE (D, false)
def far (E : List Edge) : Nat → Fd → Option Fd
  | 0, _ => none
  | k + 1, D => if (bfRound E D).2 = true then far E k (bfRound E D).1 else some (bfRound E D).1
def GrowF (D U : Fd) : Prop := ∀ i v, D i = some v → ∃ v', U i = some v' ∧ v ≤ v'
theorem GrowF.refl {D : Fd} : GrowF D D := fun _ v h => ⟨v, h, Int.le_refl _⟩
theorem GrowF.trans {D U V : Fd} (a : GrowF D U) (b : GrowF U V) : GrowF D V := fun i v h => by
  obtain ⟨v1, h1, l1⟩ := a i v h
  obtain ⟨v2, h2, l2⟩ := b i v1 h1
  exact ⟨v2, h2, by omega⟩
theorem set_at {D : Fd} {i : Nat} {v : Int} : setF D i v i = some v := if_pos rfl
theorem set_ne {D : Fd} {i a : Nat} {v : Int} (h : a ≠ i) : setF D i v a = D a := if_neg h
theorem bfE_cases (S : Fd × Bool) (e : Edge) : (bfE S e = S ∧ (∀ v, S.1 e.1 = some v → ∃ v', S.1 e.2.1 = some v' ∧ v + e.2.2 ≤ v')) ∨ (∃ v, S.1 e.1 = some v ∧ ltO (S.1 e.2.1) (v + e.2.2) = true ∧ bfE S e = (setF S.1 e.2.1 (v + e.2.2), true)) := by
  cases h : S.1 e.1 with
  | none => exact .inl ⟨by unfold bfE; rw [h], fun v q => by cases q⟩
  | some v =>
    by_cases c : ltO (S.1 e.2.1) (v + e.2.2) = true
    · exact .inr ⟨v, rfl, c, by unfold bfE; rw [h]; dsimp only; rw [if_pos c]⟩
    · refine .inl ⟨by unfold bfE; rw [h]; dsimp only; rw [if_neg c], fun v' q => ?_⟩
      cases q
      cases h2 : S.1 e.2.1 with
      | none =>
        rw [h2] at c
        exact absurd rfl c
      | some u =>
        rw [h2] at c
        exact ⟨u, rfl, by
          have : ¬ u < v + e.2.2 := fun q => c (decide_eq_true q)
          omega⟩
theorem bfE_grow (S : Fd × Bool) (e : Edge) : GrowF S.1 (bfE S e).1 := by
  rcases bfE_cases S e with ⟨h, _⟩ | ⟨v, h1, h2, h3⟩
  · rw [h]; exact .refl
  · rw [h3]
    intro i u hu
    by_cases hi : i = e.2.1
    · subst hi
      rw [hu] at h2
      exact ⟨_, set_at, Int.le_of_lt (of_decide_eq_true h2)⟩
    · exact ⟨u, (set_ne hi).trans hu, Int.le_refl _⟩
theorem fold_grow : ∀ (E : List Edge) (S : Fd × Bool), GrowF S.1 (E.foldl bfE S).1
  | [], S => .refl
  | e :: E, S => (bfE_grow S e).trans (fold_grow E (bfE S e))
theorem fold_flag : ∀ (E : List Edge) (S : Fd × Bool), S.2 = true → (E.foldl bfE S).2 = true
  | [], S, h => h
  | e :: E, S, h => fold_flag E (bfE S e) (by
    rcases bfE_cases S e with ⟨q, _⟩ | ⟨v, _, _, q⟩
    · rw [q]; exact h
    · rw [q])
/-- nothing new: nothing was changed, and each step is kept -/
theorem fold_calm : ∀ (E : List Edge) (S : Fd × Bool), (E.foldl bfE S).2 = false → E.foldl bfE S = S ∧ ∀ e ∈ E, ∀ v, S.1 e.1 = some v → ∃ v', S.1 e.2.1 = some v' ∧ v + e.2.2 ≤ v'
  | [], S, _ => ⟨rfl, fun _ h => absurd h (List.not_mem_nil)⟩
  | e :: E, S, h => by
    rw [List.foldl_cons] at h ⊢
    rcases bfE_cases S e with ⟨q, k⟩ | ⟨v, _, _, q⟩
    · rw [q] at h ⊢
      obtain ⟨h1, h2⟩ := fold_calm E S h
      refine ⟨h1, fun e' he => ?_⟩
      rcases List.mem_cons.mp he with he | he
      · rw [he]; exact k
      · exact h2 e' he
    · rw [fold_flag E _ (by rw [q])] at h
      cases h
/-! ways with their places, the last first -/
inductive WL (E : List Edge) (B : Nat → Prop) : List Nat → Int → Prop
  | one {v : Nat} : B v → WL E B [v] 0
  | cons {u v : Nat} {r : List Nat} {w c : Int} : WL E B (u :: r) w → (u, v, c) ∈ E → WL E B (v :: u :: r) (w + c)
section
variable {E : List Edge} {B : Nat → Prop} {y : Nat → Int}
theorem Wk.wl {i v : Nat} {w : Int} (hi : B i) (h : Wk E i v w) : ∃ r, WL E B (v :: r) w := by
  induction h with
  | nil => exact ⟨[], .one hi⟩
  | snoc _ e ih =>
    obtain ⟨r, h⟩ := ih
    exact ⟨_, .cons h e⟩
theorem WL.in {n : Nat} (hE : InN n E) (hB : ∀ v, B v → v ≤ n) {l : List Nat} {w : Int} (h : WL E B l w) : ∀ x ∈ l, x ≤ n := by
  induction h with
  | one h =>
    intro x hx
    rw [List.mem_singleton.mp hx]
    exact hB _ h
  | cons _ e ih =>
    intro x hx
    rcases List.mem_cons.mp hx with hx | hx
    · rw [hx]
      exact (hE _ e).2
    · exact ih x hx
theorem WL.drop (hy : Feas E y) {l : List Nat} {w : Int} (h : WL E B l w) : ∀ (xs : List Nat) (u : Nat) (r : List Nat), l = xs ++ u :: r → ∃ w', WL E B (u :: r) w' ∧ y u + w ≤ y (l.headD 0) + w' := by
  induction h with
  | one h =>
    intro xs u r e
    cases xs with
    | nil =>
      obtain ⟨e1, e2⟩ := List.cons.inj e
      subst e1 e2
      exact ⟨0, .one h, Int.le_refl _⟩
    | cons x xs =>
      have := (List.cons.inj e).2
      simp at this
  | @cons u' v r' w c h e ih =>
    intro xs u r q
    cases xs with
    | nil =>
      obtain ⟨e1, e2⟩ := List.cons.inj q
      subst e1 e2
      exact ⟨w + c, .cons h e, Int.le_refl _⟩
    | cons x xs =>
      obtain ⟨w', h1, h2⟩ := ih xs u r (List.cons.inj q).2
      have := hy _ e
      dsimp only [List.headD_cons] at h2 this ⊢
      exact ⟨w', h1, by omega⟩
theorem WL.cut (hy : Feas E y) {l : List Nat} {w : Int} (h : WL E B l w) : ¬ l.Nodup → ∃ l' w', l'.length < l.length ∧ l'.headD 0 = l.headD 0 ∧ w ≤ w' ∧ WL E B l' w' := by
  induction h with
  | one h => exact fun q => absurd (by simp) q
  | @cons u v r w c h e ih =>
    intro q
    by_cases hv : v ∈ u :: r
    · obtain ⟨s, t, hst⟩ := List.append_of_mem hv
      obtain ⟨w', h1, h2⟩ := (WL.cons h e).drop hy (v :: s) v t (by rw [hst]; rfl)
      dsimp only [List.headD_cons] at h2
      refine ⟨v :: t, w', ?_, rfl, by omega, h1⟩
      rw [hst]
      simp
      omega
    · have hn : ¬ (u :: r).Nodup := fun z => q (List.nodup_cons.mpr ⟨hv, z⟩)
      obtain ⟨l', w', h1, h2, h3, h4⟩ := ih hn
      cases h4 with
      | one hb =>
        rename_i v'
        have e2 : v' = u := h2
        subst e2
        refine ⟨[v, v'], 0 + c, ?_, rfl, by omega, .cons (.one hb) e⟩
        simp at h1 ⊢
        exact h1
      | @cons a b t w1 c1 g1 g2 =>
        have e2 : b = u := h2
        subst e2
        refine ⟨v :: b :: a :: t, w1 + c1 + c, by simp at h1 ⊢; omega, rfl, by omega, .cons (.cons g1 g2) e⟩
theorem nodup_len : ∀ (n : Nat) (l : List Nat), l.Nodup → (∀ x ∈ l, x < n) → l.length ≤ n
  | 0, [], _, _ => Nat.le_refl _
  | 0, x :: _, _, h => absurd (h x List.mem_cons_self) (Nat.not_lt_zero _)
  | n + 1, l, hn, h => by
    by_cases hm : n ∈ l
    · have h1 := nodup_len n (l.erase n) (hn.erase n) (fun x hx => by
        have h2 := (hn.mem_erase_iff).mp hx
        have h3 := h x h2.2
        omega)
      rw [List.length_erase_of_mem hm] at h1
      omega
    · have h1 := nodup_len n l hn (fun x hx => by
        have h3 := h x hx
        have : x ≠ n := fun e => hm (by rw [← e]; exact hx)
        omega)
      omega
/-- a way without a place twice, as great -/
theorem WL.short {n : Nat} (hE : InN n E) (hB : ∀ v, B v → v ≤ n) (hy : Feas E y) : ∀ (k : Nat) {l : List Nat} {w : Int}, l.length ≤ k → WL E B l w → ∃ l' w', l'.length ≤ n + 1 ∧ l'.headD 0 = l.headD 0 ∧ w ≤ w' ∧ WL E B l' w'
  | 0, l, w, hl, h => by
    cases h with
    | one h => simp at hl
    | cons h e => simp at hl
  | k + 1, l, w, hl, h => by
    by_cases hn : l.Nodup
    · exact ⟨l, w, nodup_len (n + 1) l hn (fun x hx => by have := h.in hE hB x hx; omega), rfl, Int.le_refl _, h⟩
    · obtain ⟨l', w', h1, h2, h3, h4⟩ := h.cut hy hn
      obtain ⟨l2, w2, g1, g2, g3, g4⟩ := WL.short hE hB hy k (by omega) h4
      exact ⟨l2, w2, g1, g2.trans h2, by omega, g4⟩
/-! the rounds -/
/-- D tells of ways alone -/
def SndF (E : List Edge) (B : Nat → Prop) (D : Fd) : Prop := ∀ v w, D v = some w → ∃ i, B i ∧ Wk E i v w
/-- D is at least each way of at most so many places -/
def Ge (E : List Edge) (B : Nat → Prop) (k : Nat) (D : Fd) : Prop := ∀ l w, l.length ≤ k + 1 → WL E B l w → ∃ d, D (l.headD 0) = some d ∧ w ≤ d
theorem fold_snd : ∀ (L : List Edge) (S : Fd × Bool), (∀ e ∈ L, e ∈ E) → SndF E B S.1 → SndF E B (L.foldl bfE S).1
  | [], S, _, h => h
  | e :: L, S, hL, h => fold_snd L (bfE S e) (fun a ha => hL a (List.mem_cons_of_mem _ ha)) (by
    rcases bfE_cases S e with ⟨q, _⟩ | ⟨v, h1, _, q⟩
    · rw [q]; exact h
    · rw [q]
      intro a w hw
      by_cases ha : a = e.2.1
      · subst ha
        have e2 : v + e.2.2 = w := Option.some.inj (set_at.symm.trans hw)
        subst e2
        obtain ⟨i, g1, g2⟩ := h _ _ h1
        exact ⟨i, g1, .snoc g2 (hL _ List.mem_cons_self)⟩
      · exact h a w ((set_ne ha).symm.trans hw))
theorem fold_ge : ∀ (L : List Edge) (S : Fd × Bool), ∀ e ∈ L, ∀ v, S.1 e.1 = some v → ∃ v', (L.foldl bfE S).1 e.2.1 = some v' ∧ v + e.2.2 ≤ v'
  | [], _, _, h => absurd h (List.not_mem_nil)
  | e :: L, S, e', h => by
    intro v hv
    rw [List.foldl_cons]
    rcases List.mem_cons.mp h with h | h
    · subst h
      have : ∃ v', (bfE S e').1 e'.2.1 = some v' ∧ v + e'.2.2 ≤ v' := by
        rcases bfE_cases S e' with ⟨q, k⟩ | ⟨u, h1, _, q⟩
        · rw [q]; exact k v hv
        · rw [hv] at h1
          cases h1
          rw [q]
          exact ⟨_, set_at, Int.le_refl _⟩
      obtain ⟨v', g1, g2⟩ := this
      obtain ⟨v2, g3, g4⟩ := fold_grow L (bfE S e') _ _ g1
      exact ⟨v2, g3, by omega⟩
    · obtain ⟨v1, g1, g2⟩ := bfE_grow S e _ _ hv
      obtain ⟨v2, g3, g4⟩ := fold_ge L (bfE S e) e' h v1 g1
      exact ⟨v2, g3, by omega⟩
theorem Ge.round {k : Nat} {D : Fd} (h : Ge E B k D) : Ge E B (k + 1) (bfRound E D).1 := by
  intro l w hl hw
  have g := fold_grow E (D, false)
  cases hw with
  | one hb =>
    obtain ⟨d, h1, h2⟩ := h _ _ (by simp) (WL.one hb)
    obtain ⟨d', h3, h4⟩ := g _ _ h1
    exact ⟨d', h3, by omega⟩
  | @cons u v r w c h1 h2 =>
    obtain ⟨d, h3, h4⟩ := h _ _ (by simp at hl ⊢; omega) h1
    obtain ⟨d', h5, h6⟩ := fold_ge E (D, false) _ h2 d h3
    have h6 : d + c ≤ d' := h6
    exact ⟨d', h5, by omega⟩
theorem SndF.round {D : Fd} (h : SndF E B D) : SndF E B (bfRound E D).1 := fold_snd E (D, false) (fun _ h => h) h
/-- so many rounds are enough, where a dating keeps all steps -/
theorem far_some {n : Nat} (hE : InN n E) (hB : ∀ v, B v → v ≤ n) (hy : Feas E y) : ∀ (f k : Nat) (D : Fd), Ge E B k D → SndF E B D → n + 1 ≤ k + f → 1 ≤ f → ∃ D', far E f D = some D'
  | 0, _, _, _, _, _, h => absurd h (by decide)
  | f + 1, k, D, hg, hs, hf, _ => by
    unfold far
    by_cases hb : (bfRound E D).2 = true
    · rw [if_pos hb]
      by_cases hk : n ≤ k
      · exfalso
        have all : ∀ v w, (∃ i, B i ∧ Wk E i v w) → ∃ d, D v = some d ∧ w ≤ d := by
          intro v w ⟨i, hi, hw⟩
          obtain ⟨r, hw⟩ := hw.wl hi
          obtain ⟨l', w', g1, g2, g3, g4⟩ := hw.short hE hB hy _ (Nat.le_refl _)
          obtain ⟨d, h1, h2⟩ := hg l' w' (by omega) g4
          rw [g2] at h1
          exact ⟨d, h1, by omega⟩
        have calm : ∀ (L : List Edge), (∀ e ∈ L, e ∈ E) → L.foldl bfE (D, false) = (D, false) := by
          intro L
          induction L with
          | nil => exact fun _ => rfl
          | cons e L ih =>
            intro hL
            rw [List.foldl_cons]
            rcases bfE_cases (D, false) e with ⟨q, _⟩ | ⟨v, h1, h2, _⟩
            · rw [q]
              exact ih (fun a ha => hL a (List.mem_cons_of_mem _ ha))
            · exfalso
              obtain ⟨i, g1, g2⟩ := hs _ _ h1
              obtain ⟨d, h3, h4⟩ := all e.2.1 (v + e.2.2) ⟨i, g1, .snoc g2 (hL _ List.mem_cons_self)⟩
              have h3 : (D, false).1 e.2.1 = some d := h3
              rw [h3] at h2
              have : d < v + e.2.2 := of_decide_eq_true h2
              omega
        have := calm E (fun _ h => h)
        unfold bfRound at hb
        rw [this] at hb
        cases hb
      · exact far_some hE hB hy f (k + 1) _ hg.round hs.round (by omega) (by omega)
    · exact ⟨_, if_neg hb⟩
/-- what is told at the end -/
structure FarP (E : List Edge) (B : Nat → Prop) (D : Fd) : Prop where
  snd : SndF E B D
  base : ∀ i, B i → ∃ v, D i = some v ∧ 0 ≤ v
  step : ∀ e ∈ E, ∀ v, D e.1 = some v → ∃ v', D e.2.1 = some v' ∧ v + e.2.2 ≤ v'
theorem far_p : ∀ (f : Nat) (D D' : Fd), SndF E B D → (∀ i, B i → ∃ v, D i = some v ∧ 0 ≤ v) → far E f D = some D' → FarP E B D'
  | 0, _, _, _, _, h => by cases h
  | f + 1, D, D', hs, hb, h => by
    unfold far at h
    have base : ∀ i, B i → ∃ v, (bfRound E D).1 i = some v ∧ 0 ≤ v := fun i hi => by
      obtain ⟨v, h1, h2⟩ := hb i hi
      obtain ⟨v', h3, h4⟩ := fold_grow E (D, false) _ _ h1
      exact ⟨v', h3, by omega⟩
    split at h
    · exact far_p f _ D' hs.round base h
    · rename_i hf
      cases h
      have hf : (E.foldl bfE (D, false)).2 = false := by
        cases q : (E.foldl bfE (D, false)).2 with
        | true => exact absurd q hf
        | false => rfl
      obtain ⟨h1, h2⟩ := fold_calm E (D, false) hf
      have e : bfRound E D = (D, false) := h1
      rw [e]
      exact ⟨hs, hb, h2⟩
end
def start (B : Nat → Prop) [DecidablePred B] : Fd := fun i => if B i then some 0 else none
theorem start_snd {E : List Edge} {B : Nat → Prop} [DecidablePred B] : SndF E B (start B) := fun v w h => by
  unfold start at h
  split at h
  · rename_i hb
    cases h
    exact ⟨v, hb, .nil⟩
  · cases h
theorem start_base {B : Nat → Prop} [DecidablePred B] : ∀ i, B i → ∃ v, start B i = some v ∧ 0 ≤ v := fun i h => ⟨0, if_pos h, Int.le_refl _⟩
theorem start_ge {E : List Edge} {B : Nat → Prop} [DecidablePred B] : Ge E B 0 (start B) := fun l w hl hw => by
  cases hw with
  | one h => exact ⟨0, if_pos h, Int.le_refl _⟩
  | cons h e => simp at hl
/-- from all places at once: it comes to an end exactly if a dating keeps all steps -/
theorem far_holds {n : Nat} {E : List Edge} (hE : InN n E) : (far E (n + 2) (start fun i => i ≤ n)).isSome = true ↔ Holds E := by
  constructor
  · intro h
    obtain ⟨D, hD⟩ := Option.isSome_iff_exists.mp h
    have p := far_p _ _ _ (start_snd (E := E)) start_base hD
    refine ⟨fun i => (D i).getD 0, fun e he => ?_⟩
    obtain ⟨v, h1, _⟩ := p.base e.1 (hE e he).1
    obtain ⟨v', h2, h3⟩ := p.step e he v h1
    dsimp only
    rw [h1, h2]
    exact h3
  · intro ⟨y, hy⟩
    obtain ⟨D, h⟩ := far_some (B := fun i => i ≤ n) hE (fun _ h => h) hy (n + 2) 0 _ start_ge start_snd (by omega) (by omega)
    rw [h]
    rfl
end Dm

set_option Elab.async false
set_option linter.all false
set_option maxRecDepth 100000
set_option maxHeartbeats 4000000
/-! Dn, part U: steps of records; the greatest ways. -/
namespace Dn
open PySem PySem.Spec PyProof.Rows L2
open Dm (Edge Tb fw fwRow fwStage fwAll relax ltO addE tb0 rowF stF InN Calm Holds)
def edV (e : Edge) : Va := .tup [.int e.1, .int e.2.1, .int e.2.2]
theorem edV_inj {e f : Edge} (h : edV e = edV f) : e = f := by
  obtain ⟨a, b, c⟩ := e
  obtain ⟨x, y, z⟩ := f
  unfold edV at h
  injection h with h
  injection h with h1 h
  injection h with h2 h
  injection h with h3 h
  injection h1 with h1
  injection h2 with h2
  injection h3 with h3
  have h1 : (a : Int) = x := h1
  have h2 : (b : Int) = y := h2
  have h3 : c = z := h3
  subst h3
  rw [show a = x by omega, show b = y by omega]
theorem edVs_inj {E E' : List Edge} (h : E.map edV = E'.map edV) : E = E' := (List.map_inj_right fun _ _ => edV_inj).mp h
def Rec.edges (n : Nat) : Rec → List Edge
  | .before a b g => [(a.toNat, b.toNat, g)]
  | .same a b => [(a.toNat, b.toNat, 0), (b.toNat, a.toNat, 0)]
  | .within a b g => [(b.toNat, a.toNat, -g)]
  | .since a y _ => [(n, a.toNat, y)]
  | .upto a y _ => [(a.toNat, n, -y)]
  | .kind _ _ => []
noncomputable def F_least_steps (args : List Va) (s : Sto) : Rs Va := match args with
  | [x, .int n] => match recOf x with
    | some r => if 0 ≤ n ∧ r.fits n then .ok (.lst ((r.edges n.toNat).map edV)) s else .bad
    | none => .bad
  | _ => .bad
noncomputable def b_least_steps : DS := (sSeq (sSet 2 (dBin gIx (dV 0) (dC (.int 0))))
  (sSeq (sIf (dTB (dBin (gEq false) (dV 2) (dC (.str "before")))) (sRet (dLst false (dCons (dTup (dCons (dBin gIx (dV 0) (dC (.int 1))) (dCons (dBin gIx (dV 0) (dC (.int 2))) (dCons (dBin gIx (dV 0) (dC (.int 3))) dNil)))) dNil))) sNext)
  (sSeq (sIf (dTB (dBin (gEq false) (dV 2) (dC (.str "same")))) (sRet (dLst false (dCons (dTup (dCons (dBin gIx (dV 0) (dC (.int 1))) (dCons (dBin gIx (dV 0) (dC (.int 2))) (dCons (dC (.int 0)) dNil)))) (dCons (dTup (dCons (dBin gIx (dV 0) (dC (.int 2))) (dCons (dBin gIx (dV 0) (dC (.int 1))) (dCons (dC (.int 0)) dNil)))) dNil)))) sNext)
  (sSeq (sIf (dTB (dBin (gEq false) (dV 2) (dC (.str "within")))) (sRet (dLst false (dCons (dTup (dCons (dBin gIx (dV 0) (dC (.int 2))) (dCons (dBin gIx (dV 0) (dC (.int 1))) (dCons (dUn gNeg (dBin gIx (dV 0) (dC (.int 3)))) dNil)))) dNil))) sNext)
  (sSeq (sIf (dTB (dBin (gEq false) (dV 2) (dC (.str "since")))) (sRet (dLst false (dCons (dTup (dCons (dV 1) (dCons (dBin gIx (dV 0) (dC (.int 1))) (dCons (dBin gIx (dV 0) (dC (.int 2))) dNil)))) dNil))) sNext)
  (sRet (dIf (dTB (dBin (gEq false) (dV 2) (dC (.str "until")))) (dLst false (dCons (dTup (dCons (dBin gIx (dV 0) (dC (.int 1))) (dCons (dV 1) (dCons (dUn gNeg (dBin gIx (dV 0) (dC (.int 2)))) dNil)))) dNil)) (dLst false dNil))))))))
theorem toNat_of {a n : Int} (h : 0 ≤ a ∧ a < n) : ((a.toNat : Nat) : Int) = a := Int.toNat_of_nonneg h.1
theorem least_steps_run {r : Rec} {n : Int} {s : Sto} (h0 : 0 ≤ n) (hf : r.fits n) : b_least_steps [some r.va, some (.int n), none] s = .ret (.lst ((r.edges n.toNat).map edV)) s := by
  unfold b_least_steps
  have hn : ((n.toNat : Nat) : Int) = n := Int.toNat_of_nonneg h0
  cases r with
  | before a b g =>
    obtain ⟨h1, h2⟩ := hf
    simp [Rec.va, atI_0, atI_1, atI_2, atI_3, Rec.edges, edV, toNat_of h1, toNat_of h2, -Int.ofNat_toNat]
  | same a b =>
    obtain ⟨h1, h2⟩ := hf
    simp [Rec.va, atI_0, atI_1, atI_2, Rec.edges, edV, toNat_of h1, toNat_of h2, -Int.ofNat_toNat]
  | within a b g =>
    obtain ⟨h1, h2⟩ := hf
    simp [Rec.va, atI_0, atI_1, atI_2, atI_3, Rec.edges, edV, toNat_of h1, toNat_of h2, -Int.ofNat_toNat]
  | since a y w => simp [Rec.va, atI_0, atI_1, atI_2, Rec.edges, edV, toNat_of hf, hn, -Int.ofNat_toNat]
  | upto a y w => simp [Rec.va, atI_0, atI_1, atI_2, Rec.edges, edV, toNat_of hf, hn, -Int.ofNat_toNat]
  | kind a k => simp [Rec.va, atI_0, Rec.edges]
theorem vasB_eds {n : Nat} : ∀ {E : List Edge}, vasB n (E.map edV)
  | [] => trivial
  | e :: E => ⟨⟨trivial, trivial, trivial, trivial⟩, vasB_eds⟩
theorem fin_least_steps (args : List Va) (s : Sto) (wf : WFn s.length s) (wa : vasB s.length args) (hl : args.length = 2) : Fin s.length (b_least_steps (startA 3 args) s) (F_least_steps args s) := by
  unfold F_least_steps
  split
  · split
    · rename_i e
      split
      · rename_i hc
        rw [recOf_eq e]
        exact Fin.ret1 (least_steps_run hc.1 hc.2) vasB_eds wf
      · exact .bad
    · exact .bad
  · exact .bad
/-! a table in the store -/
def oV : Option Int → Va
  | none => .non
  | some i => .int i
def rowV (n : Nat) (T : Tb) (i : Nat) : List Va := (List.range (n + 1)).map fun j => oV (T i j)
def tbR (n : Nat) (T : Tb) : List (List Va) := (List.range (n + 1)).map (rowV n T)
def stT (s : Sto) (n : Nat) (T : Tb) : Sto := s ++ (tbR n T).map .lst ++ [.lst ((List.range (tbR n T).length).map fun i => .ref (s.length + i))]
def updT (T : Tb) (i j : Nat) (v : Int) : Tb := fun a b => if a = i ∧ b = j then some v else T a b
theorem tbR_len {n : Nat} {T : Tb} : (tbR n T).length = n + 1 := by
  unfold tbR
  rw [List.length_map, List.length_range]
theorem rowV_len {n i : Nat} {T : Tb} : (rowV n T i).length = n + 1 := by
  unfold rowV
  rw [List.length_map, List.length_range]
theorem stT_top {s : Sto} {n : Nat} {T : Tb} : (stT s n T)[s.length + (n + 1)]? = some (.lst ((List.range (n + 1)).map fun i => .ref (s.length + i))) := by
  unfold stT
  rw [tbR_len, show s.length + (n + 1) = (s ++ (tbR n T).map Ob.lst).length by rw [List.length_append, List.length_map, tbR_len]]
  exact List.getElem?_concat_length
theorem stT_row {s : Sto} {n i : Nat} {T : Tb} (h : i ≤ n) : (stT s n T)[s.length + i]? = some (.lst (rowV n T i)) := by
  unfold stT
  rw [List.append_assoc, List.getElem?_append_right (by omega), show s.length + i - s.length = i by omega, List.getElem?_append_left (by rw [List.length_map, tbR_len]; omega), List.getElem?_map]
  unfold tbR
  rw [List.getElem?_map, List.getElem?_range (by omega)]
  rfl
theorem tget1 {s : Sto} {n i : Nat} {T : Tb} (h : i ≤ n) : gIx (.ref (s.length + (n + 1))) (.int i) (stT s n T) = .ok (.ref (s.length + i)) (stT s n T) := by
  rw [g_ix_ref stT_top, atI_in .non (by omega) (by rw [List.length_map, List.length_range]; omega)]
  dsimp only
  rw [Int.toNat_natCast, getD_map (fun i => Va.ref (s.length + i)) _ i 0 .non (by rw [List.length_range]; omega), List.getD_eq_getElem?_getD, List.getElem?_range (by omega)]
  rfl
theorem tget2 {s : Sto} {n i j : Nat} {T : Tb} (h : i ≤ n) (hj : j ≤ n) : gIx (.ref (s.length + i)) (.int j) (stT s n T) = .ok (oV (T i j)) (stT s n T) := by
  rw [g_ix_ref (stT_row h), atI_in .non (by omega) (by rw [rowV_len]; omega)]
  dsimp only
  unfold rowV
  rw [Int.toNat_natCast, getD_map (fun j => oV (T i j)) _ j 0 .non (by rw [List.length_range]; omega), List.getD_eq_getElem?_getD, List.getElem?_range (by omega)]
  rfl
theorem stT_set {s : Sto} {n i j : Nat} {T : Tb} {v : Int} (h : i ≤ n) (hj : j ≤ n) : (stT s n T).set (s.length + i) (.lst ((rowV n T i).set j (.int v))) = stT s n (updT T i j v) := by
  apply List.ext_getElem?
  intro p
  have lr : ∀ U : Tb, (stT s n U).length = s.length + (n + 1) + 1 := fun U => by
    unfold stT
    rw [List.length_append, List.length_append, List.length_map, tbR_len]
    rfl
  by_cases h1 : p < s.length
  · rw [List.getElem?_set_ne (by omega)]
    unfold stT
    rw [List.append_assoc, List.append_assoc, List.getElem?_append_left h1, List.getElem?_append_left h1]
  · by_cases h2 : p ≤ s.length + n
    · obtain ⟨q, rfl⟩ : ∃ q, p = s.length + q := ⟨p - s.length, by omega⟩
      have hq : q ≤ n := by omega
      rw [stT_row (T := updT T i j v) hq]
      by_cases h3 : q = i
      · subst h3
        rw [List.getElem?_set_self (by rw [lr]; omega)]
        congr 2
        apply List.ext_getElem?
        intro m
        unfold rowV
        by_cases h4 : m = j
        · subst h4
          rw [List.getElem?_set_self (by rw [List.length_map, List.length_range]; omega), List.getElem?_map, List.getElem?_range (by omega)]
          show _ = some (oV (updT T q m v q m))
          unfold updT
          rw [if_pos ⟨rfl, rfl⟩]
          rfl
        · rw [List.getElem?_set_ne (Ne.symm h4), List.getElem?_map, List.getElem?_map]
          by_cases h5 : m < n + 1
          · rw [List.getElem?_range h5]
            show some (oV (T q m)) = some (oV (updT T q j v q m))
            unfold updT
            rw [if_neg (fun e => h4 e.2)]
          · rw [List.getElem?_eq_none (by rw [List.length_range]; omega)]
            rfl
      · rw [List.getElem?_set_ne (by omega), stT_row hq]
        congr 2
        unfold rowV
        apply List.map_congr_left
        intro m _
        show oV (T q m) = oV (updT T i j v q m)
        unfold updT
        rw [if_neg (fun e => h3 e.1)]
    · by_cases h3 : p = s.length + (n + 1)
      · subst h3
        rw [List.getElem?_set_ne (by omega), stT_top, stT_top]
      · rw [List.getElem?_eq_none (by rw [List.length_set, lr]; omega), List.getElem?_eq_none (by rw [lr]; omega)]
theorem ixNin {n : Nat} {i : Int} (h0 : 0 ≤ i) (h1 : i < n) : ixN n i = some i.toNat := by
  unfold ixN
  rw [if_pos h0, if_pos (by omega)]
theorem tset {s : Sto} {n i j : Nat} {T : Tb} {v : Int} (h : i ≤ n) (hj : j ≤ n) : gSetIx (.int v) (.ref (s.length + i)) (.int j) (stT s n T) = some (stT s n (updT T i j v)) := by
  rw [g_set_ref (stT_row h) (ixNin (by omega) (by rw [rowV_len]; omega)), Int.toNat_natCast, stT_set h hj]
theorem stT_congr {s : Sto} {n : Nat} {T U : Tb} (h : ∀ i j, i ≤ n → j ≤ n → T i j = U i j) : stT s n T = stT s n U := by
  have e : tbR n T = tbR n U := by
    unfold tbR rowV
    apply List.map_congr_left
    intro i hi
    apply List.map_congr_left
    intro j hj
    have := List.mem_range.mp hi
    have := List.mem_range.mp hj
    rw [h i j (by omega) (by omega)]
  unfold stT
  rw [e]
noncomputable def gwPlace : DS := (sSetIx (dBin gIx (dV 2) (dV 4)) (dV 4) (dC (.int 0)))
noncomputable def gwStep : DS := (sIf (dOr (dTB (dBin (gIs false) (dBin gIx (dBin gIx (dV 2) (dV 5)) (dV 6)) (dC .non))) (dTB (dBin gLt (dBin gIx (dBin gIx (dV 2) (dV 5)) (dV 6)) (dV 7)))) (sSetIx (dBin gIx (dV 2) (dV 5)) (dV 6) (dV 7)) sNext)
noncomputable def gwInner : DS := (sSeq (sSet 10 (dBin gIx (dBin gIx (dV 2) (dV 8)) (dV 6)))
  (sIf (dAnd (dTB (dBin (gIs true) (dV 10) (dC .non))) (dOr (dTB (dBin (gIs false) (dBin gIx (dBin gIx (dV 2) (dV 5)) (dV 6)) (dC .non))) (dTB (dBin gLt (dBin gIx (dBin gIx (dV 2) (dV 5)) (dV 6)) (dBin (gAdd false) (dV 9) (dV 10)))))) (sSetIx (dBin gIx (dV 2) (dV 5)) (dV 6) (dBin (gAdd false) (dV 9) (dV 10))) sNext))
noncomputable def gwMid : DS := (sSeq (sSet 9 (dBin gIx (dBin gIx (dV 2) (dV 5)) (dV 8)))
  (sSeq (sIf (dTB (dBin (gIs false) (dV 9) (dC .non))) sCt sNext)
  (sFor (dRg1 (dCons (dBin (gAdd false) (dV 0) (dC (.int 1))) dNil)) (dgName 6)
   gwInner)))
noncomputable def gwOut : DS := (sFor (dRg1 (dCons (dBin (gAdd false) (dV 0) (dC (.int 1))) dNil)) (dgName 5)
   gwMid)
noncomputable def b_greatest_ways : DS := (sSeq (sSet 2 (dLc true (dRg1 (dCons (dBin (gAdd false) (dV 0) (dC (.int 1))) dNil)) (dgName 3) dYes (dBin (gMul true) (dLst false (dCons (dC .non) dNil)) (dBin (gAdd false) (dV 0) (dC (.int 1)))) [3]))
  (sSeq (sFor (dRg1 (dCons (dBin (gAdd false) (dV 0) (dC (.int 1))) dNil)) (dgName 4)
   gwPlace)
  (sSeq (sFor (dSeq (dV 1)) (dgTup [5, 6, 7])
   gwStep)
  (sSeq (sFor (dRg1 (dCons (dBin (gAdd false) (dV 0) (dC (.int 1))) dNil)) (dgName 8)
   gwOut)
  (sRet (dV 2))))))
theorem is_oV {o : Option Int} {s : Sto} : gIs false (oV o) .non s = .ok (.bl o.isNone) s := by
  cases o <;> simp [oV, gIs]
theorem not_oV {o : Option Int} {s : Sto} : gIs true (oV o) .non s = .ok (.bl o.isSome) s := by
  cases o <;> simp [oV, gIs]
theorem upd_relax {T : Tb} {i j : Nat} {w : Int} (h : ltO (T i j) w = true) : updT T i j w = relax T i j w := by
  unfold relax
  rw [if_pos h]
  rfl
theorem same_relax {T : Tb} {i j : Nat} {w : Int} (h : ¬ ltO (T i j) w = true) : T = relax T i j w := by
  unfold relax
  rw [if_neg h]
theorem rgA_nat {n : Nat} : rgA 0 ((n : Int) + 1) = (List.range (n + 1)).map fun i => Va.int (i : Nat) := by
  unfold rgA
  rw [show ((n : Int) + 1 - 0).toNat = n + 1 by omega]
  apply List.map_congr_left
  intro i _
  rw [Int.zero_add]
/-- what one step asks and sets -/
theorem step_run {s : Sto} {n : Nat} {T : Tb} {e : Edge} {e0 e1 e3 e4 e8 e9 e10 : Option Va} (h1 : e.1 ≤ n) (h2 : e.2.1 ≤ n) :
    gwStep [e0, e1, some (.ref (s.length + (n + 1))), e3, e4, some (.int e.1), some (.int e.2.1), some (.int e.2.2), e8, e9, e10] (stT s n T) = .nx [e0, e1, some (.ref (s.length + (n + 1))), e3, e4, some (.int e.1), some (.int e.2.1), some (.int e.2.2), e8, e9, e10] (stT s n (relax T e.1 e.2.1 e.2.2)) := by
  have g1 := tget1 (s := s) (T := T) h1
  have g2 := tget2 (s := s) (T := T) h1 h2
  have g3 := tset (s := s) (T := T) (v := e.2.2) h1 h2
  unfold gwStep
  cases q : T e.1 e.2.1 with
  | none =>
    have hr : ltO (T e.1 e.2.1) e.2.2 = true := by rw [q]; rfl
    rw [q] at g2
    simp [g1, g2, g3, is_oV, upd_relax hr]
  | some v =>
    rw [q] at g2
    by_cases hv : v < e.2.2
    · have hr : ltO (T e.1 e.2.1) e.2.2 = true := by rw [q]; exact decide_eq_true hv
      have e2 : oV (some v) = .int v := rfl
      rw [e2] at g2
      simp [g1, g2, g3, gIs, hv, upd_relax hr]
    · have hr : ¬ ltO (T e.1 e.2.1) e.2.2 = true := by rw [q]; exact fun z => hv (of_decide_eq_true z)
      have e2 : oV (some v) = .int v := rfl
      rw [e2] at g2
      rw [← same_relax hr]
      simp [g1, g2, gIs, hv]
theorem steps_loop {s : Sto} {n : Nat} {e0 e1 e3 e4 e8 e9 e10 : Option Va} {ck : Option (Nat × Ob)} (hck : ∀ T, okk ck (stT s n T)) : ∀ (E : List Edge) (T : Tb) (e5 e6 e7 : Option Va), InN n E →
    ∃ f5 f6 f7, lp ck (fBody (dgTup [5, 6, 7]) gwStep) (E.map edV) [e0, e1, some (.ref (s.length + (n + 1))), e3, e4, e5, e6, e7, e8, e9, e10] (stT s n T) = .nx [e0, e1, some (.ref (s.length + (n + 1))), e3, e4, f5, f6, f7, e8, e9, e10] (stT s n (addE E T))
  | [], T, e5, e6, e7, _ => ⟨e5, e6, e7, by rw [List.map_nil, lp, if_pos (hck T)]; rfl⟩
  | e :: E, T, e5, e6, e7, h => by
    obtain ⟨f5, f6, f7, ih⟩ := steps_loop hck E (relax T e.1 e.2.1 e.2.2) (some (.int e.1)) (some (.int e.2.1)) (some (.int e.2.2)) (fun a ha => h a (List.mem_cons_of_mem _ ha))
    obtain ⟨h1, h2⟩ := h e List.mem_cons_self
    refine ⟨f5, f6, f7, ?_⟩
    rw [List.map_cons, lp, if_pos (hck T)]
    have hb : fBody (dgTup [5, 6, 7]) gwStep (edV e) [e0, e1, some (.ref (s.length + (n + 1))), e3, e4, e5, e6, e7, e8, e9, e10] (stT s n T) = .nx [e0, e1, some (.ref (s.length + (n + 1))), e3, e4, some (.int e.1), some (.int e.2.1), some (.int e.2.2), e8, e9, e10] (stT s n (relax T e.1 e.2.1 e.2.2)) := step_run h1 h2
    rw [hb]
    exact ih
/-- the innermost turn -/
theorem inner_run {s : Sto} {n i j k : Nat} {f : Int} {T : Tb} {e0 e1 e3 e4 e7 e10 : Option Va} (hi : i ≤ n) (hj : j ≤ n) (hk : k ≤ n) :
    ∃ f10, gwInner [e0, e1, some (.ref (s.length + (n + 1))), e3, e4, some (.int i), some (.int j), e7, some (.int k), some (.int f), e10] (stT s n T) = .nx [e0, e1, some (.ref (s.length + (n + 1))), e3, e4, some (.int i), some (.int j), e7, some (.int k), some (.int f), f10] (stT s n (rowF k i f T j)) := by
  have g1 := tget1 (s := s) (T := T) hi
  have g2 := tget2 (s := s) (T := T) hi hj
  have k1 := tget1 (s := s) (T := T) hk
  have k2 := tget2 (s := s) (T := T) hk hj
  refine ⟨some (oV (T k j)), ?_⟩
  unfold gwInner
  cases p : T k j with
  | none =>
    rw [p] at k2
    rw [Dm.rowF_none p]
    simp [k1, k2, not_oV]
  | some c =>
    rw [p] at k2
    have e3 : oV (some c) = .int c := rfl
    rw [e3] at k2 ⊢
    rw [Dm.rowF_some p]
    have g3 := tset (s := s) (T := T) (v := f + c) hi hj
    cases q : T i j with
    | none =>
      have hr : ltO (T i j) (f + c) = true := by rw [q]; rfl
      rw [q] at g2
      have e2 : oV none = .non := rfl
      rw [e2] at g2
      simp [g1, g2, g3, k1, k2, gIs, upd_relax hr]
    | some v =>
      rw [q] at g2
      have e2 : oV (some v) = .int v := rfl
      rw [e2] at g2
      by_cases hv : v < f + c
      · have hr : ltO (T i j) (f + c) = true := by rw [q]; exact decide_eq_true hv
        simp [g1, g2, g3, k1, k2, gIs, hv, upd_relax hr]
      · have hr : ¬ ltO (T i j) (f + c) = true := by rw [q]; exact fun z => hv (of_decide_eq_true z)
        rw [← same_relax hr]
        simp [g1, g2, k1, k2, gIs, hv]
theorem inner_loop {s : Sto} {n i k : Nat} {f : Int} {e0 e1 e3 e4 e7 : Option Va} (hi : i ≤ n) (hk : k ≤ n) : ∀ (js : List Nat) (T : Tb) (e6 e10 : Option Va), (∀ j ∈ js, j ≤ n) →
    ∃ f6 f10, lp none (fBody (dgName 6) gwInner) (js.map fun j => Va.int (j : Nat)) [e0, e1, some (.ref (s.length + (n + 1))), e3, e4, some (.int i), e6, e7, some (.int k), some (.int f), e10] (stT s n T) = .nx [e0, e1, some (.ref (s.length + (n + 1))), e3, e4, some (.int i), f6, e7, some (.int k), some (.int f), f10] (stT s n (fwRow k i f js T))
  | [], T, e6, e10, _ => ⟨e6, e10, by rw [List.map_nil, lp_nil]; rfl⟩
  | j :: js, T, e6, e10, h => by
    obtain ⟨g10, hb⟩ := inner_run (s := s) (f := f) (T := T) (e0 := e0) (e1 := e1) (e3 := e3) (e4 := e4) (e7 := e7) (e10 := e10) hi (h j List.mem_cons_self) hk
    obtain ⟨f6, f10, ih⟩ := inner_loop (f := f) (e0 := e0) (e1 := e1) (e3 := e3) (e4 := e4) (e7 := e7) hi hk js (rowF k i f T j) (some (.int j)) g10 (fun a ha => h a (List.mem_cons_of_mem _ ha))
    refine ⟨f6, f10, ?_⟩
    rw [List.map_cons, lp_cons]
    have hb2 : fBody (dgName 6) gwInner (.int j) [e0, e1, some (.ref (s.length + (n + 1))), e3, e4, some (.int i), e6, e7, some (.int k), some (.int f), e10] (stT s n T) = _ := hb
    rw [hb2]
    exact ih
theorem mid_run {s : Sto} {n i k : Nat} {T : Tb} {e1 e3 e4 e6 e7 e9 e10 : Option Va} (hn : n ≤ 1000) (hi : i ≤ n) (hk : k ≤ n) :
    ∃ f6 f9 f10, (gwMid [some (.int n), e1, some (.ref (s.length + (n + 1))), e3, e4, some (.int i), e6, e7, some (.int k), e9, e10] (stT s n T) = .nx [some (.int n), e1, some (.ref (s.length + (n + 1))), e3, e4, some (.int i), f6, e7, some (.int k), f9, f10] (stT s n (stF (List.range (n + 1)) k T i))
      ∨ gwMid [some (.int n), e1, some (.ref (s.length + (n + 1))), e3, e4, some (.int i), e6, e7, some (.int k), e9, e10] (stT s n T) = .ct [some (.int n), e1, some (.ref (s.length + (n + 1))), e3, e4, some (.int i), f6, e7, some (.int k), f9, f10] (stT s n (stF (List.range (n + 1)) k T i))) := by
  have g1 := tget1 (s := s) (T := T) hi
  have g2 := tget2 (s := s) (T := T) hi hk
  have hr : inR ((n : Int) + 1) := ⟨by omega, by omega⟩
  cases p : T i k with
  | none =>
    rw [p] at g2
    rw [Dm.stF_none p]
    have e2 : oV none = .non := rfl
    rw [e2] at g2
    refine ⟨e6, some .non, e10, .inr ?_⟩
    unfold gwMid
    simp [g1, g2, gIs]
  | some f =>
    rw [p] at g2
    rw [Dm.stF_some p]
    have e2 : oV (some f) = .int f := rfl
    rw [e2] at g2
    obtain ⟨f6, f10, hL⟩ := inner_loop (s := s) (f := f) (e0 := some (.int n)) (e1 := e1) (e3 := e3) (e4 := e4) (e7 := e7) hi hk (List.range (n + 1)) T e6 e10 (fun j hj => by have := List.mem_range.mp hj; omega)
    refine ⟨f6, some (.int f), f10, .inl ?_⟩
    rw [← rgA_nat] at hL
    unfold gwMid
    simp [g1, g2, gIs, hr, hL]
theorem mid_loop {s : Sto} {n k : Nat} {e1 e3 e4 e7 : Option Va} (hn : n ≤ 1000) (hk : k ≤ n) : ∀ (is : List Nat) (T : Tb) (e5 e6 e9 e10 : Option Va), (∀ i ∈ is, i ≤ n) →
    ∃ f5 f6 f9 f10, lp none (fBody (dgName 5) gwMid) (is.map fun j => Va.int (j : Nat)) [some (.int n), e1, some (.ref (s.length + (n + 1))), e3, e4, e5, e6, e7, some (.int k), e9, e10] (stT s n T) = .nx [some (.int n), e1, some (.ref (s.length + (n + 1))), e3, e4, f5, f6, e7, some (.int k), f9, f10] (stT s n (fwStage (List.range (n + 1)) is k T))
  | [], T, e5, e6, e9, e10, _ => ⟨e5, e6, e9, e10, by rw [List.map_nil, lp_nil]; rfl⟩
  | i :: is, T, e5, e6, e9, e10, h => by
    obtain ⟨g6, g9, g10, hb⟩ := mid_run (s := s) (T := T) (e1 := e1) (e3 := e3) (e4 := e4) (e6 := e6) (e7 := e7) (e9 := e9) (e10 := e10) hn (h i List.mem_cons_self) hk
    obtain ⟨f5, f6, f9, f10, ih⟩ := mid_loop (e1 := e1) (e3 := e3) (e4 := e4) (e7 := e7) hn hk is (stF (List.range (n + 1)) k T i) (some (.int i)) g6 g9 g10 (fun a ha => h a (List.mem_cons_of_mem _ ha))
    refine ⟨f5, f6, f9, f10, ?_⟩
    rw [List.map_cons, lp_cons]
    rcases hb with hb | hb
    · have hb2 : fBody (dgName 5) gwMid (.int i) [some (.int n), e1, some (.ref (s.length + (n + 1))), e3, e4, e5, e6, e7, some (.int k), e9, e10] (stT s n T) = _ := hb
      rw [hb2]
      exact ih
    · have hb2 : fBody (dgName 5) gwMid (.int i) [some (.int n), e1, some (.ref (s.length + (n + 1))), e3, e4, e5, e6, e7, some (.int k), e9, e10] (stT s n T) = _ := hb
      rw [hb2]
      exact ih
theorem out_loop {s : Sto} {n : Nat} {e1 e3 e4 e7 : Option Va} (hn : n ≤ 1000) : ∀ (ks : List Nat) (T : Tb) (e5 e6 e8 e9 e10 : Option Va), (∀ i ∈ ks, i ≤ n) →
    ∃ f5 f6 f8 f9 f10, lp none (fBody (dgName 8) gwOut) (ks.map fun j => Va.int (j : Nat)) [some (.int n), e1, some (.ref (s.length + (n + 1))), e3, e4, e5, e6, e7, e8, e9, e10] (stT s n T) = .nx [some (.int n), e1, some (.ref (s.length + (n + 1))), e3, e4, f5, f6, e7, f8, f9, f10] (stT s n (fwAll (List.range (n + 1)) (List.range (n + 1)) ks T))
  | [], T, e5, e6, e8, e9, e10, _ => ⟨e5, e6, e8, e9, e10, by rw [List.map_nil, lp_nil]; rfl⟩
  | k :: ks, T, e5, e6, e8, e9, e10, h => by
    obtain ⟨g5, g6, g9, g10, hb⟩ := mid_loop (s := s) (e1 := e1) (e3 := e3) (e4 := e4) (e7 := e7) hn (h k List.mem_cons_self) (List.range (n + 1)) T e5 e6 e9 e10 (fun j hj => by have := List.mem_range.mp hj; omega)
    obtain ⟨f5, f6, f8, f9, f10, ih⟩ := out_loop (e1 := e1) (e3 := e3) (e4 := e4) (e7 := e7) hn ks (fwStage (List.range (n + 1)) (List.range (n + 1)) k T) g5 g6 (some (.int k)) g9 g10 (fun a ha => h a (List.mem_cons_of_mem _ ha))
    have hr : inR ((n : Int) + 1) := ⟨by omega, by omega⟩
    refine ⟨f5, f6, f8, f9, f10, ?_⟩
    rw [List.map_cons, lp_cons]
    have hb2 : fBody (dgName 8) gwOut (.int k) [some (.int n), e1, some (.ref (s.length + (n + 1))), e3, e4, e5, e6, e7, e8, e9, e10] (stT s n T) = .nx [some (.int n), e1, some (.ref (s.length + (n + 1))), e3, e4, g5, g6, e7, some (.int k), g9, g10] (stT s n (fwStage (List.range (n + 1)) (List.range (n + 1)) k T)) := by
      rw [← rgA_nat] at hb
      rw [e_fBody, e_dgName]
      unfold gwOut
      simp [hr, hb]
    rw [hb2]
    exact ih
def setDiag (l : List Nat) (T : Tb) : Tb := l.foldl (fun T i => updT T i i 0) T
theorem place_loop {s : Sto} {n : Nat} {e0 e1 e3 e5 e6 e7 e8 e9 e10 : Option Va} : ∀ (ks : List Nat) (T : Tb) (e4 : Option Va), (∀ i ∈ ks, i ≤ n) →
    ∃ f4, lp none (fBody (dgName 4) gwPlace) (ks.map fun j => Va.int (j : Nat)) [e0, e1, some (.ref (s.length + (n + 1))), e3, e4, e5, e6, e7, e8, e9, e10] (stT s n T) = .nx [e0, e1, some (.ref (s.length + (n + 1))), e3, f4, e5, e6, e7, e8, e9, e10] (stT s n (setDiag ks T))
  | [], T, e4, _ => ⟨e4, by rw [List.map_nil, lp_nil]; rfl⟩
  | k :: ks, T, e4, h => by
    have hk := h k List.mem_cons_self
    obtain ⟨f4, ih⟩ := place_loop (s := s) (e0 := e0) (e1 := e1) (e3 := e3) (e5 := e5) (e6 := e6) (e7 := e7) (e8 := e8) (e9 := e9) (e10 := e10) ks (updT T k k 0) (some (.int k)) (fun a ha => h a (List.mem_cons_of_mem _ ha))
    have g1 := tget1 (s := s) (T := T) hk
    have g3 := tset (s := s) (T := T) (v := 0) hk hk
    refine ⟨f4, ?_⟩
    rw [List.map_cons, lp_cons]
    have hb2 : fBody (dgName 4) gwPlace (.int k) [e0, e1, some (.ref (s.length + (n + 1))), e3, e4, e5, e6, e7, e8, e9, e10] (stT s n T) = .nx [e0, e1, some (.ref (s.length + (n + 1))), e3, some (.int k), e5, e6, e7, e8, e9, e10] (stT s n (updT T k k 0)) := by
      rw [e_fBody, e_dgName]
      unfold gwPlace
      simp [g1, g3]
    rw [hb2]
    exact ih
theorem setDiag_ne : ∀ (ks : List Nat) (T : Tb) (a b : Nat), a ≠ b → setDiag ks T a b = T a b
  | [], _, _, _, _ => rfl
  | k :: ks, T, a, b, h => by
    have e : setDiag (k :: ks) T = setDiag ks (updT T k k 0) := rfl
    rw [e, setDiag_ne ks _ a b h]
    unfold updT
    rw [if_neg (fun q => h (q.1.trans q.2.symm))]
theorem setDiag_eq : ∀ (ks : List Nat) (T : Tb) (a : Nat), a ∈ ks ∨ T a a = some 0 → setDiag ks T a a = some 0
  | [], T, a, h => h.elim (fun h => absurd h (List.not_mem_nil)) id
  | k :: ks, T, a, h => by
    have e : setDiag (k :: ks) T = setDiag ks (updT T k k 0) := rfl
    rw [e]
    refine setDiag_eq ks _ a ?_
    by_cases hk : a = k
    · right
      unfold updT
      rw [if_pos ⟨hk, hk⟩]
    · rcases h with h | h
      · rcases List.mem_cons.mp h with h | h
        · exact absurd h hk
        · exact .inl h
      · right
        unfold updT
        rw [if_neg (fun q => hk q.1)]
        exact h
/-- the rows made one by one -/
theorem mk_rows {n : Nat} {e0 e1 e2 e4 e5 e6 e7 e8 e9 e10 : Option Va} : ∀ (l acc : List Nat) (s : Sto) (e3 : Option Va), e0 = some (.int n) → n ≤ 1000 →
    cl none (dgName 3) dYes (dBin (gMul true) (dLst false (dCons (dC .non) dNil)) (dBin (gAdd false) (dV 0) (dC (.int 1)))) [e0, e1, e2, e3, e4, e5, e6, e7, e8, e9, e10] (l.map fun i => Va.int (i : Nat)) (acc.map .ref) s = .ok ((acc ++ (List.range l.length).map (s.length + ·)).map .ref) (s ++ List.replicate l.length (.lst (List.replicate (n + 1) .non)))
  | [], acc, s, e3, _, _ => by
    rw [List.map_nil, cl_nil, List.length_nil, List.range_zero, List.map_nil, List.append_nil, List.replicate_zero, List.append_nil]
  | x :: l, acc, s, e3, h0, hn => by
    subst h0
    have z : szOk ((n : Int) + 1) 1 := ⟨by omega, by omega, Nat.le_of_lt (lt_line (by omega))⟩
    have ih := mk_rows (n := n) (e0 := some (.int n)) (e1 := e1) (e2 := e2) (e4 := e4) (e5 := e5) (e6 := e6) (e7 := e7) (e8 := e8) (e9 := e9) (e10 := e10) l (acc ++ [s.length]) (s ++ [.lst (List.replicate (n + 1) .non)]) e3 rfl hn
    rw [List.map_cons, cl_cons, e_dgName]
    have hm : gMul true (.lst [Va.non]) (.int ((n : Int) + 1)) s = .ok (.ref s.length) (s ++ [.lst (List.replicate (n + 1) .non)]) := by
      unfold gMul
      have e : seqL (.lst [Va.non]) s = some [Va.non] := rfl
      simp only [e, z, if_true, List.length_cons, List.length_nil, Nat.zero_add]
      rw [show ((n : Int) + 1).toNat = n + 1 by omega, List.flatten_replicate_singleton]
      rfl
    simp only [List.set, e_Yes, noexc_ok, bind_ok, if_true, e_Bin, e_Lst, e_Cons, e_C, e_Nil, g_mkL_f, e_V, List.getElem?_cons_zero, g_add_int, hm]
    rw [List.map_append, List.map_cons, List.map_nil] at ih
    rw [ih, List.length_cons, List.range_succ_eq_map, List.map_cons, List.map_map, List.append_assoc, List.append_assoc, List.replicate_succ, List.length_append, List.length_singleton]
    have e : (List.range l.length).map (fun x => s.length + 1 + x) = (List.range l.length).map ((fun x => s.length + x) ∘ Nat.succ) := by
      apply List.map_congr_left
      intro i _
      show s.length + 1 + i = s.length + (i + 1)
      omega
    rw [e]
    rfl
theorem tb_none {n : Nat} : (tbR n (fun _ _ => none)).map Ob.lst = List.replicate (n + 1) (.lst (List.replicate (n + 1) .non)) := by
  have h : ∀ i, rowV n (fun _ _ => none) i = List.replicate (n + 1) .non := fun i => by
    unfold rowV
    rw [List.eq_replicate_iff]
    refine ⟨by rw [List.length_map, List.length_range], fun b hb => ?_⟩
    obtain ⟨j, _, e⟩ := List.mem_map.mp hb
    exact e.symm
  rw [List.eq_replicate_iff]
  refine ⟨by rw [List.length_map, tbR_len], fun b hb => ?_⟩
  obtain ⟨r, hr, e⟩ := List.mem_map.mp hb
  unfold tbR at hr
  obtain ⟨i, _, e2⟩ := List.mem_map.mp hr
  rw [← e, ← e2, h]
theorem mk_table {s : Sto} {n : Nat} {e1 e3 e4 e5 e6 e7 e8 e9 e10 : Option Va} (hn : n ≤ 1000) :
    dLc true (dRg1 (dCons (dBin (gAdd false) (dV 0) (dC (.int 1))) dNil)) (dgName 3) dYes (dBin (gMul true) (dLst false (dCons (dC .non) dNil)) (dBin (gAdd false) (dV 0) (dC (.int 1)))) [3] [some (.int n), e1, none, e3, e4, e5, e6, e7, e8, e9, e10] s = .ok (.ref (s.length + (n + 1))) (stT s n (fun _ _ => none)) := by
  have hr : inR ((n : Int) + 1) := ⟨by omega, by omega⟩
  have hq : leq (rgA 0 ((n : Int) + 1)).length 100000 := by unfold leq; rw [rgA_len]; omega
  have L := mk_rows (n := n) (e0 := some (.int n)) (e1 := e1) (e2 := none) (e4 := e4) (e5 := e5) (e6 := e6) (e7 := e7) (e8 := e8) (e9 := e9) (e10 := e10) (List.range (n + 1)) [] s none rfl hn
  rw [← rgA_nat, List.length_range, List.nil_append] at L
  have L2 : cl none (dgName 3) dYes (dBin (gMul true) (dLst false (dCons (dC .non) dNil)) (dBin (gAdd false) (dV 0) (dC (.int 1)))) (wip [some (.int n), e1, none, e3, e4, e5, e6, e7, e8, e9, e10] [3]) (rgA 0 ((n : Int) + 1)) [] s = _ := L
  rw [e_Lc, e_rg1, e_Cons, e_Bin, e_V]
  simp only [List.getElem?_cons_zero, bind_ok, e_C, g_add_int, e_Nil, hr, if_true, hq, L2, g_mkL_t]
  congr 1
  · rw [List.length_append, List.length_replicate]
  · unfold stT
    rw [tb_none, tbR_len, List.map_map]
    rfl
theorem seq_st {x : Va} {xs : List Va} {s : Sto} {n : Nat} (h : seqL x s = some xs) : ∃ ck, (∀ T, okk ck (stT s n T)) ∧ ∀ (T : Tb) (de : DE) (ε : En), de ε (stT s n T) = .ok x (stT s n T) → dSeq de ε (stT s n T) = .ok (ck, xs) (stT s n T) := by
  cases x with
  | lst ys =>
    cases h
    exact ⟨none, fun _ => trivial, fun T de ε e => by unfold dSeq; rw [e]; rfl⟩
  | ref i =>
    unfold seqL at h
    dsimp only at h
    split at h
    · rename_i ys e
      cases h
      have hi := (List.getElem?_eq_some_iff.mp e).1
      have e2 : ∀ T, (stT s n T)[i]? = some (.lst xs) := fun T => by
        unfold stT
        rw [List.append_assoc, List.getElem?_append_left hi]
        exact e
      refine ⟨some (i, .lst xs), e2, fun T de ε h => ?_⟩
      unfold dSeq
      rw [h]
      simp only [bind_ok, e2]
    · cases h
  | _ => simp [seqL] at h
def P_gw (args : List Va) (s : Sto) (r : Rs Va) : Prop := ∃ (n : Nat) (E : List Edge) (x : Va), args = [.int n, x] ∧ seqL x s = some (E.map edV) ∧ r = .ok (.lst ((tbR n (fw n E)).map .lst)) s
noncomputable def F_greatest_ways : List Va → Sto → Rs Va := mir 11 b_greatest_ways P_gw
theorem greatest_run {s : Sto} {n : Nat} {E : List Edge} {x : Va} (hn : n ≤ 1000) (hE : InN n E) (hx : seqL x s = some (E.map edV)) : b_greatest_ways (startA 11 [.int n, x]) s = .ret (.ref (s.length + (n + 1))) (stT s n (fw n E)) := by
  have hr : inR ((n : Int) + 1) := ⟨by omega, by omega⟩
  have rl : ∀ j ∈ List.range (n + 1), j ≤ n := fun j hj => by have := List.mem_range.mp hj; omega
  have M := mk_table (s := s) (n := n) (e1 := some x) (e3 := none) (e4 := none) (e5 := none) (e6 := none) (e7 := none) (e8 := none) (e9 := none) (e10 := none) hn
  obtain ⟨f4, L1⟩ := place_loop (s := s) (n := n) (e0 := some (.int n)) (e1 := some x) (e3 := none) (e5 := none) (e6 := none) (e7 := none) (e8 := none) (e9 := none) (e10 := none) (List.range (n + 1)) (fun _ _ => none) none rl
  have ed : stT s n (setDiag (List.range (n + 1)) fun _ _ => none) = stT s n tb0 := stT_congr fun i j hi hj => by
    unfold tb0
    by_cases h : i = j
    · subst h
      rw [if_pos rfl]
      exact setDiag_eq _ _ _ (.inl (List.mem_range.mpr (by omega)))
    · rw [if_neg h]
      exact setDiag_ne _ _ _ _ h
  rw [ed, ← rgA_nat] at L1
  obtain ⟨ck, hck, hsq⟩ := seq_st (n := n) hx
  obtain ⟨f5, f6, f7, L2⟩ := steps_loop (s := s) (n := n) (e0 := some (.int n)) (e1 := some x) (e3 := none) (e4 := f4) (e8 := none) (e9 := none) (e10 := none) hck E tb0 none none none hE
  obtain ⟨g5, g6, g8, g9, g10, L3⟩ := out_loop (s := s) (n := n) (e1 := some x) (e3 := none) (e4 := f4) (e7 := f7) hn (List.range (n + 1)) (addE E tb0) f5 f6 none none none rl
  rw [← rgA_nat] at L3
  have S := hsq tb0 (dV 1) [some (.int n), some x, some (.ref (s.length + (n + 1))), none, f4, none, none, none, none, none, none] rfl
  have e0 : startA 11 [.int n, x] = [some (.int n), some x, none, none, none, none, none, none, none, none, none] := rfl
  rw [e0]
  unfold b_greatest_ways
  rw [e_seq, e_set, M]
  simp only [fl_ok, List.set, e_seq, e_for, e_rg1, e_Cons, e_Bin, e_V, List.getElem?_cons_zero, List.getElem?_cons_succ, bind_ok, e_C, g_add_int, e_Nil, hr, if_true, L1, S, L2, L3, e_ret]
  rfl
theorem vaB_oV {k : Nat} : ∀ o : Option Int, vaB k (oV o)
  | none => trivial
  | some _ => trivial
theorem vasB_tb {k n : Nat} {T : Tb} : ∀ r ∈ tbR n T, vasB k r := by
  intro r hr
  unfold tbR at hr
  obtain ⟨i, _, e⟩ := List.mem_map.mp hr
  rw [← e]
  unfold rowV
  generalize List.range (n + 1) = l
  induction l with
  | nil => trivial
  | cons a l ih =>
    exact ⟨vaB_oV _, ih⟩
theorem gw_eq {s : Sto} {n : Nat} {E : List Edge} {x : Va} (wf : WFn s.length s) (hn : n ≤ 1000) (hE : InN n E) (hx : seqL x s = some (E.map edV)) : F_greatest_ways [.int n, x] s = .ok (.lst ((tbR n (fw n E)).map .lst)) s := by
  have hf : Fin s.length (b_greatest_ways (startA 11 [.int n, x]) s) (.ok (.lst ((tbR n (fw n E)).map .lst)) s) := by
    refine Fin.frzT (rows := tbR n (fw n E)) ?_ rfl vasB_tb wf
    rw [greatest_run hn hE hx, tbR_len]
    unfold stT
    rw [tbR_len]
  obtain ⟨n', E', x', h1, h2, h3⟩ := mir_p (P := P_gw) ⟨n, E, x, rfl, hx, rfl⟩ hf
  injection h1 with h4 h5
  injection h5 with h5 _
  injection h4 with h4
  have h4 : (n : Int) = n' := h4
  have e : n' = n := by omega
  subst e h5
  rw [hx] at h2
  have e2 := edVs_inj (Option.some.inj h2)
  subst e2
  exact h3
theorem fin_greatest_ways (args : List Va) (s : Sto) (wf : WFn s.length s) (wa : vasB s.length args) (hl : args.length = 2) : Fin s.length (b_greatest_ways (startA 11 args) s) (F_greatest_ways args s) := fin_mir args s
end Dn

set_option Elab.async false
set_option linter.all false
set_option maxRecDepth 100000
set_option maxHeartbeats 4000000
/-! Dn, part V: ways, is_round, do_hold. -/
namespace Dn
open PySem PySem.Spec PyProof.Rows L2
open Dm (Edge Tb fw InN Calm Holds)
section
variable {n m : Nat}
mutual
theorem vaB_mono (h : n ≤ m) : ∀ {x : Va}, vaB n x → vaB m x
  | .non, _ => trivial
  | .bl _, _ => trivial
  | .int _, _ => trivial
  | .str _, _ => trivial
  | .tup xs, b => vasB_mono h (xs := xs) b
  | .lst xs, b => vasB_mono h (xs := xs) b
  | .ext xs, b => vasB_mono h (xs := xs) b
  | .dicK xs, b => vksB_mono h (xs := xs) b
  | .dicT xs, b => vtsB_mono h (xs := xs) b
  | .ref i, b => Nat.lt_of_lt_of_le b h
theorem vasB_mono (h : n ≤ m) : ∀ {xs : List Va}, vasB n xs → vasB m xs
  | [], _ => trivial
  | x :: xs, b => ⟨vaB_mono h (x := x) b.1, vasB_mono h (xs := xs) b.2⟩
theorem vksB_mono (h : n ≤ m) : ∀ {xs : List (Key × Va)}, vksB n xs → vksB m xs
  | [], _ => trivial
  | (_, x) :: xs, b => ⟨vaB_mono h (x := x) b.1, vksB_mono h (xs := xs) b.2⟩
theorem vtsB_mono (h : n ≤ m) : ∀ {xs : List (List Key × Va)}, vtsB n xs → vtsB m xs
  | [], _ => trivial
  | (_, x) :: xs, b => ⟨vaB_mono h (x := x) b.1, vtsB_mono h (xs := xs) b.2⟩
end
theorem vfsB_mono (h : n ≤ m) : ∀ {xs : List (Str × Va)}, vfsB n xs → vfsB m xs
  | [], _ => trivial
  | (_, x) :: xs, b => ⟨vaB_mono h (x := x) b.1, vfsB_mono h (xs := xs) b.2⟩
theorem vbsB_mono (h : n ≤ m) : ∀ {xs : List (List Bool × Va)}, vbsB n xs → vbsB m xs
  | [], _ => trivial
  | (_, x) :: xs, b => ⟨vaB_mono h (x := x) b.1, vbsB_mono h (xs := xs) b.2⟩
theorem obB_mono (h : n ≤ m) {o : Ob} (b : obB n o) : obB m o := by
  cases o with
  | lst xs => exact vasB_mono h (xs := xs) b
  | dicK xs => exact vksB_mono h (xs := xs) b
  | dicT xs => exact vtsB_mono h (xs := xs) b
  | ins C xs => exact vfsB_mono h (xs := xs) b
  | dead => trivial
  | fdK od ks xs => exact vksB_mono h (xs := xs) b
  | fdT od ks xs => exact vtsB_mono h (xs := xs) b
  | dicB xs => exact vbsB_mono h (xs := xs) b
  | fdB od ks xs => exact vbsB_mono h (xs := xs) b
end
theorem wf_push {s : Sto} {o : Ob} (w : WFn s.length s) (h : obB (s.length + 1) o) : WFn (s ++ [o]).length (s ++ [o]) := by
  rw [List.length_append, List.length_singleton]
  intro u hu
  rcases List.mem_append.mp hu with hu | hu
  · exact obB_mono (Nat.le_succ _) (w u hu)
  · rw [List.mem_singleton.mp hu]
    exact h
/-- handed back, and the store cut back -/
theorem Fin.cut {n : Nat} {raw : Fl} {v : Va} {s0 s1 : Sto} (h : raw = .ret v s0) (e : s0.take n = s1) (hv : vaB n v) (hw : WFn n s1) : Fin n raw (.ok v s1) := by
  subst e
  exact .ok (.inl h) (.same _ _) hv hw
/-! lists of records -/
def recsOf : List Va → Option (List Rec)
  | [] => some []
  | x :: xs => match recOf x, recsOf xs with
    | some r, some rs => some (r :: rs)
    | _, _ => none
theorem recsOf_map : ∀ rs : List Rec, recsOf (rs.map Rec.va) = some rs
  | [] => rfl
  | r :: rs => by
    rw [List.map_cons, recsOf, recOf_va, recsOf_map rs]
theorem recsOf_eq : ∀ {xs : List Va} {rs : List Rec}, recsOf xs = some rs → xs = rs.map Rec.va
  | [], rs, h => by
    cases h
    rfl
  | x :: xs, rs, h => by
    unfold recsOf at h
    split at h
    · rename_i r rs' e1 e2
      cases h
      rw [List.map_cons, recOf_eq e1, recsOf_eq e2]
    · cases h
def edgesR (n : Nat) (rs : List Rec) : List Edge := rs.flatMap (Rec.edges n)
def Fits (n : Nat) (rs : List Rec) : Prop := n ≤ 1000 ∧ rs.length ≤ 10000 ∧ ∀ r ∈ rs, r.fits n
noncomputable instance (n : Nat) (rs : List Rec) : Decidable (Fits n rs) := Classical.propDecidable _
theorem edges_in {n : Nat} {r : Rec} (h : r.fits n) : InN n (r.edges n) := by
  intro e he
  cases r with
  | before a b g =>
    obtain ⟨h1, h2⟩ := h
    simp [Rec.edges] at he
    subst he
    exact ⟨by show a.toNat ≤ n; omega, by show b.toNat ≤ n; omega⟩
  | same a b =>
    obtain ⟨h1, h2⟩ := h
    simp [Rec.edges] at he
    rcases he with he | he
    · subst he
      exact ⟨by show a.toNat ≤ n; omega, by show b.toNat ≤ n; omega⟩
    · subst he
      exact ⟨by show b.toNat ≤ n; omega, by show a.toNat ≤ n; omega⟩
  | within a b g =>
    obtain ⟨h1, h2⟩ := h
    simp [Rec.edges] at he
    subst he
    exact ⟨by show b.toNat ≤ n; omega, by show a.toNat ≤ n; omega⟩
  | since a y w =>
    obtain ⟨h1, h2⟩ := h
    simp [Rec.edges] at he
    subst he
    exact ⟨Nat.le_refl _, by show a.toNat ≤ n; omega⟩
  | upto a y w =>
    obtain ⟨h1, h2⟩ := h
    simp [Rec.edges] at he
    subst he
    exact ⟨by show a.toNat ≤ n; omega, Nat.le_refl _⟩
  | kind a k => simp [Rec.edges] at he
theorem edgesR_in {n : Nat} {rs : List Rec} (h : ∀ r ∈ rs, r.fits n) : InN n (edgesR n rs) := fun e he => by
  obtain ⟨r, h1, h2⟩ := List.mem_flatMap.mp he
  exact edges_in (h r h1) e h2
theorem edges_few {n : Nat} (r : Rec) : (r.edges n).length ≤ 2 := by
  cases r <;> simp [Rec.edges]
/-- a list, read where more objects stand behind -/
theorem seq_push {x : Va} {xs : List Va} {s : Sto} (h : seqL x s = some xs) : ∃ ck, ∀ (s2 : Sto), okk ck (s ++ s2) ∧ ∀ (de : DE) (ε : En), de ε (s ++ s2) = .ok x (s ++ s2) → dSeq de ε (s ++ s2) = .ok (ck, xs) (s ++ s2) := by
  cases x with
  | lst ys =>
    cases h
    exact ⟨none, fun s2 => ⟨trivial, fun de ε e => by unfold dSeq; rw [e]; rfl⟩⟩
  | ref i =>
    unfold seqL at h
    dsimp only at h
    split at h
    · rename_i ys e
      cases h
      have hi := (List.getElem?_eq_some_iff.mp e).1
      have e2 : ∀ s2 : Sto, (s ++ s2)[i]? = some (.lst xs) := fun s2 => by
        rw [List.getElem?_append_left hi]
        exact e
      refine ⟨some (i, .lst xs), fun s2 => ⟨e2 s2, fun de ε h => ?_⟩⟩
      unfold dSeq
      rw [h]
      simp only [bind_ok, e2]
    · cases h
  | _ => simp [seqL] at h
def tbV (n : Nat) (T : Tb) : Va := .lst ((tbR n T).map .lst)
noncomputable def F_ways (args : List Va) (s : Sto) : Rs Va := match args with
  | [.int n, x] => match seqL x s with
    | some xs => match recsOf xs with
      | some rs => if 0 ≤ n ∧ Fits n.toNat rs then .ok (tbV n.toNat (fw n.toNat (edgesR n.toNat rs))) s else .bad
      | none => .bad
    | none => .bad
  | _ => .bad
noncomputable def b_ways : DS := (sSeq (sSet 2 (dLst true dNil))
  (sSeq (sFor (dSeq (dV 1)) (dgName 3)
   (sDrop (dMt gExtend (dV 2) (dCons (dApp (gFn 2 F_least_steps) (dCons (dV 3) (dCons (dV 0) dNil))) dNil))))
  (sRet (dApp (gFn 2 F_greatest_ways) (dCons (dV 0) (dCons (dV 2) dNil))))))
theorem least_eq {r : Rec} {n : Nat} {s : Sto} (h : r.fits n) : F_least_steps [r.va, .int n] s = .ok (.lst ((r.edges n).map edV)) s := by
  unfold F_least_steps
  simp only [recOf_va]
  rw [if_pos ⟨by omega, h⟩, Int.toNat_natCast]
theorem ways_loop {s : Sto} {n : Nat} {e1 : Option Va} {ck : Option (Nat × Ob)} (hck : ∀ s2, okk ck (s ++ s2)) : ∀ (rs : List Rec) (E : List Edge) (e3 : Option Va), (∀ r ∈ rs, r.fits n) → E.length + 2 * rs.length ≤ 100000 →
    ∃ f3, lp ck (fBody (dgName 3) (sDrop (dMt gExtend (dV 2) (dCons (dApp (gFn 2 F_least_steps) (dCons (dV 3) (dCons (dV 0) dNil))) dNil)))) (rs.map Rec.va) [some (.int n), e1, some (.ref s.length), e3] (s ++ [.lst (E.map edV)]) = .nx [some (.int n), e1, some (.ref s.length), f3] (s ++ [.lst ((E ++ edgesR n rs).map edV)])
  | [], E, e3, _, _ => ⟨e3, by rw [List.map_nil, lp, if_pos (hck _)]; unfold edgesR; rw [List.flatMap_nil, List.append_nil]⟩
  | r :: rs, E, e3, h, hl => by
    have hf := edges_few (n := n) r
    rw [List.length_cons] at hl
    obtain ⟨f3, ih⟩ := ways_loop (s := s) (e1 := e1) hck rs (E ++ r.edges n) (some r.va) (fun a ha => h a (List.mem_cons_of_mem _ ha)) (by rw [List.length_append]; omega)
    refine ⟨f3, ?_⟩
    rw [List.map_cons, lp, if_pos (hck _)]
    have hs : (s ++ [Ob.lst (E.map edV)])[s.length]? = some (.lst (E.map edV)) := List.getElem?_concat_length
    have hx : gExtend (.ref s.length) [.lst ((r.edges n).map edV)] (s ++ [Ob.lst (E.map edV)]) = .ok .non (s ++ [Ob.lst ((E ++ r.edges n).map edV)]) := by
      unfold gExtend
      have hq : leq ((E.map edV).length + ((r.edges n).map edV).length) 1000000 := by
        unfold leq
        rw [List.length_map, List.length_map]
        omega
      simp only [hs, seqL, hq, if_true]
      rw [List.set_append_right _ _ (Nat.le_refl _), Nat.sub_self, List.map_append]
      rfl
    have hi : isL (.ref s.length) (s ++ [Ob.lst (E.map edV)]) = true := by
      unfold isL seqL
      simp only [hs]
      rfl
    have hb : fBody (dgName 3) (sDrop (dMt gExtend (dV 2) (dCons (dApp (gFn 2 F_least_steps) (dCons (dV 3) (dCons (dV 0) dNil))) dNil))) r.va [some (.int n), e1, some (.ref s.length), e3] (s ++ [Ob.lst (E.map edV)]) = .nx [some (.int n), e1, some (.ref s.length), some r.va] (s ++ [Ob.lst ((E ++ r.edges n).map edV)]) := by
      rw [e_fBody, e_dgName]
      simp only [List.set, e_drop, e_Mt, e_V, List.getElem?_cons_zero, List.getElem?_cons_succ, bind_ok, hi, if_true, e_Cons, e_App, e_Nil, gFn, List.length_cons, List.length_nil, least_eq (h r List.mem_cons_self), hx, fl_ok]
    rw [hb]
    have e : edgesR n (r :: rs) = r.edges n ++ edgesR n rs := rfl
    rw [e, ← List.append_assoc]
    exact ih
theorem ways_run {s : Sto} {n : Nat} {rs : List Rec} {x : Va} (wf : WFn s.length s) (hF : Fits n rs) (hx : seqL x s = some (rs.map Rec.va)) : ∃ o, b_ways [some (.int n), some x, none, none] s = .ret (tbV n (fw n (edgesR n rs))) (s ++ [o]) := by
  obtain ⟨h1, h2, h3⟩ := hF
  obtain ⟨ck, hck⟩ := seq_push hx
  obtain ⟨f3, L⟩ := ways_loop (s := s) (n := n) (e1 := some x) (ck := ck) (fun s2 => (hck s2).1) rs [] none h3 (by rw [List.length_nil]; omega)
  have S := (hck [.lst []]).2 (dV 1) [some (.int n), some x, some (.ref s.length), none] rfl
  rw [List.nil_append] at L
  rw [List.map_nil] at L
  have hs : seqL (.ref s.length) (s ++ [Ob.lst ((edgesR n rs).map edV)]) = some ((edgesR n rs).map edV) := by
    unfold seqL
    simp only [List.getElem?_concat_length]
  have hg := gw_eq (s := s ++ [Ob.lst ((edgesR n rs).map edV)]) (n := n) (E := edgesR n rs) (x := .ref s.length) (wf_push wf vasB_eds) h1 (edgesR_in h3) hs
  refine ⟨.lst ((edgesR n rs).map edV), ?_⟩
  unfold b_ways
  simp only [e_seq, e_set, e_Lst, e_Nil, bind_ok, g_mkL_t, fl_ok, List.set, e_for, S, L, e_ret, e_App, e_Cons, e_V, List.getElem?_cons_zero, List.getElem?_cons_succ, gFn, List.length_cons, List.length_nil, if_true, hg]
  rfl
theorem vasB_rowsT {k n : Nat} {T : Tb} : vaB k (tbV n T) := vasB_rows vasB_tb
theorem fin_ways (args : List Va) (s : Sto) (wf : WFn s.length s) (wa : vasB s.length args) (hl : args.length = 2) : Fin s.length (b_ways (startA 4 args) s) (F_ways args s) := by
  unfold F_ways
  split
  · split
    · split
      · split
        · rename_i n x _ xs e1 _ rs e2 hc
          obtain ⟨h0, hF⟩ := hc
          rw [recsOf_eq e2] at e1
          obtain ⟨N, rfl⟩ := Int.eq_ofNat_of_zero_le h0
          rw [Int.toNat_natCast] at hF ⊢
          obtain ⟨o, h⟩ := ways_run wf hF e1
          exact Fin.cut h (List.take_left' rfl) vasB_rowsT wf
        · exact .bad
      · exact .bad
    · exact .bad
  · exact .bad
/-! is_round, do_hold -/
theorem tbV_at {n i : Nat} {T : Tb} {s : Sto} (h : i ≤ n) : gIx (tbV n T) (.int i) s = .ok (.lst (rowV n T i)) s := by
  unfold tbV
  rw [g_ix_lst, atI_in .non (by omega) (by rw [List.length_map, tbR_len]; omega)]
  dsimp only
  unfold tbR
  rw [Int.toNat_natCast, List.map_map, getD_map (Va.lst ∘ rowV n T) _ i 0 .non (by rw [List.length_range]; omega), List.getD_eq_getElem?_getD, List.getElem?_range (by omega)]
  rfl
theorem rowV_at {n i j : Nat} {T : Tb} {s : Sto} (h : j ≤ n) : gIx (.lst (rowV n T i)) (.int j) s = .ok (oV (T i j)) s := by
  rw [g_ix_lst, atI_in .non (by omega) (by rw [rowV_len]; omega)]
  dsimp only
  unfold rowV
  rw [Int.toNat_natCast, getD_map (fun j => oV (T i j)) _ j 0 .non (by rw [List.length_range]; omega), List.getD_eq_getElem?_getD, List.getElem?_range (by omega)]
  rfl
def roundB (n : Nat) (T : Tb) : Bool := (List.range (n + 1)).any fun i => match T i i with | some v => decide (0 < v) | none => false
theorem round_calm {n : Nat} {T : Tb} : roundB n T = false ↔ Calm n T := by
  unfold roundB Calm
  rw [List.any_eq_false]
  constructor
  · intro h i v hi e
    have := h i (List.mem_range.mpr (by omega))
    rw [e] at this
    have : ¬ 0 < v := fun q => this (decide_eq_true q)
    omega
  · intro h i hi q
    have hi := List.mem_range.mp hi
    split at q
    · rename_i v e
      have := h i v (by omega) e
      have := of_decide_eq_true q
      omega
    · cases q
noncomputable def b_is_round : DS := (sRet (dApp gAny (dCons (dLc false (dRg1 (dCons (dApp gLen (dCons (dV 0) dNil)) dNil)) (dgName 1) dYes (dBin gGt (dBin gIx (dBin gIx (dV 0) (dV 1)) (dV 1)) (dC (.int 0))) [1]) dNil)))
def rbV : Va → Bool
  | .lst rows => (List.range rows.length).any fun i => match rows.getD i .non with
    | .lst ys => match ys.getD i .non with
      | .int v => decide (0 < v)
      | _ => false
    | _ => false
  | _ => false
def DiagV (x : Va) : Prop := ∃ n T, x = tbV n T ∧ (∀ i, i ≤ n → ∃ v, T i i = some v) ∧ n ≤ 1000
noncomputable instance (x : Va) : Decidable (DiagV x) := Classical.propDecidable _
theorem any_congr {l : List Nat} {p q : Nat → Bool} (h : ∀ i ∈ l, p i = q i) : l.any p = l.any q := by
  induction l with
  | nil => rfl
  | cons a l ih => rw [List.any_cons, List.any_cons, h a List.mem_cons_self, ih fun i hi => h i (List.mem_cons_of_mem _ hi)]
theorem rbV_tb {n : Nat} {T : Tb} : rbV (tbV n T) = roundB n T := by
  unfold tbV rbV roundB
  dsimp only
  rw [List.length_map, tbR_len]
  refine any_congr fun i hi => ?_
  have hi := List.mem_range.mp hi
  have e1 : ((tbR n T).map Va.lst).getD i .non = .lst (rowV n T i) := by
    unfold tbR
    rw [List.map_map, getD_map (Va.lst ∘ rowV n T) _ i 0 .non (by rw [List.length_range]; omega), List.getD_eq_getElem?_getD, List.getElem?_range (by omega)]
    rfl
  have e2 : (rowV n T i).getD i .non = oV (T i i) := by
    unfold rowV
    rw [getD_map (fun j => oV (T i j)) _ i 0 .non (by rw [List.length_range]; omega), List.getD_eq_getElem?_getD, List.getElem?_range (by omega)]
    rfl
  rw [e1]
  dsimp only
  rw [e2]
  cases T i i <;> rfl
noncomputable def F_is_round (args : List Va) (s : Sto) : Rs Va := match args with
  | [x] => if DiagV x then .ok (.bl (rbV x)) s else .bad
  | _ => .bad
theorem is_round_run {n : Nat} {T : Tb} {s : Sto} (hn : n ≤ 1000) (hd : ∀ i, i ≤ n → ∃ v, T i i = some v) : b_is_round [some (tbV n T), none] s = .ret (.bl (roundB n T)) s := by
  have hl : gLen [tbV n T] s = .ok (.int ((n : Int) + 1)) s := by
    unfold tbV
    rw [g_len_lst, List.length_map, tbR_len]
    rfl
  have hr : inR ((n : Int) + 1) := ⟨by omega, by omega⟩
  have hq : leq (rgA 0 ((n : Int) + 1)).length 100000 := by unfold leq; rw [rgA_len]; omega
  have L : cl none (dgName 1) dYes (dBin gGt (dBin gIx (dBin gIx (dV 0) (dV 1)) (dV 1)) (dC (.int 0))) (wip [some (tbV n T), none] [1]) (rgA 0 ((n : Int) + 1)) [] s = .ok ([] ++ (List.range (n + 1)).map fun i => Va.bl (match T i i with | some v => decide (0 < v) | none => false)) s := by
    rw [rgA_nat]
    refine cl_all (fun i : Nat => Va.int i) _ _ [] fun i hi => ?_
    have hi := List.mem_range.mp hi
    obtain ⟨v, hv⟩ := hd i (by omega)
    have e2 : oV (some v) = .int v := rfl
    simp [wip, tbV_at (s := s) (T := T) (show i ≤ n by omega), rowV_at (s := s) (T := T) (i := i) (show i ≤ n by omega), hv, e2]
  unfold b_is_round
  rw [e_ret, e_App, e_Cons, e_Lc, e_rg1, e_Cons, e_App, e_Cons, e_V]
  simp only [List.getElem?_cons_zero, bind_ok, e_Nil, hl, hr, if_true, hq, L, g_mkL_f, List.nil_append, gAny, seqL]
  rw [show ((List.range (n + 1)).map fun i => Va.bl (match T i i with | some v => decide (0 < v) | none => false)) = ((List.range (n + 1)).map fun i => match T i i with | some v => decide (0 < v) | none => false).map .bl from by rw [List.map_map]; rfl, blsOf_map]
  simp only [fl_ok, List.any_map]
  rfl
theorem fin_is_round (args : List Va) (s : Sto) (wf : WFn s.length s) (wa : vasB s.length args) (hl : args.length = 1) : Fin s.length (b_is_round (startA 2 args) s) (F_is_round args s) := by
  unfold F_is_round
  split
  · split
    · rename_i hc
      obtain ⟨n, T, rfl, h1, h2⟩ := hc
      rw [rbV_tb]
      exact Fin.ret1 (is_round_run h2 h1) trivial wf
    · exact .bad
  · exact .bad
noncomputable def holdB (n : Nat) (rs : List Rec) : Bool := !roundB n (fw n (edgesR n rs))
theorem holdB_iff {n : Nat} {rs : List Rec} (h : ∀ r ∈ rs, r.fits n) : holdB n rs = true ↔ Holds (edgesR n rs) := by
  rw [← Dm.calm_iff (edgesR_in h), ← round_calm]
  unfold holdB
  cases roundB n (fw n (edgesR n rs)) <;> simp
noncomputable def F_do_hold (args : List Va) (s : Sto) : Rs Va := match args with
  | [.int n, x] => match seqL x s with
    | some xs => match recsOf xs with
      | some rs => if 0 ≤ n ∧ Fits n.toNat rs then .ok (.bl (holdB n.toNat rs)) s else .bad
      | none => .bad
    | none => .bad
  | _ => .bad
noncomputable def b_do_hold : DS := (sRet (dNotV (dApp (gFn 1 F_is_round) (dCons (dApp (gFn 2 F_ways) (dCons (dV 0) (dCons (dV 1) dNil))) dNil))))
theorem ways_eq {n : Nat} {rs : List Rec} {x : Va} {s : Sto} (hF : Fits n rs) (hx : seqL x s = some (rs.map Rec.va)) : F_ways [.int n, x] s = .ok (tbV n (fw n (edgesR n rs))) s := by
  unfold F_ways
  simp only [hx, recsOf_map]
  rw [if_pos ⟨by omega, by rw [Int.toNat_natCast]; exact hF⟩, Int.toNat_natCast]
theorem hold_eq {n : Nat} {rs : List Rec} {x : Va} {s : Sto} (hF : Fits n rs) (hx : seqL x s = some (rs.map Rec.va)) : F_do_hold [.int n, x] s = .ok (.bl (holdB n rs)) s := by
  unfold F_do_hold
  simp only [hx, recsOf_map]
  rw [if_pos ⟨by omega, by rw [Int.toNat_natCast]; exact hF⟩, Int.toNat_natCast]
theorem do_hold_run {n : Nat} {rs : List Rec} {x : Va} {s : Sto} (hF : Fits n rs) (hx : seqL x s = some (rs.map Rec.va)) : b_do_hold [some (.int n), some x] s = .ret (.bl (holdB n rs)) s := by
  have hd : DiagV (tbV n (fw n (edgesR n rs))) := ⟨n, _, rfl, fun i hi => by
    obtain ⟨v, h1, _⟩ := Dm.fw_diag (n := n) (E := edgesR n rs) i hi
    exact ⟨v, h1⟩, hF.1⟩
  have hr : F_is_round [tbV n (fw n (edgesR n rs))] s = .ok (.bl (roundB n (fw n (edgesR n rs)))) s := by
    unfold F_is_round
    dsimp only
    rw [if_pos hd, rbV_tb]
  unfold b_do_hold holdB
  simp only [e_ret, e_NotV, e_App, e_Cons, e_V, List.getElem?_cons_zero, List.getElem?_cons_succ, bind_ok, e_Nil, gFn, List.length_cons, List.length_nil, if_true, ways_eq hF hx, hr]
  rfl
theorem fin_do_hold (args : List Va) (s : Sto) (wf : WFn s.length s) (wa : vasB s.length args) (hl : args.length = 2) : Fin s.length (b_do_hold (startA 2 args) s) (F_do_hold args s) := by
  unfold F_do_hold
  split
  · split
    · split
      · split
        · rename_i n x _ xs e1 _ rs e2 hc
          obtain ⟨h0, hF⟩ := hc
          rw [recsOf_eq e2] at e1
          obtain ⟨N, rfl⟩ := Int.eq_ofNat_of_zero_le h0
          rw [Int.toNat_natCast] at hF ⊢
          exact Fin.ret1 (do_hold_run hF e1) trivial wf
        · exact .bad
      · exact .bad
    · exact .bad
  · exact .bad
end Dn

set_option Elab.async false
set_option linter.all false
set_option maxRecDepth 100000
set_option maxHeartbeats 1000000
/-! Dn, part Au: a def's mirror is its body's run, what is handed back frozen, the store cut back. -/
namespace Dn
open PySem PySem.Spec PyProof.Rows L2
open Classical in
mutual
noncomputable def frzF (n : Nat) : Nat → Va → Sto → Option (Va × Sto)
  | 0, _, _ => none
  | d + 1, x, s => if vaB n x then some (x, s) else match x with
    | .ref i => match s[i]? with
      | some (.lst xs) => match frzFs n d xs s with
        | some (xs', s1) => if s1[i]? = some (.lst xs) then some (.lst xs', s1.set i .dead) else none
        | none => none
      | some (.dicK kvs) => some (.dicK kvs, s.set i .dead)
      | some (.dicT kvs) => some (.dicT kvs, s.set i .dead)
      | _ => none
    | .tup xs => match frzFs n d xs s with
      | some (xs', s1) => some (.tup xs', s1)
      | none => none
    | .lst xs => match frzFs n d xs s with
      | some (xs', s1) => some (.lst xs', s1)
      | none => none
    | _ => none
noncomputable def frzFs (n : Nat) : Nat → List Va → Sto → Option (List Va × Sto)
  | 0, _, _ => none
  | d + 1, xs, s => match xs with
    | [] => some ([], s)
    | x :: xs => match frzF n d x s with
      | some (x', s1) => match frzFs n d xs s1 with
        | some (xs', s2) => some (x' :: xs', s2)
        | none => none
      | none => none
end
mutual
theorem frzF_ok {n : Nat} : ∀ (d : Nat) (x : Va) (s : Sto) (x' : Va) (s' : Sto), frzF n d x s = some (x', s') → Frz x s x' s'
  | 0, _, _, _, _, h => by
    unfold frzF at h
    cases h
  | d + 1, x, s, x', s', h => by
    unfold frzF at h
    split at h
    · cases h
      exact .same _ _
    · split at h
      · split at h
        · rename_i xs e
          split at h
          · rename_i xs' s1 e1
            split at h
            · rename_i e2
              cases h
              exact .lst e (frzFs_ok d xs s xs' s1 e1) e2
            · cases h
          · cases h
        · rename_i kvs e
          cases h
          exact .dicK e
        · rename_i kvs e
          cases h
          exact .dicT e
        · cases h
      · rename_i xs _
        split at h
        · rename_i xs' s1 e1
          cases h
          exact .tup (frzFs_ok d xs s _ _ e1)
        · cases h
      · rename_i xs _
        split at h
        · rename_i xs' s1 e1
          cases h
          exact .lstI (frzFs_ok d xs s _ _ e1)
        · cases h
      · cases h
theorem frzFs_ok {n : Nat} : ∀ (d : Nat) (x : List Va) (s : Sto) (x' : List Va) (s' : Sto), frzFs n d x s = some (x', s') → Frzs x s x' s'
  | 0, _, _, _, _, h => by
    unfold frzFs at h
    cases h
  | d + 1, xs, s, x', s', h => by
    unfold frzFs at h
    cases xs with
    | nil =>
      cases h
      exact .nil _
    | cons x xs =>
      dsimp only at h
      cases e1 : frzF n d x s with
      | none =>
        rw [e1] at h
        cases h
      | some p =>
        obtain ⟨y, s1⟩ := p
        rw [e1] at h
        dsimp only at h
        cases e2 : frzFs n d xs s1 with
        | none =>
          rw [e2] at h
          cases h
        | some p2 =>
          obtain ⟨ys, s2⟩ := p2
          rw [e2] at h
          cases h
          exact .cons (frzF_ok d x s y s1 e1) (frzFs_ok d xs s1 _ _ e2)
end
open Classical in
noncomputable def autoF (n : Nat) : Fl → Rs Va
  | .ret v s0 => match frzF n 100000 v s0 with
    | some (v', s1) => if vaB n v' ∧ WFn n (s1.take n) then .ok v' (s1.take n) else .bad
    | none => .bad
  | .nx _ s0 => if WFn n (s0.take n) then .ok .non (s0.take n) else .bad
  | .exc c _ s0 => if WFn n (s0.take n) then .exc c (s0.take n) else .bad
  | _ => .bad
/-! .. of a def that hands back a new list that is to change -/
/-! .. of a def behind which the store stays as it is -/
theorem fin_autoF {n : Nat} : ∀ raw : Fl, Fin n raw (autoF n raw)
  | .ret v s0 => by
    unfold autoF
    dsimp only
    split
    · rename_i v' s1 e
      split
      · rename_i h
        exact .ok (.inl rfl) (frzF_ok _ _ _ _ _ e) h.1 h.2
      · exact .bad
    · exact .bad
  | .nx ε s0 => by
    unfold autoF
    dsimp only
    split
    · rename_i h
      exact .ok (.inr ⟨ε, rfl, rfl⟩) (.same _ _) trivial h
    · exact .bad
  | .exc c ε s0 => by
    unfold autoF
    dsimp only
    split
    · rename_i h
      exact .exc rfl h
    · exact .bad
  | .brk _ _ => .bad
  | .ct _ _ => .bad
  | .bad => .bad
noncomputable def aut (nb : Nat) (b : DS) (args : List Va) (s : Sto) : Rs Va := autoF s.length (b (startA nb args) s)
theorem frzF_same {n d : Nat} {x : Va} {s : Sto} (h : vaB n x) : frzF n (d + 1) x s = some (x, s) := by
  unfold frzF
  exact if_pos h
theorem frzFs_same {n : Nat} {s : Sto} : ∀ (xs : List Va) (d : Nat), vasB n xs → xs.length + 1 ≤ d → frzFs n (d + 1) xs s = some (xs, s)
  | [], d, _, _ => by
    unfold frzFs
    rfl
  | x :: xs, 0, h, hl => by
    rw [List.length_cons] at hl
    omega
  | x :: xs, d + 1, h, hl => by
    rw [List.length_cons] at hl
    unfold frzFs
    dsimp only
    rw [frzF_same h.1]
    dsimp only
    rw [frzFs_same xs d h.2 (by omega)]
theorem frzF_lst {n d i : Nat} {xs : List Va} {s : Sto} (h : s[i]? = some (.lst xs)) (hi : n ≤ i) (hx : vasB n xs) (hl : xs.length + 1 ≤ d) : frzF n (d + 2) (.ref i) s = some (.lst xs, s.set i .dead) := by
  have e := frzFs_same (s := s) xs d hx hl
  unfold frzF
  rw [if_neg (show ¬ vaB n (.ref i) from Nat.not_lt.mpr hi)]
  dsimp only
  rw [h]
  dsimp only
  rw [e]
  dsimp only
  rw [if_pos h]
/-! how a mirror is reckoned -/
section
variable {nb : Nat} {b : DS} {args : List Va} {s s0 s1 : Sto} {v : Va} {ε : En} {c : Str} {xs : List Va}
theorem aut_ret (h : b (startA nb args) s = .ret v s0) (e : s0.take s.length = s1) (hv : vaB s.length v) (hw : WFn s.length s1) : aut nb b args s = .ok v s1 := by
  unfold aut
  rw [h]
  unfold autoF
  dsimp only
  rw [show frzF s.length 100000 v s0 = some (v, s0) from frzF_same (d := 99999) hv]
  dsimp only
  rw [if_pos ⟨hv, by rw [e]; exact hw⟩, e]
/-- the same store behind it -/
theorem aut_ret0 (h : b (startA nb args) s = .ret v s) (hv : vaB s.length v) (hw : WFn s.length s) : aut nb b args s = .ok v s := aut_ret h List.take_length hv hw
theorem aut_lst {i : Nat} (h : b (startA nb args) s = .ret (.ref i) s0) (ho : s0[i]? = some (.lst xs)) (hi : s.length ≤ i) (e : s0.take s.length = s1) (hx : vasB s.length xs) (hl : xs.length ≤ 90000) (hw : WFn s.length s1) : aut nb b args s = .ok (.lst xs) s1 := by
  unfold aut
  rw [h]
  unfold autoF
  dsimp only
  rw [show frzF s.length 100000 (.ref i) s0 = some (.lst xs, s0.set i .dead) from frzF_lst (d := 99998) ho hi hx (by omega)]
  dsimp only
  rw [take_set hi, e, if_pos ⟨hx, hw⟩]
/-- a new list behind the store -/
theorem aut_new {s2 : Sto} (h : b (startA nb args) s = .ret (.ref s.length) (s1 ++ .lst xs :: s2)) (hl1 : s1.length = s.length) (hx : vasB s.length xs) (hl : xs.length ≤ 90000) (hw : WFn s.length s1) : aut nb b args s = .ok (.lst xs) s1 :=
  aut_lst h (by rw [← hl1, List.getElem?_append_right (Nat.le_refl _), Nat.sub_self]; rfl) (Nat.le_refl _) (by rw [← hl1, List.take_left]) hx hl hw
end
end Dn

set_option Elab.async false
set_option linter.all false
set_option maxRecDepth 100000
set_option maxHeartbeats 4000000
/-! Dn, part W: the law's steps, ways step by step, holds. -/
namespace Dn
open PySem PySem.Spec PyProof.Rows L2
open Dm (Edge Tb fw InN Calm Holds Fd bfE bfRound far ltO setF)
noncomputable def F_l_steps (args : List Va) (s : Sto) : Rs Va := match args with
  | [.int n, x] => match seqL x s with
    | some xs => match recsOf xs with
      | some rs => if 0 ≤ n ∧ Fits n.toNat rs then .ok (.lst ((edgesR n.toNat rs).map edV)) s else .bad
      | none => .bad
    | none => .bad
  | _ => .bad
noncomputable def lsBody : DS := (sSeq (sSet 4 (dBin gIx (dV 3) (dC (.int 0))))
  (sIf (dTB (dBin (gEq false) (dV 4) (dC (.str "before")))) (sDrop (dMt gAppend (dV 2) (dCons (dTup (dCons (dBin gIx (dV 3) (dC (.int 1))) (dCons (dBin gIx (dV 3) (dC (.int 2))) (dCons (dBin gIx (dV 3) (dC (.int 3))) dNil)))) dNil))) (sIf (dTB (dBin (gEq false) (dV 4) (dC (.str "same")))) (sDrop (dMt gExtend (dV 2) (dCons (dLst false (dCons (dTup (dCons (dBin gIx (dV 3) (dC (.int 1))) (dCons (dBin gIx (dV 3) (dC (.int 2))) (dCons (dC (.int 0)) dNil)))) (dCons (dTup (dCons (dBin gIx (dV 3) (dC (.int 2))) (dCons (dBin gIx (dV 3) (dC (.int 1))) (dCons (dC (.int 0)) dNil)))) dNil))) dNil))) (sIf (dTB (dBin (gEq false) (dV 4) (dC (.str "within")))) (sDrop (dMt gAppend (dV 2) (dCons (dTup (dCons (dBin gIx (dV 3) (dC (.int 2))) (dCons (dBin gIx (dV 3) (dC (.int 1))) (dCons (dUn gNeg (dBin gIx (dV 3) (dC (.int 3)))) dNil)))) dNil))) (sIf (dTB (dBin (gEq false) (dV 4) (dC (.str "since")))) (sDrop (dMt gAppend (dV 2) (dCons (dTup (dCons (dV 0) (dCons (dBin gIx (dV 3) (dC (.int 1))) (dCons (dBin gIx (dV 3) (dC (.int 2))) dNil)))) dNil))) (sIf (dTB (dBin (gEq false) (dV 4) (dC (.str "until")))) (sDrop (dMt gAppend (dV 2) (dCons (dTup (dCons (dBin gIx (dV 3) (dC (.int 1))) (dCons (dV 0) (dCons (dUn gNeg (dBin gIx (dV 3) (dC (.int 2)))) dNil)))) dNil))) sNext))))))
noncomputable def b_l_steps : DS := (sSeq (sSet 2 (dLst true dNil))
  (sSeq (sFor (dSeq (dV 1)) (dgName 3)
   lsBody)
  (sRet (dV 2))))
theorem push_app {s : Sto} {E : List Va} {F : List Va} (h : E.length ≤ 200000) (h2 : F.length ≤ 10) : gExtend (.ref s.length) [.lst F] (s ++ [.lst E]) = .ok .non (s ++ [.lst (E ++ F)]) := by
  unfold gExtend
  have hq : leq (E.length + F.length) 1000000 := by unfold leq; omega
  have hs : (s ++ [Ob.lst E])[s.length]? = some (.lst E) := List.getElem?_concat_length
  simp only [hs, seqL, hq, if_true]
  rw [List.set_append_right _ _ (Nat.le_refl _), Nat.sub_self]
  rfl
theorem push_one {s : Sto} {E : List Va} {x : Va} (h : E.length ≤ 200000) : gAppend (.ref s.length) [x] (s ++ [.lst E]) = .ok .non (s ++ [.lst (E ++ [x])]) := by
  unfold gAppend
  have hq : leq E.length 1000000 := by unfold leq; omega
  have hs : (s ++ [Ob.lst E])[s.length]? = some (.lst E) := List.getElem?_concat_length
  simp only [hs, hq, if_true]
  rw [List.set_append_right _ _ (Nat.le_refl _), Nat.sub_self]
  rfl
theorem isL_top {s : Sto} {E : List Va} : isL (.ref s.length) (s ++ [.lst E]) = true := by
  unfold isL seqL
  have hs : (s ++ [Ob.lst E])[s.length]? = some (.lst E) := List.getElem?_concat_length
  simp only [hs]
  rfl
theorem l_step_run {s : Sto} {n : Nat} {E : List Va} {r : Rec} {e1 e4 : Option Va} (hf : r.fits n) (hE : E.length ≤ 200000) : ∃ f4, lsBody [some (.int n), e1, some (.ref s.length), some r.va, e4] (s ++ [.lst E]) = .nx [some (.int n), e1, some (.ref s.length), some r.va, f4] (s ++ [.lst (E ++ (r.edges n).map edV)]) := by
  have p1 := fun x => push_one (s := s) (x := x) hE
  have p2 := fun (F : List Va) (h : F.length ≤ 10) => push_app (s := s) (F := F) hE h
  have hi := isL_top (s := s) (E := E)
  unfold lsBody
  cases r with
  | before a b g =>
    obtain ⟨h1, h2⟩ := hf
    refine ⟨some (.str "before"), ?_⟩
    simp [Rec.va, atI_0, atI_1, atI_2, atI_3, Rec.edges, edV, toNat_of h1, toNat_of h2, -Int.ofNat_toNat, hi, p1]
  | same a b =>
    obtain ⟨h1, h2⟩ := hf
    refine ⟨some (.str "same"), ?_⟩
    simp [Rec.va, atI_0, atI_1, atI_2, Rec.edges, edV, toNat_of h1, toNat_of h2, -Int.ofNat_toNat, hi, p2]
  | within a b g =>
    obtain ⟨h1, h2⟩ := hf
    refine ⟨some (.str "within"), ?_⟩
    simp [Rec.va, atI_0, atI_1, atI_2, atI_3, Rec.edges, edV, toNat_of h1, toNat_of h2, -Int.ofNat_toNat, hi, p1]
  | since a y w =>
    refine ⟨some (.str "since"), ?_⟩
    simp [Rec.va, atI_0, atI_1, atI_2, Rec.edges, edV, toNat_of hf, -Int.ofNat_toNat, hi, p1]
  | upto a y w =>
    refine ⟨some (.str "until"), ?_⟩
    simp [Rec.va, atI_0, atI_1, atI_2, Rec.edges, edV, toNat_of hf, -Int.ofNat_toNat, hi, p1]
  | kind a k =>
    refine ⟨some (.str "kind"), ?_⟩
    simp [Rec.va, atI_0, Rec.edges]
theorem l_steps_loop {s : Sto} {n : Nat} {e1 : Option Va} {ck : Option (Nat × Ob)} (hck : ∀ s2, okk ck (s ++ s2)) : ∀ (rs : List Rec) (E : List Edge) (e3 e4 : Option Va), (∀ r ∈ rs, r.fits n) → E.length + 2 * rs.length ≤ 100000 →
    ∃ f3 f4, lp ck (fBody (dgName 3) lsBody) (rs.map Rec.va) [some (.int n), e1, some (.ref s.length), e3, e4] (s ++ [.lst (E.map edV)]) = .nx [some (.int n), e1, some (.ref s.length), f3, f4] (s ++ [.lst ((E ++ edgesR n rs).map edV)])
  | [], E, e3, e4, _, _ => ⟨e3, e4, by rw [List.map_nil, lp, if_pos (hck _)]; unfold edgesR; rw [List.flatMap_nil, List.append_nil]⟩
  | r :: rs, E, e3, e4, h, hl => by
    have hf := edges_few (n := n) r
    rw [List.length_cons] at hl
    obtain ⟨g4, hb⟩ := l_step_run (s := s) (n := n) (E := E.map edV) (r := r) (e1 := e1) (e4 := e4) (h r List.mem_cons_self) (by rw [List.length_map]; omega)
    obtain ⟨f3, f4, ih⟩ := l_steps_loop (s := s) (e1 := e1) hck rs (E ++ r.edges n) (some r.va) g4 (fun a ha => h a (List.mem_cons_of_mem _ ha)) (by rw [List.length_append]; omega)
    refine ⟨f3, f4, ?_⟩
    rw [List.map_cons, lp, if_pos (hck _)]
    have hb2 : fBody (dgName 3) lsBody r.va [some (.int n), e1, some (.ref s.length), e3, e4] (s ++ [.lst (E.map edV)]) = _ := hb
    rw [hb2]
    have e : edgesR n (r :: rs) = r.edges n ++ edgesR n rs := rfl
    rw [e, ← List.append_assoc]
    rw [List.map_append] at ih
    exact ih
theorem l_steps_run {s : Sto} {n : Nat} {rs : List Rec} {x : Va} (hF : Fits n rs) (hx : seqL x s = some (rs.map Rec.va)) : b_l_steps [some (.int n), some x, none, none, none] s = .ret (.ref s.length) (s ++ [.lst ((edgesR n rs).map edV)]) := by
  obtain ⟨h1, h2, h3⟩ := hF
  obtain ⟨ck, hck⟩ := seq_push hx
  obtain ⟨f3, f4, L⟩ := l_steps_loop (s := s) (n := n) (e1 := some x) (ck := ck) (fun s2 => (hck s2).1) rs [] none none h3 (by rw [List.length_nil]; omega)
  have S := (hck [.lst []]).2 (dV 1) [some (.int n), some x, some (.ref s.length), none, none] rfl
  rw [List.nil_append] at L
  rw [List.map_nil] at L
  unfold b_l_steps
  simp only [e_seq, e_set, e_Lst, e_Nil, bind_ok, g_mkL_t, fl_ok, List.set, e_for, S, L, e_ret, e_V, List.getElem?_cons_zero, List.getElem?_cons_succ]
theorem fin_l_steps (args : List Va) (s : Sto) (wf : WFn s.length s) (wa : vasB s.length args) (hl : args.length = 2) : Fin s.length (b_l_steps (startA 5 args) s) (F_l_steps args s) := by
  unfold F_l_steps
  split
  · split
    · split
      · split
        · rename_i n x _ xs e1 _ rs e2 hc
          obtain ⟨h0, hF⟩ := hc
          rw [recsOf_eq e2] at e1
          obtain ⟨N, rfl⟩ := Int.eq_ofNat_of_zero_le h0
          rw [Int.toNat_natCast] at hF ⊢
          exact Fin.frzS (l_steps_run hF e1) rfl vasB_eds wf
        · exact .bad
      · exact .bad
    · exact .bad
  · exact .bad
/-! step by step -/
def edOf : Va → Option Edge
  | .tup [.int a, .int b, .int g] => if 0 ≤ a ∧ 0 ≤ b then some (a.toNat, b.toNat, g) else none
  | _ => none
theorem edOf_ed (e : Edge) : edOf (edV e) = some e := by
  obtain ⟨a, b, g⟩ := e
  show (if (0 : Int) ≤ (a : Nat) ∧ (0 : Int) ≤ (b : Nat) then some (((a : Nat) : Int).toNat, ((b : Nat) : Int).toNat, g) else none) = _
  rw [if_pos ⟨by omega, by omega⟩, Int.toNat_natCast, Int.toNat_natCast]
theorem edOf_eq {x : Va} {e : Edge} (h : edOf x = some e) : x = edV e := by
  unfold edOf at h
  split at h
  · split at h
    · rename_i hc
      cases h
      unfold edV
      rw [show ((Int.toNat _ : Nat) : Int) = _ from Int.toNat_of_nonneg hc.1, show ((Int.toNat _ : Nat) : Int) = _ from Int.toNat_of_nonneg hc.2]
    · cases h
  · cases h
def edsOf : List Va → Option (List Edge)
  | [] => some []
  | x :: xs => match edOf x, edsOf xs with
    | some e, some es => some (e :: es)
    | _, _ => none
theorem edsOf_map : ∀ E : List Edge, edsOf (E.map edV) = some E
  | [] => rfl
  | e :: E => by rw [List.map_cons, edsOf, edOf_ed, edsOf_map E]
theorem edsOf_eq : ∀ {xs : List Va} {E : List Edge}, edsOf xs = some E → xs = E.map edV
  | [], E, h => by
    cases h
    rfl
  | x :: xs, E, h => by
    unfold edsOf at h
    split at h
    · rename_i e es e1 e2
      cases h
      rw [List.map_cons, edOf_eq e1, edsOf_eq e2]
    · cases h
def rowD (n : Nat) (D : Fd) : List Va := (List.range (n + 1)).map fun i => oV (D i)
theorem rowD_len {n : Nat} {D : Fd} : (rowD n D).length = n + 1 := by
  unfold rowD
  rw [List.length_map, List.length_range]
theorem dget {s : Sto} {n i : Nat} {D : Fd} (h : i ≤ n) : gIx (.ref s.length) (.int i) (s ++ [.lst (rowD n D)]) = .ok (oV (D i)) (s ++ [.lst (rowD n D)]) := by
  rw [g_ix_ref (List.getElem?_concat_length), atI_in .non (by omega) (by rw [rowD_len]; omega)]
  dsimp only
  unfold rowD
  rw [Int.toNat_natCast, getD_map (fun i => oV (D i)) _ i 0 .non (by rw [List.length_range]; omega), List.getD_eq_getElem?_getD, List.getElem?_range (by omega)]
  rfl
theorem dset {s : Sto} {n i : Nat} {D : Fd} {v : Int} (h : i ≤ n) : gSetIx (.int v) (.ref s.length) (.int i) (s ++ [.lst (rowD n D)]) = some (s ++ [.lst (rowD n (setF D i v))]) := by
  rw [g_set_ref (List.getElem?_concat_length) (ixNin (by omega) (by rw [rowD_len]; omega)), Int.toNat_natCast, List.set_append_right _ _ (Nat.le_refl _), Nat.sub_self]
  show some (s ++ [Ob.lst ((rowD n D).set i (.int v))]) = _
  congr 4
  apply List.ext_getElem?
  intro m
  unfold rowD
  by_cases h4 : m = i
  · subst h4
    rw [List.getElem?_set_self (by rw [List.length_map, List.length_range]; omega), List.getElem?_map, List.getElem?_range (by omega)]
    show _ = some (oV (setF D m v m))
    rw [Dm.set_at]
    rfl
  · rw [List.getElem?_set_ne (Ne.symm h4), List.getElem?_map, List.getElem?_map]
    by_cases h5 : m < n + 1
    · rw [List.getElem?_range h5]
      show some (oV (D m)) = some (oV (setF D i v m))
      rw [Dm.set_ne h4]
    · rw [List.getElem?_eq_none (by rw [List.length_range]; omega)]
      rfl
noncomputable def farStep : DS := (sIf (dAnd (dTB (dBin (gIs true) (dBin gIx (dV 3) (dV 7)) (dC .non))) (dOr (dTB (dBin (gIs false) (dBin gIx (dV 3) (dV 8)) (dC .non))) (dTB (dBin gLt (dBin gIx (dV 3) (dV 8)) (dBin (gAdd false) (dBin gIx (dV 3) (dV 7)) (dV 9)))))) (sSeq (sSetIx (dV 3) (dV 8) (dBin (gAdd false) (dBin gIx (dV 3) (dV 7)) (dV 9)))
  (sSet 6 (dC (.bl true)))) sNext)
noncomputable def farTurn : DS := (sSeq (sSet 6 (dC (.bl false)))
  (sSeq (sFor (dSeq (dV 1)) (dgTup [7, 8, 9])
   farStep)
  (sIf (dNot (dTr (dV 6))) (sRet (dV 3)) sNext)))
noncomputable def b_l_far : DS := (sSeq (sSet 3 (dLc true (dRg1 (dCons (dBin (gAdd false) (dV 0) (dC (.int 1))) dNil)) (dgName 4) dYes (dBin gIx (dLst false (dCons (dC .non) (dCons (dC (.int 0)) dNil))) (dApp gInt (dCons (dBin (gIn false) (dV 4) (dV 2)) dNil))) [4]))
  (sSeq (sFor (dRg1 (dCons (dBin (gAdd false) (dV 0) (dC (.int 2))) dNil)) (dgName 5)
   farTurn)
  (sRet (dC .non))))
theorem far_step {s : Sto} {n : Nat} {S : Fd × Bool} {e : Edge} {e0 e1 e2 e4 e5 : Option Va} (h1 : e.1 ≤ n) (h2 : e.2.1 ≤ n) :
    farStep [e0, e1, e2, some (.ref s.length), e4, e5, some (.bl S.2), some (.int e.1), some (.int e.2.1), some (.int e.2.2)] (s ++ [.lst (rowD n S.1)]) = .nx [e0, e1, e2, some (.ref s.length), e4, e5, some (.bl (bfE S e).2), some (.int e.1), some (.int e.2.1), some (.int e.2.2)] (s ++ [.lst (rowD n (bfE S e).1)]) := by
  have g1 := dget (s := s) (D := S.1) h1
  have g2 := dget (s := s) (D := S.1) h2
  unfold farStep bfE
  cases p : S.1 e.1 with
  | none =>
    rw [p] at g1
    have z : oV none = .non := rfl
    rw [z] at g1
    simp [g1, gIs]
  | some v =>
    rw [p] at g1
    have z : oV (some v) = .int v := rfl
    rw [z] at g1
    have g3 := dset (s := s) (D := S.1) (v := v + e.2.2) h2
    cases q : S.1 e.2.1 with
    | none =>
      rw [q] at g2
      have z : oV none = .non := rfl
      rw [z] at g2
      simp [g1, g2, g3, gIs, ltO]
    | some u =>
      rw [q] at g2
      have z : oV (some u) = .int u := rfl
      rw [z] at g2
      by_cases hu : u < v + e.2.2
      · simp [g1, g2, g3, gIs, ltO, hu]
      · simp [g1, g2, gIs, ltO, hu]
theorem far_loop {s : Sto} {n : Nat} {e0 e1 e2 e4 e5 : Option Va} {ck : Option (Nat × Ob)} (hck : ∀ s2, okk ck (s ++ s2)) : ∀ (E : List Edge) (S : Fd × Bool) (e7 e8 e9 : Option Va), InN n E →
    ∃ f7 f8 f9, lp ck (fBody (dgTup [7, 8, 9]) farStep) (E.map edV) [e0, e1, e2, some (.ref s.length), e4, e5, some (.bl S.2), e7, e8, e9] (s ++ [.lst (rowD n S.1)]) = .nx [e0, e1, e2, some (.ref s.length), e4, e5, some (.bl (E.foldl bfE S).2), f7, f8, f9] (s ++ [.lst (rowD n (E.foldl bfE S).1)])
  | [], S, e7, e8, e9, _ => ⟨e7, e8, e9, by rw [List.map_nil, lp, if_pos (hck _)]; rfl⟩
  | e :: E, S, e7, e8, e9, h => by
    obtain ⟨f7, f8, f9, ih⟩ := far_loop (s := s) (e0 := e0) (e1 := e1) (e2 := e2) (e4 := e4) (e5 := e5) hck E (bfE S e) (some (.int e.1)) (some (.int e.2.1)) (some (.int e.2.2)) (fun a ha => h a (List.mem_cons_of_mem _ ha))
    obtain ⟨h1, h2⟩ := h e List.mem_cons_self
    refine ⟨f7, f8, f9, ?_⟩
    rw [List.map_cons, lp, if_pos (hck _)]
    have hb : fBody (dgTup [7, 8, 9]) farStep (edV e) [e0, e1, e2, some (.ref s.length), e4, e5, some (.bl S.2), e7, e8, e9] (s ++ [.lst (rowD n S.1)]) = _ := far_step (s := s) (S := S) (e0 := e0) (e1 := e1) (e2 := e2) (e4 := e4) (e5 := e5) h1 h2
    rw [hb]
    exact ih
/-- the turns; what each of them ends with -/
theorem far_turns {s : Sto} {n : Nat} {E : List Edge} {x e0 e2 : Va} {e4 : Option Va} (hE : InN n E) (hx : seqL x s = some (E.map edV)) : ∀ (l : List Va) (D : Fd) (e5 e6 e7 e8 e9 : Option Va),
    (∃ D', far E l.length D = some D' ∧ lp none (fBody (dgName 5) farTurn) l [some e0, some x, some e2, some (.ref s.length), e4, e5, e6, e7, e8, e9] (s ++ [.lst (rowD n D)]) = .ret (.ref s.length) (s ++ [.lst (rowD n D')]))
    ∨ (far E l.length D = none ∧ ∃ ε' D', lp none (fBody (dgName 5) farTurn) l [some e0, some x, some e2, some (.ref s.length), e4, e5, e6, e7, e8, e9] (s ++ [.lst (rowD n D)]) = .nx ε' (s ++ [.lst (rowD n D')]))
  | [], D, e5, e6, e7, e8, e9 => .inr ⟨rfl, _, D, lp_nil⟩
  | k :: l, D, e5, e6, e7, e8, e9 => by
    obtain ⟨ck, hck⟩ := seq_push hx
    obtain ⟨f7, f8, f9, L⟩ := far_loop (s := s) (n := n) (e0 := some e0) (e1 := some x) (e2 := some e2) (e4 := e4) (e5 := some k) (ck := ck) (fun s2 => (hck s2).1) E (D, false) e7 e8 e9 hE
    have S := (hck [.lst (rowD n D)]).2 (dV 1) [some e0, some x, some e2, some (.ref s.length), e4, some k, some (.bl false), e7, e8, e9] rfl
    have hr : bfRound E D = E.foldl bfE (D, false) := rfl
    rw [← hr] at L
    rw [lp_cons, List.length_cons, far]
    by_cases hb : (bfRound E D).2 = true
    · rw [if_pos hb]
      rw [hb] at L
      have T : fBody (dgName 5) farTurn k [some e0, some x, some e2, some (.ref s.length), e4, e5, e6, e7, e8, e9] (s ++ [.lst (rowD n D)]) = .nx [some e0, some x, some e2, some (.ref s.length), e4, some k, some (.bl true), f7, f8, f9] (s ++ [.lst (rowD n (bfRound E D).1)]) := by
        rw [e_fBody, e_dgName]
        unfold farTurn
        simp only [List.set, e_seq, e_set, e_C, fl_ok, e_for, S, L, e_ifS, e_Not, e_Tr, e_V, List.getElem?_cons_zero, List.getElem?_cons_succ, bind_ok, truA, Bool.not_true, Bool.false_eq_true, if_false, e_next]
      rw [T]
      exact far_turns hE hx l _ _ _ _ _ _
    · have hb2 : (bfRound E D).2 = false := by
        cases q : (bfRound E D).2 with
        | true => exact absurd q hb
        | false => rfl
      rw [if_neg hb]
      rw [hb2] at L
      have T : fBody (dgName 5) farTurn k [some e0, some x, some e2, some (.ref s.length), e4, e5, e6, e7, e8, e9] (s ++ [.lst (rowD n D)]) = .ret (.ref s.length) (s ++ [.lst (rowD n (bfRound E D).1)]) := by
        rw [e_fBody, e_dgName]
        unfold farTurn
        simp only [List.set, e_seq, e_set, e_C, fl_ok, e_for, S, L, e_ifS, e_Not, e_Tr, e_V, List.getElem?_cons_zero, List.getElem?_cons_succ, bind_ok, truA, Bool.not_false, if_true, e_ret]
      rw [T]
      exact .inl ⟨_, rfl, rfl⟩
def farV (n : Nat) : Option Fd → Va
  | some D => .lst (rowD n D)
  | none => .non
def FarIn (n : Nat) (E : List Edge) : Prop := n ≤ 1000 ∧ InN n E
noncomputable instance (n : Nat) (E : List Edge) : Decidable (FarIn n E) := Classical.propDecidable _
noncomputable def F_l_far (args : List Va) (s : Sto) : Rs Va := match args with
  | [.int n, x, .lst ys] => match seqL x s with
    | some xs => match edsOf xs, intsOf ys with
      | some E, some bs => if 0 ≤ n ∧ FarIn n.toNat E then .ok (farV n.toNat (far E (n.toNat + 2) (Dm.start fun i => (i : Int) ∈ bs))) s else .bad
      | _, _ => .bad
    | none => .bad
  | _ => .bad
theorem in_ints {i : Int} {bs : List Int} {s : Sto} : gIn false (.int i) (.lst (bs.map .int)) s = .ok (.bl (decide (i ∈ bs))) s := by
  unfold gIn
  have h1 : gLook (.lst (bs.map .int)) (.int i) s = none := rfl
  have h2 : seqA (.lst (bs.map .int)) s = some (bs.map .int) := rfl
  have h3 : (bs.map Va.int).all flatA = true := by
    rw [List.all_map, List.all_eq_true]
    exact fun _ _ => rfl
  have h4 : inA (.int i) (bs.map .int) = decide (i ∈ bs) := by
    unfold inA
    rw [List.any_map]
    by_cases h : i ∈ bs
    · rw [decide_eq_true h, List.any_eq_true]
      exact ⟨i, h, by simp [eqFA]⟩
    · rw [decide_eq_false h, List.any_eq_false]
      intro x hx q
      have q : (x == i) = true := q
      exact h (by rw [← eq_of_beq q]; exact hx)
  dsimp only
  rw [h1]
  dsimp only
  rw [h2]
  dsimp only
  rw [if_pos ⟨rfl, h3⟩, h4, Bool.false_bne]
theorem far_start {s : Sto} {n : Nat} {bs : List Int} {e1 e4 e5 e6 e7 e8 e9 : Option Va} (hn : n ≤ 1000) :
    dLc true (dRg1 (dCons (dBin (gAdd false) (dV 0) (dC (.int 1))) dNil)) (dgName 4) dYes (dBin gIx (dLst false (dCons (dC .non) (dCons (dC (.int 0)) dNil))) (dApp gInt (dCons (dBin (gIn false) (dV 4) (dV 2)) dNil))) [4] [some (.int n), e1, some (.lst (bs.map .int)), none, e4, e5, e6, e7, e8, e9] s = .ok (.ref s.length) (s ++ [.lst (rowD n (Dm.start fun i => (i : Int) ∈ bs))]) := by
  have hr : inR ((n : Int) + 1) := ⟨by omega, by omega⟩
  have hq : leq (rgA 0 ((n : Int) + 1)).length 100000 := by unfold leq; rw [rgA_len]; omega
  have L : cl none (dgName 4) dYes (dBin gIx (dLst false (dCons (dC .non) (dCons (dC (.int 0)) dNil))) (dApp gInt (dCons (dBin (gIn false) (dV 4) (dV 2)) dNil))) (wip [some (.int n), e1, some (.lst (bs.map .int)), none, e4, e5, e6, e7, e8, e9] [4]) (rgA 0 ((n : Int) + 1)) [] s = .ok ([] ++ rowD n (Dm.start fun i => (i : Int) ∈ bs)) s := by
    rw [rgA_nat]
    refine cl_all (fun i : Nat => Va.int i) (fun i => oV (Dm.start (fun i : Nat => (i : Int) ∈ bs) i)) _ [] fun i hi => ?_
    unfold Dm.start
    by_cases hb : (i : Int) ∈ bs
    · simp [wip, in_ints, hb, atI_1, oV]
    · simp [wip, in_ints, hb, atI_0, oV]
  rw [e_Lc, e_rg1, e_Cons, e_Bin, e_V]
  simp only [List.getElem?_cons_zero, bind_ok, e_C, g_add_int, e_Nil, hr, if_true, hq, L, g_mkL_t, List.nil_append]
theorem far_run {s : Sto} {n : Nat} {E : List Edge} {bs : List Int} {x : Va} (hn : n ≤ 1000) (hE : InN n E) (hx : seqL x s = some (E.map edV)) :
    (∃ D', far E (n + 2) (Dm.start fun i => (i : Int) ∈ bs) = some D' ∧ b_l_far [some (.int n), some x, some (.lst (bs.map .int)), none, none, none, none, none, none, none] s = .ret (.ref s.length) (s ++ [.lst (rowD n D')]))
    ∨ (far E (n + 2) (Dm.start fun i => (i : Int) ∈ bs) = none ∧ ∃ D', b_l_far [some (.int n), some x, some (.lst (bs.map .int)), none, none, none, none, none, none, none] s = .ret .non (s ++ [.lst (rowD n D')])) := by
  have M := far_start (s := s) (n := n) (bs := bs) (e1 := some x) (e4 := none) (e5 := none) (e6 := none) (e7 := none) (e8 := none) (e9 := none) hn
  have hr : inR ((n : Int) + 2) := ⟨by omega, by omega⟩
  have hlen : (rgA 0 ((n : Int) + 2)).length = n + 2 := by rw [rgA_len]; omega
  have T := far_turns (s := s) (n := n) (E := E) (x := x) (e0 := .int n) (e2 := .lst (bs.map .int)) (e4 := none) hE hx (rgA 0 ((n : Int) + 2)) (Dm.start fun i => (i : Int) ∈ bs) none none none none none
  rw [hlen] at T
  rcases T with ⟨D', h1, h2⟩ | ⟨h1, ε', D', h2⟩
  · refine .inl ⟨D', h1, ?_⟩
    unfold b_l_far
    rw [e_seq, e_set, M]
    simp only [fl_ok, List.set, e_seq, e_for, e_rg1, e_Cons, e_Bin, e_V, List.getElem?_cons_zero, List.getElem?_cons_succ, bind_ok, e_C, g_add_int, e_Nil, hr, if_true, h2]
  · refine .inr ⟨h1, D', ?_⟩
    unfold b_l_far
    rw [e_seq, e_set, M]
    simp only [fl_ok, List.set, e_seq, e_for, e_rg1, e_Cons, e_Bin, e_V, List.getElem?_cons_zero, List.getElem?_cons_succ, bind_ok, e_C, g_add_int, e_Nil, hr, if_true, h2, e_ret]
theorem vasB_rowD {k n : Nat} {D : Fd} : vasB k (rowD n D) := by
  unfold rowD
  generalize List.range (n + 1) = l
  induction l with
  | nil => trivial
  | cons a l ih => exact ⟨vaB_oV _, ih⟩
theorem fin_l_far (args : List Va) (s : Sto) (wf : WFn s.length s) (wa : vasB s.length args) (hl : args.length = 3) : Fin s.length (b_l_far (startA 10 args) s) (F_l_far args s) := by
  unfold F_l_far
  split
  · split
    · split
      · split
        · rename_i n x ys _ xs e1 _ _ E bs e2 e3 hc
          obtain ⟨h0, hF⟩ := hc
          rw [edsOf_eq e2] at e1
          have e4 := intsOf_eq e3
          subst e4
          obtain ⟨N, rfl⟩ := Int.eq_ofNat_of_zero_le h0
          rw [Int.toNat_natCast] at hF ⊢
          rcases far_run (bs := bs) hF.1 hF.2 e1 with ⟨D', h1, h2⟩ | ⟨h1, D', h2⟩
          · rw [h1]
            exact Fin.frzS h2 rfl vasB_rowD wf
          · rw [h1]
            exact Fin.cut h2 (List.take_left' rfl) trivial wf
        · exact .bad
      · exact .bad
    · exact .bad
  · exact .bad
end Dn

set_option Elab.async false
set_option linter.all false
set_option maxRecDepth 100000
set_option maxHeartbeats 1000000
/-! Dn, sorted of whole numbers. -/
namespace Dn
open PySem PySem.Spec PyProof.Rows L2
section
variable {X : Cx} {CL : Cls0} {W : WX} {k : Nat} {e : Expr} {dr : DA} {p pos : Pos}
end
end Dn

set_option Elab.async false
set_option linter.all false
set_option maxRecDepth 100000
set_option maxHeartbeats 4000000
/-! Dn, part X: the law's holds; knots. -/
namespace Dn
open PySem PySem.Spec PyProof.Rows L2
open Dm (Edge Tb fw InN Calm Holds Fd far)
noncomputable def F_l_holds (args : List Va) (s : Sto) : Rs Va := match args with
  | [.int n, x] => match seqL x s with
    | some xs => match recsOf xs with
      | some rs => if 0 ≤ n ∧ Fits n.toNat rs then .ok (.bl (holdB n.toNat rs)) s else .bad
      | none => .bad
    | none => .bad
  | _ => .bad
noncomputable def b_l_holds : DS := (sRet (dBin (gIs true) (dApp (gFn 3 F_l_far) (dCons (dV 0) (dCons (dApp (gFn 2 F_l_steps) (dCons (dV 0) (dCons (dV 1) dNil))) (dCons (dLstRg1 false (dBin (gAdd false) (dV 0) (dC (.int 1)))) dNil)))) (dC .non)))
def allN (n : Nat) : List Int := (List.range (n + 1)).map fun i : Nat => (i : Int)
theorem rg_all {n : Nat} : rgA 0 ((n : Int) + 1) = (allN n).map .int := by
  rw [rgA_nat]
  unfold allN
  rw [List.map_map]
  rfl
theorem start_all {n : Nat} : (Dm.start fun i => (i : Int) ∈ allN n) = Dm.start fun i => i ≤ n := by
  funext i
  unfold Dm.start
  have h : ((i : Int) ∈ allN n) ↔ i ≤ n := by
    unfold allN
    rw [List.mem_map]
    constructor
    · intro ⟨j, h1, h2⟩
      have := List.mem_range.mp h1
      omega
    · intro h
      exact ⟨i, List.mem_range.mpr (by omega), rfl⟩
  by_cases q : i ≤ n
  · rw [if_pos q, if_pos (h.mpr q)]
  · rw [if_neg q, if_neg (fun z => q (h.mp z))]
theorem l_steps_eq {n : Nat} {rs : List Rec} {x : Va} {s : Sto} (hF : Fits n rs) (hx : seqL x s = some (rs.map Rec.va)) : F_l_steps [.int n, x] s = .ok (.lst ((edgesR n rs).map edV)) s := by
  unfold F_l_steps
  simp only [hx, recsOf_map]
  rw [if_pos ⟨by omega, by rw [Int.toNat_natCast]; exact hF⟩, Int.toNat_natCast]
theorem l_far_eq {n : Nat} {E : List Edge} {x : Va} {bs : List Int} {s : Sto} (hn : n ≤ 1000) (hE : InN n E) (hx : seqL x s = some (E.map edV)) : F_l_far [.int n, x, .lst (bs.map .int)] s = .ok (farV n (far E (n + 2) (Dm.start fun i => (i : Int) ∈ bs))) s := by
  unfold F_l_far
  simp only [hx, edsOf_map, intsOf_map]
  rw [if_pos ⟨by omega, by rw [Int.toNat_natCast]; exact ⟨hn, hE⟩⟩, Int.toNat_natCast]
theorem is_farV {n : Nat} {o : Option Fd} {s : Sto} : gIs true (farV n o) .non s = .ok (.bl o.isSome) s := by
  cases o <;> simp [farV, gIs]
theorem hold_far {n : Nat} {rs : List Rec} (h : ∀ r ∈ rs, r.fits n) : (far (edgesR n rs) (n + 2) (Dm.start fun i => (i : Int) ∈ allN n)).isSome = holdB n rs := by
  rw [start_all]
  have h1 := Dm.far_holds (edgesR_in h)
  have h2 := holdB_iff h
  cases e : holdB n rs with
  | true => exact h1.mpr (h2.mp e)
  | false =>
    cases q : (far (edgesR n rs) (n + 2) (Dm.start fun i => i ≤ n)).isSome with
    | false => rfl
    | true =>
      have := h2.mpr (h1.mp q)
      rw [e] at this
      cases this
theorem l_holds_run {n : Nat} {rs : List Rec} {x : Va} {s : Sto} (hF : Fits n rs) (hx : seqL x s = some (rs.map Rec.va)) : b_l_holds [some (.int n), some x] s = .ret (.bl (holdB n rs)) s := by
  have h1 := l_steps_eq hF hx
  have h2 := l_far_eq (s := s) (bs := allN n) (x := .lst ((edgesR n rs).map edV)) hF.1 (edgesR_in hF.2.2) rfl
  have hg : gRg false 0 ((n : Int) + 1) s = .ok (.lst ((allN n).map .int)) s := by
    unfold gRg
    have hn := hF.1
    have hr : inR ((n : Int) + 1) := ⟨by omega, by omega⟩
    have hr0 : inR 0 := ⟨by decide, by decide⟩
    have hq : leq ((n : Int) + 1 - 0).toNat 100000 := by unfold leq; omega
    rw [if_pos ⟨hr0, hr, hq⟩, rg_all]
    rfl
  unfold b_l_holds
  simp only [e_ret, e_Bin, e_App, e_Cons, e_V, List.getElem?_cons_zero, List.getElem?_cons_succ, bind_ok, e_Nil, gFn, List.length_cons, List.length_nil, if_true, h1, e_LstRg1, e_C, g_add_int, hg, h2, is_farV, fl_ok, hold_far hF.2.2]
theorem fin_l_holds (args : List Va) (s : Sto) (wf : WFn s.length s) (wa : vasB s.length args) (hl : args.length = 2) : Fin s.length (b_l_holds (startA 2 args) s) (F_l_holds args s) := by
  unfold F_l_holds
  split
  · split
    · split
      · split
        · rename_i n x _ xs e1 _ rs e2 hc
          obtain ⟨h0, hF⟩ := hc
          rw [recsOf_eq e2] at e1
          obtain ⟨N, rfl⟩ := Int.eq_ofNat_of_zero_le h0
          rw [Int.toNat_natCast] at hF ⊢
          exact Fin.ret1 (l_holds_run hF e1) trivial wf
        · exact .bad
      · exact .bad
    · exact .bad
  · exact .bad
/-! knots -/
def natsV (l : List Nat) : List Va := l.map fun i => Va.int (i : Nat)
theorem seqA_L {x : Va} {xs : List Va} {s : Sto} (h : seqL x s = some xs) : seqA x s = some xs := by
  cases x with
  | lst ys => exact h
  | ref i => exact h
  | _ => simp [seqL] at h
theorem rgA_nat0 {n : Nat} : rgA 0 (n : Int) = natsV (List.range n) := by
  unfold rgA natsV
  rw [Int.sub_zero, Int.toNat_natCast]
  apply List.map_congr_left
  intro i _
  rw [Int.zero_add]
/-! what a knot is -/
end Dn

set_option Elab.async false
set_option linter.all false
set_option maxRecDepth 100000
set_option maxHeartbeats 4000000
/-! Dn, part Y: lists of whole numbers compared; what a knot is. -/
namespace Dn
open PySem PySem.Spec PyProof.Rows L2
theorem seq_lst {de : DE} {ε : En} {s : Sto} {xs : List Va} (h : de ε s = .ok (.lst xs) s) : dSeq de ε s = .ok (none, xs) s := by
  unfold dSeq
  rw [h]
  rfl
structure IsK (n : Nat) (rs : List Rec) (ys : List Va) (l : List Nat) : Prop where
  fits : Fits n rs
  nats : ys = natsV l
  asc : l.Pairwise (· < ·)
  lo : ∀ i ∈ l, i < rs.length
noncomputable instance (n : Nat) (rs : List Rec) (ys : List Va) (l : List Nat) : Decidable (IsK n rs ys l) := Classical.propDecidable _
theorem l_hold_eq {n : Nat} {rs : List Rec} {x : Va} {s : Sto} (hF : Fits n rs) (hx : seqL x s = some (rs.map Rec.va)) : F_l_holds [.int n, x] s = .ok (.bl (holdB n rs)) s := by
  unfold F_l_holds
  simp only [hx, recsOf_map]
  rw [if_pos ⟨by omega, by rw [Int.toNat_natCast]; exact hF⟩, Int.toNat_natCast]
end Dn

set_option Elab.async false
set_option linter.all false
set_option maxRecDepth 100000
set_option maxHeartbeats 4000000
/-! Dn, part Z: the law's years and kept records: a stream and one new list. -/
namespace Dn
open PySem PySem.Spec PyProof.Rows L2
/-- the store with the stream at a and a new list behind -/
def Yst (s : Sto) (a : Nat) (t : Stm) (xs : List Va) : Sto := s.set a t.ob ++ [.lst xs]
section
variable {s : Sto} {a : Nat} {t : Stm} {xs : List Va}
theorem Yst_at (la : a < s.length) : stAt (Yst s a t xs) a = some t := by
  refine stAt_of ?_
  unfold Yst
  rw [List.getElem?_append_left (by rw [List.length_set]; exact la), List.getElem?_set_self la]
theorem Yst_top : (Yst s a t xs)[s.length]? = some (.lst xs) := by
  unfold Yst
  rw [show s.length = (s.set a t.ob).length by rw [List.length_set]]
  exact List.getElem?_concat_length
theorem Yst_set {u : Stm} (la : a < s.length) : (Yst s a t xs).set a u.ob = Yst s a u xs := by
  unfold Yst
  rw [List.set_append_left _ _ (by rw [List.length_set]; exact la), List.set_set]
theorem drawY {m : Int} (la : a < s.length) (h1 : 0 < m) (h2 : m < 1073741824) : F_l_draw [.ref a, .int m] (Yst s a t xs) = .ok (.int (t.draw m).1) (Yst s a (t.draw m).2 xs) := by
  rw [draw_eq (Yst_at la) h1 h2, Yst_set la]
theorem pickY (la : a < s.length) (h1 : 0 < xs.length) (h2 : xs.length < 1073741824) : F_l_pick [.ref a, .ref s.length] (Yst s a t xs) = .ok (xs.getD (t.draw xs.length).1.toNat .non) (Yst s a (t.draw xs.length).2 xs) := by
  unfold F_l_pick
  simp only [Yst_at la, Yst_top]
  rw [if_pos ⟨h1, h2, by omega⟩, Yst_set la]
theorem appY {x : Va} (h : xs.length ≤ 1000000) : gAppend (.ref s.length) [x] (Yst s a t xs) = .ok .non (Yst s a t (xs ++ [x])) := by
  unfold gAppend
  have hq : leq xs.length 1000000 := h
  simp only [Yst_top, hq, if_true]
  unfold Yst
  rw [List.set_append_right _ _ (by rw [List.length_set]; exact Nat.le_refl _), List.length_set, Nat.sub_self]
  rfl
theorem isLY : isL (.ref s.length) (Yst s a t xs) = true := by
  unfold isL seqL
  simp only [Yst_top]
  rfl
end
noncomputable def yearBody : DS := (sIf (dAnd (dTr (dV 3)) (dTB (dBin (gEq false) (dApp (gFn 2 F_l_draw) (dCons (dV 0) (dCons (dC (.int 6)) dNil))) (dC (.int 0))))) (sDrop (dMt gAppend (dV 3) (dCons (dApp (gFn 2 F_l_pick) (dCons (dV 0) (dCons (dV 3) dNil))) dNil))) (sDrop (dMt gAppend (dV 3) (dCons (dBin gSub (dApp (gFn 2 F_l_draw) (dCons (dV 0) (dCons (dBin (gAdd false) (dBin (gMul false) (dC (.int 2)) (dV 2)) (dC (.int 1))) dNil))) (dV 2)) dNil))))
noncomputable def b_l_years : DS := (sSeq (sSet 2 (dApp (gFn 2 F_l_pick) (dCons (dV 0) (dCons (dLst false (dCons (dC (.int 20)) (dCons (dC (.int 300)) (dCons (dC (.int 15000)) dNil)))) dNil))))
  (sSeq (sSet 3 (dLst true dNil))
  (sSeq (sFor (dRg1 (dCons (dV 1) dNil)) (dgName 4)
   yearBody)
  (sRet (dV 3)))))
theorem truY {s : Sto} {a : Nat} {t : Stm} {xs : List Va} : truA (.ref s.length) (Yst s a t xs) = some (!xs.isEmpty) := by
  unfold truA
  have h : seqA (.ref s.length) (Yst s a t xs) = some xs := by
    unfold seqA
    simp only [Yst_top]
  simp only [h]
theorem year_turn {s : Sto} {a : Nat} {t : Stm} {ys : List Int} {w : Int} {e1 e4 : Option Va} (la : a < s.length) (hw : 0 < w ∧ w ≤ 20000) (hn : ys.length ≤ 1000) :
    ∃ (y : Int) (u : Stm), yearBody [some (.ref a), e1, some (.int w), some (.ref s.length), e4] (Yst s a t (ys.map .int)) = .nx [some (.ref a), e1, some (.int w), some (.ref s.length), e4] (Yst s a u ((ys ++ [y]).map .int)) := by
  have ln : (ys.map Va.int).length = ys.length := List.length_map ..
  have ap : ∀ (u : Stm) (y : Int), gAppend (.ref s.length) [.int y] (Yst s a u (ys.map .int)) = .ok .non (Yst s a u ((ys ++ [y]).map .int)) := fun u y => by
    rw [appY (by omega), List.map_append]
    rfl
  have d6 := drawY (t := t) (xs := ys.map .int) (m := 6) la (by decide) (by decide)
  have hm := (@cmul_l 2 w (by omega))
  cases ys with
  | nil =>
    have dw := drawY (t := t) (xs := []) (m := 2 * w + 1) la (by omega) (by omega)
    refine ⟨(t.draw (2 * w + 1)).1 - w, (t.draw (2 * w + 1)).2, ?_⟩
    have tr := truY (s := s) (a := a) (t := t) (xs := [])
    have ap := ap (t.draw (2 * w + 1)).2 ((t.draw (2 * w + 1)).1 - w)
    have il := isLY (s := s) (a := a) (t := t) (xs := [])
    unfold yearBody
    simp only [List.map_nil] at ap ⊢
    simp [tr, dw, il, ap, hm]
  | cons y0 r =>
    have tr := truY (s := s) (a := a) (t := t) (xs := (y0 :: r).map .int)
    have tr2 : truA (.ref s.length) (Yst s a t ((y0 :: r).map .int)) = some true := by rw [tr]; rfl
    have il := isLY (s := s) (a := a) (t := t) (xs := (y0 :: r).map .int)
    have il2 := isLY (s := s) (a := a) (t := (t.draw 6).2) (xs := (y0 :: r).map .int)
    by_cases h0 : (t.draw 6).1 = 0
    · have pk := pickY (t := (t.draw 6).2) (xs := (y0 :: r).map .int) la (by rw [ln]; simp) (by rw [ln]; omega)
      have hi := (t.draw 6).2.draw_in (m := (((y0 :: r).map Va.int).length : Int)) (by rw [ln]; simp)
      rw [getD_map Va.int (y0 :: r) _ 0 .non (by have g1 := hi.1; have g2 := hi.2; rw [← ln]; omega)] at pk
      have ap := ap ((t.draw 6).2.draw (((y0 :: r).map Va.int).length : Int)).2 ((y0 :: r).getD ((t.draw 6).2.draw (((y0 :: r).map Va.int).length : Int)).1.toNat 0)
      refine ⟨(y0 :: r).getD ((t.draw 6).2.draw (((y0 :: r).map Va.int).length : Int)).1.toNat 0, ((t.draw 6).2.draw (((y0 :: r).map Va.int).length : Int)).2, ?_⟩
      unfold yearBody
      generalize (y0 :: r).map Va.int = V at d6 tr2 il il2 pk ap ⊢
      simp [tr2, d6, h0, il2, pk, ap, -List.getD_eq_getElem?_getD, -List.map_cons, -List.map_append, -List.cons_append]
    · have dw := drawY (t := (t.draw 6).2) (xs := (y0 :: r).map .int) (m := 2 * w + 1) la (by omega) (by omega)
      have ap := ap ((t.draw 6).2.draw (2 * w + 1)).2 (((t.draw 6).2.draw (2 * w + 1)).1 - w)
      refine ⟨((t.draw 6).2.draw (2 * w + 1)).1 - w, ((t.draw 6).2.draw (2 * w + 1)).2, ?_⟩
      unfold yearBody
      generalize (y0 :: r).map Va.int = V at d6 tr2 il il2 dw ap ⊢
      simp [tr2, d6, h0, il2, dw, hm, ap, -List.getD_eq_getElem?_getD, -List.map_cons, -List.map_append, -List.cons_append]
theorem year_loop {s : Sto} {a : Nat} {w : Int} {e1 : Option Va} (la : a < s.length) (hw : 0 < w ∧ w ≤ 20000) : ∀ (l : List Va) (t : Stm) (ys : List Int) (e4 : Option Va), ys.length + l.length ≤ 1000 →
    ∃ (zs : List Int) (u : Stm) (f4 : Option Va), lp none (fBody (dgName 4) yearBody) l [some (.ref a), e1, some (.int w), some (.ref s.length), e4] (Yst s a t (ys.map .int)) = .nx [some (.ref a), e1, some (.int w), some (.ref s.length), f4] (Yst s a u (zs.map .int)) ∧ zs.length = ys.length + l.length
  | [], t, ys, e4, _ => ⟨ys, t, e4, lp_nil, rfl⟩
  | k :: l, t, ys, e4, h => by
    rw [List.length_cons] at h
    obtain ⟨y, u, hb⟩ := year_turn (t := t) (ys := ys) (e1 := e1) (e4 := some k) la hw (by omega)
    obtain ⟨zs, u2, f4, ih, hz⟩ := year_loop (e1 := e1) la hw l u (ys ++ [y]) (some k) (by rw [List.length_append, List.length_singleton]; omega)
    refine ⟨zs, u2, f4, ?_, by rw [hz, List.length_append, List.length_singleton, List.length_cons]; omega⟩
    rw [lp_cons]
    have hb2 : fBody (dgName 4) yearBody k [some (.ref a), e1, some (.int w), some (.ref s.length), e4] (Yst s a t (ys.map .int)) = _ := hb
    rw [hb2]
    exact ih
def P_years (args : List Va) (s : Sto) (r : Rs Va) : Prop := ∃ (a n : Nat) (ys : List Int) (u : Stm), args = [.ref a, .int n] ∧ r = .ok (.lst (ys.map .int)) (s.set a u.ob) ∧ ys.length = n
noncomputable def F_l_years : List Va → Sto → Rs Va := mir 5 b_l_years P_years
theorem years_eq {s : Sto} {a n : Nat} {t : Stm} (wf : WFn s.length s) (h : stAt s a = some t) (hn : n ≤ 1000) : ∃ (ys : List Int) (u : Stm), F_l_years [.ref a, .int n] s = .ok (.lst (ys.map .int)) (s.set a u.ob) ∧ ys.length = n := by
  have la := stAt_lt h
  have hd := t.draw_in (m := 3) (by decide)
  have pk := pick_eq (xs := [Va.int 20, .int 300, .int 15000]) h (show 0 < 3 by decide) (show 3 < 1073741824 by decide)
  have hw : ∃ w : Int, [Va.int 20, .int 300, .int 15000].getD (t.draw 3).1.toNat .non = .int w ∧ 0 < w ∧ w ≤ 20000 := by
    have hm := getD_mem (xs := [Va.int 20, .int 300, .int 15000]) (d := .non) (show (t.draw 3).1.toNat < 3 by omega)
    simp only [List.mem_cons, List.not_mem_nil, or_false] at hm
    rcases hm with hm | hm | hm <;> exact ⟨_, hm, by decide, by decide⟩
  obtain ⟨w, hw1, hw2⟩ := hw
  have pk : F_l_pick [.ref a, .lst [Va.int 20, .int 300, .int 15000]] s = .ok (.int w) (s.set a (t.draw 3).2.ob) := by
    rw [← hw1]
    exact pk
  obtain ⟨zs, u, f4, L, hz⟩ := year_loop (s := s) (a := a) (w := w) (e1 := some (.int n)) la hw2 (rgA 0 (n : Int)) (t.draw 3).2 [] none (by rw [rgA_len, List.length_nil]; omega)
  have hr : inR (n : Int) := ⟨by omega, by omega⟩
  have hlen : (s.set a (t.draw 3).2.ob).length = s.length := List.length_set
  have e : b_l_years (startA 5 [.ref a, .int n]) s = .ret (.ref s.length) (s.set a u.ob ++ [.lst (zs.map .int)]) := by
    have e0 : startA 5 [.ref a, .int n] = [some (.ref a), some (.int n), none, none, none] := rfl
    rw [e0]
    unfold b_l_years
    have L2 : lp none (fBody (dgName 4) yearBody) (rgA 0 (n : Int)) [some (.ref a), some (.int n), some (.int w), some (.ref s.length), none] (s.set a (t.draw 3).2.ob ++ [.lst []]) = _ := L
    simp only [e_seq, e_set, e_App, e_Cons, e_Nil, e_Lst, e_C, e_V, List.set, List.getElem?_cons_zero, List.getElem?_cons_succ, bind_ok, g_mkL_f, gFn, List.length_cons, List.length_nil, if_true, pk, fl_ok, g_mkL_t, hlen, e_for, e_rg1, hr, L2, e_ret]
    rfl
  have hf : Fin s.length (b_l_years (startA 5 [.ref a, .int n]) s) (.ok (.lst (zs.map .int)) (s.set a u.ob)) := Fin.frzS e List.length_set vasB_ints (wf_set wf (Stm.b _ _))
  have hP := mir_p (P := P_years) ⟨a, n, zs, u, rfl, rfl, by rw [hz, List.length_nil, rgA_len]; omega⟩ hf
  obtain ⟨a', n', ys, u', h1, h2, h3⟩ := hP
  injection h1 with h4 h5
  injection h4 with h4
  injection h5 with h5 _
  injection h5 with h5
  subst h4
  have h5 : (n : Int) = n' := h5
  exact ⟨ys, u', h2, by omega⟩
theorem fin_l_years (args : List Va) (s : Sto) (wf : WFn s.length s) (wa : vasB s.length args) (hl : args.length = 2) : Fin s.length (b_l_years (startA 5 args) s) (F_l_years args s) := fin_mir args s
end Dn

set_option Elab.async false
set_option linter.all false
set_option maxRecDepth 100000
set_option maxHeartbeats 4000000
/-! k03: the law. -/
namespace Dn
open PySem PySem.Spec PyProof.Rows L2
theorem other_in {t : Stm} {n a : Int} (h : 1 ≤ n) : 0 ≤ (otherM t n a).1 ∧ (otherM t n a).1 < n := ⟨Int.emod_nonneg _ (by omega), Int.emod_lt_of_pos _ (by omega)⟩
theorem set_self {s : Sto} {a : Nat} {t : Stm} (h : stAt s a = some t) : s = s.set a t.ob := (set_same (stAt_get h)).symm
theorem ixN_in {n : Nat} {i : Int} (h0 : 0 ≤ i) (h1 : i < n) : ixN n i = some i.toNat := by
  unfold ixN
  rw [if_pos h0, if_pos (by omega)]
theorem set_yr {s : Sto} {m : Nat} {ys : List Int} {a v : Int} (hm : s[m]? = some (.lst (ys.map .int))) (h0 : 0 ≤ a) (h1 : a < ys.length) : gSetIx (.int v) (.ref m) (.int a) s = some (s.set m (.lst ((ys.set a.toNat v).map .int))) := by
  rw [g_set_ref hm (ixN_in h0 (by rw [List.length_map]; exact h1)), List.map_set]
theorem keeps_eq {r : Rec} {d : Va} {ys : List Int} {s : Sto} (h : seqL d s = some (ys.map .int)) (hf : r.fits ys.length) : F_keeps [r.va, d] s = .ok (.bl (r.keeps ys)) s := by
  unfold F_keeps
  simp only [recOf_va, h, intsOf_map]
  rw [if_pos hf]
/-- what a law answers that holds at every script -/
noncomputable def F_yes (args : List Va) (s : Sto) : Rs Va := match args with
  | [.ext xs] => match intsOf xs, s with
    | some _, [] => .ok (.bl true) []
    | _, _ => .bad
  | _ => .bad
theorem F_yes_eq {ns : List Int} : F_yes [.ext (ns.map .int)] [] = .ok (.bl true) [] := by
  unfold F_yes
  dsimp only
  rw [intsOf_map]
theorem Fin.yes {raw : Fl} {s0 : Sto} (h : raw = .ret (.bl true) s0) : Fin 0 raw (.ok (.bl true) []) := by
  have := Fin.ok (n := 0) (raw := raw) (v := .bl true) (.inl h) (.same _ _) trivial (fun o ho => by rw [List.take_zero] at ho; cases ho)
  rw [List.take_zero] at this
  exact this
end Dn

set_option Elab.async false
set_option linter.all false
set_option maxRecDepth 100000
set_option maxHeartbeats 4000000
/-! Dn, part Za: kept records. -/
namespace Dn
open PySem PySem.Spec PyProof.Rows L2
noncomputable def b_l_kept_record : DS := (sSeq (sSet 3 (dApp gLen (dCons (dV 1) dNil)))
  (sSeq (sSet 4 (dApp (gFn 2 F_l_draw) (dCons (dV 0) (dCons (dV 3) dNil))))
  (sSeq (sSet 5 (dApp (gFn 2 F_l_pick) (dCons (dV 0) (dCons (dLst false (dCons (dC (.int 0)) (dCons (dC (.int 0)) (dCons (dC (.int 1)) (dCons (dApp (gFn 2 F_l_draw) (dCons (dV 0) (dCons (dC (.int 30)) dNil))) (dCons (dApp (gFn 2 F_l_draw) (dCons (dV 0) (dCons (dC (.int 3000)) dNil))) dNil)))))) dNil))))
  (sSeq (sIf (dTB (dBin (gEq false) (dV 2) (dC (.str "since")))) (sRet (dLst false (dCons (dTup (dCons (dC (.str "since")) (dCons (dV 4) (dCons (dApp gMax2 (dCons (dUn gNeg (dC (.int 20000))) (dCons (dBin gSub (dBin gIx (dV 1) (dV 4)) (dV 5)) dNil))) (dCons (dBin (gAdd false) (dC (.int 1)) (dApp (gFn 2 F_l_draw) (dCons (dV 0) (dCons (dC (.int 100)) dNil)))) dNil))))) dNil))) sNext)
  (sSeq (sIf (dTB (dBin (gEq false) (dV 2) (dC (.str "until")))) (sRet (dLst false (dCons (dTup (dCons (dC (.str "until")) (dCons (dV 4) (dCons (dApp gMin2 (dCons (dC (.int 20000)) (dCons (dBin (gAdd false) (dBin gIx (dV 1) (dV 4)) (dV 5)) dNil))) (dCons (dBin (gAdd false) (dC (.int 1)) (dApp (gFn 2 F_l_draw) (dCons (dV 0) (dCons (dC (.int 100)) dNil)))) dNil))))) dNil))) sNext)
  (sSeq (sIf (dOr (dTB (dBin (gEq false) (dV 2) (dC (.str "kind")))) (dTB (dBin (gEq false) (dV 3) (dC (.int 1))))) (sRet (dLst false (dCons (dTup (dCons (dC (.str "kind")) (dCons (dV 4) (dCons (dApp (gFn 2 F_l_pick) (dCons (dV 0) (dCons (dLst false (dCons (dC (.str "a")) (dCons (dC (.str "b")) (dCons (dC (.str "c")) dNil)))) dNil))) dNil)))) dNil))) sNext)
  (sSeq (sSet 6 (dApp (gFn 3 F_l_other) (dCons (dV 0) (dCons (dV 3) (dCons (dV 4) dNil)))))
  (sSeq (sIf (dTB (dBin (gEq false) (dV 2) (dC (.str "same")))) (sRet (dIf (dTB (dBin (gEq false) (dBin gIx (dV 1) (dV 4)) (dBin gIx (dV 1) (dV 6)))) (dLst false (dCons (dTup (dCons (dC (.str "same")) (dCons (dV 4) (dCons (dV 6) dNil)))) dNil)) (dLst false dNil))) sNext)
  (sSeq (sIf (dTB (dBin (gEq false) (dV 2) (dC (.str "within")))) (sSeq (sSet 7 (dApp gMax2 (dCons (dC (.int 0)) (dCons (dBin (gAdd false) (dBin gSub (dBin gIx (dV 1) (dV 6)) (dBin gIx (dV 1) (dV 4))) (dV 5)) dNil))))
  (sRet (dIf (dTB (dBin gLe (dV 7) (dC (.int 5000)))) (dLst false (dCons (dTup (dCons (dC (.str "within")) (dCons (dV 4) (dCons (dV 6) (dCons (dV 7) dNil))))) dNil)) (dLst false dNil)))) sNext)
  (sSeq (sIf (dTB (dBin gGt (dBin gIx (dV 1) (dV 4)) (dBin gIx (dV 1) (dV 6)))) (sPar 4 6 (dCons (dV 6) (dCons (dV 4) dNil))) sNext)
  (sRet (dLst false (dCons (dTup (dCons (dC (.str "before")) (dCons (dV 4) (dCons (dV 6) (dCons (dApp gMin2 (dCons (dC (.int 5000)) (dCons (dApp gMax2 (dCons (dC (.int 0)) (dCons (dBin gSub (dBin gSub (dBin gIx (dV 1) (dV 6)) (dBin gIx (dV 1) (dV 4))) (dV 5)) dNil))) dNil))) dNil))))) dNil)))))))))))))
/-- kept by the years, narrowly or not; with the word that was asked -/
def Rec.kept (ys : List Int) (w : Str) : Rec → Prop
  | .since _ _ z => w = "since" ∧ 1 ≤ z ∧ z ≤ 100
  | .upto _ _ z => w = "until" ∧ 1 ≤ z ∧ z ≤ 100
  | .before a b g => (0 ≤ g ∧ g ≤ 5000) ∧ yr ys a + g ≤ yr ys b
  | .same a b => yr ys a = yr ys b
  | .within a b g => (0 ≤ g ∧ g ≤ 5000) ∧ yr ys b ≤ yr ys a + g
  | .kind _ k => k ∈ kindNames ∧ (w = "kind" ∨ ys.length = 1)
/-- what is told: a list of at most one record that fits, and the stream goes on -/
def P_kept (args : List Va) (s : Sto) (r : Rs Va) : Prop := ∃ (a : Nat) (ys : List Int) (w : Str) (rs : List Rec) (u : Stm), args = [.ref a, .lst (ys.map .int), .str w] ∧ r = .ok (.lst (rs.map Rec.va)) (s.set a u.ob) ∧ rs.length ≤ 1 ∧ ∀ r ∈ rs, r.fits ys.length ∧ r.kept ys w
noncomputable def F_l_kept_record : List Va → Sto → Rs Va := mir 8 b_l_kept_record P_kept
@[simp] theorem g_max2 {i j : Int} {s : Sto} : gMax2 [.int i, .int j] s = .ok (.int (if j > i then j else i)) s := rfl
@[simp] theorem g_min2 {i j : Int} {s : Sto} : gMin2 [.int i, .int j] s = .ok (.int (if j < i then j else i)) s := rfl
section
variable {s : Sto} {a : Nat}
theorem yr_at {ys : List Int} {i : Int} {s : Sto} (h : 0 ≤ i ∧ i < ys.length) : gIx (.lst (ys.map .int)) (.int i) s = .ok (.int (yr ys i)) s := ix_yr (d := .lst (ys.map .int)) rfl h.1 h.2
theorem pick_strs {t : Stm} {p q r : Str} (la : a < s.length) : F_l_pick [.ref a, .lst [.str p, .str q, .str r]] (s.set a t.ob) = .ok (.str ([p, q, r].getD (t.draw 3).1.toNat "")) (s.set a (t.draw 3).2.ob) := by
  have h := pick_eq (xs := [Va.str p, .str q, .str r]) (stAt_put (t := t) la) (show 0 < 3 by decide) (show 3 < 1073741824 by decide)
  have hd := t.draw_in (m := 3) (by decide)
  rw [List.set_set] at h
  have e : [Va.str p, .str q, .str r].getD (t.draw 3).1.toNat .non = .str ([p, q, r].getD (t.draw 3).1.toNat "") := getD_map Va.str [p, q, r] _ "" .non (show _ < 3 by omega)
  rw [← e]
  exact h
noncomputable def keptRest : DS := (sSeq (sIf (dTB (dBin (gEq false) (dV 2) (dC (.str "since")))) (sRet (dLst false (dCons (dTup (dCons (dC (.str "since")) (dCons (dV 4) (dCons (dApp gMax2 (dCons (dUn gNeg (dC (.int 20000))) (dCons (dBin gSub (dBin gIx (dV 1) (dV 4)) (dV 5)) dNil))) (dCons (dBin (gAdd false) (dC (.int 1)) (dApp (gFn 2 F_l_draw) (dCons (dV 0) (dCons (dC (.int 100)) dNil)))) dNil))))) dNil))) sNext)
  (sSeq (sIf (dTB (dBin (gEq false) (dV 2) (dC (.str "until")))) (sRet (dLst false (dCons (dTup (dCons (dC (.str "until")) (dCons (dV 4) (dCons (dApp gMin2 (dCons (dC (.int 20000)) (dCons (dBin (gAdd false) (dBin gIx (dV 1) (dV 4)) (dV 5)) dNil))) (dCons (dBin (gAdd false) (dC (.int 1)) (dApp (gFn 2 F_l_draw) (dCons (dV 0) (dCons (dC (.int 100)) dNil)))) dNil))))) dNil))) sNext)
  (sSeq (sIf (dOr (dTB (dBin (gEq false) (dV 2) (dC (.str "kind")))) (dTB (dBin (gEq false) (dV 3) (dC (.int 1))))) (sRet (dLst false (dCons (dTup (dCons (dC (.str "kind")) (dCons (dV 4) (dCons (dApp (gFn 2 F_l_pick) (dCons (dV 0) (dCons (dLst false (dCons (dC (.str "a")) (dCons (dC (.str "b")) (dCons (dC (.str "c")) dNil)))) dNil))) dNil)))) dNil))) sNext)
  (sSeq (sSet 6 (dApp (gFn 3 F_l_other) (dCons (dV 0) (dCons (dV 3) (dCons (dV 4) dNil)))))
  (sSeq (sIf (dTB (dBin (gEq false) (dV 2) (dC (.str "same")))) (sRet (dIf (dTB (dBin (gEq false) (dBin gIx (dV 1) (dV 4)) (dBin gIx (dV 1) (dV 6)))) (dLst false (dCons (dTup (dCons (dC (.str "same")) (dCons (dV 4) (dCons (dV 6) dNil)))) dNil)) (dLst false dNil))) sNext)
  (sSeq (sIf (dTB (dBin (gEq false) (dV 2) (dC (.str "within")))) (sSeq (sSet 7 (dApp gMax2 (dCons (dC (.int 0)) (dCons (dBin (gAdd false) (dBin gSub (dBin gIx (dV 1) (dV 6)) (dBin gIx (dV 1) (dV 4))) (dV 5)) dNil))))
  (sRet (dIf (dTB (dBin gLe (dV 7) (dC (.int 5000)))) (dLst false (dCons (dTup (dCons (dC (.str "within")) (dCons (dV 4) (dCons (dV 6) (dCons (dV 7) dNil))))) dNil)) (dLst false dNil)))) sNext)
  (sSeq (sIf (dTB (dBin gGt (dBin gIx (dV 1) (dV 4)) (dBin gIx (dV 1) (dV 6)))) (sPar 4 6 (dCons (dV 6) (dCons (dV 4) dNil))) sNext)
  (sRet (dLst false (dCons (dTup (dCons (dC (.str "before")) (dCons (dV 4) (dCons (dV 6) (dCons (dApp gMin2 (dCons (dC (.int 5000)) (dCons (dApp gMax2 (dCons (dC (.int 0)) (dCons (dBin gSub (dBin gSub (dBin gIx (dV 1) (dV 6)) (dBin gIx (dV 1) (dV 4))) (dV 5)) dNil))) dNil))) dNil))))) dNil))))))))))
/-- the record itself -/
theorem kept_rest {ys : List Int} {w : Str} {A M : Int} {v : Stm} (la : a < s.length) (hA : 0 ≤ A ∧ A < ys.length) (hn : ys.length ≤ 1000) (hM : 0 ≤ M) :
    ∃ (rs : List Rec) (u : Stm), keptRest [some (.ref a), some (.lst (ys.map .int)), some (.str w), some (.int ys.length), some (.int A), some (.int M), none, none] (s.set a v.ob) = .ret (.lst (rs.map Rec.va)) (s.set a u.ob) ∧ rs.length ≤ 1 ∧ ∀ r ∈ rs, r.fits ys.length ∧ r.kept ys w := by
  have hz := v.draw_in (m := 100) (by decide)
  have d100 := draw_st (u := v) la (m := 100) (by decide) (by decide)
  have gA := fun s => yr_at (s := s) hA
  unfold keptRest
  by_cases w1 : w = "since"
  · subst w1
    refine ⟨[.since A (if yr ys A - M > -20000 then yr ys A - M else -20000) (1 + (v.draw 100).1)], (v.draw 100).2, ?_, by simp, fun r hr => by rw [List.mem_singleton.mp hr]; exact ⟨hA, rfl, by omega, by omega⟩⟩
    simp [gA, d100, Rec.va]
  · by_cases w2 : w = "until"
    · subst w2
      refine ⟨[.upto A (if yr ys A + M < 20000 then yr ys A + M else 20000) (1 + (v.draw 100).1)], (v.draw 100).2, ?_, by simp, fun r hr => by rw [List.mem_singleton.mp hr]; exact ⟨hA, rfl, by omega, by omega⟩⟩
      simp [gA, d100, Rec.va]
    · by_cases w3 : w = "kind" ∨ (ys.length : Int) = 1
      · have pk := pick_strs (t := v) (p := "a") (q := "b") (r := "c") la
        have hk : ([("a" : Str), "b", "c"].getD (v.draw 3).1.toNat "") ∈ kindNames := by
          have h3 := v.draw_in (m := 3) (by decide)
          have hm := getD_mem (xs := ([("a" : Str), "b", "c"])) (d := "") (show (v.draw 3).1.toNat < 3 by omega)
          generalize [("a" : Str), "b", "c"].getD (v.draw 3).1.toNat "" = z at hm ⊢
          simp only [List.mem_cons, List.not_mem_nil, or_false] at hm
          unfold kindNames
          rcases hm with rfl | rfl | rfl <;> simp
        refine ⟨[.kind A ([("a" : Str), "b", "c"].getD (v.draw 3).1.toNat "")], (v.draw 3).2, ?_, by simp, fun r hr => by rw [List.mem_singleton.mp hr]; exact ⟨hA, hk, w3.imp_right fun e => by omega⟩⟩
        by_cases w4 : w = "kind"
        · subst w4
          simp [pk, Rec.va, -List.getD_eq_getElem?_getD]
        · have w5 : (ys.length : Int) = 1 := w3.resolve_left w4
          simp [w1, w2, w4, w5, pk, Rec.va, -List.getD_eq_getElem?_getD]
      · have w4 : ¬ w = "kind" := fun e => w3 (.inl e)
        have w5 : ¬ (ys.length : Int) = 1 := fun e => w3 (.inr e)
        have h2 : 2 ≤ (ys.length : Int) := by omega
        have ot := other_st (u := v) (b := A) la h2 (show (ys.length : Int) < 1073741824 by omega)
        have hB := other_in (t := v) (n := ys.length) (a := A) (by omega)
        generalize otherM v ys.length A = O at ot hB
        obtain ⟨B, u⟩ := O
        dsimp only at ot hB
        have gB := fun s => yr_at (s := s) hB
        by_cases w6 : w = "same"
        · subst w6
          by_cases hy : yr ys A = yr ys B
          · refine ⟨[.same A B], u, ?_, by simp, fun r hr => by rw [List.mem_singleton.mp hr]; exact ⟨⟨hA, hB⟩, hy⟩⟩
            simp [gA, gB, ot, w5, hy, Rec.va]
          · refine ⟨[], u, ?_, by simp, fun r hr => by simp at hr⟩
            simp [gA, gB, ot, w5, hy]
        · by_cases w7 : w = "within"
          · subst w7
            by_cases hg : (if yr ys B - yr ys A + M > 0 then yr ys B - yr ys A + M else 0) ≤ 5000
            · refine ⟨[.within A B (if yr ys B - yr ys A + M > 0 then yr ys B - yr ys A + M else 0)], u, ?_, by simp, fun r hr => by rw [List.mem_singleton.mp hr]; exact ⟨⟨hA, hB⟩, ⟨by split <;> omega, hg⟩, by split <;> omega⟩⟩
              generalize hG : (if yr ys B - yr ys A + M > 0 then yr ys B - yr ys A + M else 0) = G at hg ⊢
              have hG2 : (if 0 < yr ys B - yr ys A + M then yr ys B - yr ys A + M else 0) = G := hG
              simp [gA, gB, ot, w5, hG2, hg, Rec.va]
            · refine ⟨[], u, ?_, by simp, fun r hr => by simp at hr⟩
              generalize hG : (if yr ys B - yr ys A + M > 0 then yr ys B - yr ys A + M else 0) = G at hg ⊢
              have hG2 : (if 0 < yr ys B - yr ys A + M then yr ys B - yr ys A + M else 0) = G := hG
              simp [gA, gB, ot, w5, hG2, hg]
          · by_cases hy : yr ys B < yr ys A
            · refine ⟨[.before B A (if (if yr ys A - yr ys B - M > 0 then yr ys A - yr ys B - M else 0) < 5000 then (if yr ys A - yr ys B - M > 0 then yr ys A - yr ys B - M else 0) else 5000)], u, ?_, by simp, fun r hr => by rw [List.mem_singleton.mp hr]; exact ⟨⟨hB, hA⟩, ⟨by split <;> (try split) <;> omega, by split <;> (try split) <;> omega⟩, by split <;> (try split) <;> omega⟩⟩
              simp [gA, gB, ot, w1, w2, w4, w5, w6, w7, hy, Rec.va]
            · refine ⟨[.before A B (if (if yr ys B - yr ys A - M > 0 then yr ys B - yr ys A - M else 0) < 5000 then (if yr ys B - yr ys A - M > 0 then yr ys B - yr ys A - M else 0) else 5000)], u, ?_, by simp, fun r hr => by rw [List.mem_singleton.mp hr]; exact ⟨⟨hA, hB⟩, ⟨by split <;> (try split) <;> omega, by split <;> (try split) <;> omega⟩, by split <;> (try split) <;> omega⟩⟩
              simp [gA, gB, ot, w1, w2, w4, w5, w6, w7, hy, Rec.va]
end
theorem kept_eq2 {s : Sto} {a : Nat} {t : Stm} {ys : List Int} {w : Str} (wf : WFn s.length s) (h : stAt s a = some t) (h1 : 1 ≤ ys.length) (hn : ys.length ≤ 1000) : ∃ (rs : List Rec) (u : Stm), F_l_kept_record [.ref a, .lst (ys.map .int), .str w] s = .ok (.lst (rs.map Rec.va)) (s.set a u.ob) ∧ rs.length ≤ 1 ∧ ∀ r ∈ rs, r.fits ys.length ∧ r.kept ys w := by
  have la := stAt_lt h
  have hd := t.draw_in (m := (ys.length : Int)) (by omega)
  have dn := draw_st (u := t) la (m := (ys.length : Int)) (by omega) (by omega)
  rw [← set_self h] at dn
  have d30 := draw_st (u := (t.draw ys.length).2) la (m := 30) (by decide) (by decide)
  have d3k := draw_st (u := ((t.draw ys.length).2.draw 30).2) la (m := 3000) (by decide) (by decide)
  have pk := pick_eq (xs := [Va.int 0, .int 0, .int 1, .int ((t.draw ys.length).2.draw 30).1, .int (((t.draw ys.length).2.draw 30).2.draw 3000).1]) (stAt_put (t := (((t.draw ys.length).2.draw 30).2.draw 3000).2) la) (show 0 < 5 by decide) (show 5 < 1073741824 by decide)
  rw [List.set_set] at pk
  have pd := (((t.draw ys.length).2.draw 30).2.draw 3000).2.draw_in (m := 5) (by decide)
  have e : [Va.int 0, .int 0, .int 1, .int ((t.draw ys.length).2.draw 30).1, .int (((t.draw ys.length).2.draw 30).2.draw 3000).1].getD ((((t.draw ys.length).2.draw 30).2.draw 3000).2.draw 5).1.toNat .non = .int ([0, 0, 1, ((t.draw ys.length).2.draw 30).1, (((t.draw ys.length).2.draw 30).2.draw 3000).1].getD ((((t.draw ys.length).2.draw 30).2.draw 3000).2.draw 5).1.toNat 0) := getD_map Va.int [0, 0, 1, ((t.draw ys.length).2.draw 30).1, (((t.draw ys.length).2.draw 30).2.draw 3000).1] _ 0 .non (show _ < 5 by omega)
  have pk : F_l_pick [.ref a, .lst [Va.int 0, .int 0, .int 1, .int ((t.draw ys.length).2.draw 30).1, .int (((t.draw ys.length).2.draw 30).2.draw 3000).1]] (s.set a (((t.draw ys.length).2.draw 30).2.draw 3000).2.ob) = .ok (.int ([0, 0, 1, ((t.draw ys.length).2.draw 30).1, (((t.draw ys.length).2.draw 30).2.draw 3000).1].getD ((((t.draw ys.length).2.draw 30).2.draw 3000).2.draw 5).1.toNat 0)) (s.set a ((((t.draw ys.length).2.draw 30).2.draw 3000).2.draw 5).2.ob) := by
    rw [← e]
    exact pk
  have hm30 := (t.draw ys.length).2.draw_in (m := 30) (by decide)
  have hm3k := ((t.draw ys.length).2.draw 30).2.draw_in (m := 3000) (by decide)
  have hM0 : 0 ≤ [0, 0, 1, ((t.draw ys.length).2.draw 30).1, (((t.draw ys.length).2.draw 30).2.draw 3000).1].getD ((((t.draw ys.length).2.draw 30).2.draw 3000).2.draw 5).1.toNat 0 := by
    have hm := getD_mem (xs := [0, 0, 1, ((t.draw ys.length).2.draw 30).1, (((t.draw ys.length).2.draw 30).2.draw 3000).1]) (d := 0) (show ((((t.draw ys.length).2.draw 30).2.draw 3000).2.draw 5).1.toNat < 5 by omega)
    generalize [0, 0, 1, ((t.draw ys.length).2.draw 30).1, (((t.draw ys.length).2.draw 30).2.draw 3000).1].getD ((((t.draw ys.length).2.draw 30).2.draw 3000).2.draw 5).1.toNat 0 = z at hm ⊢
    simp only [List.mem_cons, List.not_mem_nil, or_false] at hm
    omega
  generalize [0, 0, 1, ((t.draw ys.length).2.draw 30).1, (((t.draw ys.length).2.draw 30).2.draw 3000).1].getD ((((t.draw ys.length).2.draw 30).2.draw 3000).2.draw 5).1.toNat 0 = M at pk hM0
  obtain ⟨rs, u, R, r1, r2⟩ := kept_rest (s := s) (a := a) (ys := ys) (w := w) (A := (t.draw ys.length).1) (M := M) (v := ((((t.draw ys.length).2.draw 30).2.draw 3000).2.draw 5).2) la hd hn hM0
  have hb : b_l_kept_record (startA 8 [.ref a, .lst (ys.map .int), .str w]) s = .ret (.lst (rs.map Rec.va)) (s.set a u.ob) := by
    have e0 : startA 8 [.ref a, .lst (ys.map .int), .str w] = [some (.ref a), some (.lst (ys.map .int)), some (.str w), none, none, none, none, none] := rfl
    have ln : gLen [.lst (ys.map .int)] s = .ok (.int (ys.length : Nat)) s := by rw [g_len_lst, List.length_map]
    rw [e0]
    show (sSeq _ (sSeq _ (sSeq _ keptRest))) _ s = _
    simp only [e_seq, e_set, e_App, e_Cons, e_Nil, e_Lst, e_C, e_V, List.set, List.getElem?_cons_zero, List.getElem?_cons_succ, bind_ok, g_mkL_f, gFn, List.length_cons, List.length_nil, if_true, ln, dn, d30, d3k, pk, fl_ok, R]
  have hf : Fin s.length (b_l_kept_record (startA 8 [.ref a, .lst (ys.map .int), .str w]) s) (.ok (.lst (rs.map Rec.va)) (s.set a u.ob)) := by
    refine Fin.ret0 hb List.length_set ?_ (wf_set wf (Stm.b _ _))
    clear hb R r1 r2
    induction rs with
    | nil => trivial
    | cons r rs ih => exact ⟨r.b _, ih⟩
  obtain ⟨a', ys', w', rs', u', h1, h2, h3, h4⟩ := mir_p (P := P_kept) ⟨a, ys, w, rs, u, rfl, rfl, r1, r2⟩ hf
  injection h1 with h5 h6
  injection h5 with h5
  injection h6 with h6 h6x
  injection h6 with h6
  subst h5
  have h7 : ys = ys' := (List.map_inj_right fun _ _ h => by injection h).mp h6
  subst h7
  injection h6x with h6x _
  injection h6x with h6x
  subst h6x
  exact ⟨rs', u', h2, h3, h4⟩
theorem fin_l_kept_record (args : List Va) (s : Sto) (wf : WFn s.length s) (wa : vasB s.length args) (hl : args.length = 3) : Fin s.length (b_l_kept_record (startA 8 args) s) (F_l_kept_record args s) := fin_mir args s
end Dn

set_option Elab.async false
set_option linter.all false
set_option maxRecDepth 100000
set_option maxHeartbeats 4000000
/-! Dn, part Zb: lists of kept records. -/
namespace Dn
open PySem PySem.Spec PyProof.Rows L2
noncomputable def krBody : DS := (sDrop (dMt gExtend (dV 4) (dCons (dApp (gFn 3 F_l_kept_record) (dCons (dV 0) (dCons (dV 1) (dCons (dApp (gFn 2 F_l_pick) (dCons (dV 0) (dCons (dV 2) dNil))) dNil)))) dNil)))
noncomputable def b_l_kept_records : DS := (sSeq (sSet 4 (dLst true dNil))
  (sSeq (sFor (dRg1 (dCons (dV 3) dNil)) (dgName 5)
   krBody)
  (sRet (dV 4))))
theorem vasB_recs {n : Nat} : ∀ {rs : List Rec}, vasB n (rs.map Rec.va)
  | [] => trivial
  | r :: rs => ⟨r.b _, vasB_recs⟩
theorem Yst_wf {s : Sto} {a : Nat} {t : Stm} {xs : List Va} (wf : WFn s.length s) (h : vasB (s.length + 1) xs) : WFn (Yst s a t xs).length (Yst s a t xs) := by
  unfold Yst
  refine wf_push (by rw [List.length_set]; exact wf_set wf (Stm.b _ _)) ?_
  rw [List.length_set]
  exact h
theorem extY {s : Sto} {a : Nat} {t : Stm} {xs ys : List Va} (h : xs.length + ys.length ≤ 1000000) : gExtend (.ref s.length) [.lst ys] (Yst s a t xs) = .ok .non (Yst s a t (xs ++ ys)) := by
  unfold gExtend
  have hq : leq (xs.length + ys.length) 1000000 := h
  simp only [Yst_top, seqL, hq, if_true]
  unfold Yst
  rw [List.set_append_right _ _ (by rw [List.length_set]; exact Nat.le_refl _), List.length_set, Nat.sub_self]
  rfl
theorem kr_turn {s : Sto} {a : Nat} {t : Stm} {ys : List Int} {ws : List Str} {rs : List Rec} {e3 e5 : Option Va} (wf : WFn s.length s) (la : a < s.length) (h1 : 1 ≤ ys.length) (hn : ys.length ≤ 1000) (hw : 0 < ws.length ∧ ws.length ≤ 1000) (hr : rs.length ≤ 1000) :
    ∃ (qs : List Rec) (u : Stm), krBody [some (.ref a), some (.lst (ys.map .int)), some (.lst (ws.map .str)), e3, some (.ref s.length), e5] (Yst s a t (rs.map Rec.va)) = .nx [some (.ref a), some (.lst (ys.map .int)), some (.lst (ws.map .str)), e3, some (.ref s.length), e5] (Yst s a u ((rs ++ qs).map Rec.va)) ∧ qs.length ≤ 1 ∧ ∀ r ∈ qs, r.fits ys.length ∧ ∃ w ∈ ws, r.kept ys w := by
  have lw : (ws.map Va.str).length = ws.length := List.length_map ..
  have pk := pick_eq (xs := ws.map .str) (Yst_at (t := t) (xs := rs.map Rec.va) la) (by omega) (by omega)
  rw [Yst_set la] at pk
  have pd := t.draw_in (m := ((ws.map Va.str).length : Int)) (by omega)
  rw [getD_map Va.str ws _ "" .non (by rw [← lw]; omega)] at pk
  have la2 : a < (Yst s a (t.draw ((ws.map Va.str).length : Int)).2 (rs.map Rec.va)).length := stAt_lt (Yst_at la)
  have hwm : ws.getD (t.draw ((ws.map Va.str).length : Int)).1.toNat "" ∈ ws := getD_mem (by rw [← lw]; omega)
  obtain ⟨qs, u, k1, k2, k3⟩ := kept_eq2 (w := ws.getD (t.draw ((ws.map Va.str).length : Int)).1.toNat "") (Yst_wf wf vasB_recs) (Yst_at (t := (t.draw ((ws.map Va.str).length : Int)).2) (xs := rs.map Rec.va) la) h1 hn
  rw [Yst_set la] at k1
  refine ⟨qs, u, ?_, k2, fun r hr => ⟨(k3 r hr).1, _, hwm, (k3 r hr).2⟩⟩
  have il := isLY (s := s) (a := a) (t := t) (xs := rs.map Rec.va)
  have ex := extY (s := s) (a := a) (t := u) (xs := rs.map Rec.va) (ys := qs.map Rec.va) (by rw [List.length_map, List.length_map]; omega)
  rw [← List.map_append] at ex
  unfold krBody
  simp only [e_drop, e_Mt, e_V, List.getElem?_cons_zero, List.getElem?_cons_succ, bind_ok, il, if_true, e_Cons, e_App, e_Nil, gFn, List.length_cons, List.length_nil, pk, k1, ex, fl_ok]
theorem kr_loop {s : Sto} {a : Nat} {ys : List Int} {ws : List Str} {e3 : Option Va} (wf : WFn s.length s) (la : a < s.length) (h1 : 1 ≤ ys.length) (hn : ys.length ≤ 1000) (hw : 0 < ws.length ∧ ws.length ≤ 1000) : ∀ (l : List Va) (t : Stm) (rs : List Rec) (e5 : Option Va), rs.length + l.length ≤ 1000 → (∀ r ∈ rs, r.fits ys.length ∧ ∃ w ∈ ws, r.kept ys w) →
    ∃ (qs : List Rec) (u : Stm) (f5 : Option Va), lp none (fBody (dgName 5) krBody) l [some (.ref a), some (.lst (ys.map .int)), some (.lst (ws.map .str)), e3, some (.ref s.length), e5] (Yst s a t (rs.map Rec.va)) = .nx [some (.ref a), some (.lst (ys.map .int)), some (.lst (ws.map .str)), e3, some (.ref s.length), f5] (Yst s a u (qs.map Rec.va)) ∧ qs.length ≤ rs.length + l.length ∧ ∀ r ∈ qs, r.fits ys.length ∧ ∃ w ∈ ws, r.kept ys w
  | [], t, rs, e5, _, hf => ⟨rs, t, e5, lp_nil, Nat.le_refl _, hf⟩
  | k :: l, t, rs, e5, h, hf => by
    rw [List.length_cons] at h
    obtain ⟨qs, u, hb, q1, q2⟩ := kr_turn (t := t) (ys := ys) (ws := ws) (rs := rs) (e3 := e3) (e5 := some k) wf la h1 hn hw (by omega)
    obtain ⟨zs, u2, f5, ih, z1, z2⟩ := kr_loop (ys := ys) (ws := ws) (e3 := e3) wf la h1 hn hw l u (rs ++ qs) (some k) (by rw [List.length_append]; omega) (fun r hr => (List.mem_append.mp hr).elim (hf r) (q2 r))
    refine ⟨zs, u2, f5, ?_, by rw [List.length_append] at z1; rw [List.length_cons]; omega, z2⟩
    rw [lp_cons]
    have hb2 : fBody (dgName 5) krBody k [some (.ref a), some (.lst (ys.map .int)), some (.lst (ws.map .str)), e3, some (.ref s.length), e5] (Yst s a t (rs.map Rec.va)) = _ := hb
    rw [hb2]
    exact ih
def P_kr (args : List Va) (s : Sto) (r : Rs Va) : Prop := ∃ (a : Nat) (ys : List Int) (ws : List Str) (m : Int) (rs : List Rec) (u : Stm), args = [.ref a, .lst (ys.map .int), .lst (ws.map .str), .int m] ∧ r = .ok (.lst (rs.map Rec.va)) (s.set a u.ob) ∧ rs.length ≤ m.toNat ∧ ∀ r ∈ rs, r.fits ys.length ∧ ∃ w ∈ ws, r.kept ys w
noncomputable def F_l_kept_records : List Va → Sto → Rs Va := mir 6 b_l_kept_records P_kr
theorem krs_eq2 {s : Sto} {a : Nat} {t : Stm} {ys : List Int} {ws : List Str} {m : Int} (wf : WFn s.length s) (h : stAt s a = some t) (h1 : 1 ≤ ys.length) (hn : ys.length ≤ 1000) (hw : 0 < ws.length ∧ ws.length ≤ 1000) (hm : 0 ≤ m ∧ m ≤ 1000) : ∃ (rs : List Rec) (u : Stm), F_l_kept_records [.ref a, .lst (ys.map .int), .lst (ws.map .str), .int m] s = .ok (.lst (rs.map Rec.va)) (s.set a u.ob) ∧ rs.length ≤ m.toNat ∧ ∀ r ∈ rs, r.fits ys.length ∧ ∃ w ∈ ws, r.kept ys w := by
  have la := stAt_lt h
  obtain ⟨qs, u, f5, L, q1, q2⟩ := kr_loop (s := s) (a := a) (ys := ys) (ws := ws) (e3 := some (.int m)) wf la h1 hn hw (rgA 0 m) t [] none (by rw [rgA_len, List.length_nil]; omega) (fun r hr => by simp at hr)
  have hr : inR m := ⟨by omega, by omega⟩
  have es : s = s.set a t.ob := set_self h
  have hb : b_l_kept_records (startA 6 [.ref a, .lst (ys.map .int), .lst (ws.map .str), .int m]) s = .ret (.ref s.length) (s.set a u.ob ++ [.lst (qs.map Rec.va)]) := by
    have e0 : startA 6 [.ref a, .lst (ys.map .int), .lst (ws.map .str), .int m] = [some (.ref a), some (.lst (ys.map .int)), some (.lst (ws.map .str)), some (.int m), none, none] := rfl
    have L2 : lp none (fBody (dgName 5) krBody) (rgA 0 m) [some (.ref a), some (.lst (ys.map .int)), some (.lst (ws.map .str)), some (.int m), some (.ref s.length), none] (s ++ [.lst []]) = .nx [some (.ref a), some (.lst (ys.map .int)), some (.lst (ws.map .str)), some (.int m), some (.ref s.length), f5] (s.set a u.ob ++ [.lst (qs.map Rec.va)]) := by
      have e : s ++ [Ob.lst []] = Yst s a t (([] : List Rec).map Rec.va) := by
        unfold Yst
        rw [← es]
        rfl
      rw [e]
      exact L
    rw [e0]
    unfold b_l_kept_records
    simp only [e_seq, e_set, e_Lst, e_Nil, bind_ok, g_mkL_t, fl_ok, List.set, e_for, e_rg1, e_Cons, e_V, List.getElem?_cons_zero, List.getElem?_cons_succ, hr, if_true, L2, e_ret]
  have hf : Fin s.length (b_l_kept_records (startA 6 [.ref a, .lst (ys.map .int), .lst (ws.map .str), .int m]) s) (.ok (.lst (qs.map Rec.va)) (s.set a u.ob)) := Fin.frzS hb List.length_set vasB_recs (wf_set wf (Stm.b _ _))
  obtain ⟨a', ys', ws', m', rs', u', h1, h2, h3, h4⟩ := mir_p (P := P_kr) ⟨a, ys, ws, m, qs, u, rfl, rfl, by rw [List.length_nil, rgA_len] at q1; omega, q2⟩ hf
  injection h1 with h5 h6
  injection h5 with h5
  injection h6 with h6 h7
  injection h6 with h6
  injection h7 with h9 h7
  injection h7 with h7 _
  injection h7 with h7
  subst h5 h7
  have h8 : ys = ys' := (List.map_inj_right fun _ _ h => by injection h).mp h6
  subst h8
  injection h9 with h9
  have h10 : ws = ws' := (List.map_inj_right fun _ _ h => by injection h).mp h9
  subst h10
  exact ⟨rs', u', h2, h3, h4⟩
theorem krs_eq {s : Sto} {a : Nat} {t : Stm} {ys : List Int} {ws : List Str} {m : Int} (wf : WFn s.length s) (h : stAt s a = some t) (h1 : 1 ≤ ys.length) (hn : ys.length ≤ 1000) (hw : 0 < ws.length ∧ ws.length ≤ 1000) (hm : 0 ≤ m ∧ m ≤ 1000) : ∃ (rs : List Rec) (u : Stm), F_l_kept_records [.ref a, .lst (ys.map .int), .lst (ws.map .str), .int m] s = .ok (.lst (rs.map Rec.va)) (s.set a u.ob) ∧ rs.length ≤ 1000 ∧ ∀ r ∈ rs, r.fits ys.length := by
  obtain ⟨rs, u, h1, h2, h3⟩ := krs_eq2 (m := m) wf h h1 hn hw hm
  exact ⟨rs, u, h1, by omega, fun r hr => (h3 r hr).1⟩
theorem fin_l_kept_records (args : List Va) (s : Sto) (wf : WFn s.length s) (wa : vasB s.length args) (hl : args.length = 4) : Fin s.length (b_l_kept_records (startA 6 args) s) (F_l_kept_records args s) := fin_mir args s
end Dn

set_option Elab.async false
set_option linter.all false
set_option maxRecDepth 100000
set_option maxHeartbeats 1000000
/-! Dn, part To: tools for loops and comprehensions; max and min of lists of ints. -/
namespace Dn
open PySem PySem.Spec PyProof.Rows L2
/-- a loop by its invariant -/
theorem lp_inv {α : Type} (e : α → Va) {ck : Option (Nat × Ob)} {body : Va → DS} (P : List α → En → Sto → Prop) (hck : ∀ d ε s, P d ε s → okk ck s) : ∀ (l d : List α) (ε : En) (s : Sto), P d ε s →
    (∀ d' x r ε s, d ++ l = d' ++ x :: r → P d' ε s → ∃ ε' s', body (e x) ε s = .nx ε' s' ∧ P (d' ++ [x]) ε' s') → ∃ ε' s', lp ck body (l.map e) ε s = .nx ε' s' ∧ P (d ++ l) ε' s'
  | [], d, ε, s, h, _ => ⟨ε, s, by rw [List.map_nil, lp, if_pos (hck d ε s h)], by rw [List.append_nil]; exact h⟩
  | x :: l, d, ε, s, h, hb => by
    obtain ⟨ε1, s1, h1, h2⟩ := hb d x l ε s rfl h
    obtain ⟨ε2, s2, h3, h4⟩ := lp_inv e P hck l (d ++ [x]) ε1 s1 h2 fun d' y r ε s hy => hb d' y r ε s (by rw [← hy, List.append_assoc]; rfl)
    refine ⟨ε2, s2, ?_, by rw [List.append_assoc] at h4; exact h4⟩
    rw [List.map_cons, lp, if_pos (hck d ε s h), h1]
    exact h3
/-- a comprehension whose parts leave the store alone, over any list -/
theorem cl_mapK {α : Type} (e f : α → Va) {ck : Option (Nat × Ob)} {j : Nat} {dt : DT} {del : DE} {ε : En} {s : Sto} (hk : okk ck s) (p : α → Bool) : ∀ (l : List α) (acc : List Va), (∀ a ∈ l, dt (ε.set j (some (e a))) s = .ok (p a) s) → (∀ a ∈ l, p a = true → del (ε.set j (some (e a))) s = .ok (f a) s) →
    cl ck (dgName j) dt del ε (l.map e) acc s = .ok (acc ++ (l.filter p).map f) s
  | [], acc, _, _ => by
    rw [List.map_nil, cl, if_pos hk, List.filter_nil, List.map_nil, List.append_nil]
  | a :: l, acc, h1, h2 => by
    rw [List.map_cons, cl, if_pos hk, e_dgName]
    dsimp only
    rw [h1 a List.mem_cons_self]
    simp only [noexc_ok, bind_ok]
    cases hp : p a with
    | true =>
      rw [if_pos rfl, h2 a List.mem_cons_self hp]
      simp only [noexc_ok, bind_ok]
      rw [cl_mapK e f hk p l _ (fun b hb => h1 b (List.mem_cons_of_mem _ hb)) (fun b hb => h2 b (List.mem_cons_of_mem _ hb)), List.filter_cons_of_pos hp, List.map_cons, List.append_assoc]
      rfl
    | false =>
      rw [if_neg (by decide), cl_mapK e f hk p l _ (fun b hb => h1 b (List.mem_cons_of_mem _ hb)) (fun b hb => h2 b (List.mem_cons_of_mem _ hb)), List.filter_cons_of_neg (by rw [hp]; decide)]
/-- what a for goes over -/
theorem seq_src {x : Va} {xs : List Va} {s : Sto} (h : seqA x s = some xs) : ∃ ck, okk ck s ∧ ∀ (de : DE) (ε : En), de ε s = .ok x s → dSeq de ε s = .ok (ck, xs) s := by
  cases x with
  | lst ys =>
    cases h
    exact ⟨none, trivial, fun de ε e => by unfold dSeq; rw [e]; rfl⟩
  | tup ys =>
    cases h
    exact ⟨none, trivial, fun de ε e => by unfold dSeq; rw [e]; rfl⟩
  | ext ys =>
    cases h
    exact ⟨none, trivial, fun de ε e => by unfold dSeq; rw [e]; rfl⟩
  | ref i =>
    unfold seqA at h
    dsimp only at h
    split at h
    · rename_i ys e
      cases h
      refine ⟨some (i, .lst xs), e, fun de ε h => ?_⟩
      unfold dSeq
      rw [h]
      simp only [bind_ok, e]
    · cases h
  | _ => simp [seqA] at h
/-- a list comprehension over a range or a list: which items, what of each -/
theorem lc_eq {α : Type} (e f : α → Va) (p : α → Bool) {ck : Option (Nat × Ob)} {di : DI} {j : Nat} {dt : DT} {del : DE} {ε : En} {s : Sto} {l : List α} (h1 : di ε s = .ok (ck, l.map e) s) (hk : okk ck s) (h2 : l.length ≤ 100000)
    (h3 : ∀ a ∈ l, dt ((wip ε [j]).set j (some (e a))) s = .ok (p a) s) (h4 : ∀ a ∈ l, p a = true → del ((wip ε [j]).set j (some (e a))) s = .ok (f a) s) {bx : Bool} : dLc bx di (dgName j) dt del [j] ε s = mkL bx ((l.filter p).map f) s := by
  have hq : leq (l.map e).length 100000 := by unfold leq; rw [List.length_map]; exact h2
  have L := cl_mapK e f hk p (ε := wip ε [j]) l [] h3 h4
  rw [e_Lc, h1]
  simp only [bind_ok, hq, if_true, L, List.nil_append]
theorem lc_all {α : Type} (e f : α → Va) {ck : Option (Nat × Ob)} {di : DI} {j : Nat} {del : DE} {ε : En} {s : Sto} {l : List α} (h1 : di ε s = .ok (ck, l.map e) s) (hk : okk ck s) (h2 : l.length ≤ 100000)
    (h4 : ∀ a ∈ l, del ((wip ε [j]).set j (some (e a))) s = .ok (f a) s) {bx : Bool} : dLc bx di (dgName j) dYes del [j] ε s = mkL bx (l.map f) s := by
  have := lc_eq e f (fun _ => true) (bx := bx) (dt := dYes) h1 hk h2 (fun _ _ => rfl) (fun a ha _ => h4 a ha)
  rw [List.filter_eq_self.mpr (fun _ _ => rfl)] at this
  exact this
theorem all_bl {α : Type} (p : α → Bool) {l : List α} {s : Sto} : gAll [.lst (l.map fun a => .bl (p a))] s = .ok (.bl (l.all p)) s := by
  unfold gAll
  simp only [seqL]
  rw [show (l.map fun a => Va.bl (p a)) = (l.map p).map .bl from by rw [List.map_map]; rfl, blsOf_map]
  simp only [List.all_map]
  rfl
/-! max, min of a list of ints -/
def maxI : List Int → Int
  | [] => 0
  | x :: xs => xs.foldl (fun m y => if m < y then y else m) x
theorem foldMax : ∀ (xs : List Int) (m : Int), (m ≤ xs.foldl (fun m y => if m < y then y else m) m) ∧ (∀ y ∈ xs, y ≤ xs.foldl (fun m y => if m < y then y else m) m) ∧ (xs.foldl (fun m y => if m < y then y else m) m = m ∨ xs.foldl (fun m y => if m < y then y else m) m ∈ xs)
  | [], m => ⟨Int.le_refl _, fun _ h => by simp at h, .inl rfl⟩
  | x :: xs, m => by
    obtain ⟨h1, h2, h3⟩ := foldMax xs (if m < x then x else m)
    rw [List.foldl_cons]
    refine ⟨?_, fun y hy => ?_, ?_⟩
    · split at h1 <;> rename_i h <;> split <;> omega
    · rcases List.mem_cons.mp hy with rfl | hy
      · split at h1 <;> rename_i h <;> split <;> omega
      · exact h2 y hy
    · rcases h3 with h3 | h3
      · rw [h3]
        split
        · exact .inr List.mem_cons_self
        · exact .inl rfl
      · exact .inr (List.mem_cons_of_mem _ h3)
theorem maxI_p {xs : List Int} (h : xs ≠ []) : maxI xs ∈ xs ∧ ∀ y ∈ xs, y ≤ maxI xs := by
  cases xs with
  | nil => exact absurd rfl h
  | cons x xs =>
    obtain ⟨h1, h2, h3⟩ := foldMax xs x
    refine ⟨?_, fun y hy => ?_⟩
    · rcases h3 with h3 | h3
      · unfold maxI
        dsimp only
        rw [h3]
        exact List.mem_cons_self
      · exact List.mem_cons_of_mem _ h3
    · rcases List.mem_cons.mp hy with rfl | hy
      · exact h1
      · exact h2 y hy
def gMax (xs : List Va) (s : Sto) : Rs Va := match xs with
  | [x] => match seqL x s with
    | some ys => match intsOf ys with
      | some ns => if ns = [] then .bad else .ok (.int (maxI ns)) s
      | none => .bad
    | none => .bad
  | _ => .bad
theorem opN_max {K : PySem.W.Frag} : OpN K (rMax K) gMax := by
  intro CL W F G as s H x v Q S rx q
  unfold gMax at q
  split at q
  · obtain ⟨v, rfl, r⟩ := Rls1 rx
    split at q
    · rename_i ys e
      obtain ⟨a, vs, rfl, h2, h3⟩ := seqL_ok S r e
      split at q
      · rename_i ns e2
        split at q
        · exact q.elim
        · rename_i hn
          rw [intsOf_eq e2] at h3
          rw [h3.ints] at h2
          obtain ⟨p1, p2⟩ := maxI_p hn
          refine ⟨a, ns, rfl, SqL.of h2, List.length_pos_iff.mpr hn, fun m hm hle => ?_⟩
          have : m = maxI ns := Int.le_antisymm (p2 m hm) (hle _ p1)
          rw [this]
          exact q.okv S (.int _)
      · exact q.elim
    · exact q.elim
  · exact q.elim
section
variable {X : Cx} {CL : Cls0} {W : WX} {k : Nat} {p pos : Pos} {e : Expr} {dr : DA}
theorem re_max (O : Okc X W k) (hm : X.mg "max" = none) (ha : RA X CL W [e] dr) (hG : Gl X "max" := by rfl) (he : starEach [e] X.env = (false, eval e X.env) :: starEach [] X.env := by rfl) : RE X CL W (.Call (.Name "max" p) [e] [] pos) (dApp gMax dr) := re_callB (cr_max O.calm) opN_max hG hm (by decide +kernel) ha (he := he)
end
theorem max_ints {ns : List Int} {s : Sto} (h : ns ≠ []) : gMax [.lst (ns.map .int)] s = .ok (.int (maxI ns)) s := by
  unfold gMax
  simp only [seqL, intsOf_map, if_neg h]
end Dn

set_option Elab.async false
set_option linter.all false
set_option maxRecDepth 100000
set_option maxHeartbeats 1000000
/-! Dn, part Rs: the law's lists of records. -/
namespace Dn
open PySem PySem.Spec PyProof.Rows L2
/-- numbers, weights and names in their ranges -/
def Rec.ok : Rec → Prop
  | .before _ _ g => 0 ≤ g ∧ g ≤ 5000
  | .within _ _ g => 0 ≤ g ∧ g ≤ 5000
  | .same _ _ => True
  | .since _ y w => (-20000 ≤ y ∧ y ≤ 20000) ∧ 1 ≤ w ∧ w ≤ 100
  | .upto _ y w => (-20000 ≤ y ∧ y ≤ 20000) ∧ 1 ≤ w ∧ w ≤ 100
  | .kind _ k => k ∈ kindNames
end Dn

set_option Elab.async false
set_option linter.all false
set_option maxRecDepth 100000
/-! Dm, part C: a dating out of the table; ends that are reached; ways from one place, and back. -/
namespace Dm
/-- the values of a column -/
def colL (n : Nat) (T : Tb) (j : Nat) : List Int := (List.range (n + 1)).filterMap fun i => T i j
theorem mem_col {n : Nat} {T : Tb} {j : Nat} {v : Int} : v ∈ colL n T j ↔ ∃ i, i ≤ n ∧ T i j = some v := by
  unfold colL
  rw [List.mem_filterMap]
  constructor
  · rintro ⟨i, h1, h2⟩
    exact ⟨i, by have := List.mem_range.mp h1; omega, h2⟩
  · rintro ⟨i, h1, h2⟩
    exact ⟨i, List.mem_range.mpr (by omega), h2⟩
/-- the greatest of each column: a dating -/
theorem col_feas {n : Nat} {E : List Edge} (hE : InN n E) (c : Calm n (fw n E)) {y : Nat → Int} (hy : ∀ j, j ≤ n → y j ∈ colL n (fw n E) j ∧ ∀ v ∈ colL n (fw n E) j, v ≤ y j) : Feas E y := fun e he => by
  obtain ⟨ha, hb⟩ := hE e he
  obtain ⟨i, h1, h2⟩ := mem_col.mp (hy e.1 ha).1
  obtain ⟨_, v, h3, h4⟩ := fw_way hE c h1 (.snoc (fw_snd _ _ _ h2) he)
  have h5 : v ≤ y e.2.1 := (hy e.2.1 hb).2 v (mem_col.mpr ⟨i, h1, h3⟩)
  have h4 : y e.1 + e.2.2 ≤ v := h4
  omega
theorem col_ne {n : Nat} {E : List Edge} (c : Calm n (fw n E)) {j : Nat} (hj : j ≤ n) : colL n (fw n E) j ≠ [] := fun e => by
  have : (0 : Int) ∈ colL n (fw n E) j := mem_col.mpr ⟨j, hj, diag0 fw_diag c hj⟩
  rw [e] at this
  cases this
theorem feas_shift {E : List Edge} {y : Nat → Int} (h : Feas E y) (k : Int) : Feas E fun i => y i - k := fun e he => by
  have := h e he
  dsimp only
  omega
/-! ways from one place -/
/-! all steps turned round -/
def rev (E : List Edge) : List Edge := E.map fun e => (e.2.1, e.1, e.2.2)
theorem mem_rev {E : List Edge} {a b : Nat} {c : Int} : (a, b, c) ∈ rev E ↔ (b, a, c) ∈ E := by
  unfold rev
  rw [List.mem_map]
  constructor
  · rintro ⟨⟨x, y, z⟩, h1, h2⟩
    injection h2 with h2 h3
    injection h3 with h3 h4
    subst h2 h3 h4
    exact h1
  · intro h
    exact ⟨_, h, rfl⟩
theorem Wk.front {E : List Edge} {i j k : Nat} {c w : Int} (h : (i, j, c) ∈ E) (k1 : Wk E j k w) : Wk E i k (c + w) := (Wk.one h).trans k1
theorem Wk.rev {E : List Edge} {i j : Nat} {w : Int} (h : Wk E i j w) : Wk (Dm.rev E) j i w := by
  induction h with
  | nil => exact .nil
  | @snoc u v w c _ e ih =>
    have := Wk.front (mem_rev.mpr e) ih
    rw [Int.add_comm] at this
    exact this
theorem rev_rev {E : List Edge} : rev (rev E) = E := by
  unfold rev
  rw [List.map_map]
  conv => rhs; rw [← List.map_id E]
  rfl
theorem Wk.back {E : List Edge} {i j : Nat} {w : Int} (h : Wk (Dm.rev E) i j w) : Wk E j i w := by
  have := h.rev
  rw [rev_rev] at this
  exact this
end Dm

set_option Elab.async false
set_option linter.all false
set_option maxRecDepth 100000
set_option maxHeartbeats 1000000
/-! Dn, part Sp: what is told of years. -/
namespace Dn
open PySem PySem.Spec PyProof.Rows L2
open Dm (Edge Tb fw InN Calm Holds Feas colL)
noncomputable def b_sure_ways : DS := (sSeq (sSet 2 (dApp (gFn 2 F_ways) (dCons (dV 0) (dCons (dV 1) dNil))))
  (sSeq (sIf (dTr (dApp (gFn 1 F_is_round) (dCons (dV 2) dNil))) (sRaise "Unsure") sNext)
  (sRet (dV 2))))
noncomputable def F_sure_ways : List Va → Sto → Rs Va := aut 3 b_sure_ways
theorem fin_sure_ways (args : List Va) (s : Sto) (wf : WFn s.length s) (wa : vasB s.length args) (hl : args.length = 2) : Fin s.length (b_sure_ways (startA 3 args) s) (F_sure_ways args s) := fin_autoF _
noncomputable def c_dating_of_2 : DE := (dLc false (dRg1 (dCons (dBin (gAdd false) (dV 1) (dC (.int 1))) dNil)) (dgName 3) (dTB (dBin (gIs true) (dBin gIx (dBin gIx (dV 0) (dV 3)) (dV 4)) (dC .non))) (dBin gIx (dBin gIx (dV 0) (dV 3)) (dV 4)) [3])
noncomputable def c_dating_of_1 : DE := (dLc false (dRg1 (dCons (dBin (gAdd false) (dV 1) (dC (.int 1))) dNil)) (dgName 4) dYes (dApp gMax (dCons c_dating_of_2 dNil)) [4])
noncomputable def c_dating_of_3 : DE := (dLc false (dSeq (dSl false (dV 2) dNo (dSome (dV 1)))) (dgName 5) dYes (dBin gSub (dV 5) (dBin gIx (dV 2) (dV 1))) [5])
noncomputable def b_dating_of : DS := (sSeq (sSet 2 c_dating_of_1)
  (sRet c_dating_of_3))
noncomputable def F_dating_of : List Va → Sto → Rs Va := aut 6 b_dating_of
theorem fin_dating_of (args : List Va) (s : Sto) (wf : WFn s.length s) (wa : vasB s.length args) (hl : args.length = 2) : Fin s.length (b_dating_of (startA 6 args) s) (F_dating_of args s) := fin_autoF _
noncomputable def b_dating : DS := (sRet (dApp (gFn 2 F_dating_of) (dCons (dApp (gFn 2 F_sure_ways) (dCons (dV 0) (dCons (dV 1) dNil))) (dCons (dV 0) dNil))))
noncomputable def F_dating : List Va → Sto → Rs Va := aut 2 b_dating
theorem fin_dating (args : List Va) (s : Sto) (wf : WFn s.length s) (wa : vasB s.length args) (hl : args.length = 2) : Fin s.length (b_dating (startA 2 args) s) (F_dating args s) := fin_autoF _
noncomputable def tbOf (n : Nat) (rs : List Rec) : Tb := fw n (edgesR n rs)
theorem round_tb {n : Nat} {rs : List Rec} {s : Sto} (hF : Fits n rs) : F_is_round [tbV n (tbOf n rs)] s = .ok (.bl (!holdB n rs)) s := by
  have hd : DiagV (tbV n (tbOf n rs)) := ⟨n, _, rfl, fun i hi => by obtain ⟨v, h, _⟩ := Dm.fw_diag (n := n) (E := edgesR n rs) i hi; exact ⟨v, h⟩, hF.1⟩
  unfold F_is_round
  simp only [hd, if_true, rbV_tb]
  unfold holdB tbOf
  rw [Bool.not_not]
section
variable {n : Nat} {rs : List Rec} {x : Va} {s : Sto}
theorem sure_ok (wf : WFn s.length s) (hF : Fits n rs) (hx : seqL x s = some (rs.map Rec.va)) (hb : holdB n rs = true) : F_sure_ways [.int n, x] s = .ok (tbV n (tbOf n rs)) s := by
  refine aut_ret0 ?_ vasB_rowsT wf
  have e0 : startA 3 [.int n, x] = [some (.int n), some x, none] := rfl
  have w := ways_eq hF hx
  have r := round_tb (s := s) hF
  rw [hb] at r
  rw [e0]
  unfold b_sure_ways
  simp only [e_seq, e_set, e_App, e_Cons, e_V, List.getElem?_cons_zero, List.getElem?_cons_succ, bind_ok, e_Nil, gFn, List.length_cons, List.length_nil, if_true, w, fl_ok, List.set, e_ifS, e_Tr, show fw n (edgesR n rs) = tbOf n rs from rfl, r, truA, Bool.not_true, if_false, Bool.false_eq_true, e_next, e_ret]
end
section
variable {n a b : Nat} {rs : List Rec} {x : Va} {s : Sto}
end
/-! early, late -/
theorem rgA_nats {n : Nat} : rgA 0 (n : Int) = (List.range n).map fun i => Va.int (i : Nat) := rgA_nat0
section
variable {n : Nat} {rs : List Rec} {x : Va} {s : Sto}
end
/-! datings -/
def colM (n : Nat) (T : Tb) (j : Nat) : Int := maxI (colL n T j)
/-- the dating of a table -/
def datM (n : Nat) (T : Tb) : List Int := (List.range n).map fun j => colM n T j - colM n T n
theorem datM_len {n : Nat} {T : Tb} : (datM n T).length = n := by
  unfold datM
  rw [List.length_map, List.length_range]
theorem slL {xs : List Va} {lo hi : Option Int} {s : Sto} : gSl false (.lst xs) lo hi s = .ok (.lst (cutA xs lo hi)) s := rfl
theorem cut_to {xs : List Va} {n : Nat} (h : n ≤ xs.length) : cutA xs none (some (n : Int)) = xs.take n := by
  have e1 : HT.sIx xs.length 0 none = 0 := rfl
  have e2 : HT.sIx xs.length xs.length (some (n : Int)) = n := by
    unfold HT.sIx
    dsimp only
    rw [if_neg (by omega)]
    omega
  unfold cutA
  rw [e1, e2]
  rfl
theorem datOf_eq {n : Nat} {T : Tb} {s : Sto} (wf : WFn s.length s) (hn : n ≤ 1000) (hd : ∀ j, j ≤ n → colL n T j ≠ []) : F_dating_of [tbV n T, .int n] s = .ok (.lst ((datM n T).map .int)) s := by
  refine aut_ret0 ?_ vasB_ints wf
  have e0 : startA 6 [tbV n T, .int n] = [some (tbV n T), some (.int n), none, none, none, none] := rfl
  have hr : inR ((n : Int) + 1) := ⟨by omega, by omega⟩
  have C2 : ∀ j, j ≤ n → c_dating_of_2 [some (tbV n T), some (.int n), none, none, some (.int j), none] s = .ok (.lst ((colL n T j).map .int)) s := fun j hj => by
    unfold c_dating_of_2
    rw [lc_eq (fun i : Nat => Va.int i) (fun i => oV (T i j)) (fun i => (T i j).isSome) (l := List.range (n + 1)) (ck := none) (by simp [hr, rgA_nat]) trivial (by rw [List.length_range]; omega) (fun i hi => by
      have hi := List.mem_range.mp hi
      simp [wip, tbV_at (s := s) (T := T) (show i ≤ n by omega), rowV_at (s := s) (T := T) (i := i) hj, not_oV]) (fun i hi _ => by
      have hi := List.mem_range.mp hi
      simp [wip, tbV_at (s := s) (T := T) (show i ≤ n by omega), rowV_at (s := s) (T := T) (i := i) hj])]
    rw [g_mkL_f]
    congr 2
    unfold colL
    clear hd
    induction List.range (n + 1) with
    | nil => rfl
    | cons i l ih =>
      rw [List.filter_cons, List.filterMap_cons]
      cases h : T i j with
      | none => simpa using ih
      | some v => simpa [h, oV] using ih
  have C1 : c_dating_of_1 [some (tbV n T), some (.int n), none, none, none, none] s = .ok (.lst ((List.range (n + 1)).map fun j => .int (colM n T j))) s := by
    unfold c_dating_of_1
    rw [lc_all (fun i : Nat => Va.int i) (fun j => .int (colM n T j)) (l := List.range (n + 1)) (ck := none) (by simp [hr, rgA_nat]) trivial (by rw [List.length_range]; omega) (fun j hj => by
      have hj := List.mem_range.mp hj
      have c2 := C2 j (by omega)
      have m := max_ints (s := s) (hd j (by omega))
      simp [wip, c2, m, colM])]
    rfl
  generalize hL : ((List.range (n + 1)).map fun j => Va.int (colM n T j)) = L at C1
  have lL : L.length = n + 1 := by rw [← hL, List.length_map, List.length_range]
  have at_n : atI L n = some (.int (colM n T n)) := by
    rw [atI_in (d := .non) (by omega) (by omega), Int.toNat_natCast, ← hL, getD_map (fun j => Va.int (colM n T j)) _ n 0 .non (by rw [List.length_range]; omega), List.getD_eq_getElem?_getD, List.getElem?_range (by omega)]
    rfl
  have tk : L.take n = (List.range n).map fun j => Va.int (colM n T j) := by
    rw [← hL, ← List.map_take, List.take_range, Nat.min_eq_left (by omega)]
  have C3 : c_dating_of_3 [some (tbV n T), some (.int n), some (.lst L), none, none, none] s = .ok (.lst ((datM n T).map .int)) s := by
    unfold c_dating_of_3
    rw [lc_all (fun j : Nat => Va.int (colM n T j)) (fun j => .int (colM n T j - colM n T n)) (l := List.range n) (ck := none) (by
      unfold dSeq
      simp only [e_Sl, e_V, List.getElem?_cons_zero, List.getElem?_cons_succ, bind_ok, e_No, e_Some, slL, cut_to (show n ≤ L.length by omega), tk]) trivial (by rw [List.length_range]; omega) (fun j hj => by
      simp [wip, at_n])]
    rw [g_mkL_f]
    unfold datM
    rw [List.map_map]
    rfl
  rw [e0]
  unfold b_dating_of
  simp [C1, C3]
theorem datM_feas {n : Nat} {E : List Edge} (hE : InN n E) (h : Holds E) : Feas E fun i => if i < n then yr (datM n (fw n E)) (i : Nat) else if i = n then 0 else 0 := by
  have c := Dm.holds_calm (n := n) h
  have f := Dm.feas_shift (Dm.col_feas hE c (y := colM n (fw n E)) fun j hj => maxI_p (Dm.col_ne c hj)) (colM n (fw n E) n)
  intro e he
  obtain ⟨h1, h2⟩ := hE e he
  have q := f e he
  have key : ∀ i, i ≤ n → (if i < n then yr (datM n (fw n E)) (i : Nat) else if i = n then 0 else 0) = colM n (fw n E) i - colM n (fw n E) n := fun i hi => by
    by_cases z : i < n
    · rw [if_pos z]
      unfold yr datM
      rw [Int.toNat_natCast, getD_map (fun j => colM n (fw n E) j - colM n (fw n E) n) _ i 0 0 (by rw [List.length_range]; exact z), List.getD_eq_getElem?_getD, List.getElem?_range z]
      rfl
    · rw [if_neg z, show i = n by omega, if_pos rfl]
      omega
  dsimp only at q ⊢
  rw [key _ h1, key _ h2]
  exact q
/-- a dating that keeps all steps keeps all records -/
theorem feas_keeps {n : Nat} {ys : List Int} {rs : List Rec} (hl : ys.length = n) (hf : ∀ r ∈ rs, r.fits n) (h : Feas (edgesR n rs) fun i => if i < n then yr ys (i : Nat) else if i = n then 0 else 0) : ∀ r ∈ rs, r.keeps ys = true := by
  intro r hr
  have g := hf r hr
  have q : Feas (r.edges n) (fun i => if i < n then yr ys (i : Nat) else if i = n then 0 else 0) := fun e he => h e (List.mem_flatMap.mpr ⟨r, hr, he⟩)
  have yv : ∀ a : Int, 0 ≤ a ∧ a < n → (if a.toNat < n then yr ys (a.toNat : Nat) else if a.toNat = n then 0 else 0) = yr ys a := fun a ha => by
    rw [if_pos (by omega), toNat_of ha]
  cases r with
  | before a b w =>
    obtain ⟨g1, g2⟩ := g
    have q1 := q _ (show (a.toNat, b.toNat, w) ∈ _ from List.mem_cons_self)
    dsimp only at q1
    rw [yv a g1, yv b g2] at q1
    exact decide_eq_true q1
  | same a b =>
    obtain ⟨g1, g2⟩ := g
    have q1 := q _ (show (a.toNat, b.toNat, 0) ∈ _ from List.mem_cons_self)
    have q2 := q _ (show (b.toNat, a.toNat, 0) ∈ _ from List.mem_cons_of_mem _ List.mem_cons_self)
    dsimp only at q1 q2
    rw [yv a g1, yv b g2] at q1 q2
    exact decide_eq_true (show yr ys a = yr ys b by omega)
  | within a b w =>
    obtain ⟨g1, g2⟩ := g
    have q1 := q _ (show (b.toNat, a.toNat, -w) ∈ _ from List.mem_cons_self)
    dsimp only at q1
    rw [yv a g1, yv b g2] at q1
    exact decide_eq_true (show yr ys b ≤ yr ys a + w by omega)
  | since a y w =>
    have q1 := q _ (show (n, a.toNat, y) ∈ _ from List.mem_cons_self)
    dsimp only at q1
    rw [yv a g, if_neg (Nat.lt_irrefl n), if_pos rfl] at q1
    exact decide_eq_true (show y ≤ yr ys a by omega)
  | upto a y w =>
    have q1 := q _ (show (a.toNat, n, -y) ∈ _ from List.mem_cons_self)
    dsimp only at q1
    rw [yv a g, if_neg (Nat.lt_irrefl n), if_pos rfl] at q1
    exact decide_eq_true (show yr ys a ≤ y by omega)
  | kind a k => rfl
section
variable {n : Nat} {rs : List Rec} {x : Va} {s : Sto}
theorem dating_ok (wf : WFn s.length s) (hF : Fits n rs) (hx : seqL x s = some (rs.map Rec.va)) (hb : holdB n rs = true) : F_dating [.int n, x] s = .ok (.lst ((datM n (tbOf n rs)).map .int)) s := by
  refine aut_ret0 ?_ vasB_ints wf
  have hH := (holdB_iff hF.2.2).mp hb
  have d := datOf_eq (T := tbOf n rs) wf hF.1 fun j hj => Dm.col_ne (Dm.holds_calm hH) hj
  have e0 : startA 2 [.int n, x] = [some (.int n), some x] := rfl
  rw [e0]
  unfold b_dating
  simp [gFn, sure_ok wf hF hx hb, d]
theorem datM_keeps (hF : Fits n rs) (hb : holdB n rs = true) : ∀ r ∈ rs, r.keeps (datM n (tbOf n rs)) = true :=
  feas_keeps datM_len hF.2.2 (datM_feas (edgesR_in hF.2.2) ((holdB_iff hF.2.2).mp hb))
end
end Dn

set_option Elab.async false
set_option linter.all false
set_option maxRecDepth 100000
set_option maxHeartbeats 1000000
/-! Dn, part Lw: what each law begins with and ends with. -/
namespace Dn
open PySem PySem.Spec PyProof.Rows L2
open Dm (Edge Tb fw InN Calm Holds Feas colL)
theorem wf1 {t : Stm} : WFn [t.ob].length [t.ob] := fun o ho => by
  rw [List.mem_singleton.mp ho]
  exact t.b _
theorem draw1 {t : Stm} {m : Int} (h1 : 0 < m) (h2 : m < 1073741824) : F_l_draw [.ref 0, .int m] [t.ob] = .ok (.int (t.draw m).1) [(t.draw m).2.ob] := draw_eq (stAt_of rfl) h1 h2
theorem stream1 (ns : List Int) : F_l_stream [.ext (ns.map .int)] [] = .ok (.ref 0) [(Stm.mk0 ns).ob] := by
  unfold F_l_stream
  dsimp only
  rw [intsOf_map]
  rfl
/-- all([isinstance(y, int) and not isinstance(y, bool) for y in ys]) -/
theorem ints_all {ys : List Int} {s : Sto} {ε : En} {j : Nat} {de : DE} (h : de ε s = .ok (.lst (ys.map .int)) s) (hl : ys.length ≤ 100000) (hj : j < ε.length) : dApp gAll (dCons (dLc false (dSeq de) (dgName j) dYes (dAndV (dUn (gIsi "int") (dV j)) (dNotV (dUn (gIsi "bool") (dV j)))) [j]) dNil) ε s = .ok (.bl true) s := by
  have C : dLc false (dSeq de) (dgName j) dYes (dAndV (dUn (gIsi "int") (dV j)) (dNotV (dUn (gIsi "bool") (dV j)))) [j] ε s = .ok (.lst (ys.map fun _ => .bl true)) s := by
    rw [lc_all (α := Int) Va.int (fun _ => .bl true) (l := ys) (ck := none) (seq_lst h) trivial hl (fun y _ => by
      have e : ((wip ε [j]).set j (some (Va.int y)))[j]? = some (some (.int y)) := List.getElem?_set_self (by
        show j < (ε.set j none).length
        rw [List.length_set]
        exact hj)
      simp [e, truA])]
    rfl
  have A := all_bl (fun _ : Int => true) (l := ys) (s := s)
  have e2 : ys.all (fun _ => true) = true := List.all_eq_true.mpr fun _ _ => rfl
  rw [e2] at A
  simp only [e_App, e_Cons, C, bind_ok, e_Nil, A]
end Dn

set_option Elab.async false
set_option linter.all false
set_option maxRecDepth 100000
set_option maxHeartbeats 1000000
/-! Dn, part Sq: a dating at an end; the law's ends. -/
namespace Dn
open PySem PySem.Spec PyProof.Rows L2
open Dm (Edge Tb fw InN Calm Holds Feas colL)
/-! the law's ways back, and its ends -/
theorem cl_allG {α : Type} (e f : α → Va) {ck : Option (Nat × Ob)} {dg : DG} {del : DE} {ε : En} {s : Sto} (hk : okk ck s) (g : α → En) : ∀ (l : List α) (acc : List Va), (∀ a ∈ l, dg (e a) ε s = some (g a)) → (∀ a ∈ l, del (g a) s = .ok (f a) s) →
    cl ck dg dYes del ε (l.map e) acc s = .ok (acc ++ l.map f) s
  | [], acc, _, _ => by
    rw [List.map_nil, cl, if_pos hk, List.map_nil, List.append_nil]
  | a :: l, acc, h1, h2 => by
    rw [List.map_cons, cl, if_pos hk, h1 a List.mem_cons_self]
    simp only [e_Yes, noexc_ok, bind_ok, if_true, h2 a List.mem_cons_self]
    rw [cl_allG e f hk g l _ (fun b hb => h1 b (List.mem_cons_of_mem _ hb)) (fun b hb => h2 b (List.mem_cons_of_mem _ hb)), List.map_cons, List.append_assoc]
    rfl
theorem lc_allG {α : Type} (e f : α → Va) {ck : Option (Nat × Ob)} {di : DI} {dg : DG} {vs : List Nat} {del : DE} {ε : En} {s : Sto} {l : List α} (g : α → En) (h1 : di ε s = .ok (ck, l.map e) s) (hk : okk ck s) (h2 : l.length ≤ 100000)
    (h3 : ∀ a ∈ l, dg (e a) (wip ε vs) s = some (g a)) (h4 : ∀ a ∈ l, del (g a) s = .ok (f a) s) {bx : Bool} : dLc bx di dg dYes del vs ε s = mkL bx (l.map f) s := by
  have hq : leq (l.map e).length 100000 := by unfold leq; rw [List.length_map]; exact h2
  have L := cl_allG e f hk g (ε := wip ε vs) l [] h3 h4
  rw [e_Lc, h1]
  simp only [bind_ok, hq, if_true, L, List.nil_append]
section
variable {n i : Nat} {rs : List Rec} {s : Sto}
end
end Dn

set_option Elab.async false
set_option linter.all false
set_option maxRecDepth 100000
set_option maxHeartbeats 1000000
/-! Dn, part Eq: == of nested data; lists of records that are to change. -/
namespace Dn
open PySem PySem.Spec PyProof.Rows L2
/-! a drawn list that is to change -/
/-- the stream, and one list of records that changes -/
def S2 (t : Stm) (rs : List Rec) : Sto := [t.ob, .lst (rs.map Rec.va)]
theorem wf2 {t : Stm} {rs : List Rec} : WFn (S2 t rs).length (S2 t rs) := fun o ho => by
  rcases List.mem_cons.mp ho with rfl | ho
  · exact t.b _
  · rw [List.mem_singleton.mp ho]
    exact vasB_recs
end Dn

set_option Elab.async false
set_option linter.all false
set_option maxRecDepth 100000
set_option maxHeartbeats 1000000
/-! Dn, part Sr: shared by several laws; lists of what is told. -/
namespace Dn
open PySem PySem.Spec PyProof.Rows L2
open Dm (Edge Tb fw InN Calm Holds Feas colL)
theorem keeps_all {rs : List Rec} {ys : List Int} {n j : Nat} {s : Sto} {ε : En} {d x : Va} {dx dd : DE} (hF : Fits n rs) (hx : seqL x s = some (rs.map Rec.va)) (hd : seqL d s = some (ys.map .int)) (hl : ys.length = n) (hk : ∀ r ∈ rs, r.keeps ys = true) (e1 : dx ε s = .ok x s)
    (e2 : ∀ y, dd ((wip ε [j]).set j (some y)) s = .ok d s) (e3 : ∀ y, ((wip ε [j]).set j (some y))[j]? = some (some y)) : dApp gAll (dCons (dLc false (dSeq dx) (dgName j) dYes (dApp (gFn 2 F_l_keeps) (dCons (dV j) (dCons dd dNil))) [j]) dNil) ε s = .ok (.bl true) s := by
  obtain ⟨ck, hck, hS⟩ := seq_src (seqA_L hx)
  have h2 := hF.2.1
  have C : dLc false (dSeq dx) (dgName j) dYes (dApp (gFn 2 F_l_keeps) (dCons (dV j) (dCons dd dNil))) [j] ε s = .ok (.lst (rs.map fun _ => .bl true)) s := by
    rw [lc_all Rec.va (fun _ => .bl true) (l := rs) (ck := ck) (hS dx ε e1) hck (by omega) (fun r hr => by
      have k := keeps_eq (r := r) (d := d) (s := s) hd (by rw [hl]; exact hF.2.2 r hr)
      rw [hk r hr] at k
      simp [gFn, e2, e3, k])]
    rfl
  have A := all_bl (fun _ : Rec => true) (l := rs) (s := s)
  rw [show rs.all (fun _ => true) = true from List.all_eq_true.mpr fun _ _ => rfl] at A
  simp only [e_App, e_Cons, C, bind_ok, e_Nil, A]
theorem pick_ints {t : Stm} {s : Sto} {a : Nat} {xs : List Int} {lo hi : Int} (h : stAt s a = some t) (h1 : 0 < xs.length) (h2 : xs.length < 1073741824) (hb : ∀ x ∈ xs, lo ≤ x ∧ x ≤ hi) : ∃ (m : Int) (u : Stm), F_l_pick [.ref a, .lst (xs.map .int)] s = .ok (.int m) (s.set a u.ob) ∧ lo ≤ m ∧ m ≤ hi := by
  have pk := pick_eq (xs := xs.map Va.int) h (by rw [List.length_map]; exact h1) (by rw [List.length_map]; exact h2)
  rw [List.length_map] at pk
  have pd := t.draw_in (m := (xs.length : Int)) (by omega)
  rw [getD_map Va.int xs _ 0 .non (by omega)] at pk
  exact ⟨_, _, pk, hb _ (getD_mem (by omega))⟩
/-! what is told, one after another, each in a list of its own -/
end Dn

set_option Elab.async false
set_option linter.all false
set_option maxRecDepth 100000
set_option maxHeartbeats 1000000
/-! Dn, part Gr: pop(i); the groups; a dating that goes with an order. -/
namespace Dn
open PySem PySem.Spec PyProof.Rows L2
open Dm (Edge Tb fw InN Calm Holds Feas colL)
section
variable {X : Cx} {CL : Cls0} {W : WX} {o e : Expr} {apos pos : Pos} {de : DE} {da : DA}
end
/-! ### groups -/
noncomputable def b_group_of_L2 : DS := (sIf (dTB (dBin (gEq false) (dBin gIx (dV 4) (dC (.int 0))) (dC (.str "same")))) (sSeq (sSet 5 (dApp gMin2 (dCons (dBin gIx (dV 2) (dBin gIx (dV 4) (dC (.int 1)))) (dCons (dBin gIx (dV 2) (dBin gIx (dV 4) (dC (.int 2)))) dNil))))
  (sSeq (sSetIx (dV 2) (dBin gIx (dV 4) (dC (.int 1))) (dV 5))
  (sSetIx (dV 2) (dBin gIx (dV 4) (dC (.int 2))) (dV 5)))) sNext)
noncomputable def b_group_of_L1 : DS := (sFor (dSeq (dV 1)) (dgName 4)
   b_group_of_L2)
noncomputable def b_group_of : DS := (sSeq (sSet 2 (dLstRg1 true (dV 0)))
  (sSeq (sFor (dRg1 (dCons (dV 0) dNil)) (dgName 3)
   b_group_of_L1)
  (sRet (dV 2))))
noncomputable def F_group_of : List Va → Sto → Rs Va := aut 6 b_group_of
theorem fin_group_of (args : List Va) (s : Sto) (wf : WFn s.length s) (wa : vasB s.length args) (hl : args.length = 2) : Fin s.length (b_group_of (startA 6 args) s) (F_group_of args s) := fin_autoF _
noncomputable def b_l_groups_L2 : DS := (sIf (dTB (dBin (gEq false) (dBin gIx (dV 4) (dC (.int 0))) (dC (.str "same")))) (sSeq (sSet 5 (dApp gMin2 (dCons (dBin gIx (dV 2) (dBin gIx (dV 4) (dC (.int 1)))) (dCons (dBin gIx (dV 2) (dBin gIx (dV 4) (dC (.int 2)))) dNil))))
  (sSeq (sSetIx (dV 2) (dBin gIx (dV 4) (dC (.int 1))) (dV 5))
  (sSetIx (dV 2) (dBin gIx (dV 4) (dC (.int 2))) (dV 5)))) sNext)
noncomputable def b_l_groups_L1 : DS := (sFor (dSeq (dV 1)) (dgName 4)
   b_l_groups_L2)
noncomputable def b_l_groups : DS := (sSeq (sSet 2 (dLstRg1 true (dV 0)))
  (sSeq (sFor (dRg1 (dCons (dV 0) dNil)) (dgName 3)
   b_l_groups_L1)
  (sRet (dV 2))))
noncomputable def F_l_groups : List Va → Sto → Rs Va := aut 6 b_l_groups
theorem fin_l_groups (args : List Va) (s : Sto) (wf : WFn s.length s) (wa : vasB s.length args) (hl : args.length = 2) : Fin s.length (b_l_groups (startA 6 args) s) (F_l_groups args s) := fin_autoF _
def low (a b : Int) : Int := if b < a then b else a
def grpStep (L : List Int) : Rec → List Int
  | .same a b => (L.set a.toNat (low (yr L a) (yr L b))).set b.toNat (low (yr L a) (yr L b))
  | _ => L
def grpRound (rs : List Rec) (L : List Int) : List Int := rs.foldl grpStep L
def natsI (n : Nat) : List Int := (List.range n).map fun i : Nat => (i : Int)
def grpM (n : Nat) (rs : List Rec) : List Int := (List.range n).foldl (fun L _ => grpRound rs L) (natsI n)
structure GI (n : Nat) (L : List Int) : Prop where
  len : L.length = n
  lo : ∀ i : Int, 0 ≤ i → i < n → 0 ≤ yr L i ∧ yr L i ≤ i
theorem yr_set {L : List Int} {a i v : Int} (ha : 0 ≤ a ∧ a < L.length) (hi : 0 ≤ i) : yr (L.set a.toNat v) i = if i = a then v else yr L i := by
  unfold yr
  rw [List.getD_eq_getElem?_getD, List.getD_eq_getElem?_getD]
  by_cases q : i = a
  · subst q
    rw [if_pos rfl, List.getElem?_set_self (by omega)]
    rfl
  · rw [if_neg q, List.getElem?_set_ne (by omega)]
theorem GI.step {n : Nat} {L : List Int} {r : Rec} (g : GI n L) (hf : r.fits n) : GI n (grpStep L r) := by
  cases r with
  | same a b =>
    obtain ⟨h1, h2⟩ := hf
    have e1 := g.len
    dsimp only [grpStep]
    refine ⟨by rw [List.length_set, List.length_set, e1], fun i hi hn => ?_⟩
    have k1 := g.lo a h1.1 h1.2
    have k2 := g.lo b h2.1 h2.2
    have k3 := g.lo i hi hn
    have hm : 0 ≤ low (yr L a) (yr L b) ∧ low (yr L a) (yr L b) ≤ a ∧ low (yr L a) (yr L b) ≤ b := by unfold low; split <;> omega
    generalize low (yr L a) (yr L b) = m at hm ⊢
    rw [yr_set (by rw [List.length_set]; omega) hi, yr_set (by omega) hi]
    split
    · omega
    · split <;> omega
  | _ => exact g
theorem GI.round {n : Nat} {rs : List Rec} (hf : ∀ r ∈ rs, r.fits n) : ∀ {L : List Int}, GI n L → GI n (grpRound rs L) := by
  unfold grpRound
  induction rs with
  | nil => exact fun g => g
  | cons r rs ih => exact fun g => ih (fun x hx => hf x (List.mem_cons_of_mem _ hx)) (g.step (hf r List.mem_cons_self))
theorem GI.start (n : Nat) : GI n (natsI n) := ⟨by unfold natsI; rw [List.length_map, List.length_range], fun i hi hn => by
  unfold yr natsI
  rw [getD_map (fun i : Nat => (i : Int)) _ _ 0 0 (by rw [List.length_range]; omega), List.getD_eq_getElem?_getD, List.getElem?_range (by omega)]
  show 0 ≤ ((i.toNat : Nat) : Int) ∧ ((i.toNat : Nat) : Int) ≤ i
  omega⟩
theorem grpM_ok {n : Nat} {rs : List Rec} (hf : ∀ r ∈ rs, r.fits n) : GI n (grpM n rs) := by
  unfold grpM
  have : ∀ (l : List Nat) (L : List Int), GI n L → GI n (l.foldl (fun L _ => grpRound rs L) L) := fun l => by
    induction l with
    | nil => exact fun L g => g
    | cons a l ih => exact fun L g => ih _ (g.round hf)
  exact this _ _ (GI.start n)
section
variable {s : Sto} {n : Nat}
theorem lget {L : List Int} {i : Int} (h : 0 ≤ i ∧ i < L.length) : gIx (.ref s.length) (.int i) (s ++ [.lst (L.map .int)]) = .ok (.int (yr L i)) (s ++ [.lst (L.map .int)]) :=
  ix_yr (d := .ref s.length) (by unfold seqL; simp only [List.getElem?_concat_length]) h.1 h.2
theorem lset {L : List Int} {i v : Int} (h : 0 ≤ i ∧ i < L.length) : gSetIx (.int v) (.ref s.length) (.int i) (s ++ [.lst (L.map .int)]) = some (s ++ [.lst ((L.set i.toNat v).map .int)]) := by
  rw [set_yr List.getElem?_concat_length h.1 h.2, List.set_append_right _ _ (Nat.le_refl _), Nat.sub_self]
  rfl
theorem group_step {L : List Int} {r : Rec} {e1 e3 e5 : Option Va} (g : GI n L) (hf : r.fits n) : ∃ f5, b_group_of_L2 [some (.int n), e1, some (.ref s.length), e3, some r.va, e5] (s ++ [.lst (L.map .int)]) = .nx [some (.int n), e1, some (.ref s.length), e3, some r.va, f5] (s ++ [.lst ((grpStep L r).map .int)]) := by
  have hl := g.len
  unfold b_group_of_L2
  cases r with
  | same a b =>
    obtain ⟨h1, h2⟩ := hf
    have ga := lget (s := s) (L := L) (i := a) (by omega)
    have gb := lget (s := s) (L := L) (i := b) (by omega)
    have sa := lset (s := s) (L := L) (i := a) (v := low (yr L a) (yr L b)) (by omega)
    have sb := lset (s := s) (L := L.set a.toNat (low (yr L a) (yr L b))) (i := b) (v := low (yr L a) (yr L b)) (by rw [List.length_set]; omega)
    refine ⟨some (.int (low (yr L a) (yr L b))), ?_⟩
    have hm : (if yr L b < yr L a then yr L b else yr L a) = low (yr L a) (yr L b) := rfl
    simp [Rec.va, atI_0, atI_1, atI_2, ga, gb, hm, sa, sb, grpStep, -List.map_set]
  | before a b w => exact ⟨e5, by simp [Rec.va, atI_0, grpStep]⟩
  | within a b w => exact ⟨e5, by simp [Rec.va, atI_0, grpStep]⟩
  | since a y w => exact ⟨e5, by simp [Rec.va, atI_0, grpStep]⟩
  | upto a y w => exact ⟨e5, by simp [Rec.va, atI_0, grpStep]⟩
  | kind a k => exact ⟨e5, by simp [Rec.va, atI_0, grpStep]⟩
theorem group_round {rs : List Rec} {ck : Option (Nat × Ob)} {L : List Int} {e1 e3 e4 e5 : Option Va} (hck : ∀ s2, okk ck (s ++ s2)) (g : GI n L) (hf : ∀ r ∈ rs, r.fits n) : ∃ f4 f5, lp ck (fBody (dgName 4) b_group_of_L2) (rs.map Rec.va) [some (.int n), e1, some (.ref s.length), e3, e4, e5] (s ++ [.lst (L.map .int)]) = .nx [some (.int n), e1, some (.ref s.length), e3, f4, f5] (s ++ [.lst ((grpRound rs L).map .int)]) := by
  obtain ⟨ε', s', K, f4, f5, rfl, rfl, g2⟩ := lp_inv Rec.va (ck := ck) (body := fBody (dgName 4) b_group_of_L2) (fun d ε s' => ∃ f4 f5, ε = [some (.int n), e1, some (.ref s.length), e3, f4, f5] ∧ s' = s ++ [.lst ((grpRound d L).map .int)] ∧ GI n (grpRound d L)) (fun d ε s' ⟨_, _, _, e, _⟩ => by rw [e]; exact hck _) rs [] _ _ ⟨e4, e5, rfl, rfl, g⟩ (by
    rintro d r rest ε s2 hx ⟨f4, f5, rfl, rfl, g2⟩
    rw [List.nil_append] at hx
    have hr : r.fits n := hf r (by rw [hx]; exact List.mem_append_right _ List.mem_cons_self)
    obtain ⟨g5, hb⟩ := group_step (s := s) (e1 := e1) (e3 := e3) (e5 := f5) g2 hr
    have e : grpRound (d ++ [r]) L = grpStep (grpRound d L) r := by unfold grpRound; rw [List.foldl_append]; rfl
    refine ⟨_, _, hb, some r.va, g5, rfl, by rw [e], by rw [e]; exact g2.step hr⟩)
  exact ⟨f4, f5, K⟩
theorem group_of_eq {rs : List Rec} {x : Va} (wf : WFn s.length s) (hn : n ≤ 1000) (hf : ∀ r ∈ rs, r.fits n) (hx : seqL x s = some (rs.map Rec.va)) : F_group_of [.int n, x] s = .ok (.lst ((grpM n rs).map .int)) s := by
  obtain ⟨ck, hck⟩ := seq_push hx
  have hr : inR (n : Int) := ⟨by omega, by omega⟩
  obtain ⟨ε', s', K, f3, f4, f5, rfl, rfl, g2⟩ := lp_inv (fun i : Nat => Va.int i) (ck := none) (body := fBody (dgName 3) b_group_of_L1) (fun d ε s' => ∃ f3 f4 f5, ε = [some (.int n), some x, some (.ref s.length), f3, f4, f5] ∧ s' = s ++ [.lst ((d.foldl (fun L _ => grpRound rs L) (natsI n)).map .int)] ∧ GI n (d.foldl (fun L _ => grpRound rs L) (natsI n))) (fun _ _ _ _ => trivial) (List.range n) []
    [some (.int n), some x, some (.ref s.length), none, none, none] (s ++ [.lst ((natsI n).map .int)]) ⟨none, none, none, rfl, rfl, GI.start n⟩ (by
    rintro d i rest ε s2 _ ⟨f3, f4, f5, rfl, rfl, g2⟩
    obtain ⟨f6, f7, h⟩ := group_round (s := s) (rs := rs) (ck := ck) (e1 := some x) (e3 := some (.int i)) (e4 := f4) (e5 := f5) (fun s2 => (hck s2).1) g2 hf
    refine ⟨_, _, ?_, some (.int i), f6, f7, rfl, by rw [List.foldl_append], by rw [List.foldl_append]; exact g2.round hf⟩
    have S := (hck [.lst ((d.foldl (fun L _ => grpRound rs L) (natsI n)).map .int)]).2 (dV 1) [some (.int n), some x, some (.ref s.length), some (.int i), f4, f5] rfl
    rw [e_fBody, e_dgName]
    dsimp only [List.set]
    unfold b_group_of_L1
    rw [e_for, S, fl_ok]
    dsimp only
    rw [h]
    rfl)
  have gm := grpM_ok hf
  refine aut_new (s1 := s) (s2 := []) ?_ rfl vasB_ints (by rw [List.length_map]; have := gm.len; omega) wf
  have e0 : startA 6 [.int n, x] = [some (.int n), some x, none, none, none, none] := rfl
  have e2 : gRg true 0 n s = .ok (.ref s.length) (s ++ [.lst ((natsI n).map .int)]) := by
    unfold gRg
    rw [if_pos ⟨⟨by omega, by omega⟩, hr, by unfold leq; omega⟩, rgA_nats]
    unfold natsI
    rw [List.map_map]
    rfl
  rw [e0]
  unfold b_group_of
  simp only [e_seq, e_set, e_LstRg1, e_V, List.getElem?_cons_zero, List.getElem?_cons_succ, bind_ok, e2, fl_ok, List.set, e_for, e_rg1, e_Cons, e_Nil, hr, if_true, rgA_nats, K, e_ret]
  rfl
theorem l_groups_eq {rs : List Rec} {x : Va} (wf : WFn s.length s) (hn : n ≤ 1000) (hf : ∀ r ∈ rs, r.fits n) (hx : seqL x s = some (rs.map Rec.va)) : F_l_groups [.int n, x] s = .ok (.lst ((grpM n rs).map .int)) s := group_of_eq wf hn hf hx
end
/-! ### goes_with -/
noncomputable def b_goes_with_L1 : DS := (sIf (dTB (dBin (gEq true) (dBin gIx (dV 3) (dV 5)) (dV 5))) (sDrop (dMt gAppend (dV 4) (dCons (dTup (dCons (dC (.str "same")) (dCons (dBin gIx (dV 3) (dV 5)) (dCons (dV 5) dNil)))) dNil))) sNext)
noncomputable def b_goes_with_L2 : DS := (sDrop (dMt gAppend (dV 4) (dCons (dTup (dCons (dC (.str "before")) (dCons (dBin gIx (dV 2) (dV 6)) (dCons (dBin gIx (dV 2) (dBin (gAdd false) (dV 6) (dC (.int 1)))) (dCons (dC (.int 0)) dNil))))) dNil)))
noncomputable def b_goes_with : DS := (sSeq (sSet 3 (dApp (gFn 2 F_group_of) (dCons (dV 0) (dCons (dV 1) dNil))))
  (sSeq (sSet 4 (dApp (gList true) (dCons (dV 1) dNil)))
  (sSeq (sFor (dRg1 (dCons (dV 0) dNil)) (dgName 5)
   b_goes_with_L1)
  (sSeq (sFor (dRg1 (dCons (dBin gSub (dApp gLen (dCons (dV 2) dNil)) (dC (.int 1))) dNil)) (dgName 6)
   b_goes_with_L2)
  (sRet (dIf (dTr (dApp (gFn 2 F_do_hold) (dCons (dV 0) (dCons (dV 4) dNil)))) (dApp (gFn 2 F_dating) (dCons (dV 0) (dCons (dV 4) dNil))) (dC .non)))))))
noncomputable def F_goes_with : List Va → Sto → Rs Va := aut 7 b_goes_with
theorem fin_goes_with (args : List Va) (s : Sto) (wf : WFn s.length s) (wa : vasB s.length args) (hl : args.length = 3) : Fin s.length (b_goes_with (startA 7 args) s) (F_goes_with args s) := fin_autoF _
def moreS (L : List Int) (us : List Nat) : List Rec := (us.filter fun u => yr L (u : Nat) != (u : Int)).map fun u => .same (yr L (u : Nat)) (u : Nat)
def moreB (o : List Int) (ks : List Nat) : List Rec := ks.map fun k => .before (yr o (k : Nat)) (yr o ((k : Int) + 1)) 0
def moreR (n : Nat) (rs : List Rec) (o : List Int) : List Rec := moreS (grpM n rs) (List.range n) ++ moreB o (List.range (o.length - 1))
theorem moreS_fits {n : Nat} {L : List Int} {us : List Nat} (g : GI n L) (h : ∀ u ∈ us, u < n) : ∀ r ∈ moreS L us, r.fits n := by
  intro r hr
  unfold moreS at hr
  obtain ⟨u, h1, rfl⟩ := List.mem_map.mp hr
  have hu := h u (List.mem_filter.mp h1).1
  have := g.lo (u : Nat) (by omega) (by omega)
  exact ⟨by omega, by omega⟩
theorem moreB_fits {n : Nat} {o : List Int} (h : ∀ v ∈ o, 0 ≤ v ∧ v < n) : ∀ r ∈ moreB o (List.range (o.length - 1)), r.fits n := by
  intro r hr
  unfold moreB at hr
  obtain ⟨k, h1, rfl⟩ := List.mem_map.mp hr
  have hk := List.mem_range.mp h1
  refine ⟨h _ (getD_mem (by omega)), h _ (getD_mem (by omega))⟩
theorem moreR_len {n : Nat} {rs : List Rec} {o : List Int} : (moreR n rs o).length ≤ n + o.length := by
  unfold moreR moreS moreB
  rw [List.length_append, List.length_map, List.length_map, List.length_range]
  have := List.length_filter_le (fun u : Nat => yr (grpM n rs) (u : Nat) != (u : Int)) (List.range n)
  rw [List.length_range] at this
  omega
theorem moreR_fits {n : Nat} {rs : List Rec} {o : List Int} (hf : ∀ r ∈ rs, r.fits n) (h : ∀ v ∈ o, 0 ≤ v ∧ v < n) : ∀ r ∈ moreR n rs o, r.fits n := fun r hr =>
  (List.mem_append.mp hr).elim (moreS_fits (grpM_ok hf) (fun u hu => List.mem_range.mp hu) r) (moreB_fits h r)
noncomputable def goesV (n : Nat) (w : List Rec) : Va := if holdB n w then .lst ((datM n (tbOf n w)).map .int) else .non
theorem goes_eq {s : Sto} {n : Nat} {rs : List Rec} {o : List Int} (wf : WFn s.length s) (hF : Fits n rs) (ho : ∀ v ∈ o, 0 ≤ v ∧ v < n) (hol : o.length ≤ 1000) (ho1 : 1 ≤ o.length) (hrl : rs.length ≤ 1000) : F_goes_with [.int n, .lst (rs.map Rec.va), .lst (o.map .int)] s = .ok (goesV n (rs ++ moreR n rs o)) s := by
  have hn := hF.1
  have gm := grpM_ok hF.2.2
  have G := group_of_eq (x := .lst (rs.map Rec.va)) wf hn hF.2.2 rfl
  have hr : inR (n : Int) := ⟨by omega, by omega⟩
  have hr2 : inR ((o.length : Int) - 1) := ⟨by omega, by omega⟩
  have ap : ∀ (qs : List Rec) (r : Rec), qs.length ≤ 100000 → gAppend (.ref s.length) [r.va] (s ++ [.lst (qs.map Rec.va)]) = .ok .non (s ++ [.lst ((qs ++ [r]).map Rec.va)]) := fun qs r h => by
    rw [push_one (by rw [List.length_map]; omega), List.map_append]
    rfl
  have il : ∀ (qs : List Rec), isL (.ref s.length) (s ++ [.lst (qs.map Rec.va)]) = true := fun qs => isL_top
  obtain ⟨ε1, s1, K1, f5, rfl, rfl⟩ := lp_inv (fun i : Nat => Va.int i) (ck := none) (body := fBody (dgName 5) b_goes_with_L1) (fun d ε s' => ∃ f5, ε = [some (.int n), some (.lst (rs.map Rec.va)), some (.lst (o.map .int)), some (.lst ((grpM n rs).map .int)), some (.ref s.length), f5, none] ∧ s' = s ++ [.lst ((rs ++ moreS (grpM n rs) d).map Rec.va)]) (fun _ _ _ _ => trivial) (List.range n) []
    [some (.int n), some (.lst (rs.map Rec.va)), some (.lst (o.map .int)), some (.lst ((grpM n rs).map .int)), some (.ref s.length), none, none] (s ++ [.lst (rs.map Rec.va)]) ⟨none, rfl, by rw [show moreS (grpM n rs) [] = [] from rfl, List.append_nil]⟩ (by
    rintro d u rest ε s2 hd ⟨f5, rfl, rfl⟩
    rw [List.nil_append] at hd
    have hl := congrArg List.length hd
    rw [List.length_range, List.length_append] at hl
    have hu : u < n := List.mem_range.mp (by rw [hd]; exact List.mem_append_right _ List.mem_cons_self)
    have ga : ∀ s, gIx (.lst ((grpM n rs).map .int)) (.int u) s = .ok (.int (yr (grpM n rs) (u : Nat))) s := fun s => yr_at ⟨by omega, by have := gm.len; omega⟩
    have lS : (moreS (grpM n rs) d).length ≤ d.length := by unfold moreS; rw [List.length_map]; exact List.length_filter_le _ _
    have A := ap (rs ++ moreS (grpM n rs) d) (.same (yr (grpM n rs) (u : Nat)) (u : Nat)) (by rw [List.length_append]; omega)
    have I := il (rs ++ moreS (grpM n rs) d)
    have e : moreS (grpM n rs) (d ++ [u]) = moreS (grpM n rs) d ++ moreS (grpM n rs) [u] := by unfold moreS; rw [List.filter_append, List.map_append]
    rw [e_fBody, e_dgName]
    dsimp only [List.set]
    rw [e, ← List.append_assoc]
    generalize rs ++ moreS (grpM n rs) d = qs at A I ⊢
    unfold b_goes_with_L1 moreS
    by_cases q : yr (grpM n rs) (u : Nat) = (u : Int)
    · refine ⟨_, _, ?_, some (.int u), rfl, rfl⟩
      simp [ga, q, -g_ix_lst]
    · refine ⟨_, _, ?_, some (.int u), rfl, rfl⟩
      have q2 : (yr (grpM n rs) (u : Nat) != (u : Int)) = true := by simpa using q
      have A' : gAppend (.ref s.length) [.tup [.str "same", .int (yr (grpM n rs) (u : Nat)), .int u]] (s ++ [.lst (qs.map Rec.va)]) = .ok .non (s ++ [.lst ((qs ++ [Rec.same (yr (grpM n rs) (u : Nat)) (u : Nat)]).map Rec.va)]) := A
      have q3 : [u].filter (fun u : Nat => yr (grpM n rs) (u : Nat) != (u : Int)) = [u] := List.filter_cons_of_pos q2
      rw [q3]
      simp only [List.map_cons, List.map_nil]
      simp [ga, q, I, A', -g_ix_lst, -List.map_append])
  rw [List.nil_append] at K1
  obtain ⟨ε2, s2, K2, f6, rfl, rfl⟩ := lp_inv (fun i : Nat => Va.int i) (ck := none) (body := fBody (dgName 6) b_goes_with_L2) (fun d ε s' => ∃ f6, ε = [some (.int n), some (.lst (rs.map Rec.va)), some (.lst (o.map .int)), some (.lst ((grpM n rs).map .int)), some (.ref s.length), f5, f6] ∧ s' = s ++ [.lst ((rs ++ moreS (grpM n rs) (List.range n) ++ moreB o d).map Rec.va)]) (fun _ _ _ _ => trivial) (List.range (o.length - 1)) []
    [some (.int n), some (.lst (rs.map Rec.va)), some (.lst (o.map .int)), some (.lst ((grpM n rs).map .int)), some (.ref s.length), f5, none] (s ++ [.lst ((rs ++ moreS (grpM n rs) (List.range n)).map Rec.va)]) ⟨none, rfl, by rw [show moreB o [] = [] from rfl, List.append_nil]⟩ (by
    rintro d k rest ε s2 hd ⟨f6, rfl, rfl⟩
    rw [List.nil_append] at hd
    have hl := congrArg List.length hd
    rw [List.length_range, List.length_append] at hl
    have hk : k < o.length - 1 := List.mem_range.mp (by rw [hd]; exact List.mem_append_right _ List.mem_cons_self)
    have lS : (moreS (grpM n rs) (List.range n)).length ≤ n := by
      unfold moreS
      rw [List.length_map]
      have := List.length_filter_le (fun u : Nat => yr (grpM n rs) (u : Nat) != (u : Int)) (List.range n)
      rw [List.length_range] at this
      exact this
    have lB : (moreB o d).length = d.length := by unfold moreB; rw [List.length_map]
    have ga : ∀ s, gIx (.lst (o.map .int)) (.int k) s = .ok (.int (yr o (k : Nat))) s := fun s => yr_at ⟨by omega, by omega⟩
    have gb : ∀ s, gIx (.lst (o.map .int)) (.int ((k : Int) + 1)) s = .ok (.int (yr o ((k : Int) + 1))) s := fun s => yr_at ⟨by omega, by omega⟩
    have A := ap (rs ++ moreS (grpM n rs) (List.range n) ++ moreB o d) (.before (yr o (k : Nat)) (yr o ((k : Int) + 1)) 0) (by rw [List.length_append, List.length_append]; omega)
    have I := il (rs ++ moreS (grpM n rs) (List.range n) ++ moreB o d)
    have e : moreB o (d ++ [k]) = moreB o d ++ [.before (yr o (k : Nat)) (yr o ((k : Int) + 1)) 0] := by unfold moreB; rw [List.map_append]; rfl
    rw [e_fBody, e_dgName]
    dsimp only [List.set]
    rw [e, ← List.append_assoc]
    generalize rs ++ moreS (grpM n rs) (List.range n) ++ moreB o d = qs at A I ⊢
    refine ⟨_, _, ?_, some (.int k), rfl, rfl⟩
    have A' : gAppend (.ref s.length) [.tup [.str "before", .int (yr o (k : Nat)), .int (yr o ((k : Int) + 1)), .int 0]] (s ++ [.lst (qs.map Rec.va)]) = .ok .non (s ++ [.lst ((qs ++ [Rec.before (yr o (k : Nat)) (yr o ((k : Int) + 1)) 0]).map Rec.va)]) := A
    unfold b_goes_with_L2
    simp [ga, gb, I, A', -g_ix_lst, -List.map_append])
  rw [List.nil_append] at K2
  have eW : rs ++ moreS (grpM n rs) (List.range n) ++ moreB o (List.range (o.length - 1)) = rs ++ moreR n rs o := by unfold moreR; rw [List.append_assoc]
  rw [eW] at K2
  have hl2 := moreR_len (n := n) (rs := rs) (o := o)
  have hF2 : Fits n (rs ++ moreR n rs o) := ⟨hn, by rw [List.length_append]; omega, fun r hr => (List.mem_append.mp hr).elim (hF.2.2 r) (moreR_fits hF.2.2 ho r)⟩
  generalize rs ++ moreR n rs o = W at K2 hF2
  have wf2 : WFn (s ++ [Ob.lst (W.map Rec.va)]).length (s ++ [Ob.lst (W.map Rec.va)]) := wf_push wf vasB_recs
  have hx : seqL (.ref s.length) (s ++ [Ob.lst (W.map Rec.va)]) = some (W.map Rec.va) := by
    unfold seqL
    simp only [List.getElem?_concat_length]
  have D := hold_eq hF2 hx
  have ln : ∀ s, gLen [.lst (o.map .int)] s = .ok (.int o.length) s := fun s => by rw [g_len_lst, List.length_map]
  have rg2 : rgA 0 ((o.length : Int) - 1) = (List.range (o.length - 1)).map fun i : Nat => Va.int i := by
    rw [show (o.length : Int) - 1 = ((o.length - 1 : Nat) : Int) by omega, rgA_nats]
  refine aut_ret (s0 := s ++ [.lst (W.map Rec.va)]) ?_ (List.take_left' rfl) (by unfold goesV; split; exact vasB_ints; trivial) wf
  have e0 : startA 7 [.int n, .lst (rs.map Rec.va), .lst (o.map .int)] = [some (.int n), some (.lst (rs.map Rec.va)), some (.lst (o.map .int)), none, none, none, none] := rfl
  rw [e0]
  unfold b_goes_with goesV
  cases hb : holdB n W with
  | true =>
    have DT := dating_ok wf2 hF2 hx hb
    rw [hb] at D
    simp only [e_seq, e_set, e_App, e_Cons, e_V, List.getElem?_cons_zero, List.getElem?_cons_succ, bind_ok, e_Nil, gFn, List.length_cons, List.length_nil, if_true, G, fl_ok, List.set, g_list_lst, g_mkL_t, e_for, e_rg1, hr, rgA_nats, K1, e_Bin, ln, e_C, g_sub, hr2, rg2, K2, e_ret, e_If, e_Tr, D, truA, DT]
  | false =>
    rw [hb] at D
    simp only [e_seq, e_set, e_App, e_Cons, e_V, List.getElem?_cons_zero, List.getElem?_cons_succ, bind_ok, e_Nil, gFn, List.length_cons, List.length_nil, if_true, G, fl_ok, List.set, g_list_lst, g_mkL_t, e_for, e_rg1, hr, rgA_nats, K1, e_Bin, ln, e_C, g_sub, hr2, rg2, K2, e_ret, e_If, e_Tr, D, truA, Bool.false_eq_true, if_false]
end Dn

set_option Elab.async false
set_option linter.all false
set_option maxRecDepth 100000
set_option maxHeartbeats 1000000
/-! Dn, part Pr: pairs of ints, sorted; slices and sums of lists. -/
namespace Dn
open PySem PySem.Spec PyProof.Rows L2
open Dm (Edge Tb fw InN Calm Holds Feas colL)
def prV (p : Int × Int) : Va := .tup [.int p.1, .int p.2]
def leP (p q : Int × Int) : Prop := p.1 < q.1 ∨ (p.1 = q.1 ∧ p.2 ≤ q.2)
instance (p q : Int × Int) : Decidable (leP p q) := inferInstanceAs (Decidable (_ ∨ _))
def insP (a : Int × Int) : List (Int × Int) → List (Int × Int)
  | [] => [a]
  | b :: r => if leP a b then a :: b :: r else b :: insP a r
def srtP : List (Int × Int) → List (Int × Int)
  | [] => []
  | a :: r => insP a (srtP r)
theorem insP_perm (a : Int × Int) : ∀ l : List (Int × Int), (insP a l).Perm (a :: l)
  | [] => .refl _
  | b :: r => by
    unfold insP
    split
    · exact .refl _
    · exact ((insP_perm a r).cons b).trans (.swap a b r)
theorem srtP_perm : ∀ l : List (Int × Int), (srtP l).Perm l
  | [] => .refl _
  | a :: r => (insP_perm a _).trans ((srtP_perm r).cons a)
theorem leP_tot {p q : Int × Int} (h : ¬ leP p q) : leP q p := by
  unfold leP at h ⊢
  omega
theorem leP_tr {p q r : Int × Int} (h : leP p q) (h2 : leP q r) : leP p r := by
  unfold leP at h h2 ⊢
  omega
theorem leP_as {p q : Int × Int} (h : leP p q) (h2 : leP q p) : p = q := by
  unfold leP at h h2
  exact Prod.ext (by omega) (by omega)
theorem insP_sorted (a : Int × Int) : ∀ l : List (Int × Int), l.Pairwise leP → (insP a l).Pairwise leP
  | [], _ => by simp [insP]
  | b :: r, h => by
    unfold insP
    have h2 := List.pairwise_cons.mp h
    split
    · rename_i hab
      refine List.pairwise_cons.mpr ⟨fun x hx => ?_, h⟩
      rcases List.mem_cons.mp hx with hx | hx
      · rw [hx]; exact hab
      · exact leP_tr hab (h2.1 x hx)
    · rename_i hab
      refine List.pairwise_cons.mpr ⟨fun x hx => ?_, insP_sorted a r h2.2⟩
      have := (insP_perm a r).mem_iff.mp hx
      rcases List.mem_cons.mp this with hx | hx
      · rw [hx]; exact leP_tot hab
      · exact h2.1 x hx
theorem srtP_sorted : ∀ l : List (Int × Int), (srtP l).Pairwise leP
  | [] => .nil
  | a :: r => insP_sorted a _ (srtP_sorted r)
theorem permP_eq : ∀ {l m : List (Int × Int)}, l.Perm m → l.Pairwise leP → m.Pairwise leP → l = m
  | [], m, p, _, _ => p.nil_eq
  | a :: l, [], p, _, _ => by
    have := p.length_eq
    simp at this
  | a :: l, b :: m, p, h1, h2 => by
    have g1 := List.pairwise_cons.mp h1
    have g2 := List.pairwise_cons.mp h2
    have e : a = b := by
      have m1 : a ∈ b :: m := p.mem_iff.mp List.mem_cons_self
      have m2 : b ∈ a :: l := p.mem_iff.mpr List.mem_cons_self
      rcases List.mem_cons.mp m1 with q | q
      · exact q
      · rcases List.mem_cons.mp m2 with q2 | q2
        · exact q2.symm
        · exact leP_as (g1.1 b q2) (g2.1 a q)
    subst e
    rw [permP_eq p.cons_inv g1.2 g2.2]
def prOf : List Va → Option (List (Int × Int))
  | [] => some []
  | x :: xs => match x, prOf xs with
    | .tup [.int i, .int j], some ps => some ((i, j) :: ps)
    | _, _ => none
theorem prOf_map : ∀ ps : List (Int × Int), prOf (ps.map prV) = some ps
  | [] => rfl
  | (i, j) :: ps => by
    have ih := prOf_map ps
    show prOf (.tup [.int i, .int j] :: ps.map prV) = _
    simp only [prOf, ih]
theorem prOf_eq : ∀ {xs : List Va} {ps : List (Int × Int)}, prOf xs = some ps → xs = ps.map prV
  | [], ps, h => by
    cases h
    rfl
  | x :: xs, ps, h => by
    unfold prOf at h
    split at h
    · rename_i i j ps' e
      cases h
      rw [List.map_cons, prOf_eq e]
      rfl
    · cases h
def gSortP (bx : Bool) (xs : List Va) (s : Sto) : Rs Va := match xs with
  | [x] => match seqL x s with
    | some ys => match prOf ys with
      | some ps => mkL bx ((srtP ps).map prV) s
      | none => .bad
    | none => .bad
  | _ => .bad
/-- the pair that stands at a place -/
noncomputable def pairAt (H : Hp) (v : V) : Int × Int := match v with
  | .ref a => match H a with
    | some (.tup [.int i, .int j]) => (i, j)
    | _ => (0, 0)
  | _ => (0, 0)
theorem pair_rl {K : PySem.W.Frag} {F H : Hp} {as : List Addr} (sub : ∀ a o, F a = some o → H a = some o) : ∀ {ps : List (Int × Int)} {vs : List V}, Rls K F as (ps.map prV) vs → (∀ v ∈ vs, ∃ a, v = .ref a ∧ F a = some (.tup [.int (pairAt H v).1, .int (pairAt H v).2])) ∧ vs.map (pairAt H) = ps
  | [], _, .nil => ⟨fun _ h => by simp at h, rfl⟩
  | p :: ps, _, .cons (v := v) (vs := vs) h t => by
    obtain ⟨h1, h2⟩ := pair_rl sub t
    have h0 : (∃ a, v = .ref a ∧ F a = some (.tup [.int p.1, .int p.2])) := by
      cases h with
      | tup hf hr =>
        cases hr with
        | cons r1 r2 =>
          cases r2 with
          | cons r3 r4 =>
            cases r1
            cases r3
            cases r4
            exact ⟨_, rfl, hf⟩
    obtain ⟨a, rfl, hf⟩ := h0
    have hp : pairAt H (.ref a) = p := by
      unfold pairAt
      dsimp only
      rw [sub _ _ hf]
    refine ⟨fun v hv => ?_, by rw [List.map_cons, hp, h2]⟩
    rcases List.mem_cons.mp hv with rfl | hv
    · exact ⟨a, rfl, by rw [hp]; exact hf⟩
    · exact h1 v hv
theorem pair_back {K : PySem.W.Frag} {F H : Hp} {as : List Addr} : ∀ {vs : List V}, (∀ v ∈ vs, ∃ a, v = .ref a ∧ F a = some (.tup [.int (pairAt H v).1, .int (pairAt H v).2])) → Rls K F as ((vs.map (pairAt H)).map prV) vs
  | [], _ => .nil
  | v :: vs, h => by
    obtain ⟨a, e, hf⟩ := h v List.mem_cons_self
    refine .cons ?_ (pair_back fun w hw => h w (List.mem_cons_of_mem _ hw))
    generalize pairAt H v = p at hf
    subst e
    exact .tup hf (.cons (.int _) (.cons (.int _) .nil))
theorem opN_sortP {K : PySem.W.Frag} {bx : Bool} : OpN K (rSortedPO K) (gSortP bx) := by
  intro CL W F G as s H x v Q S rx q
  unfold gSortP at q
  split at q
  · obtain ⟨w, rfl, r⟩ := Rls1 rx
    split at q
    · rename_i ys e
      split at q
      · rename_i ps e2
        obtain ⟨a, vs, rfl, h2, h3⟩ := seqL_ok S r e
        have e3 := prOf_eq e2
        subst e3
        obtain ⟨g1, g2⟩ := pair_rl (H := H) S.sub h3
        refine ⟨a, vs, pairAt H, rfl, SqL.of h2, fun x hx => ?_, fun ys p hs hb hn => ?_⟩
        · obtain ⟨t, e, hf⟩ := g1 x hx
          exact ⟨t, e, S.sub _ _ hf⟩
        · have hperm : (ys.map (pairAt H)).Perm ps := by
            rw [← g2]
            exact hb.perm.map _
          have hsort : (ys.map (pairAt H)).Pairwise leP := by
            refine List.pairwise_map.mpr (List.Pairwise.imp ?_ hs)
            intro x y hxy
            have := SrtO.lexB_no.mp hxy
            unfold leP
            omega
          have he := permP_eq (hperm.trans (srtP_perm ps).symm) hsort (srtP_sorted ps)
          have rl : Rls K F as ((srtP ps).map prV) ys := by
            rw [← he]
            exact pair_back fun v hv => g1 v (hb.perm.mem_iff.mp hv)
          exact mkL_ok S rl q p hn
      · exact q.elim
    · exact q.elim
  · exact q.elim
section
variable {X : Cx} {CL : Cls0} {W : WX} {k : Nat} {e : Expr} {dr : DA} {p pos : Pos}
theorem re_sortP (O : Okc X W k) (bx : Bool) (hm : X.mg "sorted" = none) (ha : RA X CL W [e] dr) (hG : Gl X "sorted" := by rfl) (he : starEach [e] X.env = (false, eval e X.env) :: starEach [] X.env := by rfl) : RE X CL W (.Call (.Name "sorted" p) [e] [] pos) (dApp (gSortP bx) dr) := re_callB cr_sortedPO opN_sortP hG hm (by decide +kernel) ha (he := he)
end
theorem cut_ints {xs : List Int} {lo hi : Option Int} : ∃ qs : List Int, cutA (xs.map Va.int) lo hi = qs.map Va.int ∧ qs.length ≤ xs.length ∧ ∀ r ∈ qs, r ∈ xs := by
  unfold cutA
  refine ⟨(xs.drop (HT.sIx (xs.map Va.int).length 0 lo)).take (HT.sIx (xs.map Va.int).length (xs.map Va.int).length hi - HT.sIx (xs.map Va.int).length 0 lo), ?_, ?_, fun r hr => List.mem_of_mem_drop (List.mem_of_mem_take hr)⟩
  · rw [List.map_take, List.map_drop]
  · rw [List.length_take, List.length_drop]
    omega
theorem add_ints {xs ys : List Int} {s : Sto} (h : xs.length + ys.length ≤ 100000) : gAdd false (.lst (xs.map .int)) (.lst (ys.map .int)) s = .ok (.lst ((xs ++ ys).map .int)) s := by
  unfold gAdd
  have h1 : ∀ zs : List Va, seqL (.lst zs) s = some zs := fun _ => rfl
  simp only [h1]
  rw [if_pos (show leq _ _ from Nat.le_of_lt (lt_line (by rw [List.length_map, List.length_map]; omega))), List.map_append]
  rfl
theorem add_recs {xs ys : List Rec} {s : Sto} (h : xs.length + ys.length ≤ 100000) : gAdd false (.lst (xs.map Rec.va)) (.lst (ys.map Rec.va)) s = .ok (.lst ((xs ++ ys).map Rec.va)) s := by
  unfold gAdd
  have h1 : ∀ zs : List Va, seqL (.lst zs) s = some zs := fun _ => rfl
  simp only [h1]
  rw [if_pos (show leq _ _ from Nat.le_of_lt (lt_line (by rw [List.length_map, List.length_map]; omega))), List.map_append]
  rfl
end Dn

set_option Elab.async false
set_option linter.all false
set_option maxRecDepth 100000
set_option maxHeartbeats 4000000
/-! k49: the law. -/
namespace Dn
open PySem PySem.Spec PyProof.Rows L2
open Dm (Edge Tb fw InN Calm Holds Feas colL)
noncomputable def c_l_is_dating_1 : DE := (dLc false (dSeq (dV 1)) (dgName 2) dYes (dAndV (dUn (gIsi "int") (dV 2)) (dNotV (dUn (gIsi "bool") (dV 2)))) [2])
noncomputable def b_l_is_dating : DS := (sSeq (sIf (dOr (dNot (dTr (dUn (gIsi "list") (dV 1)))) (dTB (dBin (gEq true) (dApp gLen (dCons (dV 1) dNil)) (dV 0)))) (sRet (dC (.bl false))) sNext)
  (sRet (dApp gAll (dCons c_l_is_dating_1 dNil))))
noncomputable def F_l_is_dating : List Va → Sto → Rs Va := aut 3 b_l_is_dating
theorem fin_l_is_dating (args : List Va) (s : Sto) (wf : WFn s.length s) (wa : vasB s.length args) (hl : args.length = 2) : Fin s.length (b_l_is_dating (startA 3 args) s) (F_l_is_dating args s) := fin_autoF _
noncomputable def c_law_2 : DE := (dLc false (dRg1 (dCons (dV 2) dNil)) (dgName 8) (dTB (dBin (gEq false) (dBin gIx (dV 5) (dV 8)) (dV 8))) (dTup (dCons (dBin gIx (dV 3) (dV 8)) (dCons (dV 8) dNil))) [8])
noncomputable def c_law_1 : DE := (dLc false (dSeq (dApp (gSortP false) (dCons c_law_2 dNil))) (dgTup [7, 8]) dYes (dV 8) [7, 8])
noncomputable def b_law_L1 : DS := (sSeq (sSet 10 (dApp (gFn 2 F_l_draw) (dCons (dV 1) (dCons (dApp gLen (dCons (dV 6) dNil)) dNil))))
  (sSeq (sSet 11 (dApp gMin2 (dCons (dBin gSub (dApp gLen (dCons (dV 6) dNil)) (dC (.int 1))) (dCons (dBin (gAdd false) (dBin (gAdd false) (dV 10) (dC (.int 1))) (dApp (gFn 2 F_l_draw) (dCons (dV 1) (dCons (dC (.int 3)) dNil)))) dNil))))
  (sSet 6 (dBin (gAdd false) (dBin (gAdd false) (dBin (gAdd false) (dSl false (dV 6) dNo (dSome (dV 10))) (dSl false (dV 6) (dSome (dBin (gAdd false) (dV 10) (dC (.int 1)))) (dSome (dBin (gAdd false) (dV 11) (dC (.int 1)))))) (dLst false (dCons (dBin gIx (dV 6) (dV 10)) dNil))) (dSl false (dV 6) (dSome (dBin (gAdd false) (dV 11) (dC (.int 1)))) dNo)))))
noncomputable def c_law_3 : DE := (dLc false (dRg1 (dCons (dV 2) dNil)) (dgName 13) (dTB (dBin (gEq true) (dBin gIx (dV 5) (dV 13)) (dV 13))) (dTup (dCons (dC (.str "same")) (dCons (dBin gIx (dV 5) (dV 13)) (dCons (dV 13) dNil)))) [13])
noncomputable def c_law_4 : DE := (dLc false (dRg1 (dCons (dBin gSub (dApp gLen (dCons (dV 6) dNil)) (dC (.int 1))) dNil)) (dgName 9) dYes (dTup (dCons (dC (.str "before")) (dCons (dBin gIx (dV 6) (dV 9)) (dCons (dBin gIx (dV 6) (dBin (gAdd false) (dV 9) (dC (.int 1)))) (dCons (dC (.int 0)) dNil))))) [9])
noncomputable def c_law_5 : DE := (dLc false (dSeq (dBin (gAdd false) (dV 4) (dV 12))) (dgName 15) dYes (dApp (gFn 2 F_l_keeps) (dCons (dV 15) (dCons (dV 14) dNil))) [15])
noncomputable def r_law_7 : DS := (sSeq (sSet 12 c_law_3)
  (sSeq (sSet 12 (dBin (gAdd false) (dV 12) c_law_4))
  (sSeq (sSet 14 (dApp (gFn 3 F_goes_with) (dCons (dV 2) (dCons (dApp (gList false) (dCons (dV 4) dNil)) (dCons (dApp (gList false) (dCons (dV 6) dNil)) dNil)))))
  (sSeq (sIf (dNot (dTr (dApp (gFn 2 F_l_holds) (dCons (dV 2) (dCons (dBin (gAdd false) (dV 4) (dV 12)) dNil))))) (sRet (dBin (gIs false) (dV 14) (dC .non))) sNext)
  (sRet (dAndV (dApp (gFn 2 F_l_is_dating) (dCons (dV 2) (dCons (dV 14) dNil))) (dApp gAll (dCons c_law_5 dNil))))))))
noncomputable def b_law : DS := (sSeq (sSet 1 (dApp (gFn 1 F_l_stream) (dCons (dV 0) dNil)))
  (sSeq (sSet 2 (dBin (gAdd false) (dC (.int 20)) (dApp (gFn 2 F_l_draw) (dCons (dV 1) (dCons (dC (.int 11)) dNil)))))
  (sSeq (sSet 3 (dApp (gFn 2 F_l_years) (dCons (dV 1) (dCons (dV 2) dNil))))
  (sSeq (sSet 4 (dApp (gFn 4 F_l_kept_records) (dCons (dV 1) (dCons (dV 3) (dCons (dLst false (dCons (dC (.str "before")) (dCons (dC (.str "before")) (dCons (dC (.str "within")) (dCons (dC (.str "same")) (dCons (dC (.str "since")) (dCons (dC (.str "until")) (dCons (dC (.str "kind")) dNil)))))))) (dCons (dApp (gFn 2 F_l_pick) (dCons (dV 1) (dCons (dLst false (dCons (dC (.int 300)) (dCons (dC (.int 150)) (dCons (dC (.int 40)) dNil)))) dNil))) dNil))))))
  (sSeq (sSet 5 (dApp (gFn 2 F_l_groups) (dCons (dV 2) (dCons (dV 4) dNil))))
  (sSeq (sSet 6 c_law_1)
  (sSeq (sFor (dRg1 (dCons (dApp (gFn 2 F_l_pick) (dCons (dV 1) (dCons (dLst false (dCons (dC (.int 0)) (dCons (dC (.int 0)) (dCons (dC (.int 1)) (dCons (dC (.int 2)) dNil))))) dNil))) dNil)) (dgName 9)
   b_law_L1)
  r_law_7)))))))
theorem is_dating_eq {n : Nat} {ys : List Int} {s : Sto} (wf : WFn s.length s) (hl : ys.length = n) (hn : n ≤ 1000) : F_l_is_dating [.int n, .lst (ys.map .int)] s = .ok (.bl true) s := by
  refine aut_ret0 ?_ trivial wf
  have e0 : startA 3 [.int n, .lst (ys.map .int)] = [some (.int n), some (.lst (ys.map .int)), none] := rfl
  have A : dApp gAll (dCons c_l_is_dating_1 dNil) [some (.int n), some (.lst (ys.map .int)), none] s = .ok (.bl true) s := ints_all (ys := ys) (by simp) (by omega) (show 2 < 3 by decide)
  rw [e0]
  unfold b_l_is_dating
  generalize dApp gAll (dCons c_l_is_dating_1 dNil) = B at A ⊢
  simp [A, hl, truA]
theorem turn49 {t : Stm} {o : List Int} {e0 e2 e3 e4 e5 e7 e8 e9 e10 e11 : Option Va} {r : En} (h : 0 < o.length) (hl : o.length ≤ 1000) :
    ∃ (o' : List Int) (u : Stm) (f10 f11 : Option Va), b_law_L1 (e0 :: some (.ref 0) :: e2 :: e3 :: e4 :: e5 :: some (.lst (o.map .int)) :: e7 :: e8 :: e9 :: e10 :: e11 :: r) [t.ob] = .nx (e0 :: some (.ref 0) :: e2 :: e3 :: e4 :: e5 :: some (.lst (o'.map .int)) :: e7 :: e8 :: e9 :: f10 :: f11 :: r) [u.ob] ∧ 0 < o'.length ∧ o'.length ≤ 3 * o.length + 1 ∧ ∀ v ∈ o', v ∈ o := by
  have d := draw1 (t := t) (m := o.length) (by omega) (by omega)
  have hd := t.draw_in (m := o.length) (by omega)
  have d3 := draw1 (t := (t.draw o.length).2) (m := 3) (by decide) (by decide)
  have hd3 := (t.draw o.length).2.draw_in (m := 3) (by decide)
  have ln : ∀ s, gLen [.lst (o.map .int)] s = .ok (.int o.length) s := fun s => by rw [g_len_lst, List.length_map]
  generalize hA : (t.draw o.length).1 = A at d hd
  generalize ((t.draw o.length).2.draw 3).2 = u at d3
  generalize ((t.draw o.length).2.draw 3).1 = B at d3 hd3
  generalize hT : (if A + 1 + B < (o.length : Int) - 1 then A + 1 + B else (o.length : Int) - 1) = T
  obtain ⟨q1, c1, l1, m1⟩ := cut_ints (xs := o) (lo := none) (hi := some A)
  obtain ⟨q2, c2, l2, m2⟩ := cut_ints (xs := o) (lo := some (A + 1)) (hi := some (T + 1))
  obtain ⟨q3, c3, l3, m3⟩ := cut_ints (xs := o) (lo := some (T + 1)) (hi := none)
  have g : ∀ s, gIx (.lst (o.map .int)) (.int A) s = .ok (.int (yr o A)) s := fun s => yr_at hd
  have a1 := fun s => add_ints (xs := q1) (ys := q2) (s := s) (by omega)
  have a2 : ∀ s, gAdd false (.lst ((q1 ++ q2).map .int)) (.lst [.int (yr o A)]) s = .ok (.lst ((q1 ++ q2 ++ [yr o A]).map .int)) s := fun s => add_ints (xs := q1 ++ q2) (ys := [yr o A]) (by rw [List.length_append, List.length_singleton]; omega)
  have a3 := fun s => add_ints (xs := q1 ++ q2 ++ [yr o A]) (ys := q3) (s := s) (by rw [List.length_append, List.length_append, List.length_singleton]; omega)
  refine ⟨q1 ++ q2 ++ [yr o A] ++ q3, u, some (.int A), some (.int T), ?_, by rw [List.length_append, List.length_append, List.length_singleton]; omega, by rw [List.length_append, List.length_append, List.length_append, List.length_singleton]; omega, fun v hv => ?_⟩
  · unfold b_law_L1
    simp [ln, gFn, d, d3, hT, slL, c1, c2, c3, a1, g, a2, a3, -g_ix_lst, -List.map_append, -List.append_assoc]
  · rcases List.mem_append.mp hv with hv | hv
    · rcases List.mem_append.mp hv with hv | hv
      · exact (List.mem_append.mp hv).elim (m1 v) (m2 v)
      · rw [List.mem_singleton.mp hv]
        exact getD_mem (by omega)
    · exact m3 v hv
theorem loop49 {o0 : List Int} {e0 e2 e3 e4 e5 e7 e8 : Option Va} {r : En} : ∀ (l : List Va) (t : Stm) (o : List Int) (e9 e10 e11 : Option Va), 0 < o.length → (o.length + 1) * 4 ^ l.length ≤ 1000 → (∀ v ∈ o, v ∈ o0) →
    ∃ (o' : List Int) (u : Stm) (f9 f10 f11 : Option Va), lp none (fBody (dgName 9) b_law_L1) l (e0 :: some (.ref 0) :: e2 :: e3 :: e4 :: e5 :: some (.lst (o.map .int)) :: e7 :: e8 :: e9 :: e10 :: e11 :: r) [t.ob] = .nx (e0 :: some (.ref 0) :: e2 :: e3 :: e4 :: e5 :: some (.lst (o'.map .int)) :: e7 :: e8 :: f9 :: f10 :: f11 :: r) [u.ob] ∧ 0 < o'.length ∧ o'.length ≤ 1000 ∧ ∀ v ∈ o', v ∈ o0
  | [], t, o, e9, e10, e11, h, hl, hm => ⟨o, t, e9, e10, e11, lp_nil, h, by simp at hl; omega, hm⟩
  | k :: l, t, o, e9, e10, e11, h, hl, hm => by
    rw [List.length_cons, Nat.pow_succ] at hl
    have hp : 1 ≤ 4 ^ l.length := Nat.one_le_pow _ _ (by decide)
    have hl2 : (3 * o.length + 1 + 1) * 4 ^ l.length ≤ 1000 := by
      have e : (o.length + 1) * (4 ^ l.length * 4) = (4 * o.length + 4) * 4 ^ l.length := by
        rw [show 4 * o.length + 4 = (o.length + 1) * 4 by omega, Nat.mul_assoc, Nat.mul_comm 4]
      rw [e] at hl
      exact Nat.le_trans (Nat.mul_le_mul_right _ (by omega)) hl
    have hr : o.length ≤ 1000 := by
      have := Nat.mul_le_mul_left (3 * o.length + 1 + 1) hp
      omega
    obtain ⟨o1, u, f10, f11, hb, q0, q1, q2⟩ := turn49 (t := t) (e0 := e0) (e2 := e2) (e3 := e3) (e4 := e4) (e5 := e5) (e7 := e7) (e8 := e8) (e9 := some k) (e10 := e10) (e11 := e11) (r := r) h hr
    obtain ⟨o2, u2, g9, g10, g11, ih, z0, z1, z2⟩ := loop49 (e0 := e0) (e2 := e2) (e3 := e3) (e4 := e4) (e5 := e5) (e7 := e7) (e8 := e8) (r := r) l u o1 (some k) f10 f11 q0 (Nat.le_trans (Nat.mul_le_mul_right _ (by omega)) hl2) fun v hv => hm v (q2 v hv)
    refine ⟨o2, u2, g9, g10, g11, ?_, z0, z1, z2⟩
    rw [lp_cons]
    have hb2 : fBody (dgName 9) b_law_L1 k (e0 :: some (.ref 0) :: e2 :: e3 :: e4 :: e5 :: some (.lst (o.map .int)) :: e7 :: e8 :: e9 :: e10 :: e11 :: r) [t.ob] = _ := hb
    rw [hb2]
    exact ih
/-- from `more` on -/
theorem rest49 {n : Nat} {rs : List Rec} {o : List Int} {t : Stm} {e0 e1 e3 e7 e8 e9 e10 e11 : Option Va} (hF : Fits n rs) (hrl : rs.length ≤ 1000) (ho : ∀ v ∈ o, 0 ≤ v ∧ v < n) (hol : o.length ≤ 1000) (ho1 : 1 ≤ o.length) :
    r_law_7 [e0, e1, some (.int n), e3, some (.lst (rs.map Rec.va)), some (.lst ((grpM n rs).map .int)), some (.lst (o.map .int)), e7, e8, e9, e10, e11, none, none, none, none] [t.ob] = .ret (.bl true) [t.ob] := by
  have hn := hF.1
  have gm := grpM_ok hF.2.2
  have hr : inR (n : Int) := ⟨by omega, by omega⟩
  have hr2 : inR ((o.length : Int) - 1) := ⟨by omega, by omega⟩
  have ln : ∀ s, gLen [.lst (o.map .int)] s = .ok (.int o.length) s := fun s => by rw [g_len_lst, List.length_map]
  have rg2 : rgA 0 ((o.length : Int) - 1) = (List.range (o.length - 1)).map fun i : Nat => Va.int i := by
    rw [show (o.length : Int) - 1 = ((o.length - 1 : Nat) : Int) by omega, rgA_nats]
  have C2 : c_law_3 [e0, e1, some (.int n), e3, some (.lst (rs.map Rec.va)), some (.lst ((grpM n rs).map .int)), some (.lst (o.map .int)), e7, e8, e9, e10, e11, none, none, none, none] [t.ob] = .ok (.lst ((moreS (grpM n rs) (List.range n)).map Rec.va)) [t.ob] := by
    unfold c_law_3
    rw [lc_eq (fun i : Nat => Va.int i) (fun u => Rec.va (.same (yr (grpM n rs) (u : Nat)) (u : Nat))) (fun u : Nat => yr (grpM n rs) (u : Nat) != (u : Int)) (l := List.range n) (ck := none) (by simp [hr, rgA_nats]) trivial (by rw [List.length_range]; omega) (fun u hu => by
      have hu := List.mem_range.mp hu
      have ga : ∀ s, gIx (.lst ((grpM n rs).map .int)) (.int u) s = .ok (.int (yr (grpM n rs) (u : Nat))) s := fun s => yr_at ⟨by omega, by have := gm.len; omega⟩
      simp [wip, ga, -g_ix_lst]
      rw [bne, Bool.not_not]
      rfl) (fun u hu _ => by
      have hu := List.mem_range.mp hu
      have ga : ∀ s, gIx (.lst ((grpM n rs).map .int)) (.int u) s = .ok (.int (yr (grpM n rs) (u : Nat))) s := fun s => yr_at ⟨by omega, by have := gm.len; omega⟩
      simp [wip, ga, Rec.va, -g_ix_lst])]
    rw [g_mkL_f]
    unfold moreS
    rw [List.map_map]
    rfl
  have C3 : ∀ e12, c_law_4 [e0, e1, some (.int n), e3, some (.lst (rs.map Rec.va)), some (.lst ((grpM n rs).map .int)), some (.lst (o.map .int)), e7, e8, e9, e10, e11, e12, none, none, none] [t.ob] = .ok (.lst ((moreB o (List.range (o.length - 1))).map Rec.va)) [t.ob] := fun e12 => by
    unfold c_law_4
    rw [lc_all (fun i : Nat => Va.int i) (fun k => Rec.va (.before (yr o (k : Nat)) (yr o ((k : Int) + 1)) 0)) (l := List.range (o.length - 1)) (ck := none) (by simp [ln, hr2, rg2]) trivial (by rw [List.length_range]; omega) (fun k hk => by
      have hk := List.mem_range.mp hk
      have ga : ∀ s, gIx (.lst (o.map .int)) (.int k) s = .ok (.int (yr o (k : Nat))) s := fun s => yr_at ⟨by omega, by omega⟩
      have gb : ∀ s, gIx (.lst (o.map .int)) (.int ((k : Int) + 1)) s = .ok (.int (yr o ((k : Int) + 1))) s := fun s => yr_at ⟨by omega, by omega⟩
      simp [wip, ga, gb, Rec.va, -g_ix_lst])]
    rw [g_mkL_f]
    unfold moreB
    rw [List.map_map]
    rfl
  have lm := moreR_len (n := n) (rs := rs) (o := o)
  have eM : moreS (grpM n rs) (List.range n) ++ moreB o (List.range (o.length - 1)) = moreR n rs o := rfl
  have A1 := fun s => add_recs (xs := moreS (grpM n rs) (List.range n)) (ys := moreB o (List.range (o.length - 1))) (s := s) (by rw [← List.length_append, eM]; omega)
  rw [eM] at A1
  have A2 := fun s => add_recs (xs := rs) (ys := moreR n rs o) (s := s) (by omega)
  have G := goes_eq (s := [t.ob]) wf1 hF ho hol ho1 hrl
  have hW : Fits n (rs ++ moreR n rs o) := ⟨hn, by rw [List.length_append]; omega, fun r hr => (List.mem_append.mp hr).elim (hF.2.2 r) (moreR_fits hF.2.2 ho r)⟩
  generalize moreS (grpM n rs) (List.range n) = M1 at C2 A1
  generalize moreB o (List.range (o.length - 1)) = M2 at C3 A1
  generalize moreR n rs o = M at A1 A2 G hW
  generalize hWW : rs ++ M = W at A2 G hW
  have H := l_hold_eq (x := .lst (W.map Rec.va)) (s := [t.ob]) hW rfl
  unfold r_law_7
  unfold goesV at G
  cases hb : holdB n W with
  | false =>
    rw [hb] at G H
    simp only [Bool.false_eq_true, if_false] at G
    simp [C2, C3, A1, A2, gFn, H, G, truA, gIs, -List.map_append]
  | true =>
    rw [hb] at G H
    simp only [if_true] at G
    have kk := datM_keeps hW hb
    have ll := datM_len (n := n) (T := tbOf n W)
    have I := is_dating_eq (s := [t.ob]) wf1 ll hn
    generalize datM n (tbOf n W) = ys at G kk ll I
    have B5 : dApp gAll (dCons c_law_5 dNil) [e0, e1, some (.int n), e3, some (.lst (rs.map Rec.va)), some (.lst ((grpM n rs).map .int)), some (.lst (o.map .int)), e7, e8, e9, e10, e11, some (.lst (M.map Rec.va)), none, some (.lst (ys.map .int)), none] [t.ob] = .ok (.bl true) [t.ob] :=
      keeps_all (ys := ys) (d := .lst (ys.map .int)) (x := .lst (W.map Rec.va)) hW rfl rfl ll kk (by simp [A2, -List.map_append]) (fun _ => rfl) (fun _ => rfl)
    generalize dApp gAll (dCons c_law_5 dNil) = D5 at B5 ⊢
    simp [C2, C3, A1, A2, gFn, H, G, truA, I, B5, -List.map_append]
theorem law_run (ns : List Int) : ∃ s0, b_law (startA 16 [.ext (ns.map .int)]) [] = .ret (.bl true) s0 := by
  have e1 := stream1 ns
  generalize Stm.mk0 ns = t at e1
  have d11 := draw1 (t := t) (m := 11) (by decide) (by decide)
  have hd := t.draw_in (m := 11) (by decide)
  obtain ⟨n, hn⟩ := Int.eq_ofNat_of_zero_le (show 0 ≤ 20 + (t.draw 11).1 by omega)
  generalize (t.draw 11).2 = t1 at d11
  obtain ⟨ys, t2, Y, y1⟩ := years_eq (s := [t1.ob]) (a := 0) (n := n) wf1 (stAt_of rfl) (by omega)
  have Y : F_l_years [.ref 0, .int n] [t1.ob] = .ok (.lst (ys.map .int)) [t2.ob] := Y
  obtain ⟨m, t3, P1, m1, m2⟩ := pick_ints (s := [t2.ob]) (a := 0) (t := t2) (xs := [300, 150, 40]) (lo := 0) (hi := 300) (stAt_of rfl) (show 0 < 3 by decide) (show 3 < 1073741824 by decide) (by decide)
  have P1 : F_l_pick [.ref 0, .lst [.int 300, .int 150, .int 40]] [t2.ob] = .ok (.int m) [t3.ob] := P1
  obtain ⟨rs, t4, R, r1, r2⟩ := krs_eq (s := [t3.ob]) (a := 0) (ys := ys) (ws := ["before", "before", "within", "same", "since", "until", "kind"]) (m := m) wf1 (stAt_of rfl) (by omega) (by omega) ⟨by decide, by decide⟩ ⟨by omega, by omega⟩
  have R : F_l_kept_records [.ref 0, .lst (ys.map .int), .lst [.str "before", .str "before", .str "within", .str "same", .str "since", .str "until", .str "kind"], .int m] [t3.ob] = .ok (.lst (rs.map Rec.va)) [t4.ob] := R
  rw [y1] at r2
  have hF : Fits n rs := ⟨by omega, by omega, r2⟩
  have gm := grpM_ok hF.2.2
  have G := l_groups_eq (x := .lst (rs.map Rec.va)) (wf1 (t := t4)) (by omega) hF.2.2 rfl
  have hr : inR (n : Int) := ⟨by omega, by omega⟩
  have C2 : ∀ e6, c_law_2 [some (.ext (ns.map .int)), some (.ref 0), some (.int n), some (.lst (ys.map .int)), some (.lst (rs.map Rec.va)), some (.lst ((grpM n rs).map .int)), e6, none, none, none, none, none, none, none, none, none] [t4.ob] = .ok (.lst ((((List.range n).filter fun u : Nat => yr (grpM n rs) (u : Nat) == (u : Int)).map fun u : Nat => (yr ys (u : Nat), (u : Int))).map prV)) [t4.ob] := fun e6 => by
    unfold c_law_2
    rw [lc_eq (fun i : Nat => Va.int i) (fun u : Nat => prV (yr ys (u : Nat), (u : Int))) (fun u : Nat => yr (grpM n rs) (u : Nat) == (u : Int)) (l := List.range n) (ck := none) (by simp [hr, rgA_nats]) trivial (by rw [List.length_range]; omega) (fun u hu => by
      have hu := List.mem_range.mp hu
      have ga : ∀ s, gIx (.lst ((grpM n rs).map .int)) (.int u) s = .ok (.int (yr (grpM n rs) (u : Nat))) s := fun s => yr_at ⟨by omega, by have := gm.len; omega⟩
      simp [wip, ga, -g_ix_lst]
      rfl) (fun u hu _ => by
      have hu := List.mem_range.mp hu
      have ga : ∀ s, gIx (.lst (ys.map .int)) (.int u) s = .ok (.int (yr ys (u : Nat))) s := fun s => yr_at ⟨by omega, by omega⟩
      simp [wip, ga, prV, -g_ix_lst])]
    rw [g_mkL_f, List.map_map]
    rfl
  have h0 : (0 : Nat) ∈ (List.range n).filter fun u : Nat => yr (grpM n rs) (u : Nat) == (u : Int) := by
    refine List.mem_filter.mpr ⟨List.mem_range.mpr (by omega), ?_⟩
    have := gm.lo 0 (by omega) (by omega)
    have e : yr (grpM n rs) ((0 : Nat) : Int) = 0 := by
      show yr (grpM n rs) 0 = 0
      omega
    rw [e]
    rfl
  have hR : ∀ v ∈ ((List.range n).filter fun u : Nat => yr (grpM n rs) (u : Nat) == (u : Int)).map fun u : Nat => (yr ys (u : Nat), (u : Int)), 0 ≤ v.2 ∧ v.2 < (n : Int) := fun v hv => by
    obtain ⟨u, h1, rfl⟩ := List.mem_map.mp hv
    have := List.mem_range.mp (List.mem_filter.mp h1).1
    dsimp only
    omega
  have hL : (((List.range n).filter fun u : Nat => yr (grpM n rs) (u : Nat) == (u : Int)).map fun u : Nat => (yr ys (u : Nat), (u : Int))).length ≤ n := by
    rw [List.length_map]
    have := List.length_filter_le (fun u : Nat => yr (grpM n rs) (u : Nat) == (u : Int)) (List.range n)
    rw [List.length_range] at this
    exact this
  have hP : 0 < (((List.range n).filter fun u : Nat => yr (grpM n rs) (u : Nat) == (u : Int)).map fun u : Nat => (yr ys (u : Nat), (u : Int))).length := by
    rw [List.length_map]
    exact List.length_pos_of_mem h0
  generalize ((List.range n).filter fun u : Nat => yr (grpM n rs) (u : Nat) == (u : Int)).map (fun u : Nat => (yr ys (u : Nat), (u : Int))) = O at C2 hR hL hP
  have SO : ∀ s, gSortP false [.lst (O.map prV)] s = .ok (.lst ((srtP O).map prV)) s := fun s => by
    unfold gSortP
    simp only [seqL, prOf_map]
    rfl
  have sp := srtP_perm O
  have s1 : (srtP O).length ≤ n := by rw [sp.length_eq]; exact hL
  have s2 : 0 < (srtP O).length := by rw [sp.length_eq]; exact hP
  have s3 : ∀ v ∈ srtP O, 0 ≤ v.2 ∧ v.2 < (n : Int) := fun v hv => hR v (sp.mem_iff.mp hv)
  generalize srtP O = P at SO s1 s2 s3
  have C1 : c_law_1 [some (.ext (ns.map .int)), some (.ref 0), some (.int n), some (.lst (ys.map .int)), some (.lst (rs.map Rec.va)), some (.lst ((grpM n rs).map .int)), none, none, none, none, none, none, none, none, none, none] [t4.ob] = .ok (.lst ((P.map (fun p : Int × Int => p.2)).map .int)) [t4.ob] := by
    have c2 := C2 none
    unfold c_law_1
    generalize c_law_2 = CC at c2 ⊢
    rw [lc_allG prV (fun p => .int p.2) (l := P) (ck := none) (fun p : Int × Int => [some (.ext (ns.map .int)), some (.ref 0), some (.int n), some (.lst (ys.map .int)), some (.lst (rs.map Rec.va)), some (.lst ((grpM n rs).map .int)), none, some (.int p.1), some (.int p.2), none, none, none, none, none, none, none]) (by
      unfold dSeq
      simp [c2, SO]) trivial (by omega) (fun p _ => rfl) (fun p _ => rfl)]
    rw [g_mkL_f, List.map_map]
    rfl
  have q1 : (P.map (fun p : Int × Int => p.2)).length ≤ n := by rw [List.length_map]; exact s1
  have q2 : 0 < (P.map (fun p : Int × Int => p.2)).length := by rw [List.length_map]; exact s2
  have q3 : ∀ v ∈ P.map (fun p : Int × Int => p.2), 0 ≤ v ∧ v < n := fun v hv => by
    obtain ⟨p, h1, rfl⟩ := List.mem_map.mp hv
    exact s3 p h1
  generalize P.map (fun p : Int × Int => p.2) = Q at C1 q1 q2 q3
  obtain ⟨D, t5, P2, D1, D2⟩ := pick_ints (s := [t4.ob]) (a := 0) (t := t4) (xs := [0, 0, 1, 2]) (lo := 0) (hi := 2) (stAt_of rfl) (show 0 < 4 by decide) (show 4 < 1073741824 by decide) (by decide)
  have P2 : F_l_pick [.ref 0, .lst [.int 0, .int 0, .int 1, .int 2]] [t4.ob] = .ok (.int D) [t5.ob] := P2
  have hrD : inR D := ⟨by omega, by omega⟩
  have hlD : (rgA 0 D).length ≤ 2 := by rw [rgA_len]; omega
  have hbb : (Q.length + 1) * 4 ^ (rgA 0 D).length ≤ 1000 := by
    have h8 : 4 ^ (rgA 0 D).length ≤ 4 ^ 2 := Nat.pow_le_pow_right (by decide) hlD
    have := Nat.mul_le_mul_left (Q.length + 1) h8
    omega
  obtain ⟨o, t6, f9, f10, f11, L, o1, o2, o3⟩ := loop49 (o0 := Q) (e0 := some (.ext (ns.map .int))) (e2 := some (.int n)) (e3 := some (.lst (ys.map .int))) (e4 := some (.lst (rs.map Rec.va))) (e5 := some (.lst ((grpM n rs).map .int))) (e7 := none) (e8 := none) (r := [none, none, none, none]) (rgA 0 D) t5 Q none none none q2 hbb fun v hv => hv
  have RR := rest49 (n := n) (rs := rs) (o := o) (t := t6) (e0 := some (.ext (ns.map .int))) (e1 := some (.ref 0)) (e3 := some (.lst (ys.map .int))) (e7 := none) (e8 := none) (e9 := f9) (e10 := f10) (e11 := f11) hF (by omega) (fun v hv => q3 v (o3 v hv)) o2 o1
  refine ⟨[t6.ob], ?_⟩
  have e0 : startA 16 [.ext (ns.map .int)] = [some (.ext (ns.map .int)), none, none, none, none, none, none, none, none, none, none, none, none, none, none, none] := rfl
  rw [e0]
  unfold b_law
  simp only [e_seq, e_set, e_App, e_Cons, e_Nil, e_C, e_V, e_Bin, e_Lst, g_mkL_f, List.set, List.getElem?_cons_zero, List.getElem?_cons_succ, bind_ok, gFn, List.length_cons, List.length_nil, if_true, e1, d11, g_add_int, hn, Y, P1, R, G, C1, P2, fl_ok, e_for, e_rg1, hrD, L, RR]
theorem fin_law (args : List Va) (s : Sto) (wf : WFn s.length s) (wa : vasB s.length args) (hl : args.length = 1) : Fin s.length (b_law (startA 16 args) s) (F_yes args s) := by
  unfold F_yes
  split
  · split
    · rename_i e
      rw [intsOf_eq e]
      obtain ⟨s0, h⟩ := law_run _
      exact Fin.yes h
    · exact .bad
  · exact .bad
end Dn

set_option Elab.async false
set_option linter.all false
set_option maxRecDepth 100000
set_option maxHeartbeats 4000000
/-! the rows. -/
namespace Dn
open PySem PySem.Spec PyProof.Rows L2
def noCls : Cls0 := fun _ => .none

theorem rg_tupK {X : Cx} {W : WX} {k : Nat} {K' : PySem.W.Frag} {es : List Expr} {j : Nat} {pos : Pos} {is : List Nat} {u : TGs} {n : Nat} (hK : X.K = K') (O : Okc X W k) (h : RGs X es u is) (hn : (assignEach es X.env).length = n := by rfl) (hst : (assignEach es X.env).findIdx? (·.1) = none := by rfl) (hl : is.length = n := by rfl) : RG X (.Tuple es j pos) (gTup K' n u) (dgTup is) is := by
  subst hK
  exact rg_tup O h hn hst hl
theorem yes_imp {K : PySem.W.Frag} {CL : Cls0} (vs : List V) (H : Hp) (Q : VK) (E : XK) (q : spF K noCls 1 F_yes vs H Q E) : spF K CL 1 F_yes vs H Q E := by
  obtain ⟨F, G, as, s, args, S, r, l, p⟩ := q
  refine ⟨F, G, as, s, args, S, r, l, ?_⟩
  unfold F_yes at p ⊢
  split at p <;> (try split at p) <;> first | exact p | exact p.elim
def topS (i : Nat) : Stmt := PySem.Challenge.pw_digteller_k49_whole_great_datings_with_o.main.body.getD i (.Pass ⟨0, 0, 0, 0⟩)
abbrev s_least_steps : Stmt := topS 4
abbrev N_least_steps : List Str := ["record", "origin", "word"]
abbrev P_least_steps : List Str := ["record", "origin"]
theorem sc_least_steps : FnScope N_least_steps P_least_steps (defScope s_least_steps) := ⟨rfl, rfl, rfl, by decide +kernel, rfl, by decide +kernel, by decide +kernel⟩
abbrev s_greatest_ways : Stmt := topS 5
abbrev N_greatest_ways : List Str := ["n", "steps", "table", "_", "place", "one", "two", "more", "over", "first", "second"]
abbrev P_greatest_ways : List Str := ["n", "steps"]
theorem sc_greatest_ways : FnScope N_greatest_ways P_greatest_ways (defScope s_greatest_ways) := ⟨rfl, rfl, rfl, by decide +kernel, rfl, by decide +kernel, by decide +kernel⟩
abbrev s_ways : Stmt := topS 6
abbrev N_ways : List Str := ["n", "records", "steps", "record"]
abbrev P_ways : List Str := ["n", "records"]
theorem sc_ways : FnScope N_ways P_ways (defScope s_ways) := ⟨rfl, rfl, rfl, by decide +kernel, rfl, by decide +kernel, by decide +kernel⟩
abbrev s_is_round : Stmt := topS 7
abbrev N_is_round : List Str := ["table", "place"]
abbrev P_is_round : List Str := ["table"]
theorem sc_is_round : FnScope N_is_round P_is_round (defScope s_is_round) := ⟨rfl, rfl, rfl, by decide +kernel, rfl, by decide +kernel, by decide +kernel⟩
abbrev s_do_hold : Stmt := topS 8
abbrev N_do_hold : List Str := ["n", "records"]
abbrev P_do_hold : List Str := ["n", "records"]
theorem sc_do_hold : FnScope N_do_hold P_do_hold (defScope s_do_hold) := ⟨rfl, rfl, rfl, by decide +kernel, rfl, by decide +kernel, by decide +kernel⟩
abbrev s_sure_ways : Stmt := topS 9
abbrev N_sure_ways : List Str := ["n", "records", "table"]
abbrev P_sure_ways : List Str := ["n", "records"]
theorem sc_sure_ways : FnScope N_sure_ways P_sure_ways (defScope s_sure_ways) := ⟨rfl, rfl, rfl, by decide +kernel, rfl, by decide +kernel, by decide +kernel⟩
abbrev s_dating_of : Stmt := topS 10
abbrev N_dating_of : List Str := ["table", "n", "years", "one", "two", "year"]
abbrev P_dating_of : List Str := ["table", "n"]
theorem sc_dating_of : FnScope N_dating_of P_dating_of (defScope s_dating_of) := ⟨rfl, rfl, rfl, by decide +kernel, rfl, by decide +kernel, by decide +kernel⟩
abbrev s_dating : Stmt := topS 11
abbrev N_dating : List Str := ["n", "records"]
abbrev P_dating : List Str := ["n", "records"]
theorem sc_dating : FnScope N_dating P_dating (defScope s_dating) := ⟨rfl, rfl, rfl, by decide +kernel, rfl, by decide +kernel, by decide +kernel⟩
abbrev s_group_of : Stmt := topS 13
abbrev N_group_of : List Str := ["n", "records", "least", "_", "record", "low"]
abbrev P_group_of : List Str := ["n", "records"]
theorem sc_group_of : FnScope N_group_of P_group_of (defScope s_group_of) := ⟨rfl, rfl, rfl, by decide +kernel, rfl, by decide +kernel, by decide +kernel⟩
abbrev s_goes_with : Stmt := topS 15
abbrev N_goes_with : List Str := ["n", "records", "order", "least", "wanted", "unit", "at"]
abbrev P_goes_with : List Str := ["n", "records", "order"]
theorem sc_goes_with : FnScope N_goes_with P_goes_with (defScope s_goes_with) := ⟨rfl, rfl, rfl, by decide +kernel, rfl, by decide +kernel, by decide +kernel⟩
abbrev s_l_stream : Stmt := topS 17
abbrev N_l_stream : List Str := ["script", "mixed", "cell"]
abbrev P_l_stream : List Str := ["script"]
theorem sc_l_stream : FnScope N_l_stream P_l_stream (defScope s_l_stream) := ⟨rfl, rfl, rfl, by decide +kernel, rfl, by decide +kernel, by decide +kernel⟩
abbrev s_l_draw : Stmt := topS 18
abbrev N_l_draw : List Str := ["stream", "many", "value"]
abbrev P_l_draw : List Str := ["stream", "many"]
theorem sc_l_draw : FnScope N_l_draw P_l_draw (defScope s_l_draw) := ⟨rfl, rfl, rfl, by decide +kernel, rfl, by decide +kernel, by decide +kernel⟩
abbrev s_l_pick : Stmt := topS 19
abbrev N_l_pick : List Str := ["stream", "rows"]
abbrev P_l_pick : List Str := ["stream", "rows"]
theorem sc_l_pick : FnScope N_l_pick P_l_pick (defScope s_l_pick) := ⟨rfl, rfl, rfl, by decide +kernel, rfl, by decide +kernel, by decide +kernel⟩
abbrev s_l_keeps : Stmt := topS 21
abbrev N_l_keeps : List Str := ["record", "years", "word", "behind"]
abbrev P_l_keeps : List Str := ["record", "years"]
theorem sc_l_keeps : FnScope N_l_keeps P_l_keeps (defScope s_l_keeps) := ⟨rfl, rfl, rfl, by decide +kernel, rfl, by decide +kernel, by decide +kernel⟩
abbrev s_l_steps : Stmt := topS 22
abbrev N_l_steps : List Str := ["n", "records", "found", "record", "word"]
abbrev P_l_steps : List Str := ["n", "records"]
theorem sc_l_steps : FnScope N_l_steps P_l_steps (defScope s_l_steps) := ⟨rfl, rfl, rfl, by decide +kernel, rfl, by decide +kernel, by decide +kernel⟩
abbrev s_l_far : Stmt := topS 23
abbrev N_l_far : List Str := ["n", "steps", "begin", "found", "place", "k", "is_new", "one", "two", "more"]
abbrev P_l_far : List Str := ["n", "steps", "begin"]
theorem sc_l_far : FnScope N_l_far P_l_far (defScope s_l_far) := ⟨rfl, rfl, rfl, by decide +kernel, rfl, by decide +kernel, by decide +kernel⟩
abbrev s_l_holds : Stmt := topS 24
abbrev N_l_holds : List Str := ["n", "records"]
abbrev P_l_holds : List Str := ["n", "records"]
theorem sc_l_holds : FnScope N_l_holds P_l_holds (defScope s_l_holds) := ⟨rfl, rfl, rfl, by decide +kernel, rfl, by decide +kernel, by decide +kernel⟩
abbrev s_l_groups : Stmt := topS 25
abbrev N_l_groups : List Str := ["n", "records", "least", "k", "record", "low"]
abbrev P_l_groups : List Str := ["n", "records"]
theorem sc_l_groups : FnScope N_l_groups P_l_groups (defScope s_l_groups) := ⟨rfl, rfl, rfl, by decide +kernel, rfl, by decide +kernel, by decide +kernel⟩
abbrev s_l_years : Stmt := topS 26
abbrev N_l_years : List Str := ["stream", "n", "wide", "years", "k"]
abbrev P_l_years : List Str := ["stream", "n"]
theorem sc_l_years : FnScope N_l_years P_l_years (defScope s_l_years) := ⟨rfl, rfl, rfl, by decide +kernel, rfl, by decide +kernel, by decide +kernel⟩
abbrev s_l_other : Stmt := topS 20
abbrev N_l_other : List Str := ["stream", "n", "a"]
abbrev P_l_other : List Str := ["stream", "n", "a"]
theorem sc_l_other : FnScope N_l_other P_l_other (defScope s_l_other) := ⟨rfl, rfl, rfl, by decide +kernel, rfl, by decide +kernel, by decide +kernel⟩
abbrev s_l_kept_record : Stmt := topS 27
abbrev N_l_kept_record : List Str := ["stream", "years", "word", "n", "a", "more", "b", "gap"]
abbrev P_l_kept_record : List Str := ["stream", "years", "word"]
theorem sc_l_kept_record : FnScope N_l_kept_record P_l_kept_record (defScope s_l_kept_record) := ⟨rfl, rfl, rfl, by decide +kernel, rfl, by decide +kernel, by decide +kernel⟩
abbrev s_l_kept_records : Stmt := topS 28
abbrev N_l_kept_records : List Str := ["stream", "years", "words", "many", "found", "k"]
abbrev P_l_kept_records : List Str := ["stream", "years", "words", "many"]
theorem sc_l_kept_records : FnScope N_l_kept_records P_l_kept_records (defScope s_l_kept_records) := ⟨rfl, rfl, rfl, by decide +kernel, rfl, by decide +kernel, by decide +kernel⟩
abbrev s_l_is_dating : Stmt := topS 29
abbrev N_l_is_dating : List Str := ["n", "value", "year"]
abbrev P_l_is_dating : List Str := ["n", "value"]
theorem sc_l_is_dating : FnScope N_l_is_dating P_l_is_dating (defScope s_l_is_dating) := ⟨rfl, rfl, rfl, by decide +kernel, rfl, by decide +kernel, by decide +kernel⟩
abbrev s_law : Stmt := topS 30
abbrev N_law : List Str := ["script", "stream", "n", "years", "records", "least", "order", "year", "one", "k", "at", "to", "more", "unit", "told", "record"]
abbrev P_law : List Str := ["script"]
theorem sc_law : FnScope N_law P_law (defScope s_law) := ⟨rfl, rfl, rfl, by decide +kernel, rfl, by decide +kernel, by decide +kernel⟩
section
variable {P : Program} {w : World} {K : PySem.W.Frag} {mg : Str → Option Value} {base : Heap} {CL : Cls0}
theorem ok_least_steps (T : Txt K mg "least_steps" s_least_steps P_least_steps)  : Cal P w K mg base CL "least_steps" P_least_steps 1 F_least_steps :=
  cal_D T sc_least_steps (b := b_least_steps) (fun f cdv A outer s H E O =>
  (rss_cons (rs_set (i := 2) O rfl (by first | exact .inl rfl | exact .inr rfl) (re_sub2 O.hu (re_var 0) re_int))
  (rss_cons (rs_if (rt_eq O.hu (re_var 2) re_str) (rss_one (rs_ret (re_lst false (ra_cons (re_tup (ra_cons (re_sub2 O.hu (re_var 0) re_int) (ra_cons (re_sub2 O.hu (re_var 0) re_int) (ra_cons (re_sub2 O.hu (re_var 0) re_int) ra_nil)))) ra_nil)))) rss_nil)
  (rss_cons (rs_if (rt_eq O.hu (re_var 2) re_str) (rss_one (rs_ret (re_lst false (ra_cons (re_tup (ra_cons (re_sub2 O.hu (re_var 0) re_int) (ra_cons (re_sub2 O.hu (re_var 0) re_int) (ra_cons re_int ra_nil)))) (ra_cons (re_tup (ra_cons (re_sub2 O.hu (re_var 0) re_int) (ra_cons (re_sub2 O.hu (re_var 0) re_int) (ra_cons re_int ra_nil)))) ra_nil))))) rss_nil)
  (rss_cons (rs_if (rt_eq O.hu (re_var 2) re_str) (rss_one (rs_ret (re_lst false (ra_cons (re_tup (ra_cons (re_sub2 O.hu (re_var 0) re_int) (ra_cons (re_sub2 O.hu (re_var 0) re_int) (ra_cons (re_neg (re_sub2 O.hu (re_var 0) re_int)) ra_nil)))) ra_nil)))) rss_nil)
  (rss_cons (rs_if (rt_eq O.hu (re_var 2) re_str) (rss_one (rs_ret (re_lst false (ra_cons (re_tup (ra_cons (re_var 1) (ra_cons (re_sub2 O.hu (re_var 0) re_int) (ra_cons (re_sub2 O.hu (re_var 0) re_int) ra_nil)))) ra_nil)))) rss_nil)
  (rss_one (rs_ret (re_if (rt_eq O.hu (re_var 2) re_str) (re_lst false (ra_cons (re_tup (ra_cons (re_sub2 O.hu (re_var 0) re_int) (ra_cons (re_var 1) (ra_cons (re_neg (re_sub2 O.hu (re_var 0) re_int)) ra_nil)))) ra_nil)) (re_lst false ra_nil)))))))))) fin_least_steps
theorem ok_greatest_ways (T : Txt K mg "greatest_ways" s_greatest_ways P_greatest_ways) (m_range : mg "range" = none) : Cal P w K mg base CL "greatest_ways" P_greatest_ways 1 F_greatest_ways :=
  cal_D T sc_greatest_ways (b := b_greatest_ways) (fun f cdv A outer s H E O =>
  (rss_cons (rs_setLc (i := 2) (own := [("_", 3)]) O rfl rfl (sw_true rfl rfl rfl (by decide +kernel)) true (ri_rg1 m_range (ra_cons (re_add false (re_var 0) re_int) ra_nil)) (blkOk_by (N := N_greatest_ways) (sc := defScope s_greatest_ways) (by decide +kernel)) (fun _ _ _ _ _ O' => (rg_name (i := 3) O' rfl (by first | exact .inl rfl | exact .inr rfl))) (fun _ _ _ _ _ O' => rts_nil) (fun _ _ _ _ _ O' => (re_mul true (re_lst false (ra_cons re_non ra_nil)) (re_add false (re_var 0) re_int))))
  (rss_cons (rs_for O (ri_rg1 m_range (ra_cons (re_add false (re_var 0) re_int) ra_nil)) (rg_name (i := 4) O rfl (by first | exact .inl rfl | exact .inr rfl))
   (rss_one (rs_setIx O (re_sub2 O.hu (re_var 2) (re_var 4)) (re_var 4) re_int)))
  (rss_cons (rs_for O (ri_seq (re_var 1)) (rg_tup (n := 3) O (rgs_cons (i := 5) O rfl (by first | exact .inl rfl | exact .inr rfl) (rgs_cons (i := 6) O rfl (by first | exact .inl rfl | exact .inr rfl) (rgs_cons (i := 7) O rfl (by first | exact .inl rfl | exact .inr rfl) rgs_nil))))
   (rss_one (rs_if (PW.pt (rw_or (rt_is (re_sub2 O.hu (re_sub2 O.hu (re_var 2) (re_var 5)) (re_var 6)) re_non) (rw_or1 (rt_lt (re_sub2 O.hu (re_sub2 O.hu (re_var 2) (re_var 5)) (re_var 6)) (re_var 7))))) (rss_one (rs_setIx O (re_sub2 O.hu (re_var 2) (re_var 5)) (re_var 6) (re_var 7))) rss_nil)))
  (rss_cons (rs_for O (ri_rg1 m_range (ra_cons (re_add false (re_var 0) re_int) ra_nil)) (rg_name (i := 8) O rfl (by first | exact .inl rfl | exact .inr rfl))
   (rss_one (rs_for O (ri_rg1 m_range (ra_cons (re_add false (re_var 0) re_int) ra_nil)) (rg_name (i := 5) O rfl (by first | exact .inl rfl | exact .inr rfl))
   (rss_cons (rs_set (i := 9) O rfl (by first | exact .inl rfl | exact .inr rfl) (re_sub2 O.hu (re_sub2 O.hu (re_var 2) (re_var 5)) (re_var 8)))
  (rss_cons (rs_if (rt_is (re_var 9) re_non) (rss_one rs_continue) rss_nil)
  (rss_one (rs_for O (ri_rg1 m_range (ra_cons (re_add false (re_var 0) re_int) ra_nil)) (rg_name (i := 6) O rfl (by first | exact .inl rfl | exact .inr rfl))
   (rss_cons (rs_set (i := 10) O rfl (by first | exact .inl rfl | exact .inr rfl) (re_sub2 O.hu (re_sub2 O.hu (re_var 2) (re_var 8)) (re_var 6)))
  (rss_one (rs_if (PW.pt (rw_and (rt_isnot (re_var 10) re_non) (rw_and1 (PW.pt (rw_or (rt_is (re_sub2 O.hu (re_sub2 O.hu (re_var 2) (re_var 5)) (re_var 6)) re_non) (rw_or1 (rt_lt (re_sub2 O.hu (re_sub2 O.hu (re_var 2) (re_var 5)) (re_var 6)) (re_add false (re_var 9) (re_var 10))))))))) (rss_one (rs_setIx O (re_sub2 O.hu (re_var 2) (re_var 5)) (re_var 6) (re_add false (re_var 9) (re_var 10)))) rss_nil))))))))))
  (rss_one (rs_ret (re_var 2)))))))) fin_greatest_ways
theorem ok_ways (T : Txt K mg "ways" s_ways P_ways) (C_least_steps : Cal P w K mg base CL "least_steps" P_least_steps 1 F_least_steps) (C_greatest_ways : Cal P w K mg base CL "greatest_ways" P_greatest_ways 1 F_greatest_ways) : Cal P w K mg base CL "ways" P_ways 2 F_ways :=
  cal_D T sc_ways (b := b_ways) (fun f cdv A outer s H E O =>
  (rss_cons (rs_set (i := 2) O rfl (by first | exact .inl rfl | exact .inr rfl) (re_lst true ra_nil))
  (rss_cons (rs_for O (ri_seq (re_var 1)) (rg_name (i := 3) O rfl (by first | exact .inl rfl | exact .inr rfl))
   (rss_one (rs_expr (re_mExtend (re_var 2) (ra_cons (re_fn O C_least_steps (by decide) (ra_cons (re_var 3) (ra_cons (re_var 0) ra_nil))) ra_nil)))))
  (rss_one (rs_ret (re_fn O C_greatest_ways (by decide) (ra_cons (re_var 0) (ra_cons (re_var 2) ra_nil)))))))) fin_ways
theorem ok_is_round (T : Txt K mg "is_round" s_is_round P_is_round) (m_any : mg "any" = none) (m_len : mg "len" = none) (m_range : mg "range" = none) : Cal P w K mg base CL "is_round" P_is_round 1 F_is_round :=
  cal_D T sc_is_round (b := b_is_round) (fun f cdv A outer s H E O =>
  (rss_one (rs_ret (re_any O m_any (ra_cons (re_lc (own := [("place", 1)]) O false (ri_rg1 m_range (ra_cons (re_len m_len (ra_cons (re_var 0) ra_nil)) ra_nil)) (blkOk_by (N := N_is_round) (sc := defScope s_is_round) (by decide +kernel)) (fun _ _ _ _ _ O' => (rg_name (i := 1) O' rfl (by first | exact .inl rfl | exact .inr rfl))) (fun _ _ _ _ _ O' => rts_nil) (fun _ _ _ _ _ O' => (re_gt (re_sub2 O'.hu (re_sub2 O'.hu (re_var 0) (re_var 1)) (re_var 1)) re_int))) ra_nil))))) fin_is_round
theorem ok_do_hold (T : Txt K mg "do_hold" s_do_hold P_do_hold) (C_ways : Cal P w K mg base CL "ways" P_ways 2 F_ways) (C_is_round : Cal P w K mg base CL "is_round" P_is_round 1 F_is_round) : Cal P w K mg base CL "do_hold" P_do_hold 3 F_do_hold :=
  cal_D T sc_do_hold (b := b_do_hold) (fun f cdv A outer s H E O =>
  (rss_one (rs_ret (re_not (re_fn O C_is_round (by decide) (ra_cons (re_fn O C_ways (by decide) (ra_cons (re_var 0) (ra_cons (re_var 1) ra_nil))) ra_nil)))))) fin_do_hold
theorem ok_sure_ways (T : Txt K mg "sure_ways" s_sure_ways P_sure_ways) (C_ways : Cal P w K mg base CL "ways" P_ways 2 F_ways) (C_is_round : Cal P w K mg base CL "is_round" P_is_round 1 F_is_round) (X_Unsure : Xcl K mg CL "Unsure") : Cal P w K mg base CL "sure_ways" P_sure_ways 3 F_sure_ways :=
  cal_D T sc_sure_ways (b := b_sure_ways) (fun f cdv A outer s H E O =>
  (rss_cons (rs_set (i := 2) O rfl (by first | exact .inl rfl | exact .inr rfl) (re_fn O C_ways (by decide) (ra_cons (re_var 0) (ra_cons (re_var 1) ra_nil))))
  (rss_cons (rs_if (rt_tr (re_fn O C_is_round (by decide) (ra_cons (re_var 2) ra_nil))) (rss_one (rs_raiseX O X_Unsure)) rss_nil)
  (rss_one (rs_ret (re_var 2)))))) fin_sure_ways
theorem ok_dating_of (T : Txt K mg "dating_of" s_dating_of P_dating_of) (m_max : mg "max" = none) (m_range : mg "range" = none) : Cal P w K mg base CL "dating_of" P_dating_of 1 F_dating_of :=
  cal_D T sc_dating_of (b := b_dating_of) (fun f cdv A outer s H E O =>
  (rss_cons (rs_set (i := 2) O rfl (by first | exact .inl rfl | exact .inr rfl) (re_lc (own := [("two", 4)]) O false (ri_rg1 m_range (ra_cons (re_add false (re_var 1) re_int) ra_nil)) (blkOk_by (N := N_dating_of) (sc := defScope s_dating_of) (by decide +kernel)) (fun _ _ _ _ _ O' => (rg_name (i := 4) O' rfl (by first | exact .inl rfl | exact .inr rfl))) (fun _ _ _ _ _ O' => rts_nil) (fun _ _ _ _ _ O' => (re_max O' m_max (ra_cons (re_lc (own := [("one", 3)]) O' false (ri_rg1 m_range (ra_cons (re_add false (re_var 1) re_int) ra_nil)) (blkOk_by (by kernel_rfl)) (fun _ _ _ _ _ O' => (rg_name (i := 3) O' rfl (by first | exact .inl rfl | exact .inr rfl))) (fun _ _ _ _ _ O' => (rts_one (rt_isnot (re_sub2 O'.hu (re_sub2 O'.hu (re_var 0) (re_var 3)) (re_var 4)) re_non))) (fun _ _ _ _ _ O' => (re_sub2 O'.hu (re_sub2 O'.hu (re_var 0) (re_var 3)) (re_var 4)))) ra_nil)))))
  (rss_one (rs_ret (re_lc (own := [("year", 5)]) O false (ri_seq (re_sl false (re_var 2) ro_no (ro_some (re_var 1)))) (blkOk_by (N := N_dating_of) (sc := defScope s_dating_of) (by decide +kernel)) (fun _ _ _ _ _ O' => (rg_name (i := 5) O' rfl (by first | exact .inl rfl | exact .inr rfl))) (fun _ _ _ _ _ O' => rts_nil) (fun _ _ _ _ _ O' => (re_sub (re_var 5) (re_sub2 O'.hu (re_var 2) (re_var 1))))))))) fin_dating_of
theorem ok_dating (T : Txt K mg "dating" s_dating P_dating) (C_sure_ways : Cal P w K mg base CL "sure_ways" P_sure_ways 3 F_sure_ways) (C_dating_of : Cal P w K mg base CL "dating_of" P_dating_of 1 F_dating_of) : Cal P w K mg base CL "dating" P_dating 4 F_dating :=
  cal_D T sc_dating (b := b_dating) (fun f cdv A outer s H E O =>
  (rss_one (rs_ret (re_fn O C_dating_of (by decide) (ra_cons (re_fn O C_sure_ways (by decide) (ra_cons (re_var 0) (ra_cons (re_var 1) ra_nil))) (ra_cons (re_var 0) ra_nil)))))) fin_dating
theorem ok_group_of (T : Txt K mg "group_of" s_group_of P_group_of) (m_list : mg "list" = none) (m_min : mg "min" = none) (m_range : mg "range" = none) : Cal P w K mg base CL "group_of" P_group_of 1 F_group_of :=
  cal_D T sc_group_of (b := b_group_of) (fun f cdv A outer s H E O =>
  (rss_cons (rs_set (i := 2) O rfl (by first | exact .inl rfl | exact .inr rfl) (re_lstRg1 O true m_list m_range (re_var 0)))
  (rss_cons (rs_for O (ri_rg1 m_range (ra_cons (re_var 0) ra_nil)) (rg_name (i := 3) O rfl (by first | exact .inl rfl | exact .inr rfl))
   (rss_one (rs_for O (ri_seq (re_var 1)) (rg_name (i := 4) O rfl (by first | exact .inl rfl | exact .inr rfl))
   (rss_one (rs_if (rt_eq O.hu (re_sub2 O.hu (re_var 4) re_int) re_str) (rss_cons (rs_set (i := 5) O rfl (by first | exact .inl rfl | exact .inr rfl) (re_min2 O m_min (ra_cons (re_sub2 O.hu (re_var 2) (re_sub2 O.hu (re_var 4) re_int)) (ra_cons (re_sub2 O.hu (re_var 2) (re_sub2 O.hu (re_var 4) re_int)) ra_nil))))
  (rss_cons (rs_setIx O (re_var 2) (re_sub2 O.hu (re_var 4) re_int) (re_var 5))
  (rss_one (rs_setIx O (re_var 2) (re_sub2 O.hu (re_var 4) re_int) (re_var 5))))) rss_nil)))))
  (rss_one (rs_ret (re_var 2)))))) fin_group_of
theorem ok_goes_with (T : Txt K mg "goes_with" s_goes_with P_goes_with) (C_do_hold : Cal P w K mg base CL "do_hold" P_do_hold 3 F_do_hold) (C_dating : Cal P w K mg base CL "dating" P_dating 4 F_dating) (C_group_of : Cal P w K mg base CL "group_of" P_group_of 1 F_group_of) (m_len : mg "len" = none) (m_list : mg "list" = none) (m_range : mg "range" = none) : Cal P w K mg base CL "goes_with" P_goes_with 5 F_goes_with :=
  cal_D T sc_goes_with (b := b_goes_with) (fun f cdv A outer s H E O =>
  (rss_cons (rs_set (i := 3) O rfl (by first | exact .inl rfl | exact .inr rfl) (re_fn O C_group_of (by decide) (ra_cons (re_var 0) (ra_cons (re_var 1) ra_nil))))
  (rss_cons (rs_set (i := 4) O rfl (by first | exact .inl rfl | exact .inr rfl) (re_list O true m_list (ra_cons (re_var 1) ra_nil)))
  (rss_cons (rs_for O (ri_rg1 m_range (ra_cons (re_var 0) ra_nil)) (rg_name (i := 5) O rfl (by first | exact .inl rfl | exact .inr rfl))
   (rss_one (rs_if (rt_ne O.hu (re_sub2 O.hu (re_var 3) (re_var 5)) (re_var 5)) (rss_one (rs_expr (re_mAppend (re_var 4) (ra_cons (re_tup (ra_cons re_str (ra_cons (re_sub2 O.hu (re_var 3) (re_var 5)) (ra_cons (re_var 5) ra_nil)))) ra_nil)))) rss_nil)))
  (rss_cons (rs_for O (ri_rg1 m_range (ra_cons (re_sub (re_len m_len (ra_cons (re_var 2) ra_nil)) re_int) ra_nil)) (rg_name (i := 6) O rfl (by first | exact .inl rfl | exact .inr rfl))
   (rss_one (rs_expr (re_mAppend (re_var 4) (ra_cons (re_tup (ra_cons re_str (ra_cons (re_sub2 O.hu (re_var 2) (re_var 6)) (ra_cons (re_sub2 O.hu (re_var 2) (re_add false (re_var 6) re_int)) (ra_cons re_int ra_nil))))) ra_nil)))))
  (rss_one (rs_ret (re_if (rt_tr (re_fn O C_do_hold (by decide) (ra_cons (re_var 0) (ra_cons (re_var 4) ra_nil)))) (re_fn O C_dating (by decide) (ra_cons (re_var 0) (ra_cons (re_var 4) ra_nil))) re_non)))))))) fin_goes_with
theorem ok_l_stream (T : Txt K mg "_law_stream" s_l_stream P_l_stream) (m_int : mg "int" = none) (m_list : mg "list" = none) : Cal P w K mg base CL "_law_stream" P_l_stream 1 F_l_stream :=
  cal_D T sc_l_stream (b := b_l_stream) (fun f cdv A outer s H E O =>
  (rss_cons (rs_set (i := 1) O rfl (by first | exact .inl rfl | exact .inr rfl) re_int)
  (rss_cons (rs_for O (ri_seq (re_var 0)) (rg_name (i := 2) O rfl (by first | exact .inl rfl | exact .inr rfl))
   (rss_one (rs_set (i := 1) O rfl (by first | exact .inl rfl | exact .inr rfl) (re_mod (re_intc m_int (ra_cons (re_add false (re_add false (re_mul false (re_var 1) re_int) (re_mod (re_intc m_int (ra_cons (re_var 2) ra_nil)) re_int)) re_int) ra_nil)) re_int))))
  (rss_one (rs_ret (re_lst true (ra_cons (re_list O false m_list (ra_cons (re_var 0) ra_nil)) (ra_cons re_int (ra_cons re_int (ra_cons (re_var 1) ra_nil)))))))))) fin_l_stream
theorem ok_l_draw (T : Txt K mg "_law_draw" s_l_draw P_l_draw) (m_abs : mg "abs" = none) (m_int : mg "int" = none) (m_len : mg "len" = none) : Cal P w K mg base CL "_law_draw" P_l_draw 1 F_l_draw :=
  cal_D T sc_l_draw (b := b_l_draw) (fun f cdv A outer s H E O =>
  (rss_cons (rs_if (PW.pt (rw_and (rt_eq O.hu (re_sub2 O.hu (re_var 0) re_int) re_int) (rw_and1 (rt_lt (re_sub2 O.hu (re_var 0) re_int) (re_len m_len (ra_cons (re_sub2 O.hu (re_var 0) re_int) ra_nil)))))) (rss_cons (rs_setIx O (re_var 0) re_int (re_abs m_abs (ra_cons (re_intc m_int (ra_cons (re_sub2 O.hu (re_sub2 O.hu (re_var 0) re_int) (re_sub2 O.hu (re_var 0) re_int)) ra_nil)) ra_nil)))
  (rss_one (rs_setIx O (re_var 0) re_int (re_add false (re_sub2 O.hu (re_var 0) re_int) re_int)))) rss_nil)
  (rss_cons (rs_if (rt_eq O.hu (re_sub2 O.hu (re_var 0) re_int) re_int) (rss_cons (rs_setIx O (re_var 0) re_int (re_mod (re_intc m_int (ra_cons (re_add false (re_mul false (re_sub2 O.hu (re_var 0) re_int) re_int) re_int) ra_nil)) re_int))
  (rss_one (rs_ret (re_mod (re_intc m_int (ra_cons (re_fdiv (re_sub2 O.hu (re_var 0) re_int) re_int) ra_nil)) (re_var 1))))) rss_nil)
  (rss_cons (rs_set (i := 2) O rfl (by first | exact .inl rfl | exact .inr rfl) (re_mod (re_intc m_int (ra_cons (re_sub2 O.hu (re_var 0) re_int) ra_nil)) (re_var 1)))
  (rss_cons (rs_setIx O (re_var 0) re_int (re_fdiv (re_sub2 O.hu (re_var 0) re_int) (re_var 1)))
  (rss_one (rs_ret (re_var 2)))))))) fin_l_draw
theorem ok_l_pick (T : Txt K mg "_law_pick" s_l_pick P_l_pick) (C_l_draw : Cal P w K mg base CL "_law_draw" P_l_draw 1 F_l_draw) (m_len : mg "len" = none) : Cal P w K mg base CL "_law_pick" P_l_pick 2 F_l_pick :=
  cal_D T sc_l_pick (b := b_l_pick) (fun f cdv A outer s H E O =>
  (rss_one (rs_ret (re_sub2 O.hu (re_var 1) (re_fn O C_l_draw (by decide) (ra_cons (re_var 0) (ra_cons (re_len m_len (ra_cons (re_var 1) ra_nil)) ra_nil))))))) fin_l_pick
theorem ok_l_keeps (T : Txt K mg "_law_keeps" s_l_keeps P_l_keeps)  : Cal P w K mg base CL "_law_keeps" P_l_keeps 1 F_l_keeps :=
  cal_D T sc_l_keeps (b := b_l_keeps) (fun f cdv A outer s H E O =>
  (rss_cons (rs_set (i := 2) O rfl (by first | exact .inl rfl | exact .inr rfl) (re_sub2 O.hu (re_var 0) re_int))
  (rss_cons (rs_if (rt_eq O.hu (re_var 2) re_str) (rss_one (rs_ret re_bl)) rss_nil)
  (rss_cons (rs_if (rt_eq O.hu (re_var 2) re_str) (rss_one (rs_ret (re_ge (re_sub2 O.hu (re_var 1) (re_sub2 O.hu (re_var 0) re_int)) (re_sub2 O.hu (re_var 0) re_int)))) rss_nil)
  (rss_cons (rs_if (rt_eq O.hu (re_var 2) re_str) (rss_one (rs_ret (re_le (re_sub2 O.hu (re_var 1) (re_sub2 O.hu (re_var 0) re_int)) (re_sub2 O.hu (re_var 0) re_int)))) rss_nil)
  (rss_cons (rs_set (i := 3) O rfl (by first | exact .inl rfl | exact .inr rfl) (re_sub (re_sub2 O.hu (re_var 1) (re_sub2 O.hu (re_var 0) re_int)) (re_sub2 O.hu (re_var 1) (re_sub2 O.hu (re_var 0) re_int))))
  (rss_cons (rs_if (rt_eq O.hu (re_var 2) re_str) (rss_one (rs_ret (re_eq O.hu (re_var 3) re_int))) rss_nil)
  (rss_cons (rs_if (rt_eq O.hu (re_var 2) re_str) (rss_one (rs_ret (re_ge (re_var 3) (re_sub2 O.hu (re_var 0) re_int)))) rss_nil)
  (rss_one (rs_ret (re_le (re_var 3) (re_sub2 O.hu (re_var 0) re_int)))))))))))) fin_l_keeps
theorem ok_l_steps (T : Txt K mg "_law_steps" s_l_steps P_l_steps)  : Cal P w K mg base CL "_law_steps" P_l_steps 1 F_l_steps :=
  cal_D T sc_l_steps (b := b_l_steps) (fun f cdv A outer s H E O =>
  (rss_cons (rs_set (i := 2) O rfl (by first | exact .inl rfl | exact .inr rfl) (re_lst true ra_nil))
  (rss_cons (rs_for O (ri_seq (re_var 1)) (rg_name (i := 3) O rfl (by first | exact .inl rfl | exact .inr rfl))
   (rss_cons (rs_set (i := 4) O rfl (by first | exact .inl rfl | exact .inr rfl) (re_sub2 O.hu (re_var 3) re_int))
  (rss_one (rs_if (rt_eq O.hu (re_var 4) re_str) (rss_one (rs_expr (re_mAppend (re_var 2) (ra_cons (re_tup (ra_cons (re_sub2 O.hu (re_var 3) re_int) (ra_cons (re_sub2 O.hu (re_var 3) re_int) (ra_cons (re_sub2 O.hu (re_var 3) re_int) ra_nil)))) ra_nil)))) (rss_one (rs_if (rt_eq O.hu (re_var 4) re_str) (rss_one (rs_expr (re_mExtend (re_var 2) (ra_cons (re_lst false (ra_cons (re_tup (ra_cons (re_sub2 O.hu (re_var 3) re_int) (ra_cons (re_sub2 O.hu (re_var 3) re_int) (ra_cons re_int ra_nil)))) (ra_cons (re_tup (ra_cons (re_sub2 O.hu (re_var 3) re_int) (ra_cons (re_sub2 O.hu (re_var 3) re_int) (ra_cons re_int ra_nil)))) ra_nil))) ra_nil)))) (rss_one (rs_if (rt_eq O.hu (re_var 4) re_str) (rss_one (rs_expr (re_mAppend (re_var 2) (ra_cons (re_tup (ra_cons (re_sub2 O.hu (re_var 3) re_int) (ra_cons (re_sub2 O.hu (re_var 3) re_int) (ra_cons (re_neg (re_sub2 O.hu (re_var 3) re_int)) ra_nil)))) ra_nil)))) (rss_one (rs_if (rt_eq O.hu (re_var 4) re_str) (rss_one (rs_expr (re_mAppend (re_var 2) (ra_cons (re_tup (ra_cons (re_var 0) (ra_cons (re_sub2 O.hu (re_var 3) re_int) (ra_cons (re_sub2 O.hu (re_var 3) re_int) ra_nil)))) ra_nil)))) (rss_one (rs_if (rt_eq O.hu (re_var 4) re_str) (rss_one (rs_expr (re_mAppend (re_var 2) (ra_cons (re_tup (ra_cons (re_sub2 O.hu (re_var 3) re_int) (ra_cons (re_var 0) (ra_cons (re_neg (re_sub2 O.hu (re_var 3) re_int)) ra_nil)))) ra_nil)))) rss_nil))))))))))))
  (rss_one (rs_ret (re_var 2)))))) fin_l_steps
theorem ok_l_far (T : Txt K mg "_law_far" s_l_far P_l_far) (m_int : mg "int" = none) (m_range : mg "range" = none) : Cal P w K mg base CL "_law_far" P_l_far 1 F_l_far :=
  cal_D T sc_l_far (b := b_l_far) (fun f cdv A outer s H E O =>
  (rss_cons (rs_setLc (i := 3) (own := [("place", 4)]) O rfl rfl (sw_true rfl rfl rfl (by decide +kernel)) true (ri_rg1 m_range (ra_cons (re_add false (re_var 0) re_int) ra_nil)) (blkOk_by (N := N_l_far) (sc := defScope s_l_far) (by decide +kernel)) (fun _ _ _ _ _ O' => (rg_name (i := 4) O' rfl (by first | exact .inl rfl | exact .inr rfl))) (fun _ _ _ _ _ O' => rts_nil) (fun _ _ _ _ _ O' => (re_sub2 O'.hu (re_lst false (ra_cons re_non (ra_cons re_int ra_nil))) (re_intc m_int (ra_cons (re_in O'.hu (re_var 4) (re_var 2)) ra_nil)))))
  (rss_cons (rs_for O (ri_rg1 m_range (ra_cons (re_add false (re_var 0) re_int) ra_nil)) (rg_name (i := 5) O rfl (by first | exact .inl rfl | exact .inr rfl))
   (rss_cons (rs_set (i := 6) O rfl (by first | exact .inl rfl | exact .inr rfl) re_bl)
  (rss_cons (rs_for O (ri_seq (re_var 1)) (rg_tup (n := 3) O (rgs_cons (i := 7) O rfl (by first | exact .inl rfl | exact .inr rfl) (rgs_cons (i := 8) O rfl (by first | exact .inl rfl | exact .inr rfl) (rgs_cons (i := 9) O rfl (by first | exact .inl rfl | exact .inr rfl) rgs_nil))))
   (rss_one (rs_if (PW.pt (rw_and (rt_isnot (re_sub2 O.hu (re_var 3) (re_var 7)) re_non) (rw_and1 (PW.pt (rw_or (rt_is (re_sub2 O.hu (re_var 3) (re_var 8)) re_non) (rw_or1 (rt_lt (re_sub2 O.hu (re_var 3) (re_var 8)) (re_add false (re_sub2 O.hu (re_var 3) (re_var 7)) (re_var 9))))))))) (rss_cons (rs_setIx O (re_var 3) (re_var 8) (re_add false (re_sub2 O.hu (re_var 3) (re_var 7)) (re_var 9)))
  (rss_one (rs_set (i := 6) O rfl (by first | exact .inl rfl | exact .inr rfl) re_bl))) rss_nil)))
  (rss_one (rs_if (rt_not (rt_tr (re_var 6))) (rss_one (rs_ret (re_var 3))) rss_nil)))))
  (rss_one (rs_ret re_non))))) fin_l_far
theorem ok_l_holds (T : Txt K mg "_law_holds" s_l_holds P_l_holds) (C_l_steps : Cal P w K mg base CL "_law_steps" P_l_steps 1 F_l_steps) (C_l_far : Cal P w K mg base CL "_law_far" P_l_far 1 F_l_far) (m_list : mg "list" = none) (m_range : mg "range" = none) : Cal P w K mg base CL "_law_holds" P_l_holds 2 F_l_holds :=
  cal_D T sc_l_holds (b := b_l_holds) (fun f cdv A outer s H E O =>
  (rss_one (rs_ret (re_isnot (re_fn O C_l_far (by decide) (ra_cons (re_var 0) (ra_cons (re_fn O C_l_steps (by decide) (ra_cons (re_var 0) (ra_cons (re_var 1) ra_nil))) (ra_cons (re_lstRg1 O false m_list m_range (re_add false (re_var 0) re_int)) ra_nil)))) re_non)))) fin_l_holds
theorem ok_l_groups (T : Txt K mg "_law_groups" s_l_groups P_l_groups) (m_list : mg "list" = none) (m_min : mg "min" = none) (m_range : mg "range" = none) : Cal P w K mg base CL "_law_groups" P_l_groups 1 F_l_groups :=
  cal_D T sc_l_groups (b := b_l_groups) (fun f cdv A outer s H E O =>
  (rss_cons (rs_set (i := 2) O rfl (by first | exact .inl rfl | exact .inr rfl) (re_lstRg1 O true m_list m_range (re_var 0)))
  (rss_cons (rs_for O (ri_rg1 m_range (ra_cons (re_var 0) ra_nil)) (rg_name (i := 3) O rfl (by first | exact .inl rfl | exact .inr rfl))
   (rss_one (rs_for O (ri_seq (re_var 1)) (rg_name (i := 4) O rfl (by first | exact .inl rfl | exact .inr rfl))
   (rss_one (rs_if (rt_eq O.hu (re_sub2 O.hu (re_var 4) re_int) re_str) (rss_cons (rs_set (i := 5) O rfl (by first | exact .inl rfl | exact .inr rfl) (re_min2 O m_min (ra_cons (re_sub2 O.hu (re_var 2) (re_sub2 O.hu (re_var 4) re_int)) (ra_cons (re_sub2 O.hu (re_var 2) (re_sub2 O.hu (re_var 4) re_int)) ra_nil))))
  (rss_cons (rs_setIx O (re_var 2) (re_sub2 O.hu (re_var 4) re_int) (re_var 5))
  (rss_one (rs_setIx O (re_var 2) (re_sub2 O.hu (re_var 4) re_int) (re_var 5))))) rss_nil)))))
  (rss_one (rs_ret (re_var 2)))))) fin_l_groups
theorem ok_l_years (T : Txt K mg "_law_years" s_l_years P_l_years) (C_l_draw : Cal P w K mg base CL "_law_draw" P_l_draw 1 F_l_draw) (C_l_pick : Cal P w K mg base CL "_law_pick" P_l_pick 2 F_l_pick) (m_range : mg "range" = none) : Cal P w K mg base CL "_law_years" P_l_years 3 F_l_years :=
  cal_D T sc_l_years (b := b_l_years) (fun f cdv A outer s H E O =>
  (rss_cons (rs_set (i := 2) O rfl (by first | exact .inl rfl | exact .inr rfl) (re_fn O C_l_pick (by decide) (ra_cons (re_var 0) (ra_cons (re_lst false (ra_cons re_int (ra_cons re_int (ra_cons re_int ra_nil)))) ra_nil))))
  (rss_cons (rs_set (i := 3) O rfl (by first | exact .inl rfl | exact .inr rfl) (re_lst true ra_nil))
  (rss_cons (rs_for O (ri_rg1 m_range (ra_cons (re_var 1) ra_nil)) (rg_name (i := 4) O rfl (by first | exact .inl rfl | exact .inr rfl))
   (rss_one (rs_if (PW.pt (rw_and (rt_tr (re_var 3)) (rw_and1 (rt_eq O.hu (re_fn O C_l_draw (by decide) (ra_cons (re_var 0) (ra_cons re_int ra_nil))) re_int)))) (rss_one (rs_expr (re_mAppend (re_var 3) (ra_cons (re_fn O C_l_pick (by decide) (ra_cons (re_var 0) (ra_cons (re_var 3) ra_nil))) ra_nil)))) (rss_one (rs_expr (re_mAppend (re_var 3) (ra_cons (re_sub (re_fn O C_l_draw (by decide) (ra_cons (re_var 0) (ra_cons (re_add false (re_mul false re_int (re_var 2)) re_int) ra_nil))) (re_var 2)) ra_nil)))))))
  (rss_one (rs_ret (re_var 3))))))) fin_l_years
theorem ok_l_other (T : Txt K mg "_law_other" s_l_other P_l_other) (C_l_draw : Cal P w K mg base CL "_law_draw" P_l_draw 1 F_l_draw) (m_int : mg "int" = none) : Cal P w K mg base CL "_law_other" P_l_other 2 F_l_other :=
  cal_D T sc_l_other (b := b_l_other) (fun f cdv A outer s H E O =>
  (rss_one (rs_ret (re_mod (re_intc m_int (ra_cons (re_add false (re_add false (re_var 2) re_int) (re_fn O C_l_draw (by decide) (ra_cons (re_var 0) (ra_cons (re_sub (re_var 1) re_int) ra_nil)))) ra_nil)) (re_var 1))))) fin_l_other
theorem ok_l_kept_record (T : Txt K mg "_law_kept_record" s_l_kept_record P_l_kept_record) (C_l_draw : Cal P w K mg base CL "_law_draw" P_l_draw 1 F_l_draw) (C_l_pick : Cal P w K mg base CL "_law_pick" P_l_pick 2 F_l_pick) (C_l_other : Cal P w K mg base CL "_law_other" P_l_other 2 F_l_other) (m_len : mg "len" = none) (m_max : mg "max" = none) (m_min : mg "min" = none) : Cal P w K mg base CL "_law_kept_record" P_l_kept_record 3 F_l_kept_record :=
  cal_D T sc_l_kept_record (b := b_l_kept_record) (fun f cdv A outer s H E O =>
  (rss_cons (rs_set (i := 3) O rfl (by first | exact .inl rfl | exact .inr rfl) (re_len m_len (ra_cons (re_var 1) ra_nil)))
  (rss_cons (rs_set (i := 4) O rfl (by first | exact .inl rfl | exact .inr rfl) (re_fn O C_l_draw (by decide) (ra_cons (re_var 0) (ra_cons (re_var 3) ra_nil))))
  (rss_cons (rs_set (i := 5) O rfl (by first | exact .inl rfl | exact .inr rfl) (re_fn O C_l_pick (by decide) (ra_cons (re_var 0) (ra_cons (re_lst false (ra_cons re_int (ra_cons re_int (ra_cons re_int (ra_cons (re_fn O C_l_draw (by decide) (ra_cons (re_var 0) (ra_cons re_int ra_nil))) (ra_cons (re_fn O C_l_draw (by decide) (ra_cons (re_var 0) (ra_cons re_int ra_nil))) ra_nil)))))) ra_nil))))
  (rss_cons (rs_if (rt_eq O.hu (re_var 2) re_str) (rss_one (rs_ret (re_lst false (ra_cons (re_tup (ra_cons re_str (ra_cons (re_var 4) (ra_cons (re_max2 O m_max (ra_cons (re_neg re_int) (ra_cons (re_sub (re_sub2 O.hu (re_var 1) (re_var 4)) (re_var 5)) ra_nil))) (ra_cons (re_add false re_int (re_fn O C_l_draw (by decide) (ra_cons (re_var 0) (ra_cons re_int ra_nil)))) ra_nil))))) ra_nil)))) rss_nil)
  (rss_cons (rs_if (rt_eq O.hu (re_var 2) re_str) (rss_one (rs_ret (re_lst false (ra_cons (re_tup (ra_cons re_str (ra_cons (re_var 4) (ra_cons (re_min2 O m_min (ra_cons re_int (ra_cons (re_add false (re_sub2 O.hu (re_var 1) (re_var 4)) (re_var 5)) ra_nil))) (ra_cons (re_add false re_int (re_fn O C_l_draw (by decide) (ra_cons (re_var 0) (ra_cons re_int ra_nil)))) ra_nil))))) ra_nil)))) rss_nil)
  (rss_cons (rs_if (PW.pt (rw_or (rt_eq O.hu (re_var 2) re_str) (rw_or1 (rt_eq O.hu (re_var 3) re_int)))) (rss_one (rs_ret (re_lst false (ra_cons (re_tup (ra_cons re_str (ra_cons (re_var 4) (ra_cons (re_fn O C_l_pick (by decide) (ra_cons (re_var 0) (ra_cons (re_lst false (ra_cons re_str (ra_cons re_str (ra_cons re_str ra_nil)))) ra_nil))) ra_nil)))) ra_nil)))) rss_nil)
  (rss_cons (rs_set (i := 6) O rfl (by first | exact .inl rfl | exact .inr rfl) (re_fn O C_l_other (by decide) (ra_cons (re_var 0) (ra_cons (re_var 3) (ra_cons (re_var 4) ra_nil)))))
  (rss_cons (rs_if (rt_eq O.hu (re_var 2) re_str) (rss_one (rs_ret (re_if (rt_eq O.hu (re_sub2 O.hu (re_var 1) (re_var 4)) (re_sub2 O.hu (re_var 1) (re_var 6))) (re_lst false (ra_cons (re_tup (ra_cons re_str (ra_cons (re_var 4) (ra_cons (re_var 6) ra_nil)))) ra_nil)) (re_lst false ra_nil)))) rss_nil)
  (rss_cons (rs_if (rt_eq O.hu (re_var 2) re_str) (rss_cons (rs_set (i := 7) O rfl (by first | exact .inl rfl | exact .inr rfl) (re_max2 O m_max (ra_cons re_int (ra_cons (re_add false (re_sub (re_sub2 O.hu (re_var 1) (re_var 6)) (re_sub2 O.hu (re_var 1) (re_var 4))) (re_var 5)) ra_nil))))
  (rss_one (rs_ret (re_if (rt_le (re_var 7) re_int) (re_lst false (ra_cons (re_tup (ra_cons re_str (ra_cons (re_var 4) (ra_cons (re_var 6) (ra_cons (re_var 7) ra_nil))))) ra_nil)) (re_lst false ra_nil))))) rss_nil)
  (rss_cons (rs_if (rt_gt (re_sub2 O.hu (re_var 1) (re_var 4)) (re_sub2 O.hu (re_var 1) (re_var 6))) (rss_one (rs_par (i := 4) (j := 6) O rfl rfl (by decide) rfl rfl (ra_cons (re_var 6) (ra_cons (re_var 4) ra_nil)) (by rfl))) rss_nil)
  (rss_one (rs_ret (re_lst false (ra_cons (re_tup (ra_cons re_str (ra_cons (re_var 4) (ra_cons (re_var 6) (ra_cons (re_min2 O m_min (ra_cons re_int (ra_cons (re_max2 O m_max (ra_cons re_int (ra_cons (re_sub (re_sub (re_sub2 O.hu (re_var 1) (re_var 6)) (re_sub2 O.hu (re_var 1) (re_var 4))) (re_var 5)) ra_nil))) ra_nil))) ra_nil))))) ra_nil))))))))))))))) fin_l_kept_record
theorem ok_l_kept_records (T : Txt K mg "_law_kept_records" s_l_kept_records P_l_kept_records) (C_l_pick : Cal P w K mg base CL "_law_pick" P_l_pick 2 F_l_pick) (C_l_kept_record : Cal P w K mg base CL "_law_kept_record" P_l_kept_record 3 F_l_kept_record) (m_range : mg "range" = none) : Cal P w K mg base CL "_law_kept_records" P_l_kept_records 4 F_l_kept_records :=
  cal_D T sc_l_kept_records (b := b_l_kept_records) (fun f cdv A outer s H E O =>
  (rss_cons (rs_set (i := 4) O rfl (by first | exact .inl rfl | exact .inr rfl) (re_lst true ra_nil))
  (rss_cons (rs_for O (ri_rg1 m_range (ra_cons (re_var 3) ra_nil)) (rg_name (i := 5) O rfl (by first | exact .inl rfl | exact .inr rfl))
   (rss_one (rs_expr (re_mExtend (re_var 4) (ra_cons (re_fn O C_l_kept_record (by decide) (ra_cons (re_var 0) (ra_cons (re_var 1) (ra_cons (re_fn O C_l_pick (by decide) (ra_cons (re_var 0) (ra_cons (re_var 2) ra_nil))) ra_nil)))) ra_nil)))))
  (rss_one (rs_ret (re_var 4)))))) fin_l_kept_records
theorem ok_l_is_dating (T : Txt K mg "_law_is_dating" s_l_is_dating P_l_is_dating) (m_all : mg "all" = none) (m_bool : mg "bool" = none) (m_int : mg "int" = none) (m_isinstance : mg "isinstance" = none) (m_len : mg "len" = none) (m_list : mg "list" = none) : Cal P w K mg base CL "_law_is_dating" P_l_is_dating 1 F_l_is_dating :=
  cal_D T sc_l_is_dating (b := b_l_is_dating) (fun f cdv A outer s H E O =>
  (rss_cons (rs_if (PW.pt (rw_or (rt_not (rt_tr (re_isi m_isinstance m_list (by decide +kernel) (re_var 1)))) (rw_or1 (rt_ne O.hu (re_len m_len (ra_cons (re_var 1) ra_nil)) (re_var 0))))) (rss_one (rs_ret re_bl)) rss_nil)
  (rss_one (rs_ret (re_all O m_all (ra_cons (re_lc (own := [("year", 2)]) O false (ri_seq (re_var 1)) (blkOk_by (N := N_l_is_dating) (sc := defScope s_l_is_dating) (by decide +kernel)) (fun _ _ _ _ _ O' => (rg_name (i := 2) O' rfl (by first | exact .inl rfl | exact .inr rfl))) (fun _ _ _ _ _ O' => rts_nil) (fun _ _ _ _ _ O' => (re_and (re_isi m_isinstance m_int (by decide +kernel) (re_var 2)) (re_one (re_not (re_isi m_isinstance m_bool (by decide +kernel) (re_var 2))))))) ra_nil)))))) fin_l_is_dating
theorem all_mk {l : PySem.W.OpenLaw} {w : World} {K : PySem.W.Frag} {h : Heap} {mg : Str → Option Value} {fa : Addr} (X : K.In h) (G : h.Ns mainGlobals mg) (hfa : mg "law" = some (.ref fa))
    {f0 : Addr} {od0 an0 : Option Addr} {sl0 : Array (Option Value)} {oc0 kV0 dc0 pm0 cd0 ct0 : Value}
    (a0 : PySem.W.nsIn K mainGlobals "least_steps" = some (some (.ref f0))) (l0 : K.lookup f0 = some ⟨oc0, od0, .func (PySem.W.fnOf "least_steps" "least_steps" (defArgs s_least_steps) (defBody s_least_steps) (defScope s_least_steps) .none kV0 dc0 pm0 an0 cd0 ct0), sl0⟩)
    (c0 : PySem.W.codeIn K cd0 "least_steps" = true) (k0 : PySem.W.keepIn K (.ref f0) = true)
    {f1 : Addr} {od1 an1 : Option Addr} {sl1 : Array (Option Value)} {oc1 kV1 dc1 pm1 cd1 ct1 : Value}
    (a1 : PySem.W.nsIn K mainGlobals "greatest_ways" = some (some (.ref f1))) (l1 : K.lookup f1 = some ⟨oc1, od1, .func (PySem.W.fnOf "greatest_ways" "greatest_ways" (defArgs s_greatest_ways) (defBody s_greatest_ways) (defScope s_greatest_ways) .none kV1 dc1 pm1 an1 cd1 ct1), sl1⟩)
    (c1 : PySem.W.codeIn K cd1 "greatest_ways" = true) (k1 : PySem.W.keepIn K (.ref f1) = true)
    {f2 : Addr} {od2 an2 : Option Addr} {sl2 : Array (Option Value)} {oc2 kV2 dc2 pm2 cd2 ct2 : Value}
    (a2 : PySem.W.nsIn K mainGlobals "ways" = some (some (.ref f2))) (l2 : K.lookup f2 = some ⟨oc2, od2, .func (PySem.W.fnOf "ways" "ways" (defArgs s_ways) (defBody s_ways) (defScope s_ways) .none kV2 dc2 pm2 an2 cd2 ct2), sl2⟩)
    (c2 : PySem.W.codeIn K cd2 "ways" = true) (k2 : PySem.W.keepIn K (.ref f2) = true)
    {f3 : Addr} {od3 an3 : Option Addr} {sl3 : Array (Option Value)} {oc3 kV3 dc3 pm3 cd3 ct3 : Value}
    (a3 : PySem.W.nsIn K mainGlobals "is_round" = some (some (.ref f3))) (l3 : K.lookup f3 = some ⟨oc3, od3, .func (PySem.W.fnOf "is_round" "is_round" (defArgs s_is_round) (defBody s_is_round) (defScope s_is_round) .none kV3 dc3 pm3 an3 cd3 ct3), sl3⟩)
    (c3 : PySem.W.codeIn K cd3 "is_round" = true) (k3 : PySem.W.keepIn K (.ref f3) = true)
    {f4 : Addr} {od4 an4 : Option Addr} {sl4 : Array (Option Value)} {oc4 kV4 dc4 pm4 cd4 ct4 : Value}
    (a4 : PySem.W.nsIn K mainGlobals "do_hold" = some (some (.ref f4))) (l4 : K.lookup f4 = some ⟨oc4, od4, .func (PySem.W.fnOf "do_hold" "do_hold" (defArgs s_do_hold) (defBody s_do_hold) (defScope s_do_hold) .none kV4 dc4 pm4 an4 cd4 ct4), sl4⟩)
    (c4 : PySem.W.codeIn K cd4 "do_hold" = true) (k4 : PySem.W.keepIn K (.ref f4) = true)
    {f5 : Addr} {od5 an5 : Option Addr} {sl5 : Array (Option Value)} {oc5 kV5 dc5 pm5 cd5 ct5 : Value}
    (a5 : PySem.W.nsIn K mainGlobals "sure_ways" = some (some (.ref f5))) (l5 : K.lookup f5 = some ⟨oc5, od5, .func (PySem.W.fnOf "sure_ways" "sure_ways" (defArgs s_sure_ways) (defBody s_sure_ways) (defScope s_sure_ways) .none kV5 dc5 pm5 an5 cd5 ct5), sl5⟩)
    (c5 : PySem.W.codeIn K cd5 "sure_ways" = true) (k5 : PySem.W.keepIn K (.ref f5) = true)
    {f6 : Addr} {od6 an6 : Option Addr} {sl6 : Array (Option Value)} {oc6 kV6 dc6 pm6 cd6 ct6 : Value}
    (a6 : PySem.W.nsIn K mainGlobals "dating_of" = some (some (.ref f6))) (l6 : K.lookup f6 = some ⟨oc6, od6, .func (PySem.W.fnOf "dating_of" "dating_of" (defArgs s_dating_of) (defBody s_dating_of) (defScope s_dating_of) .none kV6 dc6 pm6 an6 cd6 ct6), sl6⟩)
    (c6 : PySem.W.codeIn K cd6 "dating_of" = true) (k6 : PySem.W.keepIn K (.ref f6) = true)
    {f7 : Addr} {od7 an7 : Option Addr} {sl7 : Array (Option Value)} {oc7 kV7 dc7 pm7 cd7 ct7 : Value}
    (a7 : PySem.W.nsIn K mainGlobals "dating" = some (some (.ref f7))) (l7 : K.lookup f7 = some ⟨oc7, od7, .func (PySem.W.fnOf "dating" "dating" (defArgs s_dating) (defBody s_dating) (defScope s_dating) .none kV7 dc7 pm7 an7 cd7 ct7), sl7⟩)
    (c7 : PySem.W.codeIn K cd7 "dating" = true) (k7 : PySem.W.keepIn K (.ref f7) = true)
    {f8 : Addr} {od8 an8 : Option Addr} {sl8 : Array (Option Value)} {oc8 kV8 dc8 pm8 cd8 ct8 : Value}
    (a8 : PySem.W.nsIn K mainGlobals "group_of" = some (some (.ref f8))) (l8 : K.lookup f8 = some ⟨oc8, od8, .func (PySem.W.fnOf "group_of" "group_of" (defArgs s_group_of) (defBody s_group_of) (defScope s_group_of) .none kV8 dc8 pm8 an8 cd8 ct8), sl8⟩)
    (c8 : PySem.W.codeIn K cd8 "group_of" = true) (k8 : PySem.W.keepIn K (.ref f8) = true)
    {f9 : Addr} {od9 an9 : Option Addr} {sl9 : Array (Option Value)} {oc9 kV9 dc9 pm9 cd9 ct9 : Value}
    (a9 : PySem.W.nsIn K mainGlobals "goes_with" = some (some (.ref f9))) (l9 : K.lookup f9 = some ⟨oc9, od9, .func (PySem.W.fnOf "goes_with" "goes_with" (defArgs s_goes_with) (defBody s_goes_with) (defScope s_goes_with) .none kV9 dc9 pm9 an9 cd9 ct9), sl9⟩)
    (c9 : PySem.W.codeIn K cd9 "goes_with" = true) (k9 : PySem.W.keepIn K (.ref f9) = true)
    {f10 : Addr} {od10 an10 : Option Addr} {sl10 : Array (Option Value)} {oc10 kV10 dc10 pm10 cd10 ct10 : Value}
    (a10 : PySem.W.nsIn K mainGlobals "_law_stream" = some (some (.ref f10))) (l10 : K.lookup f10 = some ⟨oc10, od10, .func (PySem.W.fnOf "_law_stream" "_law_stream" (defArgs s_l_stream) (defBody s_l_stream) (defScope s_l_stream) .none kV10 dc10 pm10 an10 cd10 ct10), sl10⟩)
    (c10 : PySem.W.codeIn K cd10 "_law_stream" = true) (k10 : PySem.W.keepIn K (.ref f10) = true)
    {f11 : Addr} {od11 an11 : Option Addr} {sl11 : Array (Option Value)} {oc11 kV11 dc11 pm11 cd11 ct11 : Value}
    (a11 : PySem.W.nsIn K mainGlobals "_law_draw" = some (some (.ref f11))) (l11 : K.lookup f11 = some ⟨oc11, od11, .func (PySem.W.fnOf "_law_draw" "_law_draw" (defArgs s_l_draw) (defBody s_l_draw) (defScope s_l_draw) .none kV11 dc11 pm11 an11 cd11 ct11), sl11⟩)
    (c11 : PySem.W.codeIn K cd11 "_law_draw" = true) (k11 : PySem.W.keepIn K (.ref f11) = true)
    {f12 : Addr} {od12 an12 : Option Addr} {sl12 : Array (Option Value)} {oc12 kV12 dc12 pm12 cd12 ct12 : Value}
    (a12 : PySem.W.nsIn K mainGlobals "_law_pick" = some (some (.ref f12))) (l12 : K.lookup f12 = some ⟨oc12, od12, .func (PySem.W.fnOf "_law_pick" "_law_pick" (defArgs s_l_pick) (defBody s_l_pick) (defScope s_l_pick) .none kV12 dc12 pm12 an12 cd12 ct12), sl12⟩)
    (c12 : PySem.W.codeIn K cd12 "_law_pick" = true) (k12 : PySem.W.keepIn K (.ref f12) = true)
    {f13 : Addr} {od13 an13 : Option Addr} {sl13 : Array (Option Value)} {oc13 kV13 dc13 pm13 cd13 ct13 : Value}
    (a13 : PySem.W.nsIn K mainGlobals "_law_keeps" = some (some (.ref f13))) (l13 : K.lookup f13 = some ⟨oc13, od13, .func (PySem.W.fnOf "_law_keeps" "_law_keeps" (defArgs s_l_keeps) (defBody s_l_keeps) (defScope s_l_keeps) .none kV13 dc13 pm13 an13 cd13 ct13), sl13⟩)
    (c13 : PySem.W.codeIn K cd13 "_law_keeps" = true) (k13 : PySem.W.keepIn K (.ref f13) = true)
    {f14 : Addr} {od14 an14 : Option Addr} {sl14 : Array (Option Value)} {oc14 kV14 dc14 pm14 cd14 ct14 : Value}
    (a14 : PySem.W.nsIn K mainGlobals "_law_steps" = some (some (.ref f14))) (l14 : K.lookup f14 = some ⟨oc14, od14, .func (PySem.W.fnOf "_law_steps" "_law_steps" (defArgs s_l_steps) (defBody s_l_steps) (defScope s_l_steps) .none kV14 dc14 pm14 an14 cd14 ct14), sl14⟩)
    (c14 : PySem.W.codeIn K cd14 "_law_steps" = true) (k14 : PySem.W.keepIn K (.ref f14) = true)
    {f15 : Addr} {od15 an15 : Option Addr} {sl15 : Array (Option Value)} {oc15 kV15 dc15 pm15 cd15 ct15 : Value}
    (a15 : PySem.W.nsIn K mainGlobals "_law_far" = some (some (.ref f15))) (l15 : K.lookup f15 = some ⟨oc15, od15, .func (PySem.W.fnOf "_law_far" "_law_far" (defArgs s_l_far) (defBody s_l_far) (defScope s_l_far) .none kV15 dc15 pm15 an15 cd15 ct15), sl15⟩)
    (c15 : PySem.W.codeIn K cd15 "_law_far" = true) (k15 : PySem.W.keepIn K (.ref f15) = true)
    {f16 : Addr} {od16 an16 : Option Addr} {sl16 : Array (Option Value)} {oc16 kV16 dc16 pm16 cd16 ct16 : Value}
    (a16 : PySem.W.nsIn K mainGlobals "_law_holds" = some (some (.ref f16))) (l16 : K.lookup f16 = some ⟨oc16, od16, .func (PySem.W.fnOf "_law_holds" "_law_holds" (defArgs s_l_holds) (defBody s_l_holds) (defScope s_l_holds) .none kV16 dc16 pm16 an16 cd16 ct16), sl16⟩)
    (c16 : PySem.W.codeIn K cd16 "_law_holds" = true) (k16 : PySem.W.keepIn K (.ref f16) = true)
    {f17 : Addr} {od17 an17 : Option Addr} {sl17 : Array (Option Value)} {oc17 kV17 dc17 pm17 cd17 ct17 : Value}
    (a17 : PySem.W.nsIn K mainGlobals "_law_groups" = some (some (.ref f17))) (l17 : K.lookup f17 = some ⟨oc17, od17, .func (PySem.W.fnOf "_law_groups" "_law_groups" (defArgs s_l_groups) (defBody s_l_groups) (defScope s_l_groups) .none kV17 dc17 pm17 an17 cd17 ct17), sl17⟩)
    (c17 : PySem.W.codeIn K cd17 "_law_groups" = true) (k17 : PySem.W.keepIn K (.ref f17) = true)
    {f18 : Addr} {od18 an18 : Option Addr} {sl18 : Array (Option Value)} {oc18 kV18 dc18 pm18 cd18 ct18 : Value}
    (a18 : PySem.W.nsIn K mainGlobals "_law_years" = some (some (.ref f18))) (l18 : K.lookup f18 = some ⟨oc18, od18, .func (PySem.W.fnOf "_law_years" "_law_years" (defArgs s_l_years) (defBody s_l_years) (defScope s_l_years) .none kV18 dc18 pm18 an18 cd18 ct18), sl18⟩)
    (c18 : PySem.W.codeIn K cd18 "_law_years" = true) (k18 : PySem.W.keepIn K (.ref f18) = true)
    {f19 : Addr} {od19 an19 : Option Addr} {sl19 : Array (Option Value)} {oc19 kV19 dc19 pm19 cd19 ct19 : Value}
    (a19 : PySem.W.nsIn K mainGlobals "_law_other" = some (some (.ref f19))) (l19 : K.lookup f19 = some ⟨oc19, od19, .func (PySem.W.fnOf "_law_other" "_law_other" (defArgs s_l_other) (defBody s_l_other) (defScope s_l_other) .none kV19 dc19 pm19 an19 cd19 ct19), sl19⟩)
    (c19 : PySem.W.codeIn K cd19 "_law_other" = true) (k19 : PySem.W.keepIn K (.ref f19) = true)
    {f20 : Addr} {od20 an20 : Option Addr} {sl20 : Array (Option Value)} {oc20 kV20 dc20 pm20 cd20 ct20 : Value}
    (a20 : PySem.W.nsIn K mainGlobals "_law_kept_record" = some (some (.ref f20))) (l20 : K.lookup f20 = some ⟨oc20, od20, .func (PySem.W.fnOf "_law_kept_record" "_law_kept_record" (defArgs s_l_kept_record) (defBody s_l_kept_record) (defScope s_l_kept_record) .none kV20 dc20 pm20 an20 cd20 ct20), sl20⟩)
    (c20 : PySem.W.codeIn K cd20 "_law_kept_record" = true) (k20 : PySem.W.keepIn K (.ref f20) = true)
    {f21 : Addr} {od21 an21 : Option Addr} {sl21 : Array (Option Value)} {oc21 kV21 dc21 pm21 cd21 ct21 : Value}
    (a21 : PySem.W.nsIn K mainGlobals "_law_kept_records" = some (some (.ref f21))) (l21 : K.lookup f21 = some ⟨oc21, od21, .func (PySem.W.fnOf "_law_kept_records" "_law_kept_records" (defArgs s_l_kept_records) (defBody s_l_kept_records) (defScope s_l_kept_records) .none kV21 dc21 pm21 an21 cd21 ct21), sl21⟩)
    (c21 : PySem.W.codeIn K cd21 "_law_kept_records" = true) (k21 : PySem.W.keepIn K (.ref f21) = true)
    {f22 : Addr} {od22 an22 : Option Addr} {sl22 : Array (Option Value)} {oc22 kV22 dc22 pm22 cd22 ct22 : Value}
    (a22 : PySem.W.nsIn K mainGlobals "_law_is_dating" = some (some (.ref f22))) (l22 : K.lookup f22 = some ⟨oc22, od22, .func (PySem.W.fnOf "_law_is_dating" "_law_is_dating" (defArgs s_l_is_dating) (defBody s_l_is_dating) (defScope s_l_is_dating) .none kV22 dc22 pm22 an22 cd22 ct22), sl22⟩)
    (c22 : PySem.W.codeIn K cd22 "_law_is_dating" = true) (k22 : PySem.W.keepIn K (.ref f22) = true)
    {f23 : Addr} {od23 an23 : Option Addr} {sl23 : Array (Option Value)} {oc23 kV23 dc23 pm23 cd23 ct23 : Value}
    (a23 : PySem.W.nsIn K mainGlobals "law" = some (some (.ref f23))) (l23 : K.lookup f23 = some ⟨oc23, od23, .func (PySem.W.fnOf "law" "law" (defArgs s_law) (defBody s_law) (defScope s_law) .none kV23 dc23 pm23 an23 cd23 ct23), sl23⟩)
    (c23 : PySem.W.codeIn K cd23 "law" = true) (k23 : PySem.W.keepIn K (.ref f23) = true)
    (z_range : PySem.W.nsIn K mainGlobals "range" = some none)
    (z_any : PySem.W.nsIn K mainGlobals "any" = some none)
    (z_len : PySem.W.nsIn K mainGlobals "len" = some none)
    (z_max : PySem.W.nsIn K mainGlobals "max" = some none)
    (z_list : PySem.W.nsIn K mainGlobals "list" = some none)
    (z_min : PySem.W.nsIn K mainGlobals "min" = some none)
    (z_int : PySem.W.nsIn K mainGlobals "int" = some none)
    (z_abs : PySem.W.nsIn K mainGlobals "abs" = some none)
    (z_all : PySem.W.nsIn K mainGlobals "all" = some none)
    (z_bool : PySem.W.nsIn K mainGlobals "bool" = some none)
    (z_isinstance : PySem.W.nsIn K mainGlobals "isinstance" = some none)
    (z_sorted : PySem.W.nsIn K mainGlobals "sorted" = some none)
    {C_Unsure : Addr} (z_Unsure : PySem.W.nsIn K mainGlobals "Unsure" = some (some (.ref C_Unsure))) (x_Unsure : PySem.W.excIn K C_Unsure veTail "ValueError.__new__" = true) (k_Unsure : PySem.W.keepIn K (.ref C_Unsure) = true) (l_Unsure : PySem.W.subIn K (.ref C_Unsure) (.type "BaseException") = some true) (c_Unsure : PySem.W.typeIn K (.ref C_Unsure) = some (.type "type")) (v_Unsure : PySem.W.isClsIn K C_Unsure = true) :
    ∃ fd : FuncData, (∀ (s : Shared) (v : Value), BindsTo s fd ⟨[v], []⟩ [("script", v)]) ∧ ∀ base : Heap, K.In base → base.Ns mainGlobals mg → FnOk l.prog w K mg base (L2.CX l.prog w) 6 fa fd ["script"] (spF K noCls 1 F_yes) := by
  have e := hfa.symm.trans (PySem.W.mg_of X G a23)
  cases e
  have m_range := PySem.W.mg_none_of X G z_range
  have m_any := PySem.W.mg_none_of X G z_any
  have m_len := PySem.W.mg_none_of X G z_len
  have m_max := PySem.W.mg_none_of X G z_max
  have m_list := PySem.W.mg_none_of X G z_list
  have m_min := PySem.W.mg_none_of X G z_min
  have m_int := PySem.W.mg_none_of X G z_int
  have m_abs := PySem.W.mg_none_of X G z_abs
  have m_all := PySem.W.mg_none_of X G z_all
  have m_bool := PySem.W.mg_none_of X G z_bool
  have m_isinstance := PySem.W.mg_none_of X G z_isinstance
  have m_sorted := PySem.W.mg_none_of X G z_sorted
  have T_least_steps : Txt K mg "least_steps" s_least_steps P_least_steps := txt_mk (PySem.W.mg_of X G a0) l0 c0 k0 fun _ _ _ _ _ _ us hl => match us, hl with | [_, _], _ => rfl
  have T_greatest_ways : Txt K mg "greatest_ways" s_greatest_ways P_greatest_ways := txt_mk (PySem.W.mg_of X G a1) l1 c1 k1 fun _ _ _ _ _ _ us hl => match us, hl with | [_, _], _ => rfl
  have T_ways : Txt K mg "ways" s_ways P_ways := txt_mk (PySem.W.mg_of X G a2) l2 c2 k2 fun _ _ _ _ _ _ us hl => match us, hl with | [_, _], _ => rfl
  have T_is_round : Txt K mg "is_round" s_is_round P_is_round := txt_mk (PySem.W.mg_of X G a3) l3 c3 k3 fun _ _ _ _ _ _ us hl => match us, hl with | [_], _ => rfl
  have T_do_hold : Txt K mg "do_hold" s_do_hold P_do_hold := txt_mk (PySem.W.mg_of X G a4) l4 c4 k4 fun _ _ _ _ _ _ us hl => match us, hl with | [_, _], _ => rfl
  have T_sure_ways : Txt K mg "sure_ways" s_sure_ways P_sure_ways := txt_mk (PySem.W.mg_of X G a5) l5 c5 k5 fun _ _ _ _ _ _ us hl => match us, hl with | [_, _], _ => rfl
  have T_dating_of : Txt K mg "dating_of" s_dating_of P_dating_of := txt_mk (PySem.W.mg_of X G a6) l6 c6 k6 fun _ _ _ _ _ _ us hl => match us, hl with | [_, _], _ => rfl
  have T_dating : Txt K mg "dating" s_dating P_dating := txt_mk (PySem.W.mg_of X G a7) l7 c7 k7 fun _ _ _ _ _ _ us hl => match us, hl with | [_, _], _ => rfl
  have T_group_of : Txt K mg "group_of" s_group_of P_group_of := txt_mk (PySem.W.mg_of X G a8) l8 c8 k8 fun _ _ _ _ _ _ us hl => match us, hl with | [_, _], _ => rfl
  have T_goes_with : Txt K mg "goes_with" s_goes_with P_goes_with := txt_mk (PySem.W.mg_of X G a9) l9 c9 k9 fun _ _ _ _ _ _ us hl => match us, hl with | [_, _, _], _ => rfl
  have T_l_stream : Txt K mg "_law_stream" s_l_stream P_l_stream := txt_mk (PySem.W.mg_of X G a10) l10 c10 k10 fun _ _ _ _ _ _ us hl => match us, hl with | [_], _ => rfl
  have T_l_draw : Txt K mg "_law_draw" s_l_draw P_l_draw := txt_mk (PySem.W.mg_of X G a11) l11 c11 k11 fun _ _ _ _ _ _ us hl => match us, hl with | [_, _], _ => rfl
  have T_l_pick : Txt K mg "_law_pick" s_l_pick P_l_pick := txt_mk (PySem.W.mg_of X G a12) l12 c12 k12 fun _ _ _ _ _ _ us hl => match us, hl with | [_, _], _ => rfl
  have T_l_keeps : Txt K mg "_law_keeps" s_l_keeps P_l_keeps := txt_mk (PySem.W.mg_of X G a13) l13 c13 k13 fun _ _ _ _ _ _ us hl => match us, hl with | [_, _], _ => rfl
  have T_l_steps : Txt K mg "_law_steps" s_l_steps P_l_steps := txt_mk (PySem.W.mg_of X G a14) l14 c14 k14 fun _ _ _ _ _ _ us hl => match us, hl with | [_, _], _ => rfl
  have T_l_far : Txt K mg "_law_far" s_l_far P_l_far := txt_mk (PySem.W.mg_of X G a15) l15 c15 k15 fun _ _ _ _ _ _ us hl => match us, hl with | [_, _, _], _ => rfl
  have T_l_holds : Txt K mg "_law_holds" s_l_holds P_l_holds := txt_mk (PySem.W.mg_of X G a16) l16 c16 k16 fun _ _ _ _ _ _ us hl => match us, hl with | [_, _], _ => rfl
  have T_l_groups : Txt K mg "_law_groups" s_l_groups P_l_groups := txt_mk (PySem.W.mg_of X G a17) l17 c17 k17 fun _ _ _ _ _ _ us hl => match us, hl with | [_, _], _ => rfl
  have T_l_years : Txt K mg "_law_years" s_l_years P_l_years := txt_mk (PySem.W.mg_of X G a18) l18 c18 k18 fun _ _ _ _ _ _ us hl => match us, hl with | [_, _], _ => rfl
  have T_l_other : Txt K mg "_law_other" s_l_other P_l_other := txt_mk (PySem.W.mg_of X G a19) l19 c19 k19 fun _ _ _ _ _ _ us hl => match us, hl with | [_, _, _], _ => rfl
  have T_l_kept_record : Txt K mg "_law_kept_record" s_l_kept_record P_l_kept_record := txt_mk (PySem.W.mg_of X G a20) l20 c20 k20 fun _ _ _ _ _ _ us hl => match us, hl with | [_, _, _], _ => rfl
  have T_l_kept_records : Txt K mg "_law_kept_records" s_l_kept_records P_l_kept_records := txt_mk (PySem.W.mg_of X G a21) l21 c21 k21 fun _ _ _ _ _ _ us hl => match us, hl with | [_, _, _, _], _ => rfl
  have T_l_is_dating : Txt K mg "_law_is_dating" s_l_is_dating P_l_is_dating := txt_mk (PySem.W.mg_of X G a22) l22 c22 k22 fun _ _ _ _ _ _ us hl => match us, hl with | [_, _], _ => rfl
  have FL := fun_mk (st := s_law) l23 c23 k23
  obtain ⟨CL, hC_Unsure, _⟩ : ∃ CL : Cls0, CL "Unsure" = .ref C_Unsure ∧ True := ⟨fun x => if x = "Unsure" then .ref C_Unsure else .none, by simp, trivial⟩
  have X_Unsure : Xcl K mg CL "Unsure" := ⟨C_Unsure, hC_Unsure, PySem.W.mg_of X G z_Unsure, x_Unsure, k_Unsure, l_Unsure, c_Unsure⟩
  refine ⟨PySem.W.fnOf "law" "law" (defArgs s_law) (defBody s_law) (defScope s_law) .none kV23 dc23 pm23 an23 cd23 ct23, fun s v => .of_eq rfl, fun base _ _ => ?_⟩
  have C_least_steps := ok_least_steps (P := l.prog) (w := w) (base := base) (CL := CL) T_least_steps 
  have C_greatest_ways := ok_greatest_ways (P := l.prog) (w := w) (base := base) (CL := CL) T_greatest_ways m_range
  have C_ways := ok_ways (P := l.prog) (w := w) (base := base) (CL := CL) T_ways C_least_steps C_greatest_ways
  have C_is_round := ok_is_round (P := l.prog) (w := w) (base := base) (CL := CL) T_is_round m_any m_len m_range
  have C_do_hold := ok_do_hold (P := l.prog) (w := w) (base := base) (CL := CL) T_do_hold C_ways C_is_round
  have C_sure_ways := ok_sure_ways (P := l.prog) (w := w) (base := base) (CL := CL) T_sure_ways C_ways C_is_round X_Unsure
  have C_dating_of := ok_dating_of (P := l.prog) (w := w) (base := base) (CL := CL) T_dating_of m_max m_range
  have C_dating := ok_dating (P := l.prog) (w := w) (base := base) (CL := CL) T_dating C_sure_ways C_dating_of
  have C_group_of := ok_group_of (P := l.prog) (w := w) (base := base) (CL := CL) T_group_of m_list m_min m_range
  have C_goes_with := ok_goes_with (P := l.prog) (w := w) (base := base) (CL := CL) T_goes_with C_do_hold C_dating C_group_of m_len m_list m_range
  have C_l_stream := ok_l_stream (P := l.prog) (w := w) (base := base) (CL := CL) T_l_stream m_int m_list
  have C_l_draw := ok_l_draw (P := l.prog) (w := w) (base := base) (CL := CL) T_l_draw m_abs m_int m_len
  have C_l_pick := ok_l_pick (P := l.prog) (w := w) (base := base) (CL := CL) T_l_pick C_l_draw m_len
  have C_l_keeps := ok_l_keeps (P := l.prog) (w := w) (base := base) (CL := CL) T_l_keeps 
  have C_l_steps := ok_l_steps (P := l.prog) (w := w) (base := base) (CL := CL) T_l_steps 
  have C_l_far := ok_l_far (P := l.prog) (w := w) (base := base) (CL := CL) T_l_far m_int m_range
  have C_l_holds := ok_l_holds (P := l.prog) (w := w) (base := base) (CL := CL) T_l_holds C_l_steps C_l_far m_list m_range
  have C_l_groups := ok_l_groups (P := l.prog) (w := w) (base := base) (CL := CL) T_l_groups m_list m_min m_range
  have C_l_years := ok_l_years (P := l.prog) (w := w) (base := base) (CL := CL) T_l_years C_l_draw C_l_pick m_range
  have C_l_other := ok_l_other (P := l.prog) (w := w) (base := base) (CL := CL) T_l_other C_l_draw m_int
  have C_l_kept_record := ok_l_kept_record (P := l.prog) (w := w) (base := base) (CL := CL) T_l_kept_record C_l_draw C_l_pick C_l_other m_len m_max m_min
  have C_l_kept_records := ok_l_kept_records (P := l.prog) (w := w) (base := base) (CL := CL) T_l_kept_records C_l_pick C_l_kept_record m_range
  have C_l_is_dating := ok_l_is_dating (P := l.prog) (w := w) (base := base) (CL := CL) T_l_is_dating m_all m_bool m_int m_isinstance m_len m_list
  exact (fn_D (CL := CL) FL sc_law (b := b_law) (fun cdv A outer s H E O =>
  (rss_cons (rs_set (i := 1) O rfl (by first | exact .inl rfl | exact .inr rfl) (re_fn O C_l_stream (by decide) (ra_cons (re_var 0) ra_nil)))
  (rss_cons (rs_set (i := 2) O rfl (by first | exact .inl rfl | exact .inr rfl) (re_add false re_int (re_fn O C_l_draw (by decide) (ra_cons (re_var 1) (ra_cons re_int ra_nil)))))
  (rss_cons (rs_set (i := 3) O rfl (by first | exact .inl rfl | exact .inr rfl) (re_fn O C_l_years (by decide) (ra_cons (re_var 1) (ra_cons (re_var 2) ra_nil))))
  (rss_cons (rs_set (i := 4) O rfl (by first | exact .inl rfl | exact .inr rfl) (re_fn O C_l_kept_records (by decide) (ra_cons (re_var 1) (ra_cons (re_var 3) (ra_cons (re_lst false (ra_cons re_str (ra_cons re_str (ra_cons re_str (ra_cons re_str (ra_cons re_str (ra_cons re_str (ra_cons re_str ra_nil)))))))) (ra_cons (re_fn O C_l_pick (by decide) (ra_cons (re_var 1) (ra_cons (re_lst false (ra_cons re_int (ra_cons re_int (ra_cons re_int ra_nil)))) ra_nil))) ra_nil))))))
  (rss_cons (rs_set (i := 5) O rfl (by first | exact .inl rfl | exact .inr rfl) (re_fn O C_l_groups (by decide) (ra_cons (re_var 2) (ra_cons (re_var 4) ra_nil))))
  (rss_cons (rs_set (i := 6) O rfl (by first | exact .inl rfl | exact .inr rfl) (re_lc (own := [("year", 7), ("one", 8)]) O false (ri_seq (re_sortP O false m_sorted (ra_cons (re_lc (own := [("one", 8)]) O false (ri_rg1 m_range (ra_cons (re_var 2) ra_nil)) (blkOk_by (N := N_law) (sc := defScope s_law) (by decide +kernel)) (fun _ _ _ _ _ O' => (rg_name (i := 8) O' rfl (by first | exact .inl rfl | exact .inr rfl))) (fun _ _ _ _ _ O' => (rts_one (rt_eq O'.hu (re_sub2 O'.hu (re_var 5) (re_var 8)) (re_var 8)))) (fun _ _ _ _ _ O' => (re_tup (ra_cons (re_sub2 O'.hu (re_var 3) (re_var 8)) (ra_cons (re_var 8) ra_nil))))) ra_nil))) (blkOk_by (N := N_law) (sc := defScope s_law) (by decide +kernel)) (fun _ _ _ _ _ O' => (rg_tupK (K' := K) (n := 2) rfl O' (rgs_cons (i := 7) O' rfl (by first | exact .inl rfl | exact .inr rfl) (rgs_cons (i := 8) O' rfl (by first | exact .inl rfl | exact .inr rfl) rgs_nil)))) (fun _ _ _ _ _ O' => rts_nil) (fun _ _ _ _ _ O' => (re_var 8))))
  (rss_cons (rs_for O (ri_rg1 m_range (ra_cons (re_fn O C_l_pick (by decide) (ra_cons (re_var 1) (ra_cons (re_lst false (ra_cons re_int (ra_cons re_int (ra_cons re_int (ra_cons re_int ra_nil))))) ra_nil))) ra_nil)) (rg_name (i := 9) O rfl (by first | exact .inl rfl | exact .inr rfl))
   (rss_cons (rs_set (i := 10) O rfl (by first | exact .inl rfl | exact .inr rfl) (re_fn O C_l_draw (by decide) (ra_cons (re_var 1) (ra_cons (re_len m_len (ra_cons (re_var 6) ra_nil)) ra_nil))))
  (rss_cons (rs_set (i := 11) O rfl (by first | exact .inl rfl | exact .inr rfl) (re_min2 O m_min (ra_cons (re_sub (re_len m_len (ra_cons (re_var 6) ra_nil)) re_int) (ra_cons (re_add false (re_add false (re_var 10) re_int) (re_fn O C_l_draw (by decide) (ra_cons (re_var 1) (ra_cons re_int ra_nil)))) ra_nil))))
  (rss_one (rs_set (i := 6) O rfl (by first | exact .inl rfl | exact .inr rfl) (re_add false (re_add false (re_add false (re_sl false (re_var 6) ro_no (ro_some (re_var 10))) (re_sl false (re_var 6) (ro_some (re_add false (re_var 10) re_int)) (ro_some (re_add false (re_var 11) re_int)))) (re_lst false (ra_cons (re_sub2 O.hu (re_var 6) (re_var 10)) ra_nil))) (re_sl false (re_var 6) (ro_some (re_add false (re_var 11) re_int)) ro_no)))))))
  (rss_cons (rs_setLc (i := 12) (own := [("unit", 13)]) O rfl rfl (sw_true rfl rfl rfl (by decide +kernel)) false (ri_rg1 m_range (ra_cons (re_var 2) ra_nil)) (blkOk_by (N := N_law) (sc := defScope s_law) (by decide +kernel)) (fun _ _ _ _ _ O' => (rg_name (i := 13) O' rfl (by first | exact .inl rfl | exact .inr rfl))) (fun _ _ _ _ _ O' => (rts_one (rt_ne O'.hu (re_sub2 O'.hu (re_var 5) (re_var 13)) (re_var 13)))) (fun _ _ _ _ _ O' => (re_tup (ra_cons re_str (ra_cons (re_sub2 O'.hu (re_var 5) (re_var 13)) (ra_cons (re_var 13) ra_nil))))))
  (rss_cons (rs_set (i := 12) O rfl (by first | exact .inl rfl | exact .inr rfl) (re_add false (re_var 12) (re_lc (own := [("k", 9)]) O false (ri_rg1 m_range (ra_cons (re_sub (re_len m_len (ra_cons (re_var 6) ra_nil)) re_int) ra_nil)) (blkOk_by (N := N_law) (sc := defScope s_law) (by decide +kernel)) (fun _ _ _ _ _ O' => (rg_name (i := 9) O' rfl (by first | exact .inl rfl | exact .inr rfl))) (fun _ _ _ _ _ O' => rts_nil) (fun _ _ _ _ _ O' => (re_tup (ra_cons re_str (ra_cons (re_sub2 O'.hu (re_var 6) (re_var 9)) (ra_cons (re_sub2 O'.hu (re_var 6) (re_add false (re_var 9) re_int)) (ra_cons re_int ra_nil)))))))))
  (rss_cons (rs_set (i := 14) O rfl (by first | exact .inl rfl | exact .inr rfl) (re_fn O C_goes_with (by decide) (ra_cons (re_var 2) (ra_cons (re_list O false m_list (ra_cons (re_var 4) ra_nil)) (ra_cons (re_list O false m_list (ra_cons (re_var 6) ra_nil)) ra_nil)))))
  (rss_cons (rs_if (rt_not (rt_tr (re_fn O C_l_holds (by decide) (ra_cons (re_var 2) (ra_cons (re_add false (re_var 4) (re_var 12)) ra_nil))))) (rss_one (rs_ret (re_is (re_var 14) re_non))) rss_nil)
  (rss_one (rs_ret (re_and (re_fn O C_l_is_dating (by decide) (ra_cons (re_var 2) (ra_cons (re_var 14) ra_nil))) (re_one (re_all O m_all (ra_cons (re_lc (own := [("record", 15)]) O false (ri_seq (re_add false (re_var 4) (re_var 12))) (blkOk_by (N := N_law) (sc := defScope s_law) (by decide +kernel)) (fun _ _ _ _ _ O' => (rg_name (i := 15) O' rfl (by first | exact .inl rfl | exact .inr rfl))) (fun _ _ _ _ _ O' => rts_nil) (fun _ _ _ _ _ O' => (re_fn O' C_l_keeps (by decide) (ra_cons (re_var 15) (ra_cons (re_var 14) ra_nil))))) ra_nil)))))))))))))))))) fin_law).imp yes_imp
end
end Dn
open PySem PySem.W PyProof.Rows
set_option maxHeartbeats 0 in
theorem PySem.Challenge.cw_digteller_k49_whole_great_datings_with_o_holds : PySem.Challenge.rw_digteller_k49_whole_great_datings_with_o.Holds := by
  w_on; o_law; k_head; (case hw => w_witness2)
  k_fill
  refine L2.walk_of (l := PySem.Challenge.rw_digteller_k49_whole_great_datings_with_o) (n := 63) (k := 6) (x := "script") (CX := fun w => L2.CX PySem.Challenge.rw_digteller_k49_whole_great_datings_with_o.prog w) (sp := fun w => Dn.spF _ Dn.noCls 1 Dn.F_yes) rfl (by decide) rfl ⟨rfl, by decide, by decide⟩ (fun w h Y => PySem.W.kIn_of Y) ?F (fun _ _ a ns hl _ hS => Dn.law_sp hS Dn.F_yes_eq) (fun _ _ _ _ _ h => (Dn.law_cx h).elim)
  case F =>
    intro w mg fa h KX G hmg
    refine' Dn.all_mk KX G hmg ?a0 ?l0 ?c0 ?k0 ?a1 ?l1 ?c1 ?k1 ?a2 ?l2 ?c2 ?k2 ?a3 ?l3 ?c3 ?k3 ?a4 ?l4 ?c4 ?k4 ?a5 ?l5 ?c5 ?k5 ?a6 ?l6 ?c6 ?k6 ?a7 ?l7 ?c7 ?k7 ?a8 ?l8 ?c8 ?k8 ?a9 ?l9 ?c9 ?k9 ?a10 ?l10 ?c10 ?k10 ?a11 ?l11 ?c11 ?k11 ?a12 ?l12 ?c12 ?k12 ?a13 ?l13 ?c13 ?k13 ?a14 ?l14 ?c14 ?k14 ?a15 ?l15 ?c15 ?k15 ?a16 ?l16 ?c16 ?k16 ?a17 ?l17 ?c17 ?k17 ?a18 ?l18 ?c18 ?k18 ?a19 ?l19 ?c19 ?k19 ?a20 ?l20 ?c20 ?k20 ?a21 ?l21 ?c21 ?k21 ?a22 ?l22 ?c22 ?k22 ?a23 ?l23 ?c23 ?k23 ?z_range ?z_any ?z_len ?z_max ?z_list ?z_min ?z_int ?z_abs ?z_all ?z_bool ?z_isinstance ?z_sorted ?z_Unsure ?x_Unsure ?k_Unsure ?l_Unsure ?c_Unsure ?v_Unsure
    (case a0 => k_is); (case l0 => k_is); (case c0 => k_is); (case k0 => k_is); (case a1 => k_is); (case l1 => k_is); (case c1 => k_is); (case k1 => k_is); (case a2 => k_is); (case l2 => k_is); (case c2 => k_is); (case k2 => k_is); (case a3 => k_is); (case l3 => k_is); (case c3 => k_is); (case k3 => k_is); (case a4 => k_is); (case l4 => k_is); (case c4 => k_is); (case k4 => k_is); (case a5 => k_is); (case l5 => k_is); (case c5 => k_is); (case k5 => k_is); (case a6 => k_is); (case l6 => k_is); (case c6 => k_is); (case k6 => k_is); (case a7 => k_is); (case l7 => k_is); (case c7 => k_is); (case k7 => k_is); (case a8 => k_is); (case l8 => k_is); (case c8 => k_is); (case k8 => k_is); (case a9 => k_is); (case l9 => k_is); (case c9 => k_is); (case k9 => k_is); (case a10 => k_is); (case l10 => k_is); (case c10 => k_is); (case k10 => k_is); (case a11 => k_is); (case l11 => k_is); (case c11 => k_is); (case k11 => k_is); (case a12 => k_is); (case l12 => k_is); (case c12 => k_is); (case k12 => k_is); (case a13 => k_is); (case l13 => k_is); (case c13 => k_is); (case k13 => k_is); (case a14 => k_is); (case l14 => k_is); (case c14 => k_is); (case k14 => k_is); (case a15 => k_is); (case l15 => k_is); (case c15 => k_is); (case k15 => k_is); (case a16 => k_is); (case l16 => k_is); (case c16 => k_is); (case k16 => k_is); (case a17 => k_is); (case l17 => k_is); (case c17 => k_is); (case k17 => k_is); (case a18 => k_is); (case l18 => k_is); (case c18 => k_is); (case k18 => k_is); (case a19 => k_is); (case l19 => k_is); (case c19 => k_is); (case k19 => k_is); (case a20 => k_is); (case l20 => k_is); (case c20 => k_is); (case k20 => k_is); (case a21 => k_is); (case l21 => k_is); (case c21 => k_is); (case k21 => k_is); (case a22 => k_is); (case l22 => k_is); (case c22 => k_is); (case k22 => k_is); (case a23 => k_is); (case l23 => k_is); (case c23 => k_is); (case k23 => k_is); (case z_range => k_is); (case z_any => k_is); (case z_len => k_is); (case z_max => k_is); (case z_list => k_is); (case z_min => k_is); (case z_int => k_is); (case z_abs => k_is); (case z_all => k_is); (case z_bool => k_is); (case z_isinstance => k_is); (case z_sorted => k_is); (case z_Unsure => k_is); (case k_Unsure => k_is); (case l_Unsure => k_is); (case c_Unsure => k_is); (case v_Unsure => k_is); (case x_Unsure => k_exc)

