import PyProof.Rows.All
import Wide.All
import OpenK.AllK
import Wide.FinOn
import PySem.Challenge.RW_digteller_k03_keeping
import HandS.ForMost
import HandS.ForExc
import KE.KDictCopyH
import HandS.Flow
import HandS.Style
import HandS.TupAny
import HandS.Wide
import HandS.Deep
import HandS.Conv
import HandS.IsInst
import HandS.Dict
import HandS.Text
set_option Elab.async false
set_option linter.all false
set_option maxRecDepth 100000
set_option maxHeartbeats 1000000
/-! Dn, part Ba: dicts whose keys are tuples of bools. -/
namespace Dn
open PySem PySem.Spec PyProof.Rows L2
open PySem (Leaf leafKind)
def bLf (b : Bool) : Leaf := .num (if b = true then 1 else 0)
def bKey (k : List Bool) : List Leaf := k.map bLf
abbrev XB := List (List Bool × Addr × Value)
def keyX (x : List Bool × Addr × Value) : List Leaf × Addr × Value := (bKey x.1, x.2)
/-- the object at a is a dict with these keys, at these addresses, and these values -/
def DBh (a : Addr) (xs : XB) (h : Heap) : Prop := xs.length ≤ sizeLine ∧ (a == sysModules) = false ∧ ∃ o es ep, h.get? a = some o ∧ o.ExactDict ∧ o.data = .dict es ep ∧ (∀ (P : Program) (w : World), es.toList = xs.map fun x => entryOfKey (tupleKind (leafKind P w)) (keyX x)) ∧ (xs.map (·.1)).Nodup
def DBo (a : Addr) (xs : XB) : HO := .ext (DBh a xs)
abbrev KB (H : Hp) : List (List Bool × V) → XB → Prop := Paired fun p q => p.1 = q.1 ∧ H q.2.1 = some (.tup (p.1.map .bl)) ∧ RelV p.2 q.2.2
theorem KB.keeps {H H' : Hp} {kvs : List (List Bool × V)} {xs : XB} (r : KB H kvs xs) (ht : ∀ b ys, H b = some (.tup ys) → H' b = some (.tup ys)) : KB H' kvs xs :=
  Paired.mapP r fun _ _ z => ⟨z.1, ht _ _ z.2.1, z.2.2⟩
theorem DBh.obj {a : Addr} {xs : XB} {h h' : Heap} (x : DBh a xs h) (k : ∀ o, h.get? a = some o → h'.get? a = some o) : DBh a xs h' := by
  obtain ⟨z, y, o, es, ep, e, r⟩ := x
  exact ⟨z, y, o, es, ep, k o e, r⟩
section
variable {P : Program} {w : World} {H : Hp} {h : Heap} {a : Addr}
end
theorem atKey_cons {k : List Bool} (q : List Bool × Addr × Value) (qs : XB) : atKey (q :: qs) k = if q.1 = k then some q.2 else atKey qs k := by
  by_cases z : q.1 = k <;> simp [atKey, z]
theorem KB.val {H : Hp} {kvs : List (List Bool × V)} {xs : XB} (r : KB H kvs xs) (k : List Bool) : RelO (valV kvs k) ((atKey xs k).map (·.2)) := by
  induction r with
  | nil => trivial
  | @cons p q _ _ h _ ih =>
    rw [atKey_cons]
    by_cases z : q.1 = k
    · rw [if_pos z, valV_pos (h.1.trans z)]
      exact h.2.2
    · rw [if_neg z, valV_neg (fun e => z (h.1.symm.trans e))]
      exact ih
theorem KB.repl {H : Hp} {kvs : List (List Bool × V)} {xs : XB} (r : KB H kvs xs) (k : List Bool) {y : V} {u : Value} (ry : RelV y u) : KB H (kvs.map fun kv => if kv.1 = k then (kv.1, y) else kv) (xs.map (putAt k u)) := by
  induction r with
  | nil => constructor
  | @cons p q _ _ h _ ih =>
    have eq : p.1 = k ↔ q.1 = k := by rw [h.1]
    refine Paired.cons ?_ ih
    unfold putAt
    dsimp only
    by_cases z : q.1 = k
    · rw [if_pos (eq.mpr z), if_pos z]
      exact ⟨h.1, h.2.1, ry⟩
    · rw [if_neg (mt eq.mp z), if_neg z]
      exact h
theorem KB.put {H : Hp} {kvs : List (List Bool × V)} {xs : XB} (r : KB H kvs xs) (k : List Bool) {b : Addr} {y : V} {u : Value} (hb : H b = some (.tup (k.map .bl))) (ry : RelV y u) : KB H (putK kvs k y) (storedH xs k b u) := by
  have known := (r.val k).isSome_eq
  rw [Option.isSome_map, ← valV_any] at known
  unfold putK storedH
  rw [known]
  split
  · exact r.repl k ry
  · exact Paired.snoc r ⟨rfl, hb, ry⟩
theorem KB.len {H : Hp} {kvs : List (List Bool × V)} {xs : XB} (r : KB H kvs xs) : kvs.length = xs.length := Paired.length r
section
variable {X : Cx} {pins : List (Addr × Obj)} {σ : L2.St} {H : Hp} {s : Shared} {a b : Addr} {v : V} {r' : Value} {A : Around} {E : Value → Shared → Prop} {kvs : List (List Bool × V)} {xs : XB} {k : List Bool}
end
end Dn

set_option Elab.async false
set_option linter.all false
set_option maxRecDepth 100000
/-! Dn, part A: values as trees, a store of mutable objects, the relation to the abstract heap, the readings. -/
namespace Dn
open PySem PySem.Spec PyProof.Rows L2

/-! ### values and objects -/
inductive Va where
  | non | bl (b : Bool) | int (i : Int) | str (x : Str)
  | tup (xs : List Va) | lst (xs : List Va) | ext (xs : List Va) | dicK (kvs : List (Key × Va)) | dicT (kvs : List (List Key × Va)) | ref (i : Nat)
inductive Ob where
  | lst (xs : List Va) | dicK (kvs : List (Key × Va)) | dicT (kvs : List (List Key × Va)) | ins (C : Addr) (fs : List (Str × Va)) | dead | fdK (od : Obj) (ks : List (Key × V)) (kvs : List (Key × Va)) | fdT (od : Obj) (ks : List (List Key × V)) (kvs : List (List Key × Va)) | dicB (kvs : List (List Bool × Va)) | fdB (od : Obj) (xs : XB) (kvs : List (List Bool × Va))
abbrev Sto := List Ob
abbrev En := List (Option Va)

mutual
inductive Rl (K : PySem.W.Frag) (F : Hp) (as : List Addr) : Va → V → Prop
  | non : Rl K F as .non .non
  | bl (b : Bool) : Rl K F as (.bl b) (.bl b)
  | int (i : Int) : Rl K F as (.int i) (.int i)
  | str (x : Str) : Rl K F as (.str x) (.str x)
  | tup {a : Addr} {xs : List Va} {vs : List V} : F a = some (.tup vs) → Rls K F as xs vs → Rl K F as (.tup xs) (.ref a)
  | lst {a : Addr} {xs : List Va} {vs : List V} : F a = some (.lst vs) → Rls K F as xs vs → Rl K F as (.lst xs) (.ref a)
  | ext {a : Addr} {xs : List Va} {vs : List V} : (SqL K F a vs ∨ SqT K F a vs) → Rls K F as xs vs → Rl K F as (.ext xs) (.ref a)
  | dicK {a : Addr} {kvs : List (Key × Va)} {ks : List (Key × V)} : F a = some (.dK ks) → RlK K F as kvs ks → Rl K F as (.dicK kvs) (.ref a)
  | dicT {a : Addr} {kvs : List (List Key × Va)} {ks : List (List Key × V)} : F a = some (.dT ks) → RlT K F as kvs ks → Rl K F as (.dicT kvs) (.ref a)
  | ref {i : Nat} {a : Addr} : as[i]? = some a → Rl K F as (.ref i) (.ref a)
inductive Rls (K : PySem.W.Frag) (F : Hp) (as : List Addr) : List Va → List V → Prop
  | nil : Rls K F as [] []
  | cons {x : Va} {v : V} {xs : List Va} {vs : List V} : Rl K F as x v → Rls K F as xs vs → Rls K F as (x :: xs) (v :: vs)
inductive RlK (K : PySem.W.Frag) (F : Hp) (as : List Addr) : List (Key × Va) → List (Key × V) → Prop
  | nil : RlK K F as [] []
  | cons {k : Key} {x : Va} {v : V} {xs : List (Key × Va)} {vs : List (Key × V)} : Rl K F as x v → RlK K F as xs vs → RlK K F as ((k, x) :: xs) ((k, v) :: vs)
inductive RlT (K : PySem.W.Frag) (F : Hp) (as : List Addr) : List (List Key × Va) → List (List Key × V) → Prop
  | nil : RlT K F as [] []
  | cons {k : List Key} {x : Va} {v : V} {xs : List (List Key × Va)} {vs : List (List Key × V)} : Rl K F as x v → RlT K F as xs vs → RlT K F as ((k, x) :: xs) ((k, v) :: vs)
end

/-- the frozen part and the list of addresses grow -/
structure Le (F : Hp) (as : List Addr) (F' : Hp) (as' : List Addr) : Prop where
  f : ∀ a o, F a = some o → F' a = some o
  a : ∀ (i : Nat) (p : Addr), as[i]? = some p → as'[i]? = some p
theorem Le.refl {F : Hp} {as : List Addr} : Le F as F as := ⟨fun _ _ h => h, fun _ _ h => h⟩
theorem Le.trans {F F1 F2 : Hp} {as as1 as2 : List Addr} (x : Le F as F1 as1) (y : Le F1 as1 F2 as2) : Le F as F2 as2 := ⟨fun a o h => y.f a o (x.f a o h), fun i p h => y.a i p (x.a i p h)⟩
theorem Le.new {F : Hp} {as : List Addr} {p : Addr} {o : HO} (h : F p = none) : Le F as (upd F p o) as := ⟨fun a u e => by
  rw [upd_ne (ne_of_none e h)]
  exact e, fun _ _ h => h⟩
theorem Le.push {F : Hp} {as : List Addr} {p : Addr} : Le F as F (as ++ [p]) := ⟨fun _ _ h => h, fun i a e => by
  rw [List.getElem?_append_left (List.getElem?_eq_some_iff.mp e).1]
  exact e⟩
theorem rd_mono {F F' : Hp} {a : Addr} {u : HO} (e : ∀ a o, F a = some o → F' a = some o) (h : Rd F a u) : Rd F' a u := by
  rcases h with h | ⟨o, h⟩
  · exact Or.inl (e a _ h)
  · exact Or.inr ⟨o, e a _ h⟩
theorem sqL_mono {K : PySem.W.Frag} {F F' : Hp} {a : Addr} {xs : List V} (e : ∀ a o, F a = some o → F' a = some o) (h : SqL K F a xs) : SqL K F' a xs := by
  rcases h with h | h
  · exact Or.inl (rd_mono e h)
  · exact Or.inr h
theorem sqT_mono {K : PySem.W.Frag} {F F' : Hp} {a : Addr} {xs : List V} (e : ∀ a o, F a = some o → F' a = some o) (h : SqT K F a xs) : SqT K F' a xs := by
  rcases h with h | h
  · exact Or.inl (rd_mono e h)
  · exact Or.inr h
section
variable {K : PySem.W.Frag} {F F' G : Hp} {as as' : List Addr}
mutual
theorem Rl.mono (e : Le F as F' as') : ∀ {x : Va} {v : V}, Rl K F as x v → Rl K F' as' x v
  | _, _, .non => .non
  | _, _, .bl b => .bl b
  | _, _, .int i => .int i
  | _, _, .str x => .str x
  | _, _, .tup h r => .tup (e.f _ _ h) (Rls.mono e r)
  | _, _, .lst h r => .lst (e.f _ _ h) (Rls.mono e r)
  | _, _, .ext h r => .ext (h.imp (sqL_mono e.f) (sqT_mono e.f)) (Rls.mono e r)
  | _, _, .dicK h r => .dicK (e.f _ _ h) (RlK.mono e r)
  | _, _, .dicT h r => .dicT (e.f _ _ h) (RlT.mono e r)
  | _, _, .ref h => .ref (e.a _ _ h)
theorem Rls.mono (e : Le F as F' as') : ∀ {xs : List Va} {vs : List V}, Rls K F as xs vs → Rls K F' as' xs vs
  | _, _, .nil => .nil
  | _, _, .cons h r => .cons (Rl.mono e h) (Rls.mono e r)
theorem RlK.mono (e : Le F as F' as') : ∀ {xs : List (Key × Va)} {vs : List (Key × V)}, RlK K F as xs vs → RlK K F' as' xs vs
  | _, _, .nil => .nil
  | _, _, .cons h r => .cons (Rl.mono e h) (RlK.mono e r)
theorem RlT.mono (e : Le F as F' as') : ∀ {xs : List (List Key × Va)} {vs : List (List Key × V)}, RlT K F as xs vs → RlT K F' as' xs vs
  | _, _, .nil => .nil
  | _, _, .cons h r => .cons (Rl.mono e h) (RlT.mono e r)
end
end
section
variable {K : PySem.W.Frag} {F F' H G : Hp} {as : List Addr} {xs ys : List Va} {vs ws : List V}
theorem Rls.len : ∀ {xs : List Va} {vs : List V}, Rls K F as xs vs → xs.length = vs.length
  | _, _, .nil => rfl
  | _, _, .cons _ r => congrArg (· + 1) (Rls.len r)
theorem Rls.app : ∀ {xs ys : List Va} {vs ws : List V}, Rls K F as xs vs → Rls K F as ys ws → Rls K F as (xs ++ ys) (vs ++ ws)
  | _, _, _, _, .nil, s => s
  | _, _, _, _, .cons h r, s => .cons h (Rls.app r s)
theorem Rls.get : ∀ {xs : List Va} {vs : List V} {i : Nat} {x : Va}, Rls K F as xs vs → xs[i]? = some x → ∃ v, vs[i]? = some v ∧ Rl K F as x v
  | _, _, _, _, .nil, e => by simp at e
  | _, _, 0, _, .cons h _, e => by
    simp at e
    subst e
    exact ⟨_, rfl, h⟩
  | _, _, i + 1, x, .cons _ r, e => by
    obtain ⟨v, h1, h2⟩ := Rls.get (i := i) (x := x) r (by simpa using e)
    exact ⟨v, by simpa using h1, h2⟩
theorem Rls.getV : ∀ {xs : List Va} {vs : List V} {i : Nat} {v : V}, Rls K F as xs vs → vs[i]? = some v → ∃ x, xs[i]? = some x ∧ Rl K F as x v
  | _, _, _, _, .nil, e => by simp at e
  | _, _, 0, _, .cons h _, e => by
    simp at e
    subst e
    exact ⟨_, rfl, h⟩
  | _, _, i + 1, x, .cons _ r, e => by
    obtain ⟨v, h1, h2⟩ := Rls.getV (i := i) (v := x) r (by simpa using e)
    exact ⟨v, by simpa using h1, h2⟩
theorem Rls.set {x : Va} {v : V} (h : Rl K F as x v) : ∀ {xs : List Va} {vs : List V} (i : Nat), Rls K F as xs vs → Rls K F as (xs.set i x) (vs.set i v)
  | _, _, _, .nil => .nil
  | _, _, 0, .cons _ t => .cons h t
  | _, _, i + 1, .cons q t => .cons q (Rls.set h i t)
theorem Rls.take : ∀ {xs : List Va} {vs : List V} (n : Nat), Rls K F as xs vs → Rls K F as (xs.take n) (vs.take n)
  | _, _, 0, _ => .nil
  | _, _, _ + 1, .nil => .nil
  | _, _, n + 1, .cons r t => .cons r (Rls.take n t)
theorem Rls.drop : ∀ {xs : List Va} {vs : List V} (n : Nat), Rls K F as xs vs → Rls K F as (xs.drop n) (vs.drop n)
  | _, _, 0, r => r
  | _, _, _ + 1, .nil => .nil
  | _, _, n + 1, .cons _ t => Rls.drop n t
theorem Rls.rep (h : Rls K F as xs vs) : ∀ k : Nat, Rls K F as (List.replicate k xs).flatten (List.replicate k vs).flatten
  | 0 => .nil
  | k + 1 => by
    rw [List.replicate_succ, List.replicate_succ, List.flatten_cons, List.flatten_cons]
    exact h.app (Rls.rep h k)
theorem Rls.ints : ∀ {ns : List Int} {vs : List V}, Rls K F as (ns.map Va.int) vs → vs = ns.map V.int
  | [], _, .nil => rfl
  | n :: ns, _, .cons (.int _) r => congrArg (V.int n :: ·) (Rls.ints r)
theorem Rls.ofInts : ∀ {ns : List Int}, Rls K F as (ns.map Va.int) (ns.map V.int)
  | [] => .nil
  | n :: ns => .cons (.int n) Rls.ofInts
theorem Rls.bls : ∀ {ns : List Bool} {vs : List V}, Rls K F as (ns.map Va.bl) vs → vs = ns.map V.bl
  | [], _, .nil => rfl
  | n :: ns, _, .cons (.bl _) r => congrArg (V.bl n :: ·) (Rls.bls r)
end

/-! ### the store and the heap -/
inductive RlF (K : PySem.W.Frag) (F : Hp) (as : List Addr) : List (Str × Va) → List (Str × V) → Prop
  | nil : RlF K F as [] []
  | cons {f : Str} {x : Va} {v : V} {xs : List (Str × Va)} {vs : List (Str × V)} : Rl K F as x v → RlF K F as xs vs → RlF K F as ((f, x) :: xs) ((f, v) :: vs)
theorem RlF.mono {K : PySem.W.Frag} {F F' : Hp} {as as' : List Addr} (e : Le F as F' as') : ∀ {xs : List (Str × Va)} {vs : List (Str × V)}, RlF K F as xs vs → RlF K F' as' xs vs
  | _, _, .nil => .nil
  | _, _, .cons h r => .cons (h.mono e) (RlF.mono e r)
inductive RlB (K : PySem.W.Frag) (F : Hp) (as : List Addr) : List (List Bool × Va) → List (List Bool × V) → Prop
  | nil : RlB K F as [] []
  | cons {k : List Bool} {x : Va} {v : V} {xs : List (List Bool × Va)} {vs : List (List Bool × V)} : Rl K F as x v → RlB K F as xs vs → RlB K F as ((k, x) :: xs) ((k, v) :: vs)
theorem RlB.mono {K : PySem.W.Frag} {F F' : Hp} {as as' : List Addr} (e : Le F as F' as') : ∀ {xs : List (List Bool × Va)} {vs : List (List Bool × V)}, RlB K F as xs vs → RlB K F' as' xs vs
  | _, _, .nil => .nil
  | _, _, .cons h r => .cons (h.mono e) (RlB.mono e r)
def ObR (K : PySem.W.Frag) (F : Hp) (as : List Addr) (H : Hp) (a : Addr) : Ob → Prop
  | .lst xs => F a = none ∧ ∃ vs, H a = some (.lst vs) ∧ Rls K F as xs vs
  | .dicK kvs => F a = none ∧ ∃ ks, H a = some (.dK ks) ∧ RlK K F as kvs ks
  | .dicT kvs => F a = none ∧ ∃ ks, H a = some (.dT ks) ∧ RlT K F as kvs ks
  | .ins C fs => F a = none ∧ ∃ dx gs, H a = some (.ins C dx gs) ∧ RlF K F as fs gs
  | .dead => True
  | .fdK od ks kvs => F a = none ∧ H a = some (.frz od (.dK ks)) ∧ RlK K F as kvs ks
  | .fdT od ks kvs => F a = none ∧ H a = some (.frz od (.dT ks)) ∧ RlT K F as kvs ks
  | .dicB kvs => F a = none ∧ ∃ ks xs, H a = some (DBo a xs) ∧ KB F ks xs ∧ RlB K F as kvs ks
  | .fdB od xs kvs => F a = none ∧ ∃ ks, H a = some (.frz od (DBo a xs)) ∧ KB F ks xs ∧ RlB K F as kvs ks
/-- F: what is frozen; G: what else stands and stays as it is; as: where the store's objects lie -/
structure Sim (K : PySem.W.Frag) (F G : Hp) (as : List Addr) (s : Sto) (H : Hp) : Prop where
  sub : ∀ a o, F a = some o → H a = some o
  fr : ∀ a o, G a = some o → H a = some o ∧ (F a = none ∨ (F a = some o ∧ ∃ vs, o = .tup vs)) ∧ a ∉ as
  len : as.length = s.length
  here : ∀ a ∈ as, ∃ o, H a = some o
  nd : as.Nodup
  obj : ∀ (i : Nat) (a : Addr) (o : Ob), as[i]? = some a → s[i]? = some o → ObR K F as H a o
section
variable {K : PySem.W.Frag} {F F' H H' G : Hp} {as as' : List Addr} {s : Sto}
theorem ObR.mono {a : Addr} {o : Ob} (e : Le F as F' as') (hF : F' a = none) (hH : H' a = H a) (h : ObR K F as H a o) : ObR K F' as' H' a o := by
  cases o with
  | lst xs =>
    obtain ⟨_, vs, h1, h2⟩ := h
    exact ⟨hF, vs, hH.trans h1, h2.mono e⟩
  | dicK kvs =>
    obtain ⟨_, vs, h1, h2⟩ := h
    exact ⟨hF, vs, hH.trans h1, h2.mono e⟩
  | dicT kvs =>
    obtain ⟨_, vs, h1, h2⟩ := h
    exact ⟨hF, vs, hH.trans h1, h2.mono e⟩
  | ins C fs =>
    obtain ⟨_, dx, gs, h1, h2⟩ := h
    exact ⟨hF, dx, gs, hH.trans h1, h2.mono e⟩
  | dead => trivial
  | fdK od ks kvs =>
    obtain ⟨_, h1, h2⟩ := h
    exact ⟨hF, hH.trans h1, h2.mono e⟩
  | fdT od ks kvs =>
    obtain ⟨_, h1, h2⟩ := h
    exact ⟨hF, hH.trans h1, h2.mono e⟩
  | dicB kvs =>
    obtain ⟨_, ks, xs, h1, h2, h3⟩ := h
    exact ⟨hF, ks, xs, hH.trans h1, h2.keeps fun b ys q => e.f _ _ q, h3.mono e⟩
  | fdB od xs kvs =>
    obtain ⟨_, ks, h1, h2, h3⟩ := h
    exact ⟨hF, ks, hH.trans h1, h2.keeps fun b ys q => e.f _ _ q, h3.mono e⟩
theorem Sim.fnone (S : Sim K F G as s H) {p : Addr} (h : H p = none) : F p = none := by
  cases q : F p with
  | none => rfl
  | some o =>
    rw [S.sub p o q] at h
    cases h
/-- a new frozen thing -/
theorem Sim.froz {p : Addr} {o : HO} (S : Sim K F G as s H) (h : H p = none) : Sim K (upd F p o) G as s (upd H p o) where
  sub := fun a u e => by
    by_cases q : a = p
    · subst q
      rw [upd_same] at e ⊢
      exact e
    · rw [upd_ne q] at e ⊢
      exact S.sub a u e
  fr := fun a u e => by
    obtain ⟨e1, e2, e3⟩ := S.fr a u e
    have ne := ne_of_none e1 h
    rw [upd_ne ne, upd_ne ne]
    exact ⟨e1, e2, e3⟩
  len := S.len
  here := fun a ha => by
    obtain ⟨o', q⟩ := S.here a ha
    rw [upd_ne (ne_of_none q h)]
    exact ⟨o', q⟩
  nd := S.nd
  obj := fun i a ob h1 h2 => by
    obtain ⟨o', q⟩ := S.here a (List.mem_of_getElem? h1)
    have ne := ne_of_none q h
    have r := S.obj i a ob h1 h2
    cases ob with
    | dead => trivial
    | lst xs => exact r.mono (Le.new (S.fnone h)) (by rw [upd_ne ne]; exact r.1) (upd_ne ne)
    | dicK xs => exact r.mono (Le.new (S.fnone h)) (by rw [upd_ne ne]; exact r.1) (upd_ne ne)
    | dicT xs => exact r.mono (Le.new (S.fnone h)) (by rw [upd_ne ne]; exact r.1) (upd_ne ne)
    | ins C xs => exact r.mono (Le.new (S.fnone h)) (by rw [upd_ne ne]; exact r.1) (upd_ne ne)
    | fdK od ks xs => exact r.mono (Le.new (S.fnone h)) (by rw [upd_ne ne]; exact r.1) (upd_ne ne)
    | fdT od ks xs => exact r.mono (Le.new (S.fnone h)) (by rw [upd_ne ne]; exact r.1) (upd_ne ne)
    | dicB xs => exact r.mono (Le.new (S.fnone h)) (by rw [upd_ne ne]; exact r.1) (upd_ne ne)
    | fdB od ks xs => exact r.mono (Le.new (S.fnone h)) (by rw [upd_ne ne]; exact r.1) (upd_ne ne)
theorem ObR.fn {a : Addr} {o : Ob} (h : ObR K F as H a o) (hd : o ≠ .dead) : F a = none := by
  cases o with
  | dead => exact absurd rfl hd
  | lst xs => exact h.1
  | dicK xs => exact h.1
  | dicT xs => exact h.1
  | ins C xs => exact h.1
  | fdK od ks xs => exact h.1
  | fdT od ks xs => exact h.1
  | dicB xs => exact h.1
  | fdB od ks xs => exact h.1
theorem ObR.mono2 {a : Addr} {o : Ob} (e : Le F as F' as') (hF : F a = none → F' a = none) (hH : H' a = H a) (h : ObR K F as H a o) : ObR K F' as' H' a o := by
  cases o with
  | dead => trivial
  | lst xs => exact h.mono e (hF h.1) hH
  | dicK xs => exact h.mono e (hF h.1) hH
  | dicT xs => exact h.mono e (hF h.1) hH
  | ins C xs => exact h.mono e (hF h.1) hH
  | fdK od ks xs => exact h.mono e (hF h.1) hH
  | fdT od ks xs => exact h.mono e (hF h.1) hH
  | dicB xs => exact h.mono e (hF h.1) hH
  | fdB od ks xs => exact h.mono e (hF h.1) hH
/-- a new object in the store; H2: the heap with it -/
theorem Sim.push {p : Addr} {o : Ob} (S : Sim K F G as s H) (h : H p = none) (hk : ∀ a u, H a = some u → H' a = some u) (hp : ObR K F (as ++ [p]) H' p o) (hh : ∃ u, H' p = some u) : Sim K F G (as ++ [p]) (s ++ [o]) H' where
  sub := fun a u e => hk a u (S.sub a u e)
  fr := fun a u e => by
    obtain ⟨e1, e2, e3⟩ := S.fr a u e
    refine ⟨hk a u e1, e2, fun z => ?_⟩
    rcases List.mem_append.mp z with z | z
    · exact e3 z
    · rw [List.mem_singleton.mp z, h] at e1
      cases e1
  len := by rw [List.length_append, List.length_append, S.len]; rfl
  here := fun a ha => by
    rcases List.mem_append.mp ha with q | q
    · obtain ⟨u, e⟩ := S.here a q
      exact ⟨u, hk a u e⟩
    · rw [List.mem_singleton.mp q]
      exact hh
  nd := by
    refine List.nodup_append.mpr ⟨S.nd, by simp, fun a ha b hb e => ?_⟩
    obtain ⟨u, q⟩ := S.here a ha
    rw [List.mem_singleton.mp hb] at e
    rw [e, h] at q
    cases q
  obj := fun i a ob h1 h2 => by
    by_cases hi : i < as.length
    · rw [List.getElem?_append_left hi] at h1
      rw [List.getElem?_append_left (by rw [← S.len]; exact hi)] at h2
      obtain ⟨u, q⟩ := S.here a (List.mem_of_getElem? h1)
      exact (S.obj i a ob h1 h2).mono2 Le.push (fun z => z) ((hk a u q).trans q.symm)
    · have l1 := (List.getElem?_eq_some_iff.mp h1).1
      rw [List.length_append] at l1
      have e : i = as.length := by simp at l1; omega
      subst e
      rw [List.getElem?_concat_length] at h1
      rw [S.len, List.getElem?_concat_length] at h2
      cases h1
      cases h2
      exact hp
/-- an object of the store changes -/
theorem Sim.change {i : Nat} {a : Addr} {o : Ob} {ho : HO} (S : Sim K F G as s H) (h1 : as[i]? = some a) (hf : F a = none) (hp : ObR K F as (upd H a ho) a o) : Sim K F G as (s.set i o) (upd H a ho) where
  sub := fun b u e => by
    have ne : b ≠ a := ne_of_none e hf
    rw [upd_ne ne]
    exact S.sub b u e
  fr := fun b u e => by
    obtain ⟨e1, e2, e3⟩ := S.fr b u e
    have ne : b ≠ a := fun z => e3 (by rw [z]; exact List.mem_of_getElem? h1)
    rw [upd_ne ne]
    exact ⟨e1, e2, e3⟩
  len := by rw [List.length_set, S.len]
  here := fun b hb => by
    by_cases q : b = a
    · subst q
      exact ⟨_, upd_same⟩
    · rw [upd_ne q]
      exact S.here b hb
  nd := S.nd
  obj := fun j b ob e1 e2 => by
    by_cases q : j = i
    · subst q
      rw [h1] at e1
      cases e1
      have l1 := (List.getElem?_eq_some_iff.mp e2).1
      rw [List.getElem?_set_self (by simpa using l1)] at e2
      cases e2
      exact hp
    · rw [List.getElem?_set_ne (Ne.symm q)] at e2
      have ne : b ≠ a := by
        intro e
        subst e
        exact q (by
          obtain ⟨l1, z1⟩ := List.getElem?_eq_some_iff.mp h1
          obtain ⟨l2, z2⟩ := List.getElem?_eq_some_iff.mp e1
          exact (List.getElem_inj S.nd).mp (z2.trans z1.symm))
      exact (S.obj j b ob e1 e2).mono2 Le.refl (fun z => z) (upd_ne ne)
/-- an object of the store is frozen -/
theorem Sim.freeze {i : Nat} {a : Addr} {ho : HO} (S : Sim K F G as s H) (h1 : as[i]? = some a) (hH : H a = some ho) (hf : F a = none) : Sim K (upd F a ho) G as (s.set i .dead) H where
  sub := fun b u e => by
    by_cases q : b = a
    · subst q
      rw [upd_same] at e
      cases e
      exact hH
    · rw [upd_ne q] at e
      exact S.sub b u e
  fr := fun b u e => by
    obtain ⟨e1, e2, e3⟩ := S.fr b u e
    have ne : b ≠ a := fun z => e3 (by rw [z]; exact List.mem_of_getElem? h1)
    rw [upd_ne ne]
    exact ⟨e1, e2, e3⟩
  len := by rw [List.length_set, S.len]
  here := S.here
  nd := S.nd
  obj := fun j b ob e1 e2 => by
    by_cases q : j = i
    · subst q
      have l1 := (List.getElem?_eq_some_iff.mp e2).1
      rw [List.getElem?_set_self (by simpa using l1)] at e2
      cases e2
      trivial
    · rw [List.getElem?_set_ne (Ne.symm q)] at e2
      have ne : b ≠ a := by
        intro e
        subst e
        exact q (by
          obtain ⟨l1, z1⟩ := List.getElem?_eq_some_iff.mp h1
          obtain ⟨l2, z2⟩ := List.getElem?_eq_some_iff.mp e1
          exact (List.getElem_inj S.nd).mp (z2.trans z1.symm))
      exact (S.obj j b ob e1 e2).mono2 (Le.new hf) (fun z => by rw [upd_ne ne]; exact z) rfl
theorem Sim.at (S : Sim K F G as s H) {i : Nat} {o : Ob} (h : s[i]? = some o) : ∃ a, as[i]? = some a := by
  have l := (List.getElem?_eq_some_iff.mp h).1
  rw [← S.len] at l
  exact ⟨as[i], List.getElem?_eq_getElem l⟩
end

/-! ### environments -/
structure ER (K : PySem.W.Frag) (F : Hp) (as : List Addr) (ε : En) (σ : L2.St) : Prop where
  len : ε.length = σ.length
  get : ∀ (i : Nat) (x : Va), ε[i]? = some (some x) → ∃ v, σ[i]? = some (some v) ∧ Rl K F as x v
section
variable {K : PySem.W.Frag} {F F' G : Hp} {as as' : List Addr} {ε : En} {σ : L2.St}
theorem ER.mono (e : Le F as F' as') (h : ER K F as ε σ) : ER K F' as' ε σ := ⟨h.len, fun i x q => by
  obtain ⟨v, h1, h2⟩ := h.get i x q
  exact ⟨v, h1, h2.mono e⟩⟩
theorem ER.set {x : Va} {v : V} (h : ER K F as ε σ) (i : Nat) (r : Rl K F as x v) : ER K F as (ε.set i (some x)) (σ.set i (some v)) := ⟨by rw [List.length_set, List.length_set, h.len], fun j y q => by
  by_cases e : i = j
  · subst e
    have l := (List.getElem?_eq_some_iff.mp q).1
    rw [List.length_set] at l
    rw [List.getElem?_set_self l] at q
    cases q
    exact ⟨v, List.getElem?_set_self (by rw [← h.len]; exact l), r⟩
  · rw [List.getElem?_set_ne e] at q ⊢
    exact h.get j y q⟩
theorem ER.unset (h : ER K F as ε σ) (i : Nat) : ER K F as (ε.set i none) (σ.set i none) := ⟨by rw [List.length_set, List.length_set, h.len], fun j y q => by
  by_cases e : i = j
  · subst e
    have l := (List.getElem?_eq_some_iff.mp q).1
    rw [List.length_set] at l
    rw [List.getElem?_set_self l] at q
    cases q
  · rw [List.getElem?_set_ne e] at q ⊢
    exact h.get j y q⟩
def wip (ε : En) : List Nat → En
  | [] => ε
  | v :: vs => (wip ε vs).set v none
theorem ER.wipe (h : ER K F as ε σ) : ∀ vs : List Nat, ER K F as (wip ε vs) (L2.wipe σ vs)
  | [] => h
  | v :: vs => (ER.wipe h vs).unset v
end

/-! ### results and readings -/
inductive Rs (α : Type) where
  | ok (a : α) (s : Sto) | exc (c : Str) (s : Sto) | bad
def Rs.bind {α β : Type} : Rs α → (α → Sto → Rs β) → Rs β
  | .ok a s, k => k a s
  | .exc c s, _ => .exc c s
  | .bad, _ => .bad
abbrev DE := En → Sto → Rs Va
abbrev DT := En → Sto → Rs Bool
/-- arguments, one after another -/
abbrev DA := List DE
def evA : DA → En → Sto → Rs (List Va)
  | [], _, s => .ok [] s
  | d :: ds, ε, s => (d ε s).bind fun x s1 => (evA ds ε s1).bind fun xs s2 => .ok (x :: xs) s2
theorem evA_len : ∀ {ds : DA} {ε : En} {s s' : Sto} {xs : List Va}, evA ds ε s = .ok xs s' → xs.length = ds.length
  | [], _, _, _, _, h => by
    cases h
    rfl
  | d :: ds, ε, s, s', xs, h => by
    unfold evA at h
    cases q : d ε s with
    | bad =>
      rw [q] at h
      cases h
    | exc c s1 =>
      rw [q] at h
      cases h
    | ok x s1 =>
      rw [q] at h
      dsimp only [Rs.bind] at h
      cases q2 : evA ds ε s1 with
      | bad =>
        rw [q2] at h
        cases h
      | exc c s2 =>
        rw [q2] at h
        cases h
      | ok ys s2 =>
        rw [q2] at h
        cases h
        rw [List.length_cons, List.length_cons, evA_len q2]
/-- sizes, never reckoned by unfolding -/
def leq (a b : Nat) : Prop := a ≤ b
noncomputable instance (a b : Nat) : Decidable (leq a b) := Classical.propDecidable _
def inR (j : Int) : Prop := -1000000000 < j ∧ j < 1000000000
noncomputable instance (j : Int) : Decidable (inR j) := Classical.propDecidable _
inductive Fl where
  | nx (ε : En) (s : Sto) | ret (x : Va) (s : Sto) | brk (ε : En) (s : Sto) | ct (ε : En) (s : Sto) | exc (c : Str) (ε : En) (s : Sto) | bad
abbrev DS := En → Sto → Fl

/-- the classes of exceptions by name -/
abbrev Cls0 := Str → Value
section
variable (K : PySem.W.Frag) (CL : Cls0)
def Pst {α β : Type} (W : Value → Option Addr → Hp → Prop) (F G : Hp) (as : List Addr) (RA : Hp → List Addr → α → β → Prop) : Rs α → (β → Hp → Prop) → Prop
  | .ok x s', Q => ∀ F' as' H' v, Le F as F' as' → Sim K F' G as' s' H' → RA F' as' x v → Q v H'
  | .exc c s', _ => ∀ F' as' H', Le F as F' as' → Sim K F' G as' s' H' → W (CL c) none H'
  | .bad, _ => False
def PF (W : WX) (F G : Hp) (as : List Addr) : Fl → Ends → Prop
  | .nx ε' s', D => ∀ F' as' σ' H', Le F as F' as' → Sim K F' G as' s' H' → ER K F' as' ε' σ' → D.nx σ' H'
  | .ret x s', D => ∀ F' as' H' v, Le F as F' as' → Sim K F' G as' s' H' → Rl K F' as' x v → D.rt v H'
  | .brk ε' s', D => ∀ F' as' σ' H', Le F as F' as' → Sim K F' G as' s' H' → ER K F' as' ε' σ' → D.bk σ' H'
  | .ct ε' s', D => ∀ F' as' σ' H', Le F as F' as' → Sim K F' G as' s' H' → ER K F' as' ε' σ' → D.ct σ' H'
  | .exc c ε' s', _ => ∀ F' as' σ' H', Le F as F' as' → Sim K F' G as' s' H' → ER K F' as' ε' σ' → W (CL c) none σ' H'
  | .bad, _ => False
def tD (W : WX) (d : DE) : TE := fun σ H Q => ∃ F G as ε s, Sim K F G as s H ∧ ER K F as ε σ ∧ Pst K CL (fun c d H => W c d σ H) F G as (Rl K) (d ε s) Q
def tDT (W : WX) (d : DT) : TT := fun σ H Q => ∃ F G as ε s, Sim K F G as s H ∧ ER K F as ε σ ∧ Pst K CL (fun c d H => W c d σ H) F G as (fun _ _ x v => x = v) (d ε s) Q
def tDA (W : WX) (d : DA) : TA := fun σ H Q => ∃ F G as ε s, Sim K F G as s H ∧ ER K F as ε σ ∧ Pst K CL (fun c d H => W c d σ H) F G as (Rls K) (evA d ε s) Q
def tDS (W : WX) (d : DS) : TS := fun D σ H => ∃ F G as ε s, Sim K F G as s H ∧ ER K F as ε σ ∧ PF K CL W F G as (d ε s) D
end
section
variable {K : PySem.W.Frag} {CL : Cls0} {W : Value → Option Addr → Hp → Prop} {F F' G : Hp} {as as' : List Addr}
theorem Pst.le {α β : Type} {RA : Hp → List Addr → α → β → Prop} {r : Rs α} {Q : β → Hp → Prop} (e : Le F as F' as') (h : Pst K CL W F G as RA r Q) : Pst K CL W F' G as' RA r Q := by
  cases r with
  | ok x s => exact fun F2 as2 H v l => h F2 as2 H v (e.trans l)
  | exc c s => exact fun F2 as2 H l => h F2 as2 H (e.trans l)
  | bad => exact h
theorem Pst.bind {α β γ δ : Type} {RA : Hp → List Addr → α → β → Prop} {RC : Hp → List Addr → γ → δ → Prop} {r : Rs α} {k : α → Sto → Rs γ} {Q : δ → Hp → Prop} (h : Pst K CL W F G as RC (r.bind k) Q) :
    Pst K CL W F G as RA r (fun v H1 => ∃ F1 as1 s1 x, Le F as F1 as1 ∧ Sim K F1 G as1 s1 H1 ∧ RA F1 as1 x v ∧ Pst K CL W F1 G as1 RC (k x s1) Q) := by
  cases r with
  | ok x s => exact fun F1 as1 H1 v l S ra => ⟨F1, as1, s, x, l, S, ra, h.le l⟩
  | exc c s => exact h
  | bad => exact h
theorem Pst.ok {α β : Type} {RA : Hp → List Addr → α → β → Prop} {x : α} {s : Sto} {Q : β → Hp → Prop} {H G : Hp} {v : β} (h : Pst K CL W F G as RA (.ok x s) Q) (l : Le F as F' as') (S : Sim K F' G as' s H) (r : RA F' as' x v) : Q v H := h F' as' H v l S r
theorem PF.le {W : WX} {r : Fl} {D : Ends} (e : Le F as F' as') (h : PF K CL W F G as r D) : PF K CL W F' G as' r D := by
  cases r with
  | nx x s => exact fun F2 as2 σ H l => h F2 as2 σ H (e.trans l)
  | brk x s => exact fun F2 as2 σ H l => h F2 as2 σ H (e.trans l)
  | ct x s => exact fun F2 as2 σ H l => h F2 as2 σ H (e.trans l)
  | ret x s => exact fun F2 as2 σ H l => h F2 as2 σ H (e.trans l)
  | exc c x s => exact fun F2 as2 σ H l => h F2 as2 σ H (e.trans l)
  | bad => exact h
end
section
variable {X : Cx}
theorem pe_weak {e : Expr} {t t' : TE} (h : PE X e t) (q : ∀ σ H Q, t' σ H Q → t σ H Q) : PE X e t' := ⟨fun pins s σ H Q I w => h.run pins s σ H Q I (q σ H Q w)⟩
theorem pt_weak {e : Expr} {t t' : TT} (h : PT X e t) (q : ∀ σ H Q, t' σ H Q → t σ H Q) : PT X e t' := ⟨fun pins s σ H Q I w => h.run pins s σ H Q I (q σ H Q w)⟩
theorem pw_weak {e : Expr} {t t' : TT} (h : PW X e t) (q : ∀ σ H Q, t' σ H Q → t σ H Q) : PW X e t' := ⟨fun wh pins s σ H Q I w => h.run wh pins s σ H Q I (q σ H Q w)⟩
theorem pa_weak {e : List Expr} {t t' : TA} (h : PA X e t) (q : ∀ σ H Q, t' σ H Q → t σ H Q) : PA X e t' := ⟨fun pos pins s σ H Q I w => h.run pos pins s σ H Q I (q σ H Q w)⟩
theorem ps_weak {st : Stmt} {t t' : TS} (h : PS X st t) (q : ∀ D σ H, t' D σ H → t D σ H) : PS X st t' := ⟨fun pins s σ H D I w => h.run pins s σ H D I (q D σ H w)⟩
theorem pss_weak {st : List Stmt} {t t' : TS} (h : PSs X st t) (q : ∀ D σ H, t' D σ H → t D σ H) : PSs X st t' := ⟨fun pins s σ H D I w => h.run pins s σ H D I (q D σ H w)⟩
end
end Dn

set_option Elab.async false
set_option linter.all false
set_option maxRecDepth 100000
set_option maxHeartbeats 1000000
/-! Dn, part B: expressions and tests. -/
namespace Dn
open PySem PySem.Spec PyProof.Rows L2

abbrev RE (X : Cx) (CL : Cls0) (W : WX) (e : Expr) (d : DE) : Prop := PE X e (tD X.K CL W d)
abbrev RT (X : Cx) (CL : Cls0) (W : WX) (e : Expr) (d : DT) : Prop := PT X e (tDT X.K CL W d)
abbrev RW (X : Cx) (CL : Cls0) (W : WX) (e : Expr) (d : DT) : Prop := PW X e (tDT X.K CL W d)
abbrev RA (X : Cx) (CL : Cls0) (W : WX) (es : List Expr) (d : DA) : Prop := PA X es (tDA X.K CL W d)

section
variable {K : PySem.W.Frag} {CL : Cls0} {W : Value → Option Addr → Hp → Prop} {F F' H G : Hp} {as as' : List Addr} {s : Sto}
theorem Pst.imp {α β : Type} {RA : Hp → List Addr → α → β → Prop} {r : Rs α} {Q Q' : β → Hp → Prop} (h : Pst K CL W F G as RA r Q) (q : ∀ v H, Q v H → Q' v H) : Pst K CL W F G as RA r Q' := by
  cases r with
  | ok x s => exact fun F2 as2 H v l S ra => q v H (h F2 as2 H v l S ra)
  | exc c s => exact h
  | bad => exact h
end

theorem Pst.okv {K : PySem.W.Frag} {CL : Cls0} {W : Value → Option Addr → Hp → Prop} {F H G : Hp} {as : List Addr} {s : Sto} {x : Va} {v : V} {Q : VK} (h : Pst K CL W F G as (Rl K) (.ok x s) Q) (S : Sim K F G as s H) (r : Rl K F as x v) : Q v H := h.ok Le.refl S r
/-! ### reading the store -/
def seqL : Va → Sto → Option (List Va)
  | .lst xs, _ => some xs
  | .ref i, s => match s[i]? with | some (.lst xs) => some xs | _ => none
  | _, _ => none
def seqT : Va → Option (List Va)
  | .tup xs => some xs
  | _ => none
/-- a list or a tuple, read -/
def seqA : Va → Sto → Option (List Va)
  | .lst xs, _ => some xs
  | .tup xs, _ => some xs
  | .ext xs, _ => some xs
  | .ref i, s => match s[i]? with | some (.lst xs) => some xs | _ => none
  | _, _ => none
section
variable {K : PySem.W.Frag} {CL : Cls0} {W : Value → Option Addr → Hp → Prop} {F F' H G : Hp} {as as' : List Addr} {s : Sto} {x : Va} {v : V} {xs : List Va}
theorem Sim.ref (S : Sim K F G as s H) {i : Nat} {a : Addr} {o : Ob} (h : as[i]? = some a) (e : s[i]? = some o) : ObR K F as H a o := S.obj i a o h e
theorem seqL_ok (S : Sim K F G as s H) (r : Rl K F as x v) (h : seqL x s = some xs) : ∃ a vs, v = .ref a ∧ H a = some (.lst vs) ∧ Rls K F as xs vs := by
  cases x with
  | lst ys =>
    cases r with
    | lst hf hr =>
      simp only [seqL, Option.some.injEq] at h
      subst h
      exact ⟨_, _, rfl, S.sub _ _ hf, hr⟩
  | ref i =>
    cases r with
    | ref ha =>
      simp only [seqL] at h
      split at h
      · rename_i ys e
        cases h
        obtain ⟨_, vs, h1, h2⟩ := S.ref ha e
        exact ⟨_, vs, rfl, h1, h2⟩
      · cases h
  | _ => simp [seqL] at h
theorem seqT_ok (S : Sim K F G as s H) (r : Rl K F as x v) (h : seqT x = some xs) : ∃ a vs, v = .ref a ∧ H a = some (.tup vs) ∧ Rls K F as xs vs := by
  cases x with
  | tup ys =>
    cases r with
    | tup hf hr =>
      simp only [seqT, Option.some.injEq] at h
      subst h
      exact ⟨_, _, rfl, S.sub _ _ hf, hr⟩
  | _ => simp [seqT] at h
theorem seqA_ok (S : Sim K F G as s H) (r : Rl K F as x v) (h : seqA x s = some xs) : ∃ a vs, v = .ref a ∧ (SqL K H a vs ∨ SqT K H a vs) ∧ Rls K F as xs vs := by
  cases x with
  | lst ys =>
    obtain ⟨a, vs, h1, h2, h3⟩ := seqL_ok S r (show seqL (.lst ys) s = some xs from h)
    exact ⟨a, vs, h1, .inl (SqL.of h2), h3⟩
  | ref i =>
    obtain ⟨a, vs, h1, h2, h3⟩ := seqL_ok S r (show seqL (.ref i) s = some xs from h)
    exact ⟨a, vs, h1, .inl (SqL.of h2), h3⟩
  | tup ys =>
    obtain ⟨a, vs, h1, h2, h3⟩ := seqT_ok S r (show seqT (.tup ys) = some xs from h)
    exact ⟨a, vs, h1, .inr (SqT.of h2), h3⟩
  | ext ys =>
    cases r with
    | ext hf hr =>
      simp only [seqA, Option.some.injEq] at h
      subst h
      exact ⟨_, _, rfl, hf.imp (sqL_mono S.sub) (sqT_mono S.sub), hr⟩
  | _ => simp [seqA] at h

/-! ### making -/
/-- a new list: frozen, or (bx) an object of the store -/
def mkL (bx : Bool) (xs : List Va) (s : Sto) : Rs Va := if bx then .ok (.ref s.length) (s ++ [.lst xs]) else .ok (.lst xs) s
theorem mkL_ok {bx : Bool} {vs : List V} {Q : VK} (S : Sim K F G as s H) (r : Rls K F as xs vs) (h : Pst K CL W F G as (Rl K) (mkL bx xs s) Q) : ∀ p, H p = none → Q (.ref p) (upd H p (.lst vs)) := by
  intro p hp
  cases bx with
  | false => exact h.ok (Le.new (S.fnone hp)) (S.froz hp) (.lst upd_same (r.mono (Le.new (S.fnone hp))))
  | true =>
    refine h.ok (Le.push (p := p)) (S.push (o := .lst xs) hp (fun a u e => by rw [upd_ne (ne_of_none e hp)]; exact e) ⟨S.fnone hp, vs, upd_same, r.mono Le.push⟩ ⟨_, upd_same⟩) (.ref ?_)
    rw [← S.len]
    exact List.getElem?_concat_length
theorem mkT_ok {vs : List V} {Q : VK} (S : Sim K F G as s H) (r : Rls K F as xs vs) (h : Pst K CL W F G as (Rl K) (.ok (.tup xs) s) Q) : ∀ p, H p = none → Q (.ref p) (upd H p (.tup vs)) := by
  intro p hp
  exact h.ok (Le.new (S.fnone hp)) (S.froz hp) (.tup upd_same (r.mono (Le.new (S.fnone hp))))
end

/-! ### operations by value -/
def Op2 (K : PySem.W.Frag) (r : R2) (g : Va → Va → Sto → Rs Va) : Prop := ∀ (CL : Cls0) (W : Value → Option Addr → Hp → Prop) F G as s H x y v u Q, Sim K F G as s H → Rl K F as x v → Rl K F as y u → Pst K CL W F G as (Rl K) (g x y s) Q → r v u H Q
def Op1 (K : PySem.W.Frag) (r : V → Hp → VK → Prop) (g : Va → Sto → Rs Va) : Prop := ∀ (CL : Cls0) (W : Value → Option Addr → Hp → Prop) F G as s H x v Q, Sim K F G as s H → Rl K F as x v → Pst K CL W F G as (Rl K) (g x s) Q → r v H Q
def OpN (K : PySem.W.Frag) (r : List V → Hp → VK → Prop) (g : List Va → Sto → Rs Va) : Prop := ∀ (CL : Cls0) (W : Value → Option Addr → Hp → Prop) F G as s H x v Q, Sim K F G as s H → Rls K F as x v → Pst K CL W F G as (Rl K) (g x s) Q → r v H Q
def dBin (g : Va → Va → Sto → Rs Va) (da db : DE) : DE := fun ε s => (da ε s).bind fun x s1 => (db ε s1).bind fun y s2 => g x y s2
def dUn (g : Va → Sto → Rs Va) (da : DE) : DE := fun ε s => (da ε s).bind g
abbrev dNil : DA := []
abbrev dCons (da : DE) (dr : DA) : DA := da :: dr
def dApp (g : List Va → Sto → Rs Va) (da : DA) : DE := fun ε s => (evA da ε s).bind g
section
variable {K : PySem.W.Frag} {CL : Cls0} {W : WX} {σ : L2.St} {H G : Hp}
theorem tD_bin {r : R2} {g : Va → Va → Sto → Rs Va} {da db : DE} {Q : VK} (hg : Op2 K r g) (h : tD K CL W (dBin g da db) σ H Q) : tOp r (tD K CL W da) (tD K CL W db) σ H Q := by
  obtain ⟨F, G, as, ε, s, S, E, h⟩ := h
  refine ⟨F, G, as, ε, s, S, E, Pst.imp (Pst.bind h) fun v H1 ⟨F1, as1, s1, x, l, S1, rx, h1⟩ => ?_⟩
  refine ⟨F1, G, as1, ε, s1, S1, E.mono l, Pst.imp (Pst.bind h1) fun u H2 ⟨F2, as2, s2, y, l2, S2, ry, h2⟩ => ?_⟩
  exact hg _ _ _ _ _ _ _ _ _ _ _ _ S2 (rx.mono l2) ry h2
theorem tD_un {r : V → Hp → VK → Prop} {g : Va → Sto → Rs Va} {da : DE} {Q : VK} (hg : Op1 K r g) (h : tD K CL W (dUn g da) σ H Q) : tUn r (tD K CL W da) σ H Q := by
  obtain ⟨F, G, as, ε, s, S, E, h⟩ := h
  exact ⟨F, G, as, ε, s, S, E, Pst.imp (Pst.bind h) fun v H1 ⟨F1, as1, s1, x, l, S1, rx, h1⟩ => hg _ _ _ _ _ _ _ _ _ _ S1 rx h1⟩
theorem tD_app {r : List V → Hp → VK → Prop} {g : List Va → Sto → Rs Va} {da : DA} {Q : VK} (hg : OpN K r g) (h : tD K CL W (dApp g da) σ H Q) : tCB r (tDA K CL W da) σ H Q := by
  obtain ⟨F, G, as, ε, s, S, E, h⟩ := h
  exact ⟨F, G, as, ε, s, S, E, Pst.imp (Pst.bind h) fun v H1 ⟨F1, as1, s1, x, l, S1, rx, h1⟩ => hg _ _ _ _ _ _ _ _ _ _ S1 rx h1⟩
theorem Op2.or {r r' : R2} {g g' : Va → Va → Sto → Rs Va} (h : Op2 K r g) (h' : Op2 K r' g') : Op2 K (fun x y H Q => r x y H Q ∨ r' x y H Q) (fun x y s => match g x y s with | .bad => g' x y s | o => o) := by
  intro CL W F G as s H x y v u Q S rx ry q
  dsimp only at q
  cases e : g x y s with
  | ok a s' =>
    rw [e] at q
    exact .inl (h CL W F G as s H x y v u Q S rx ry (by rw [e]; exact q))
  | exc c s' =>
    rw [e] at q
    exact .inl (h CL W F G as s H x y v u Q S rx ry (by rw [e]; exact q))
  | bad =>
    rw [e] at q
    exact .inr (h' CL W F G as s H x y v u Q S rx ry q)
theorem OpN.or {r r' : List V → Hp → VK → Prop} {g g' : List Va → Sto → Rs Va} (h : OpN K r g) (h' : OpN K r' g') : OpN K (fun x H Q => r x H Q ∨ r' x H Q) (fun x s => match g x s with | .bad => g' x s | o => o) := by
  intro CL W F G as s H x v Q S rx q
  dsimp only at q
  cases e : g x s with
  | ok a s' =>
    rw [e] at q
    exact .inl (h CL W F G as s H x v Q S rx (by rw [e]; exact q))
  | exc c s' =>
    rw [e] at q
    exact .inl (h CL W F G as s H x v Q S rx (by rw [e]; exact q))
  | bad =>
    rw [e] at q
    exact .inr (h' CL W F G as s H x v Q S rx q)
end

/-! ### names, constants, argument lists, displays -/
def dV (i : Nat) : DE := fun ε s => match ε[i]? with | some (some x) => .ok x s | _ => .bad
def dC (x : Va) : DE := fun _ s => .ok x s
section
variable {X : Cx} {CL : Cls0} {W : WX} {e a b : Expr} {es : List Expr} {pos : Pos} {da db : DE} {dr : DA}
theorem re_var (i : Nat) {x : Str} {pos : Pos} (hN : X.N[i]? = some x := by rfl) (hv : Vis X.env.scope x := by first | exact Or.inl rfl | exact Or.inr (Or.inl rfl) | exact Or.inr (Or.inr rfl)) (hd : (x == ("__debug__" : Str)) = false := by decide)
    (hcd : (x == ("__classdict__" : Str)) = false := by decide) : RE X CL W (.Name x pos) (dV i) := pe_weak (pe_var hN hv hd hcd) fun σ H Q h => by
  obtain ⟨F, G, as, ε, s, S, E, h⟩ := h
  unfold dV at h
  split at h
  · rename_i y q
    obtain ⟨v, h1, h2⟩ := E.get i y q
    exact ⟨v, h1, h.ok Le.refl S h2⟩
  · exact h.elim
theorem re_c {x : Va} {v : V} {e : Expr} (h : PE X e (tC v)) (r : ∀ F as, Rl X.K F as x v) : RE X CL W e (dC x) := pe_weak h fun σ H Q q => by
  obtain ⟨F, G, as, ε, s, S, E, q⟩ := q
  exact q.ok Le.refl S (r F as)
theorem re_int {i j} : RE X CL W (.Constant (.int i) j pos) (dC (.int i)) := re_c pe_int fun _ _ => .int i
theorem re_bl {i j} : RE X CL W (.Constant (.bool i) j pos) (dC (.bl i)) := re_c pe_bl fun _ _ => .bl i
theorem re_non {j} : RE X CL W (.Constant .none j pos) (dC .non) := re_c pe_non fun _ _ => .non
theorem re_str {i j} : RE X CL W (.Constant (.str i) j pos) (dC (.str i)) := re_c pe_str fun _ _ => .str i
theorem ra_nil : RA X CL W [] dNil := pa_weak pa_nil fun σ H Q q => by
  obtain ⟨F, G, as, ε, s, S, E, q⟩ := q
  exact q.ok Le.refl S .nil
theorem ra_cons (ha : RE X CL W e da) (hr : RA X CL W es dr) (hs : starEach (e :: es) X.env = (false, eval e X.env) :: starEach es X.env := by rfl) : RA X CL W (e :: es) (dCons da dr) := pa_weak (pa_cons ha hr hs) fun σ H Q q => by
  obtain ⟨F, G, as, ε, s, S, E, h⟩ := q
  refine ⟨F, G, as, ε, s, S, E, Pst.imp (Pst.bind h) fun v H1 ⟨F1, as1, s1, x, l, S1, rx, h1⟩ => ?_⟩
  refine ⟨F1, G, as1, ε, s1, S1, E.mono l, Pst.imp (Pst.bind h1) fun u H2 ⟨F2, as2, s2, y, l2, S2, ry, h2⟩ => ?_⟩
  exact h2.ok Le.refl S2 (.cons (rx.mono l2) ry)
/-- a display; bx: an object of the store -/
def dLst (bx : Bool) (da : DA) : DE := fun ε s => (evA da ε s).bind fun xs s1 => mkL bx xs s1
def dTup (da : DA) : DE := fun ε s => (evA da ε s).bind fun xs s1 => .ok (.tup xs) s1
/-- the items that were reckoned are as many as were written -/
theorem Pst.evA {X : Cx} {CL : Cls0} {W : Value → Option Addr → Hp → Prop} {F G : Hp} {as : List Addr} {ds : DA} {ε : En} {s : Sto} {Q : List V → Hp → Prop} (h : Pst X.K CL W F G as (Rls X.K) (Dn.evA ds ε s) fun vs H => vs.length = ds.length → Q vs H) : Pst X.K CL W F G as (Rls X.K) (Dn.evA ds ε s) Q := by
  cases q : Dn.evA ds ε s with
  | ok xs s' =>
    rw [q] at h
    exact fun F' as' H' v l S r => h F' as' H' v l S r (by rw [← r.len, evA_len q])
  | exc c s' =>
    rw [q] at h
    exact h
  | bad =>
    rw [q] at h
    exact h
theorem le1000 {n : Nat} (h : n ≤ 1000) : n ≤ sizeLine := Nat.le_trans h (by decide)
theorem re_lst (bx : Bool) (h : RA X CL W es dr) (hl : dr.length ≤ 1000 := by decide) : RE X CL W (.List es pos) (dLst bx dr) := pe_weak (pe_lst h) fun σ H Q q => by
  obtain ⟨F, G, as, ε, s, S, E, h⟩ := q
  refine ⟨F, G, as, ε, s, S, E, Pst.evA (Pst.imp (Pst.bind h) fun v H1 ⟨F1, as1, s1, x, l, S1, rx, h1⟩ hv => ?_)⟩
  exact ⟨by rw [hv]; exact le1000 hl, mkL_ok S1 rx h1⟩
theorem re_tup {k : Nat} (h : RA X CL W es dr) (hl : dr.length ≤ 1000 := by decide) : RE X CL W (.Tuple es k pos) (dTup dr) := pe_weak (pe_tup h) fun σ H Q q => by
  obtain ⟨F, G, as, ε, s, S, E, h⟩ := q
  refine ⟨F, G, as, ε, s, S, E, Pst.evA (Pst.imp (Pst.bind h) fun v H1 ⟨F1, as1, s1, x, l, S1, rx, h1⟩ hv => ?_)⟩
  exact ⟨by rw [hv]; exact le1000 hl, mkT_ok S1 rx h1⟩

/-! ### operators -/
theorem re_bin {op : Operator} {r : R2} {g : Va → Va → Sto → Rs Va} (ho : OpR X (binaryOp op) r) (hg : Op2 X.K r g) (ha : RE X CL W a da) (hb : RE X CL W b db) : RE X CL W (.BinOp a op b pos) (dBin g da db) :=
  pe_weak (pe_op ho ha hb) fun _ _ _ h => tD_bin hg h
theorem re_un {op : UnaryOp} {r : V → Hp → VK → Prop} {g : Va → Sto → Rs Va} (ho : UnR X (unaryOp op) r) (hg : Op1 X.K r g) (ha : RE X CL W a da) : RE X CL W (.UnaryOp op a pos) (dUn g da) :=
  pe_weak (pe_un ho ha) fun _ _ _ h => tD_un hg h
theorem re_cmp {op : CmpOp} {r : R2} {g : Va → Va → Sto → Rs Va} (ho : OpR X (compareOp op) r) (hg : Op2 X.K r g) (ha : RE X CL W a da) (hb : RE X CL W b db) (hm : behindInMarks op b = false := by rfl) : RE X CL W (.Compare a [op] [b] pos) (dBin g da db) :=
  pe_weak (pe_cmpR ho ha hb hm) fun _ _ _ h => tD_bin hg h
theorem re_ix {r : R2} {g : Va → Va → Sto → Rs Va} (ho : IxR X r) (hg : Op2 X.K r g) (ha : RE X CL W a da) (hb : RE X CL W b db) (hp : PlainIx b := by exact fun _ _ => rfl) : RE X CL W (.Subscript a b pos) (dBin g da db) :=
  pe_weak (pe_ix ho ha hb hp) fun _ _ _ h => tD_bin hg h
end

/-! #### arithmetic -/
def gInt2 (C : Int → Int → Prop) [∀ i j, Decidable (C i j)] (f : Int → Int → Va) : Va → Va → Sto → Rs Va
  | .int i, .int j, s => if C i j then .ok (f i j) s else .bad
  | _, _, _ => .bad
section
variable {K : PySem.W.Frag}
theorem op2_I {C : Int → Int → Prop} [∀ i j, Decidable (C i j)] {f : Int → Int → Int} : Op2 K (rI C fun i j => .int (f i j)) (gInt2 C fun i j => .int (f i j)) := by
  intro CL W F G as s H x y v u Q S rx ry q
  unfold gInt2 at q
  split at q
  · rename_i i j s0
    cases rx
    cases ry
    split at q
    · rename_i hc
      exact ⟨_, _, rfl, rfl, hc, q.ok Le.refl S (.int _)⟩
    · exact q.elim
  · exact q.elim
theorem op2_I0 {f : Int → Int → Int} : Op2 K (rI0 fun i j => .int (f i j)) (gInt2 (fun _ _ => True) fun i j => .int (f i j)) := by
  intro CL W F G as s H x y v u Q S rx ry q
  unfold gInt2 at q
  split at q
  · rename_i i j s0
    cases rx
    cases ry
    exact ⟨_, _, rfl, rfl, Pst.okv (by simpa using q) S (.int _)⟩
  · exact q.elim
theorem op2_B0 {f : Int → Int → Bool} : Op2 K (rI0 fun i j => .bl (f i j)) (gInt2 (fun _ _ => True) fun i j => .bl (f i j)) := by
  intro CL W F G as s H x y v u Q S rx ry q
  unfold gInt2 at q
  split at q
  · rename_i i j s0
    cases rx
    cases ry
    exact ⟨_, _, rfl, rfl, Pst.okv (by simpa using q) S (.bl _)⟩
  · exact q.elim
end
noncomputable instance : ∀ i j, Decidable (CMul i j) := fun _ _ => Classical.propDecidable _
noncomputable instance : ∀ i j, Decidable (CDiv i j) := fun _ _ => Classical.propDecidable _
noncomputable instance : ∀ i j, Decidable (CPow i j) := fun _ _ => Classical.propDecidable _
noncomputable instance : ∀ i j, Decidable (CMulW i j) := fun _ _ => Classical.propDecidable _
def szOk (i : Int) (n : Nat) : Prop := -(2 ^ 63) ≤ i ∧ i < 2 ^ 63 ∧ n * i.toNat ≤ sizeLine
noncomputable instance : ∀ i n, Decidable (szOk i n) := fun _ _ => Classical.propDecidable _
/-- + of ints, texts, tuples, lists -/
noncomputable def gAdd (bx : Bool) (x y : Va) (s : Sto) : Rs Va := match x, y with
  | .int i, .int j => .ok (.int (i + j)) s
  | .str a, .str b => if leq (a.length + b.length) sizeLine then .ok (.str (a ++ b)) s else .bad
  | .tup xs, .tup ys => if leq (xs.length + ys.length) sizeLine then .ok (.tup (xs ++ ys)) s else .bad
  | x, y => match seqL x s, seqL y s with
    | some xs, some ys => if leq (xs.length + ys.length) sizeLine then mkL bx (xs ++ ys) s else .bad
    | _, _ => .bad
def rAddA (K : PySem.W.Frag) : R2 := fun x y H Q => (rI0 fun i j => .int (i + j)) x y H Q ∨ (∃ i j, x = .str i ∧ y = .str j ∧ i.length + j.length ≤ sizeLine ∧ Q (.str (i ++ j)) H) ∨ rCatA K x y H Q ∨ rCat x y H Q
theorem op_addA {X : Cx} : OpR X (binaryOp .Add) (rAddA X.K) := op_add.or (op_add_str.or (op_catA.or op_cat))
theorem op2_add {K : PySem.W.Frag} {bx : Bool} : Op2 K (rAddA K) (gAdd bx) := by
  intro CL W F G as s H x y v u Q S rx ry q
  unfold gAdd at q
  split at q
  · cases rx
    cases ry
    exact .inl ⟨_, _, rfl, rfl, q.ok Le.refl S (.int _)⟩
  · cases rx
    cases ry
    split at q
    · rename_i hc
      exact .inr (.inl ⟨_, _, rfl, rfl, hc, q.ok Le.refl S (.str _)⟩)
    · exact q.elim
  · rename_i xs ys
    obtain ⟨a, vs, rfl, h2, h3⟩ := seqT_ok S rx (xs := xs) rfl
    obtain ⟨b, us, rfl, h5, h6⟩ := seqT_ok S ry (xs := ys) rfl
    split at q
    · rename_i hc
      refine .inr (.inr (.inl ⟨a, b, vs, us, rfl, rfl, SqT.of h2, SqT.of h5, by rw [← h3.len, ← h6.len]; exact hc, fun e => ?_, fun e1 e2 => ?_, fun _ _ => mkT_ok S (h3.app h6) q⟩))
      · subst e
        cases h3
        exact q.ok Le.refl S ry
      · subst e2
        cases h6
        rw [List.append_nil] at q
        exact q.ok Le.refl S rx
    · exact q.elim
  · split at q
    · rename_i xs ys e1 e2
      obtain ⟨a, vs, rfl, h2, h3⟩ := seqL_ok S rx e1
      obtain ⟨b, us, rfl, h5, h6⟩ := seqL_ok S ry e2
      split at q
      · rename_i hc
        exact .inr (.inr (.inr ⟨a, b, vs, us, rfl, rfl, h2, h5, by rw [← h3.len, ← h6.len]; exact hc, mkL_ok S (h3.app h6) q⟩))
      · exact q.elim
    · exact q.elim
/-- * of ints, of a list and an int -/
noncomputable def gMul (bx : Bool) (x y : Va) (s : Sto) : Rs Va := match x, y with
  | .int i, .int j => if CMul i j ∨ CMulW i j then .ok (.int (i * j)) s else .bad
  | x, .int k => match seqL x s with
    | some xs => if szOk k xs.length then mkL bx (List.replicate k.toNat xs).flatten s else .bad
    | none => .bad
  | _, _ => .bad
def rMulA : R2 := fun x y H Q => (rI CMul fun i j => .int (i * j)) x y H Q ∨ (rI CMulW fun i j => .int (i * j)) x y H Q ∨ rRep x y H Q
theorem op_mulA {X : Cx} : OpR X (binaryOp .Mult) rMulA := op_mul.or (op_mulW.or op_rep)
theorem op2_mul {K : PySem.W.Frag} {bx : Bool} : Op2 K rMulA (gMul bx) := by
  intro CL W F G as s H x y v u Q S rx ry q
  unfold gMul at q
  split at q
  · cases rx
    cases ry
    split at q
    · rename_i hc
      rcases hc with hc | hc
      · exact .inl ⟨_, _, rfl, rfl, hc, q.ok Le.refl S (.int _)⟩
      · exact .inr (.inl ⟨_, _, rfl, rfl, hc, q.ok Le.refl S (.int _)⟩)
    · exact q.elim
  · rename_i k _
    cases ry
    split at q
    · rename_i xs e1
      obtain ⟨a, vs, rfl, h2, h3⟩ := seqL_ok S rx e1
      split at q
      · rename_i hc
        exact .inr (.inr ⟨a, k, vs, rfl, rfl, h2, hc.1, hc.2.1, by rw [← h3.len]; exact hc.2.2, mkL_ok S (h3.rep _) q⟩)
      · exact q.elim
    · exact q.elim
  · exact q.elim
abbrev gSub := gInt2 (fun _ _ => True) fun i j => .int (i - j)
abbrev gMod := gInt2 (fun _ j => 0 < j) fun i j => .int (i % j)
noncomputable abbrev gFdiv := gInt2 CDiv fun i j => .int (i / j)
noncomputable abbrev gPow := gInt2 CPow fun i j => .int (i ^ j.toNat)
section
variable {X : Cx} {CL : Cls0} {W : WX} {e a b c : Expr} {es : List Expr} {pos : Pos} {da db dc : DE} {dr : DA}
theorem re_add (bx : Bool) (ha : RE X CL W a da) (hb : RE X CL W b db) : RE X CL W (.BinOp a .Add b pos) (dBin (gAdd bx) da db) := re_bin op_addA op2_add ha hb
theorem re_sub (ha : RE X CL W a da) (hb : RE X CL W b db) : RE X CL W (.BinOp a .Sub b pos) (dBin gSub da db) := re_bin op_sub op2_I0 ha hb
theorem re_mul (bx : Bool) (ha : RE X CL W a da) (hb : RE X CL W b db) : RE X CL W (.BinOp a .Mult b pos) (dBin (gMul bx) da db) := re_bin op_mulA op2_mul ha hb
theorem re_mod (ha : RE X CL W a da) (hb : RE X CL W b db) : RE X CL W (.BinOp a .Mod b pos) (dBin gMod da db) := re_bin op_mod op2_I ha hb
theorem re_fdiv (ha : RE X CL W a da) (hb : RE X CL W b db) : RE X CL W (.BinOp a .FloorDiv b pos) (dBin gFdiv da db) := re_bin op_fdiv op2_I ha hb
theorem re_pow (ha : RE X CL W a da) (hb : RE X CL W b db) : RE X CL W (.BinOp a .Pow b pos) (dBin gPow da db) := re_bin op_pow op2_I ha hb
def gNeg : Va → Sto → Rs Va
  | .int i, s => .ok (.int (-i)) s
  | _, _ => .bad
theorem op1_neg {K : PySem.W.Frag} : Op1 K (rU fun i => .int (-i)) gNeg := by
  intro CL W F G as s H x v Q S rx q
  unfold gNeg at q
  split at q
  · cases rx
    exact ⟨_, rfl, q.ok Le.refl S (.int _)⟩
  · exact q.elim
theorem re_neg (ha : RE X CL W a da) : RE X CL W (.UnaryOp .USub a pos) (dUn gNeg da) := re_un un_neg op1_neg ha
end

/-! #### data, for == -/
mutual
def toPy : Va → Option PyData
  | .non => some .none
  | .bl b => some (.bool b)
  | .int i => some (.int i)
  | .str x => some (.str x)
  | .tup xs => (toPys xs).map .tuple
  | .lst xs => (toPys xs).map .list
  | .ext _ => none
  | .dicK _ => none
  | .dicT _ => none
  | .ref _ => none
def toPys : List Va → Option (List PyData)
  | [] => some []
  | x :: xs => match toPy x, toPys xs with
    | some d, some ds => some (d :: ds)
    | _, _ => none
end
def toPyS (x : Va) (s : Sto) : Option PyData := match x with
  | .ref i => match s[i]? with
    | some (.lst xs) => (toPys xs).map .list
    | _ => none
  | x => toPy x
section
variable {K : PySem.W.Frag} {F H G : Hp} {as : List Addr} {s : Sto}
mutual
theorem toPy_dp (sub : ∀ a o, F a = some o → H a = some o) : ∀ {x : Va} {v : V} {d : PyData}, Rl K F as x v → toPy x = some d → Dp K H v d
  | _, _, _, .non, h => by
    simp only [toPy, Option.some.injEq] at h
    subst h
    exact .non
  | _, _, _, .bl b, h => by
    simp only [toPy, Option.some.injEq] at h
    subst h
    exact .bl b
  | _, _, _, .int i, h => by
    simp only [toPy, Option.some.injEq] at h
    subst h
    exact .int i
  | _, _, _, .str x, h => by
    simp only [toPy, Option.some.injEq] at h
    subst h
    exact .str x
  | _, _, _, .tup (xs := xs) hf hr, h => by
    simp only [toPy] at h
    cases e : toPys xs with
    | none =>
      rw [e] at h
      cases h
    | some ds =>
      rw [e] at h
      cases h
      exact .tup (SqT.of (sub _ _ hf)) (toPys_dp sub hr e)
  | _, _, _, .lst (xs := xs) hf hr, h => by
    simp only [toPy] at h
    cases e : toPys xs with
    | none =>
      rw [e] at h
      cases h
    | some ds =>
      rw [e] at h
      cases h
      exact .lst (SqL.of (sub _ _ hf)) (toPys_dp sub hr e)
  | _, _, _, .ext _ _, h => by simp [toPy] at h
  | _, _, _, .dicK _ _, h => by simp [toPy] at h
  | _, _, _, .dicT _ _, h => by simp [toPy] at h
  | _, _, _, .ref _, h => by simp [toPy] at h
theorem toPys_dp (sub : ∀ a o, F a = some o → H a = some o) : ∀ {xs : List Va} {vs : List V} {ds : List PyData}, Rls K F as xs vs → toPys xs = some ds → DpAll K H vs ds
  | _, _, _, .nil, h => by
    simp only [toPys, Option.some.injEq] at h
    subst h
    exact .nil
  | _, _, _, .cons (x := x) (xs := xs) h1 h2, h => by
    simp only [toPys] at h
    split at h
    · rename_i d ds e1 e2
      cases h
      exact .cons (toPy_dp sub h1 e1) (toPys_dp sub h2 e2)
    · cases h
end
theorem toPyS_dp {x : Va} {v : V} {d : PyData} (S : Sim K F G as s H) (r : Rl K F as x v) (h : toPyS x s = some d) : Dp K H v d := by
  unfold toPyS at h
  split at h
  · rename_i i
    cases r with
    | ref ha =>
      split at h
      · rename_i xs e
        obtain ⟨_, vs, h1, h2⟩ := S.ref ha e
        cases e2 : toPys xs with
        | none =>
          rw [e2] at h
          cases h
        | some ds =>
          rw [e2] at h
          cases h
          exact .lst (SqL.of h1) (toPys_dp S.sub h2 e2)
      · cases h
  · exact toPy_dp S.sub r h
end
def scalA : Va → Va → Bool
  | .non, .non => true | .non, .int _ => true | .int _, .non => true | .non, .bl _ => true | .bl _, .non => true | .non, .str _ => true | .str _, .non => true
  | .int _, .int _ => true | .bl _, .bl _ => true | .str _, .str _ => true
  | .int _, .str _ => true | .str _, .int _ => true | .bl _, .str _ => true | .str _, .bl _ => true
  | _, _ => false
/-- == of two scalars -/
def eqA : Va → Va → Bool
  | .non, .non => true
  | .int i, .int j => decide (i = j)
  | .bl i, .bl j => decide (i = j)
  | .str i, .str j => decide (i = j)
  | _, _ => false
def shp (d : PyData) : Prop := SeqAt.shaped d = true
noncomputable instance (d : PyData) : Decidable (shp d) := Classical.propDecidable _
noncomputable def gEq (neg : Bool) (x y : Va) (s : Sto) : Rs Va :=
  if scalA x y then .ok (.bl (neg != eqA x y)) s else
  match toPyS x s, toPyS y s with
  | some d, some e => if shp d ∧ shp e then .ok (.bl (neg != PyData.eqv d e)) s else .bad
  | _, _ => .bad
section
variable {K : PySem.W.Frag} {F H G : Hp} {as : List Addr} {x y : Va} {v u : V}
theorem scalA_ok (rx : Rl K F as x v) (ry : Rl K F as y u) (h : scalA x y = true) : scal v u = true ∧ decide (v = u) = eqA x y := by
  cases rx <;> cases ry <;> simp [scalA, scal, eqA] at h ⊢
end
theorem op2_eq {K : PySem.W.Frag} : Op2 K (fun x y H Q => rEq x y H Q ∨ rEqD K x y H Q) (gEq false) := by
  intro CL W F G as s H x y v u Q S rx ry q
  unfold gEq at q
  split at q
  · rename_i h
    obtain ⟨h1, h2⟩ := scalA_ok rx ry h
    refine .inl ⟨h1, ?_⟩
    rw [h2]
    exact Pst.okv (by simpa using q) S (.bl _)
  · split at q
    · rename_i d e h1 h2
      split at q
      · rename_i hc
        exact .inr ⟨d, e, toPyS_dp S rx h1, toPyS_dp S ry h2, hc.1, hc.2, Pst.okv (by simpa using q) S (.bl _)⟩
      · exact q.elim
    · exact q.elim
theorem op2_ne {K : PySem.W.Frag} : Op2 K (fun x y H Q => rNe x y H Q ∨ rNeD K x y H Q) (gEq true) := by
  intro CL W F G as s H x y v u Q S rx ry q
  unfold gEq at q
  split at q
  · rename_i h
    obtain ⟨h1, h2⟩ := scalA_ok rx ry h
    refine .inl ⟨h1, ?_⟩
    rw [h2]
    exact Pst.okv (by simpa using q) S (.bl _)
  · split at q
    · rename_i d e h1 h2
      split at q
      · rename_i hc
        exact .inr ⟨d, e, toPyS_dp S rx h1, toPyS_dp S ry h2, hc.1, hc.2, Pst.okv (by simpa using q) S (.bl _)⟩
      · exact q.elim
    · exact q.elim
/-- is, is not: None and bools -/
def gIs (neg : Bool) (x y : Va) (s : Sto) : Rs Va := match x, y with
  | .bl a, .bl b => .ok (.bl (neg != decide (a = b))) s
  | .non, .non => .ok (.bl (neg != true)) s
  | _, .non => .ok (.bl neg) s
  | _, _ => .bad
theorem op2_is {K : PySem.W.Frag} : Op2 K (fun x y H Q => (y = .non ∧ Q (.bl (decide (x = .non))) H) ∨ rIsB x y H Q) (gIs false) := by
  intro CL W F G as s H x y v u Q S rx ry q
  unfold gIs at q
  split at q
  · cases rx
    cases ry
    exact .inr ⟨_, _, rfl, rfl, Pst.okv (by simpa using q) S (.bl _)⟩
  · cases rx
    cases ry
    exact .inl ⟨rfl, q.ok Le.refl S (.bl _)⟩
  · rename_i h
    cases ry
    refine .inl ⟨rfl, ?_⟩
    rw [decide_eq_false (show ¬ v = .non by intro e; subst e; cases rx; exact h rfl)]
    exact q.ok Le.refl S (.bl _)
  · exact q.elim
section
variable {X : Cx} {CL : Cls0} {W : WX} {e a b c : Expr} {es : List Expr} {pos : Pos} {da db dc : DE} {dr : DA}
theorem op_eqA (hu : X.A.units + 64 < cLine) : OpR X (compareOp .Eq) (fun x y H Q => rEq x y H Q ∨ rEqD X.K x y H Q) := op_eq.or (op_eqD hu)
theorem op_neA (hu : X.A.units + 64 < cLine) : OpR X (compareOp .NotEq) (fun x y H Q => rNe x y H Q ∨ rNeD X.K x y H Q) := op_ne.or (op_neD hu)
theorem op_isA : OpR X (compareOp .Is) (fun x y H Q => (y = .non ∧ Q (.bl (decide (x = .non))) H) ∨ rIsB x y H Q) := op_isN.or op_isBl
end
abbrev gLt := gInt2 (fun _ _ => True) fun i j => .bl (decide (i < j))
abbrev gLe := gInt2 (fun _ _ => True) fun i j => .bl (decide (i ≤ j))
abbrev gGt := gInt2 (fun _ _ => True) fun i j => .bl (decide (j < i))
abbrev gGe := gInt2 (fun _ _ => True) fun i j => .bl (decide (j ≤ i))
end Dn

set_option Elab.async false
set_option linter.all false
set_option maxRecDepth 100000
set_option maxHeartbeats 1000000
/-! Dn, part C: dicts read, in, tests, subscripts, slices, built-in calls. -/
namespace Dn
open PySem PySem.Spec PyProof.Rows L2

/-! ### dicts, read -/
def lk {κ α : Type} [DecidableEq κ] (kvs : List (κ × α)) (k : κ) : Option α := (kvs.find? fun kv => decide (kv.1 = k)).map (·.2)
def pt {κ α : Type} [DecidableEq κ] (kvs : List (κ × α)) (k : κ) (v : α) : List (κ × α) :=
  if (kvs.any fun kv => decide (kv.1 = k)) = true then kvs.map (fun kv => if kv.1 = k then (kv.1, v) else kv) else kvs ++ [(k, v)]
def kOf : Va → Option Key
  | .int i => some (.inl i)
  | .str x => some (.inr x)
  | _ => none
def ksOf : List Va → Option (List Key)
  | [] => some []
  | x :: xs => match kOf x, ksOf xs with
    | some k, some ks => some (k :: ks)
    | _, _ => none
def kVa : Key → Va
  | .inl i => .int i
  | .inr x => .str x
def dicK? : Va → Sto → Option (List (Key × Va))
  | .dicK kvs, _ => some kvs
  | .ref i, s => match s[i]? with | some (.dicK kvs) => some kvs | _ => none
  | _, _ => none
/-- .. a locked one, too -/
def dicKr? : Va → Sto → Option (List (Key × Va))
  | .dicK kvs, _ => some kvs
  | .ref i, s => match s[i]? with | some (.dicK kvs) => some kvs | some (.fdK _ _ kvs) => some kvs | _ => none
  | _, _ => none
def dicTr? : Va → Sto → Option (List (List Key × Va))
  | .dicT kvs, _ => some kvs
  | .ref i, s => match s[i]? with | some (.dicT kvs) => some kvs | some (.fdT _ _ kvs) => some kvs | _ => none
  | _, _ => none
/-- d[y], if it is there -/
def gLook (x y : Va) (s : Sto) : Option (Option Va) := match dicKr? x s with
  | some kvs => (kOf y).map (lk kvs)
  | none => match dicTr? x s with
    | some kvs => match y with | .tup ys => (ksOf ys).map (lk kvs) | _ => none
    | none => none
section
variable {K : PySem.W.Frag} {CL : Cls0} {W : Value → Option Addr → Hp → Prop} {F F' H G : Hp} {as as' : List Addr} {s : Sto} {x y : Va} {v u : V}
theorem kOf_ok {k : Key} (r : Rl K F as x v) (h : kOf x = some k) : v = kV k := by
  cases r <;> simp [kOf] at h <;> subst h <;> rfl
theorem ksOf_ok : ∀ {xs : List Va} {vs : List V} {ks : List Key}, Rls K F as xs vs → ksOf xs = some ks → vs = ks.map kV
  | _, _, _, .nil, h => by
    simp only [ksOf, Option.some.injEq] at h
    subst h
    rfl
  | _, _, _, .cons h1 h2, h => by
    simp only [ksOf] at h
    split at h
    · rename_i k ks e1 e2
      cases h
      rw [List.map_cons, ksOf_ok h2 e2, kOf_ok h1 e1]
    · cases h
theorem RlK.lk : ∀ {kvs : List (Key × Va)} {ks : List (Key × V)} (k : Key), RlK K F as kvs ks → (∃ x v, Dn.lk kvs k = some x ∧ valV ks k = some v ∧ Rl K F as x v) ∨ (Dn.lk kvs k = none ∧ valV ks k = none)
  | _, _, k, .nil => .inr ⟨rfl, rfl⟩
  | _, _, k, .cons (k := j) (xs := xs) (vs := vs) h r => by
    unfold Dn.lk valV
    rw [List.find?_cons, List.find?_cons]
    by_cases e : j = k
    · rw [decide_eq_true e]
      exact .inl ⟨_, _, rfl, rfl, h⟩
    · rw [decide_eq_false e]
      exact RlK.lk k r
theorem RlT.lk : ∀ {kvs : List (List Key × Va)} {ks : List (List Key × V)} (k : List Key), RlT K F as kvs ks → (∃ x v, Dn.lk kvs k = some x ∧ valV ks k = some v ∧ Rl K F as x v) ∨ (Dn.lk kvs k = none ∧ valV ks k = none)
  | _, _, k, .nil => .inr ⟨rfl, rfl⟩
  | _, _, k, .cons (k := j) (xs := xs) (vs := vs) h r => by
    unfold Dn.lk valV
    rw [List.find?_cons, List.find?_cons]
    by_cases e : j = k
    · rw [decide_eq_true e]
      exact .inl ⟨_, _, rfl, rfl, h⟩
    · rw [decide_eq_false e]
      exact RlT.lk k r
theorem dicK_ok {kvs : List (Key × Va)} (S : Sim K F G as s H) (r : Rl K F as x v) (h : dicK? x s = some kvs) : ∃ a ks, v = .ref a ∧ H a = some (.dK ks) ∧ RlK K F as kvs ks := by
  cases x with
  | dicK ys =>
    cases r with
    | dicK hf hr =>
      simp only [dicK?, Option.some.injEq] at h
      subst h
      exact ⟨_, _, rfl, S.sub _ _ hf, hr⟩
  | ref i =>
    cases r with
    | ref ha =>
      simp only [dicK?] at h
      split at h
      · rename_i ys e
        cases h
        obtain ⟨_, vs, h1, h2⟩ := S.ref ha e
        exact ⟨_, vs, rfl, h1, h2⟩
      · cases h
  | _ => simp [dicK?] at h
theorem dicKr_ok {kvs : List (Key × Va)} (S : Sim K F G as s H) (r : Rl K F as x v) (h : dicKr? x s = some kvs) : ∃ a ks, v = .ref a ∧ Rd H a (.dK ks) ∧ RlK K F as kvs ks := by
  cases x with
  | dicK ys =>
    cases r with
    | dicK hf hr =>
      simp only [dicKr?, Option.some.injEq] at h
      subst h
      exact ⟨_, _, rfl, .inl (S.sub _ _ hf), hr⟩
  | ref i =>
    cases r with
    | ref ha =>
      simp only [dicKr?] at h
      split at h
      · rename_i ys e
        cases h
        obtain ⟨_, vs, h1, h2⟩ := S.ref ha e
        exact ⟨_, vs, rfl, .inl h1, h2⟩
      · rename_i e
        cases h
        obtain ⟨_, h1, h2⟩ := S.ref ha e
        exact ⟨_, _, rfl, .inr ⟨_, h1⟩, h2⟩
      · cases h
  | _ => simp [dicKr?] at h
theorem dicTr_ok {kvs : List (List Key × Va)} (S : Sim K F G as s H) (r : Rl K F as x v) (h : dicTr? x s = some kvs) : ∃ a ks, v = .ref a ∧ Rd H a (.dT ks) ∧ RlT K F as kvs ks := by
  cases x with
  | dicT ys =>
    cases r with
    | dicT hf hr =>
      simp only [dicTr?, Option.some.injEq] at h
      subst h
      exact ⟨_, _, rfl, .inl (S.sub _ _ hf), hr⟩
  | ref i =>
    cases r with
    | ref ha =>
      simp only [dicTr?] at h
      split at h
      · rename_i ys e
        cases h
        obtain ⟨_, vs, h1, h2⟩ := S.ref ha e
        exact ⟨_, vs, rfl, .inl h1, h2⟩
      · rename_i e
        cases h
        obtain ⟨_, h1, h2⟩ := S.ref ha e
        exact ⟨_, _, rfl, .inr ⟨_, h1⟩, h2⟩
      · cases h
  | _ => simp [dicTr?] at h
theorem gLook_ok {o : Option Va} (S : Sim K F G as s H) (rx : Rl K F as x v) (ry : Rl K F as y u) (h : gLook x y s = some o) : ∃ a o', v = .ref a ∧ DGet H a u o' ∧ ((∃ z w, o = some z ∧ o' = some w ∧ Rl K F as z w) ∨ (o = none ∧ o' = none)) := by
  unfold gLook at h
  split at h
  · rename_i kvs e
    obtain ⟨a, ks, rfl, h1, h2⟩ := dicKr_ok S rx e
    cases e2 : kOf y with
    | none =>
      rw [e2] at h
      cases h
    | some k =>
      rw [e2] at h
      cases h
      refine ⟨a, valV ks k, rfl, by rw [kOf_ok ry e2]; exact .inl ⟨ks, k, h1, rfl, rfl⟩, ?_⟩
      rcases h2.lk k with ⟨z, w, q1, q2, q3⟩ | ⟨q1, q2⟩
      · exact .inl ⟨z, w, q1, q2, q3⟩
      · exact .inr ⟨q1, q2⟩
  · split at h
    · rename_i kvs e
      obtain ⟨a, ks, rfl, h1, h2⟩ := dicTr_ok S rx e
      split at h
      · rename_i ys
        obtain ⟨b, us, rfl, h3, h4⟩ := seqT_ok S ry (xs := ys) rfl
        cases e2 : ksOf ys with
        | none =>
          rw [e2] at h
          cases h
        | some k =>
          rw [e2] at h
          cases h
          refine ⟨a, valV ks k, rfl, .inr ⟨ks, k, b, h1, rfl, by rw [h3, ksOf_ok h4 e2], rfl⟩, ?_⟩
          rcases h2.lk k with ⟨z, w, q1, q2, q3⟩ | ⟨q1, q2⟩
          · exact .inl ⟨z, w, q1, q2, q3⟩
          · exact .inr ⟨q1, q2⟩
      · cases h
    · cases h
end
section
variable {X : Cx}
theorem ix_dict (hu : X.A.units + 64 < cLine) : IxR X (fun x y H Q => ∃ a v, x = .ref a ∧ DGet H a y (some v) ∧ Q v H) := by
  intro value slice pins s σ H x y v u Q I rx ry h hs
  obtain ⟨a, w, rfl, g, q⟩ := h
  cases rx
  have hT := dict_typeIs I g
  unfold subscriptTail
  refine wpAny_bind ?_
  rw [getitemInPython_of_ne hT.not_modules]
  refine wpAny_bind (wpAny_specialOf hT PySem.F.slot_dict_getitem.lookup ?_)
  have fin : wpAny (model X.prog X.w) X.A (subscripted slice false (.ref a) u) (fun r s₃ => wpAny (model X.prog X.w) X.A (letTemporaryGo value (.ref a) r >>= fun _ => pure r) (EP X pins σ Q) X.xe s₃) X.xe s := by
    rw [hs]
    exact wpAny_operating (wpAny_mono (d_getItem (Q := EP X pins σ Q) (by omega) I g ry fun w' s3 I3 rw' => ⟨w, H, I3, rw', q⟩) (fun r s₃ h₃ => wpAny_bind (wpAny_letTemporaryGo (wpAny_pure h₃))) fun _ _ x => x)
  first
    | exact wpAny_pure (wpAny_bind fin)
    | exact wpAny_bind (wpAny_pure (wpAny_bind fin))
    | exact wpAny_bind fin
theorem op_in_dict (hu : X.A.units + 64 < cLine) : OpR X (compareOp .In) (fun y x H Q => ∃ a o, x = .ref a ∧ DGet H a y o ∧ Q (.bl o.isSome) H) := by
  intro pins s σ H y x iv u Q I ry rx h
  obtain ⟨a, o, rfl, g, q⟩ := h
  cases rx
  exact d_in (by omega) I g ry fun s3 I3 => ⟨.bl o.isSome, H, I3, rfl, q⟩
end

/-! ### in, not in -/
def flatA : Va → Bool
  | .non => true | .bl _ => true | .int _ => true | .str _ => true | _ => false
def eqFA : Va → Va → Bool
  | .non, .non => true
  | .bl a, .bl b => a == b
  | .bl a, .int b => (if a then 1 else 0) == b
  | .int a, .bl b => a == (if b then 1 else 0)
  | .int a, .int b => a == b
  | .str a, .str b => a == b
  | _, _ => false
theorem one_sign {w : Str} {c : Nat} (h : w.cps.toList = [c]) : w = ⟨#[c]⟩ := by
  obtain ⟨⟨ls⟩⟩ := w
  have e : ls = [c] := h
  subst e
  rfl
def inA (x : Va) (xs : List Va) : Bool := xs.any fun y => eqFA y x
noncomputable def gIn (neg : Bool) (x y : Va) (s : Sto) : Rs Va := match y with
  | .str z => match x with
    | .str w => match w.cps.toList with
      | [c] => .ok (.bl (neg != decide (c ∈ z.cps.toList))) s
      | _ => .bad
    | _ => .bad
  | y => match gLook y x s with
    | some o => .ok (.bl (neg != o.isSome)) s
    | none => match seqA y s with
      | none => .bad
      | some xs => if flatA x = true ∧ xs.all flatA = true then .ok (.bl (neg != inA x xs)) s else
        match toPyS x s, toPyS y s with
        | some d, some (.list ds) => if shp d ∧ shp (.list ds) then .ok (.bl (neg != ds.any fun z => PyData.eqv z d)) s else .bad
        | _, _ => .bad
section
variable {K : PySem.W.Frag} {CL : Cls0} {W : Value → Option Addr → Hp → Prop} {F F' H G : Hp} {as as' : List Addr} {s : Sto} {x y : Va} {v u : V}
theorem flatA_ok (r : Rl K F as x v) (h : flatA x = true) : flatV v = true := by
  cases r <;> first | rfl | simp [flatA] at h
theorem flatA_all : ∀ {xs : List Va} {vs : List V}, Rls K F as xs vs → xs.all flatA = true → vs.all flatV = true
  | _, _, .nil, _ => rfl
  | _, _, .cons h r, q => by
    rw [List.all_cons, Bool.and_eq_true] at q ⊢
    exact ⟨flatA_ok h q.1, flatA_all r q.2⟩
theorem eqFA_ok (rx : Rl K F as x v) (ry : Rl K F as y u) (hx : flatA x = true) (hy : flatA y = true) : eqV v u = eqFA x y := by
  cases rx <;> first | (exfalso; simp [flatA] at hx; done) | (cases ry <;> first | rfl | (exfalso; simp [flatA] at hy; done))
theorem inA_ok (rx : Rl K F as x v) (hx : flatA x = true) : ∀ {xs : List Va} {vs : List V}, Rls K F as xs vs → xs.all flatA = true → inV v vs = inA x xs
  | _, _, .nil, _ => rfl
  | _, _, .cons h r, q => by
    rw [List.all_cons, Bool.and_eq_true] at q
    have ih := inA_ok rx hx r q.2
    unfold inV inA at ih ⊢
    rw [List.any_cons, List.any_cons, ih, eqFA_ok h rx q.1 hx]
end
def rInA (K : PySem.W.Frag) : R2 := fun x y H Q => (∃ (c : Nat) (z : Str), x = .str ⟨#[c]⟩ ∧ y = .str z ∧ Q (.bl (decide (c ∈ z.cps.toList))) H) ∨ (∃ a o, y = .ref a ∧ DGet H a x o ∧ Q (.bl o.isSome) H) ∨ rIn K false x y H Q ∨ rInD K x y H Q
theorem op_inA {X : Cx} (hu : X.A.units + 65 < cLine) : OpR X (compareOp .In) (rInA X.K) := op_in_sign.or ((op_in_dict (by omega)).or (op_in_seq.or (op_inD hu)))
theorem op2_in {K : PySem.W.Frag} : Op2 K (rInA K) (gIn false) := by
  intro CL W F G as s H x y v u Q S rx ry q
  unfold gIn at q
  split at q
  · cases ry
    split at q
    · cases rx
      split at q
      · rename_i e
        exact .inl ⟨_, _, congrArg V.str (one_sign e), rfl, Pst.okv (by simpa using q) S (.bl _)⟩
      · exact q.elim
    · exact q.elim
  · split at q
    · rename_i o e
      obtain ⟨a, o', rfl, g, h⟩ := gLook_ok S ry rx e
      refine .inr (.inl ⟨a, o', rfl, g, ?_⟩)
      rcases h with ⟨z, w, rfl, rfl, _⟩ | ⟨rfl, rfl⟩
      · exact Pst.okv (by simpa using q) S (.bl _)
      · exact Pst.okv (by simpa using q) S (.bl _)
    · split at q
      · exact q.elim
      · rename_i xs e
        obtain ⟨a, vs, rfl, h2, h3⟩ := seqA_ok S ry e
        split at q
        · rename_i hc
          refine .inr (.inr (.inl ⟨a, vs, rfl, h2, flatA_ok rx hc.1, flatA_all h3 hc.2, ?_⟩))
          rw [inA_ok rx hc.1 h3 hc.2]
          exact Pst.okv (by simpa using q) S (.bl _)
        · split at q
          · rename_i d ds e1 e2
            split at q
            · rename_i hc
              exact .inr (.inr (.inr ⟨d, ds, toPyS_dp S rx e1, toPyS_dp S ry e2, hc.1, hc.2, Pst.okv (by simpa using q) S (.bl _)⟩))
            · exact q.elim
          · exact q.elim
/-! ### subscripts -/
noncomputable def gIx (x y : Va) (s : Sto) : Rs Va := match seqA x s, y with
  | some xs, .int i => match atI xs i with
    | some z => .ok z s
    | none => .bad
  | some _, _ => .bad
  | none, y => match x, y with
    | .str z, .int i => if leq z.length sizeLine then match atI z.cps.toList i with
      | some c => .ok (.str ⟨#[c]⟩) s
      | none => .bad else .bad
    | x, y => match gLook x y s with
      | some (some z) => .ok z s
      | _ => .bad
def rIxA (K : PySem.W.Frag) : R2 := fun x y H Q => rIx K x y H Q ∨ ∃ a v, x = .ref a ∧ DGet H a y (some v) ∧ Q v H
theorem ix_any {X : Cx} (hu : X.A.units + 64 < cLine) : IxR X (rIxA X.K) := ix_seq.or (ix_dict hu)
theorem atI_rl {K : PySem.W.Frag} {F : Hp} {as : List Addr} {xs : List Va} {vs : List V} {i : Int} {z : Va} (r : Rls K F as xs vs) (h : atI xs i = some z) : ∃ w, atI vs i = some w ∧ Rl K F as z w := by
  unfold atI at h ⊢
  rw [r.len] at h
  cases e : ixN vs.length i with
  | none =>
    rw [e] at h
    cases h
  | some j =>
    rw [e] at h
    exact r.get h
theorem op2_ix {K : PySem.W.Frag} : Op2 K (rIxA K) gIx := by
  intro CL W F G as s H x y v u Q S rx ry q
  unfold gIx at q
  split at q
  · rename_i xs i e
    obtain ⟨a, vs, rfl, h2, h3⟩ := seqA_ok S rx e
    cases ry
    split at q
    · rename_i z e2
      obtain ⟨w, h4, h5⟩ := atI_rl h3 e2
      rcases h2 with h2 | h2
      · exact .inl (.inl ⟨a, vs, i, w, rfl, rfl, h2, h4, q.okv S h5⟩)
      · exact .inl (.inr (.inl ⟨a, vs, i, w, rfl, rfl, h2, h4, q.okv S h5⟩))
    · exact q.elim
  · exact q.elim
  · split at q
    · cases rx
      cases ry
      split at q
      · rename_i hc
        split at q
        · rename_i c e2
          exact .inl (.inr (.inr ⟨_, _, c, rfl, rfl, hc, e2, q.okv S (.str _)⟩))
        · exact q.elim
      · exact q.elim
    · split at q
      · rename_i z e
        obtain ⟨a, o', rfl, g, h⟩ := gLook_ok S rx ry e
        rcases h with ⟨z', w, e1, rfl, h3⟩ | ⟨e1, _⟩
        · cases e1
          exact .inr ⟨a, w, rfl, g, q.okv S h3⟩
        · cases e1
      · exact q.elim

/-! ### slices -/
abbrev DO := En → Sto → Rs (Option Int)
def dNo : DO := fun _ s => .ok none s
def dSome (d : DE) : DO := fun ε s => (d ε s).bind fun x s1 => match x with | .int i => .ok (some i) s1 | _ => .bad
def cutA (xs : List Va) (lo hi : Option Int) : List Va := (xs.drop (HT.sIx xs.length 0 lo)).take (HT.sIx xs.length xs.length hi - HT.sIx xs.length 0 lo)
noncomputable def gSl (bx : Bool) (x : Va) (lo hi : Option Int) (s : Sto) : Rs Va := match x with
  | .tup xs => .ok (.tup (cutA xs lo hi)) s
  | .str z => if leq z.length sizeLine then .ok (.str (cutS z lo hi)) s else .bad
  | x => match seqL x s with
    | some xs => mkL bx (cutA xs lo hi) s
    | none => .bad
noncomputable def dSl (bx : Bool) (da : DE) (dl dh : DO) : DE := fun ε s => (da ε s).bind fun x s1 => (dl ε s1).bind fun l s2 => (dh ε s2).bind fun h s3 => gSl bx x l h s3
section
variable {X : Cx} {CL : Cls0} {W : WX} {e a b c : Expr} {es rest : List Expr} {pos : Pos} {da db dc : DE} {dr : DA} {dl dh : DO} {lo hi : Option Expr} {ta tb tc : DT}
/-! ### comparisons -/
theorem re_eq (hu : X.A.units + 65 < cLine) (ha : RE X CL W a da) (hb : RE X CL W b db) (hm : behindInMarks .Eq b = false := by rfl) : RE X CL W (.Compare a [.Eq] [b] pos) (dBin (gEq false) da db) := re_cmp (op_eqA (by omega)) op2_eq ha hb hm
theorem re_is (ha : RE X CL W a da) (hb : RE X CL W b db) (hm : behindInMarks .Is b = false := by rfl) : RE X CL W (.Compare a [.Is] [b] pos) (dBin (gIs false) da db) := re_cmp op_isA op2_is ha hb hm
theorem re_le (ha : RE X CL W a da) (hb : RE X CL W b db) (hm : behindInMarks .LtE b = false := by rfl) : RE X CL W (.Compare a [.LtE] [b] pos) (dBin gLe da db) := re_cmp op_le op2_B0 ha hb hm
theorem re_ge (ha : RE X CL W a da) (hb : RE X CL W b db) (hm : behindInMarks .GtE b = false := by rfl) : RE X CL W (.Compare a [.GtE] [b] pos) (dBin gGe da db) := re_cmp op_ge op2_B0 ha hb hm
theorem re_sub2 (hu : X.A.units + 65 < cLine) (ha : RE X CL W a da) (hb : RE X CL W b db) (hp : PlainIx b := by exact fun _ _ => rfl) : RE X CL W (.Subscript a b pos) (dBin gIx da db) := re_ix (ix_any (by omega)) op2_ix ha hb hp

/-! ### tests -/
/-- a value that is a bool -/
def dTB (da : DE) : DT := fun ε s => (da ε s).bind fun x s1 => match x with | .bl b => .ok b s1 | _ => .bad
noncomputable def truA (x : Va) (s : Sto) : Option Bool := match x with
  | .non => some false
  | .bl b => some b
  | .int i => some (i != 0)
  | .str y => if leq y.length sizeLine then some ((y.length : Int) != 0) else none
  | x => match seqA x s with
    | some xs => some !xs.isEmpty
    | none => match dicK? x s with
      | some kvs => some !kvs.isEmpty
      | none => none
/-- a value's truth -/
noncomputable def dTr (da : DE) : DT := fun ε s => (da ε s).bind fun x s1 => match truA x s1 with | some b => .ok b s1 | none => .bad
def dAnd (ta tb : DT) : DT := fun ε s => (ta ε s).bind fun b s1 => if b = true then tb ε s1 else .ok false s1
def dOr (ta tb : DT) : DT := fun ε s => (ta ε s).bind fun b s1 => if b = true then .ok true s1 else tb ε s1
def dNot (ta : DT) : DT := fun ε s => (ta ε s).bind fun b s1 => .ok (!b) s1
theorem truA_ok {K : PySem.W.Frag} {F H G : Hp} {as : List Addr} {s : Sto} {x : Va} {v : V} {k : Bool} (S : Sim K F G as s H) (r : Rl K F as x v) (h : truA x s = some k) : TruV K v H k := by
  have seqq : ∀ {xs : List Va} {vs : List V}, Rls K F as xs vs → (!xs.isEmpty) = !vs.isEmpty := fun r => by
    cases r <;> rfl
  have dicq : ∀ {xs : List (Key × Va)} {vs : List (Key × V)}, RlK K F as xs vs → (!xs.isEmpty) = !vs.isEmpty := fun r => by
    cases r <;> rfl
  unfold truA at h
  split at h
  · cases r
    exact (Option.some.inj h).symm
  · cases r
    exact (Option.some.inj h).symm
  · cases r
    exact (Option.some.inj h).symm
  · cases r
    split at h
    · rename_i hc
      exact ⟨hc, (Option.some.inj h).symm⟩
    · cases h
  · split at h
    · rename_i xs e
      cases h
      obtain ⟨a, vs, rfl, h2, h3⟩ := seqA_ok S r e
      rcases h2 with h2 | h2
      · exact .inl ⟨vs, h2, seqq h3⟩
      · exact .inr (.inl ⟨vs, h2, seqq h3⟩)
    · split at h
      · rename_i kvs e
        cases h
        obtain ⟨a, ks, rfl, h2, h3⟩ := dicK_ok S r e
        exact .inr (.inr ⟨ks, h2, dicq h3⟩)
      · cases h
theorem rt_val (h : RE X CL W a da) {t : TE} (he : PT X a (tTest t)) (hq : ∀ σ H Q, tD X.K CL W da σ H Q → t σ H Q) : RT X CL W a (dTB da) := pt_weak he fun σ H Q q => by
  refine hq σ H _ ?_
  obtain ⟨F, G, as, ε, s, S, E, h⟩ := q
  refine ⟨F, G, as, ε, s, S, E, Pst.imp (Pst.bind h) fun v H1 ⟨F1, as1, s1, x, l, S1, rx, h1⟩ => ?_⟩
  split at h1
  · cases rx
    exact ⟨_, rfl, h1.ok Le.refl S1 rfl⟩
  · exact h1.elim
/-- a comparison as a test -/
theorem rt_cmp {op : CmpOp} {r : R2} {g : Va → Va → Sto → Rs Va} (ho : OpR X (compareOp op) r) (hg : Op2 X.K r g) (ha : RE X CL W a da) (hb : RE X CL W b db) (hm : behindInMarks op b = false := by rfl) : RT X CL W (.Compare a [op] [b] pos) (dTB (dBin g da db)) :=
  rt_val (re_cmp (pos := pos) ho hg ha hb hm) (pt_cmpR ho ha hb hm) fun _ _ _ h => tD_bin hg h
theorem rt_eq (hu : X.A.units + 65 < cLine) (ha : RE X CL W a da) (hb : RE X CL W b db) (hm : behindInMarks .Eq b = false := by rfl) : RT X CL W (.Compare a [.Eq] [b] pos) (dTB (dBin (gEq false) da db)) := rt_cmp (op_eqA (by omega)) op2_eq ha hb hm
theorem rt_ne (hu : X.A.units + 65 < cLine) (ha : RE X CL W a da) (hb : RE X CL W b db) (hm : behindInMarks .NotEq b = false := by rfl) : RT X CL W (.Compare a [.NotEq] [b] pos) (dTB (dBin (gEq true) da db)) := rt_cmp (op_neA (by omega)) op2_ne ha hb hm
theorem rt_is (ha : RE X CL W a da) (hb : RE X CL W b db) (hm : behindInMarks .Is b = false := by rfl) : RT X CL W (.Compare a [.Is] [b] pos) (dTB (dBin (gIs false) da db)) := rt_cmp op_isA op2_is ha hb hm
theorem rt_in (hu : X.A.units + 65 < cLine) (ha : RE X CL W a da) (hb : RE X CL W b db) (hm : behindInMarks .In b = false := by rfl) : RT X CL W (.Compare a [.In] [b] pos) (dTB (dBin (gIn false) da db)) := rt_cmp (op_inA hu) op2_in ha hb hm
theorem rt_lt (ha : RE X CL W a da) (hb : RE X CL W b db) (hm : behindInMarks .Lt b = false := by rfl) : RT X CL W (.Compare a [.Lt] [b] pos) (dTB (dBin gLt da db)) := rt_cmp op_lt op2_B0 ha hb hm
theorem rt_gt (ha : RE X CL W a da) (hb : RE X CL W b db) (hm : behindInMarks .Gt b = false := by rfl) : RT X CL W (.Compare a [.Gt] [b] pos) (dTB (dBin gGt da db)) := rt_cmp op_gt op2_B0 ha hb hm
/-- any other expression, by its truth -/
theorem rt_tr (h : RE X CL W a da) (he : ∀ whole, isTrue a X.env whole = (do let v ← whole; standAt a.pos; holding [v] (truthy v)) := by exact fun _ => rfl) : RT X CL W a (dTr da) := pt_weak (pt_truth h he) fun σ H Q q => by
  obtain ⟨F, G, as, ε, s, S, E, h⟩ := q
  refine ⟨F, G, as, ε, s, S, E, Pst.imp (Pst.bind h) fun v H1 ⟨F1, as1, s1, x, l, S1, rx, h1⟩ => ?_⟩
  split at h1
  · rename_i b e
    exact ⟨b, truA_ok S1 rx e, h1.ok Le.refl S1 rfl⟩
  · exact h1.elim
theorem tDT_and {σ : L2.St} {H : Hp} {Q : Bool → Hp → Prop} {K : PySem.W.Frag} (h : tDT K CL W (dAnd ta tb) σ H Q) : tAnd (tDT K CL W ta) (tDT K CL W tb) σ H Q := by
  obtain ⟨F, G, as, ε, s, S, E, h⟩ := h
  refine ⟨F, G, as, ε, s, S, E, Pst.imp (Pst.bind h) fun v H1 ⟨F1, as1, s1, x, l, S1, rx, h1⟩ => ?_⟩
  subst rx
  cases x with
  | true => exact iteT ⟨F1, G, as1, ε, s1, S1, E.mono l, h1⟩
  | false => exact iteF (h1.ok Le.refl S1 rfl)
theorem tDT_or {σ : L2.St} {H : Hp} {Q : Bool → Hp → Prop} {K : PySem.W.Frag} (h : tDT K CL W (dOr ta tb) σ H Q) : tOr (tDT K CL W ta) (tDT K CL W tb) σ H Q := by
  obtain ⟨F, G, as, ε, s, S, E, h⟩ := h
  refine ⟨F, G, as, ε, s, S, E, Pst.imp (Pst.bind h) fun v H1 ⟨F1, as1, s1, x, l, S1, rx, h1⟩ => ?_⟩
  subst rx
  cases x with
  | true => exact iteT (h1.ok Le.refl S1 rfl)
  | false => exact iteF ⟨F1, G, as1, ε, s1, S1, E.mono l, h1⟩
theorem rw_and1 (ha : RT X CL W a ta) : RW X CL W (.BoolOp .And [a] pos) ta := pw_and1 ha
theorem rw_or1 (ha : RT X CL W a ta) : RW X CL W (.BoolOp .Or [a] pos) ta := pw_or1 ha
theorem rw_and (ha : RT X CL W a ta) (hb : RW X CL W (.BoolOp .And (b :: rest) pos) tb) : RW X CL W (.BoolOp .And (a :: b :: rest) pos) (dAnd ta tb) := pw_weak (pw_and ha hb) fun _ _ _ h => tDT_and h
theorem rw_or (ha : RT X CL W a ta) (hb : RW X CL W (.BoolOp .Or (b :: rest) pos) tb) : RW X CL W (.BoolOp .Or (a :: b :: rest) pos) (dOr ta tb) := pw_weak (pw_or ha hb) fun _ _ _ h => tDT_or h
theorem rt_not (ha : RT X CL W a ta) : RT X CL W (.UnaryOp .Not a pos) (dNot ta) := pt_weak (pt_not ha) fun σ H Q h => by
  obtain ⟨F, G, as, ε, s, S, E, h⟩ := h
  refine ⟨F, G, as, ε, s, S, E, Pst.imp (Pst.bind h) fun v H1 ⟨F1, as1, s1, x, l, S1, rx, h1⟩ => ?_⟩
  subst rx
  exact h1.ok Le.refl S1 rfl
/-- as values -/
noncomputable def dAndV (da db : DE) : DE := fun ε s => (da ε s).bind fun x s1 => match truA x s1 with | some true => db ε s1 | some false => .ok x s1 | none => .bad
noncomputable def dOrV (da db : DE) : DE := fun ε s => (da ε s).bind fun x s1 => match truA x s1 with | some true => .ok x s1 | some false => db ε s1 | none => .bad
noncomputable def dNotV (da : DE) : DE := fun ε s => (da ε s).bind fun x s1 => match truA x s1 with | some b => .ok (.bl (!b)) s1 | none => .bad
theorem re_one {op} (h : RE X CL W a da) : RE X CL W (.BoolOp op [a] pos) da := pe_one h
theorem re_and (ha : RE X CL W a da) (hb : RE X CL W (.BoolOp .And (b :: rest) pos) db) : RE X CL W (.BoolOp .And (a :: b :: rest) pos) (dAndV da db) := pe_weak (pe_andT ha hb) fun σ H Q h => by
  obtain ⟨F, G, as, ε, s, S, E, h⟩ := h
  refine ⟨F, G, as, ε, s, S, E, Pst.imp (Pst.bind h) fun v H1 ⟨F1, as1, s1, x, l, S1, rx, h1⟩ => ?_⟩
  split at h1
  · rename_i e
    exact ⟨true, truA_ok S1 rx e, iteT ⟨F1, G, as1, ε, s1, S1, E.mono l, h1⟩⟩
  · rename_i e
    exact ⟨false, truA_ok S1 rx e, iteF (h1.okv S1 rx)⟩
  · exact h1.elim
def dIf (ta : DT) (da db : DE) : DE := fun ε s => (ta ε s).bind fun b s1 => if b = true then da ε s1 else db ε s1
theorem re_if (hc : RT X CL W c ta) (ha : RE X CL W a da) (hb : RE X CL W b db) : RE X CL W (.IfExp c a b pos) (dIf ta da db) := pe_weak (pe_ifExp hc ha hb) fun σ H Q h => by
  obtain ⟨F, G, as, ε, s, S, E, h⟩ := h
  refine ⟨F, G, as, ε, s, S, E, Pst.imp (Pst.bind h) fun v H1 ⟨F1, as1, s1, x, l, S1, rx, h1⟩ => ?_⟩
  subst rx
  cases x with
  | true => exact iteT ⟨F1, G, as1, ε, s1, S1, E.mono l, h1⟩
  | false => exact iteF ⟨F1, G, as1, ε, s1, S1, E.mono l, h1⟩
end
end Dn

set_option Elab.async false
set_option linter.all false
set_option maxRecDepth 100000
set_option maxHeartbeats 1000000
/-! Dn, part D: statements, loops, comprehensions, calls, defs. -/
namespace Dn
open PySem PySem.Spec PyProof.Rows L2

/-- where one stands -/
structure Okc (X : Cx) (W : WX) (k : Nat) : Prop where
  calm : X.calm = true
  tk : Takes X W
  hp : PassesOwn (model X.prog X.w) X.A X.env X.xe
  room : Room k X.A
  nd : X.N.Nodup
theorem Okc.hu {X : Cx} {W : WX} {k : Nat} (O : Okc X W k) : X.A.units + 65 < cLine := by
  have := O.room.un
  omega

abbrev RS (X : Cx) (CL : Cls0) (W : WX) (st : Stmt) (d : DS) : Prop := PS X st (tDS X.K CL W d)
abbrev RSs (X : Cx) (CL : Cls0) (W : WX) (st : List Stmt) (d : DS) : Prop := PSs X st (tDS X.K CL W d)

/-! ### built-in calls -/
section
variable {X : Cx} {CL : Cls0} {W : WX} {k : Nat} {x : Str} {p pos : Pos} {e : Expr} {es : List Expr} {id T : String} {dr : DA} {de : DE}
theorem re_callB {r : List V → Hp → VK → Prop} {g : List Va → Sto → Rs Va} (hc : CallR X (.builtin id) r) (hg : OpN X.K r g) (hG : Gl X x) (hm : X.mg x = none) (hv : bootBuiltins x = some (.builtin id)) (ha : RA X CL W (e :: es) dr) (hn : x ≠ "__name__" := by decide) (hdb : (x == ("__debug__" : Str)) = false := by decide)
    (he : starEach (e :: es) X.env = (false, eval e X.env) :: starEach es X.env := by rfl) (hpl : (backTo pos (starEach es X.env)).any (·.1) = false := by rfl) : RE X CL W (.Call (.Name x p) (e :: es) [] pos) (dApp g dr) :=
  pe_weak (pe_callB hc hG hm hv ha hn hdb he hpl) fun _ _ _ h => tD_app hg h
theorem re_callTy {r : List V → Hp → VK → Prop} {g : List Va → Sto → Rs Va} (hc : CallR X (.type T) r) (hg : OpN X.K r g) (hG : Gl X x) (hm : X.mg x = none) (hv : bootBuiltins x = some (.type T)) (ha : RA X CL W (e :: es) dr) (hn : x ≠ "__name__" := by decide) (hdb : (x == ("__debug__" : Str)) = false := by decide)
    (he : starEach (e :: es) X.env = (false, eval e X.env) :: starEach es X.env := by rfl) (hpl : (backTo pos (starEach es X.env)).any (·.1) = false := by rfl) : RE X CL W (.Call (.Name x p) (e :: es) [] pos) (dApp g dr) :=
  pe_weak (pe_callTy hc hG hm hv ha hn hdb he hpl) fun _ _ _ h => tD_app hg h
end
section
variable {K : PySem.W.Frag}
theorem Rls1 {F : Hp} {as : List Addr} {x : Va} {vs : List V} (r : Rls K F as [x] vs) : ∃ v, vs = [v] ∧ Rl K F as x v := by
  cases r with
  | cons h t =>
    cases t
    exact ⟨_, rfl, h⟩
noncomputable def gLen (xs : List Va) (s : Sto) : Rs Va := match xs with
  | [.str z] => if leq z.length sizeLine then .ok (.int z.length) s else .bad
  | [x] => match seqA x s with
    | some ys => .ok (.int ys.length) s
    | none => match dicK? x s with
      | some kvs => .ok (.int kvs.length) s
      | none => .bad
  | _ => .bad
def rLenA (K : PySem.W.Frag) : List V → Hp → VK → Prop := fun xs H Q => (∃ x n, xs = [x] ∧ LenV K x H n ∧ Q (.int n) H) ∨ ∃ a kvs, xs = [V.ref a] ∧ H a = some (.dK kvs) ∧ Q (.int kvs.length) H
theorem call_lenA {X : Cx} : CallR X (.builtin "len") (rLenA X.K) := call_len.or call_lenD
theorem RlK.len {F : Hp} {as : List Addr} : ∀ {xs : List (Key × Va)} {vs : List (Key × V)}, RlK K F as xs vs → xs.length = vs.length
  | _, _, .nil => rfl
  | _, _, .cons _ r => congrArg (· + 1) (RlK.len r)
theorem opN_len : OpN K (rLenA K) gLen := by
  intro CL W F G as s H x v Q S rx q
  unfold gLen at q
  split at q
  · obtain ⟨v, rfl, r⟩ := Rls1 rx
    cases r
    split at q
    · rename_i hc
      exact .inl ⟨_, _, rfl, ⟨hc, rfl⟩, q.okv S (.int _)⟩
    · exact q.elim
  · obtain ⟨v, rfl, r⟩ := Rls1 rx
    split at q
    · rename_i ys e
      obtain ⟨a, vs, rfl, h2, h3⟩ := seqA_ok S r e
      refine .inl ⟨_, ys.length, rfl, ?_, q.okv S (.int _)⟩
      rcases h2 with h2 | h2
      · exact .inl ⟨vs, h2, h3.len⟩
      · exact .inr ⟨vs, h2, h3.len⟩
    · split at q
      · rename_i kvs e
        obtain ⟨a, ks, rfl, h2, h3⟩ := dicK_ok S r e
        refine .inr ⟨a, ks, rfl, h2, ?_⟩
        rw [← h3.len]
        exact q.okv S (.int _)
      · exact q.elim
  · exact q.elim
noncomputable def gInt (xs : List Va) (s : Sto) : Rs Va := match xs with
  | [.int i] => .ok (.int i) s
  | [.bl b] => .ok (.int (if b then 1 else 0)) s
  | [.str a] => match PySem.intText? a with
    | some n => if leq a.length 640 then .ok (.int n) s else .bad
    | none => .bad
  | _ => .bad
def rIntA : List V → Hp → VK → Prop := fun xs H Q => ((∃ i, xs = [.int i] ∧ Q (.int i) H) ∨ ∃ k, xs = [.bl k] ∧ Q (.int (if k then 1 else 0)) H) ∨ ∃ a n, xs = [.str a] ∧ PySem.intText? a = some n ∧ a.length ≤ 640 ∧ Q (.int n) H
theorem call_intA {X : Cx} : CallR X (.type "int") rIntA := call_int1.or call_int_str
theorem opN_int : OpN K rIntA gInt := by
  intro CL W F G as s H x v Q S rx q
  unfold gInt at q
  split at q
  · obtain ⟨v, rfl, r⟩ := Rls1 rx
    cases r
    exact .inl (.inl ⟨_, rfl, q.okv S (.int _)⟩)
  · obtain ⟨v, rfl, r⟩ := Rls1 rx
    cases r
    exact .inl (.inr ⟨_, rfl, q.okv S (.int _)⟩)
  · obtain ⟨v, rfl, r⟩ := Rls1 rx
    cases r
    split at q
    · rename_i n e
      split at q
      · rename_i hc
        exact .inr ⟨_, n, rfl, e, hc, q.okv S (.int _)⟩
      · exact q.elim
    · exact q.elim
  · exact q.elim
def gAbs (xs : List Va) (s : Sto) : Rs Va := match xs with
  | [.int i] => .ok (.int (if i < 0 then -i else i)) s
  | _ => .bad
theorem opN_abs : OpN K (fun xs H Q => ∃ i, xs = [.int i] ∧ Q (.int (if i < 0 then -i else i)) H) gAbs := by
  intro CL W F G as s H x v Q S rx q
  unfold gAbs at q
  split at q
  · obtain ⟨v, rfl, r⟩ := Rls1 rx
    cases r
    exact ⟨_, rfl, q.okv S (.int _)⟩
  · exact q.elim
/-- list(..) of a list, a tuple; of a dict -/
def gList (bx : Bool) (xs : List Va) (s : Sto) : Rs Va := match xs with
  | [x] => match seqA x s with
    | some ys => mkL bx ys s
    | none => match dicK? x s with
      | some kvs => mkL bx (kvs.map fun kv => kVa kv.1) s
      | none => .bad
  | _ => .bad
def rListA (K : PySem.W.Frag) : List V → Hp → VK → Prop := fun xs H Q => (∃ p ys, xs = [.ref p] ∧ (SqL K H p ys ∨ SqT K H p ys) ∧ ∀ l, H l = none → Q (.ref l) (upd H l (.lst ys))) ∨ rListD xs H Q
theorem call_listA {X : Cx} (hc : X.calm = true) : CallR X (.type "list") (rListA X.K) := call_list_of.or (call_list_dK hc)
theorem RlK.keys {F : Hp} {as : List Addr} : ∀ {xs : List (Key × Va)} {vs : List (Key × V)}, RlK K F as xs vs → Rls K F as (xs.map fun kv => kVa kv.1) (vs.map fun kv => kV kv.1)
  | _, _, .nil => .nil
  | _, _, .cons (k := k) _ r => .cons (by cases k <;> constructor) (RlK.keys r)
theorem opN_list {bx : Bool} : OpN K (rListA K) (gList bx) := by
  intro CL W F G as s H x v Q S rx q
  unfold gList at q
  split at q
  · obtain ⟨v, rfl, r⟩ := Rls1 rx
    split at q
    · rename_i ys e
      obtain ⟨a, vs, rfl, h2, h3⟩ := seqA_ok S r e
      exact .inl ⟨a, vs, rfl, h2, mkL_ok S h3 q⟩
    · split at q
      · rename_i kvs e
        obtain ⟨a, ks, rfl, h2, h3⟩ := dicK_ok S r e
        exact .inr ⟨a, ks, rfl, h2, mkL_ok S h3.keys q⟩
      · exact q.elim
  · exact q.elim
end
section
variable {X : Cx} {CL : Cls0} {W : WX} {k : Nat} {x : Str} {p pos : Pos} {e e2 : Expr} {es : List Expr} {dr : DA} {de d1 d2 : DE}
theorem re_len (hm : X.mg "len" = none) (ha : RA X CL W [e] dr) (hG : Gl X "len" := by rfl) (he : starEach [e] X.env = (false, eval e X.env) :: starEach [] X.env := by rfl) : RE X CL W (.Call (.Name "len" p) [e] [] pos) (dApp gLen dr) := re_callB call_lenA opN_len hG hm PySem.boot_len ha (he := he)
theorem re_intc (hm : X.mg "int" = none) (ha : RA X CL W [e] dr) (hG : Gl X "int" := by rfl) (he : starEach [e] X.env = (false, eval e X.env) :: starEach [] X.env := by rfl) : RE X CL W (.Call (.Name "int" p) [e] [] pos) (dApp gInt dr) := re_callTy call_intA opN_int hG hm (by decide +kernel) ha (he := he)
theorem re_abs (hm : X.mg "abs" = none) (ha : RA X CL W [e] dr) (hG : Gl X "abs" := by rfl) (he : starEach [e] X.env = (false, eval e X.env) :: starEach [] X.env := by rfl) : RE X CL W (.Call (.Name "abs" p) [e] [] pos) (dApp gAbs dr) := re_callB call_abs opN_abs hG hm (by decide +kernel) ha (he := he)
theorem re_list (O : Okc X W k) (bx : Bool) (hm : X.mg "list" = none) (ha : RA X CL W [e] dr) (hG : Gl X "list" := by rfl) (he : starEach [e] X.env = (false, eval e X.env) :: starEach [] X.env := by rfl) : RE X CL W (.Call (.Name "list" p) [e] [] pos) (dApp (gList bx) dr) := re_callTy (call_listA O.calm) opN_list hG hm (by decide +kernel) ha (he := he)
/-- isinstance(e, T), T a built-in type -/
def tyA (x : Va) (s : Sto) : Option String := match x with
  | .non => some "NoneType"
  | .bl _ => some "bool"
  | .int _ => some "int"
  | .str _ => some "str"
  | .tup _ => some "tuple"
  | .lst _ => some "list"
  | .dicK _ => some "dict"
  | .dicT _ => some "dict"
  | .ref i => match s[i]? with
    | some (.lst _) => some "list"
    | some (.dicK _) => some "dict"
    | some (.dicT _) => some "dict"
    | _ => none
  | .ext _ => none
def gIsi (T : String) (x : Va) (s : Sto) : Rs Va := match tyA x s with
  | some t => match kitB t T with
    | some b => .ok (.bl b) s
    | none => .bad
  | none => .bad
theorem tyA_ok {K : PySem.W.Frag} {F G H : Hp} {as : List Addr} {s : Sto} {x : Va} {v : V} {t : String} (S : Sim K F G as s H) (r : Rl K F as x v) (h : tyA x s = some t) : TyX K H v (.type t) := by
  cases r with
  | non => cases h; exact .base .non
  | bl b => cases h; exact .base (.bl b)
  | int i => cases h; exact .base (.int i)
  | str z => cases h; exact .base (.str z)
  | tup hf hr => cases h; exact .base (.tup (S.sub _ _ hf))
  | lst hf hr => cases h; exact .base (.lst (S.sub _ _ hf))
  | dicK hf hr => cases h; exact .base (.dK (S.sub _ _ hf))
  | dicT hf hr => cases h; exact .base (.dT (S.sub _ _ hf))
  | ext _ _ => cases h
  | ref ha =>
    simp only [tyA] at h
    split at h
    · rename_i e
      cases h
      obtain ⟨_, vs, h1, _⟩ := S.ref ha e
      exact .base (.lst h1)
    · rename_i e
      cases h
      obtain ⟨_, vs, h1, _⟩ := S.ref ha e
      exact .base (.dK h1)
    · rename_i e
      cases h
      obtain ⟨_, vs, h1, _⟩ := S.ref ha e
      exact .base (.dT h1)
    · cases h
theorem re_isi {T : Str} {Ty : String} {p2 : Pos} (hm : X.mg "isinstance" = none) (hmT : X.mg T = none) (hvT : bootBuiltins T = some (.type Ty)) (ha : RE X CL W e de) (hG : Gl X "isinstance" := by rfl) (hGT : Gl X T := by rfl) (hnT : T ≠ "__name__" := by decide) (hdT : (T == ("__debug__" : Str)) = false := by decide)
    (he : starEach [e, .Name T p2] X.env = (false, eval e X.env) :: starEach [.Name T p2] X.env := by rfl) (he2 : starEach [.Name T p2] X.env = (false, eval (.Name T p2) X.env) :: starEach [] X.env := by rfl) (hpl : (backTo pos (starEach [.Name T p2] X.env)).any (·.1) = false := by rfl) :
    RE X CL W (.Call (.Name "isinstance" p) [e, .Name T p2] [] pos) (dUn (gIsi Ty) de) :=
  pe_weak (pe_callB call_isi hG hm boot_isinstance (pa_cons ha (pa_cons (pe_bltn (v := .ty Ty) hGT hmT hvT rfl hnT hdT) pa_nil he2) he) (he := he) (hpl := hpl)) fun σ H Q h => by
    obtain ⟨F, G, as, ε, s, S, E, h⟩ := h
    refine ⟨F, G, as, ε, s, S, E, Pst.imp (Pst.bind h) fun v H1 ⟨F1, as1, s1, y, l, S1, rx, h1⟩ => ?_⟩
    unfold gIsi at h1
    split at h1
    · rename_i t e1
      split at h1
      · rename_i b e2
        exact ⟨v, .ty Ty, .type t, .type Ty, b, rfl, .ty Ty, tyA_ok S1 rx e1, kit_ty e2, h1.okv S1 (.bl _)⟩
      · exact h1.elim
    · exact h1.elim
end

/-! ### statements -/
def Rs.fl {α : Type} (r : Rs α) (ε : En) (k : α → Sto → Fl) : Fl := match r with
  | .ok a s => k a s
  | .exc c s => .exc c ε s
  | .bad => .bad
section
variable {K : PySem.W.Frag} {CL : Cls0} {W : WX} {F F' G : Hp} {as as' : List Addr}
theorem PF.bind {α β : Type} {RA : Hp → List Addr → α → β → Prop} {r : Rs α} {ε : En} {σ : L2.St} {k : α → Sto → Fl} {D : Ends} (E : ER K F as ε σ) (h : PF K CL W F G as (r.fl ε k) D) :
    Pst K CL (fun c d H => W c d σ H) F G as RA r (fun v H1 => ∃ F1 as1 s1 x, Le F as F1 as1 ∧ Sim K F1 G as1 s1 H1 ∧ RA F1 as1 x v ∧ PF K CL W F1 G as1 (k x s1) D) := by
  cases r with
  | ok x s => exact fun F1 as1 H1 v l S ra => ⟨F1, as1, s, x, l, S, ra, h.le l⟩
  | exc c s => exact fun F1 as1 H1 l S => h F1 as1 σ H1 l S (E.mono l)
  | bad => exact h
theorem PF.imp {r : Fl} {D D' : Ends} (h : PF K CL W F G as r D) (h1 : ∀ σ H, D.nx σ H → D'.nx σ H) (h2 : ∀ v H, D.rt v H → D'.rt v H) (h3 : ∀ σ H, D.bk σ H → D'.bk σ H) (h4 : ∀ σ H, D.ct σ H → D'.ct σ H) : PF K CL W F G as r D' := by
  cases r with
  | nx x s => exact fun F2 as2 σ H l S E => h1 σ H (h F2 as2 σ H l S E)
  | brk x s => exact fun F2 as2 σ H l S E => h3 σ H (h F2 as2 σ H l S E)
  | ct x s => exact fun F2 as2 σ H l S E => h4 σ H (h F2 as2 σ H l S E)
  | ret x s => exact fun F2 as2 H v l S E => h2 v H (h F2 as2 H v l S E)
  | exc c x s => exact h
  | bad => exact h
end
def sSeq (d1 d2 : DS) : DS := fun ε s => match d1 ε s with
  | .nx ε' s' => d2 ε' s'
  | r => r
def sNext : DS := fun ε s => .nx ε s
def sBrk : DS := fun ε s => .brk ε s
def sCt : DS := fun ε s => .ct ε s
def sSet (i : Nat) (de : DE) : DS := fun ε s => (de ε s).fl ε fun x s1 => .nx (ε.set i (some x)) s1
def sRet (de : DE) : DS := fun ε s => (de ε s).fl ε fun x s1 => .ret x s1
def sRetN : DS := fun _ s => .ret .non s
def sDrop (de : DE) : DS := fun ε s => (de ε s).fl ε fun _ s1 => .nx ε s1
def sIf (t : DT) (d1 d2 : DS) : DS := fun ε s => (t ε s).fl ε fun b s1 => if b = true then d1 ε s1 else d2 ε s1
section
variable {X : Cx} {CL : Cls0} {W : WX} {k : Nat} {st : Stmt} {rest body : List Stmt} {d1 d2 : DS} {x : Str} {p pos pos' : Pos} {e a b : Expr} {de da db : DE} {dt : DT}
theorem rss_nil : RSs X CL W [] sNext := pss_weak pss_nil fun D σ H h => by
  obtain ⟨F, G, as, ε, s, S, E, h⟩ := h
  exact h F as σ H Le.refl S E
theorem tDS_seq {D : Ends} {σ : L2.St} {H : Hp} {K : PySem.W.Frag} (h : tDS K CL W (sSeq d1 d2) D σ H) : tSeq (tDS K CL W d1) (tDS K CL W d2) D σ H := by
  obtain ⟨F, G, as, ε, s, S, E, h⟩ := h
  refine ⟨F, G, as, ε, s, S, E, ?_⟩
  unfold sSeq at h
  cases q : d1 ε s with
  | nx ε' s' =>
    rw [q] at h
    exact fun F1 as1 σ1 H1 l S1 E1 => ⟨F1, G, as1, ε', s', S1, E1, h.le l⟩
  | ret y s' =>
    rw [q] at h
    exact h
  | brk ε' s' =>
    rw [q] at h
    exact h
  | ct ε' s' =>
    rw [q] at h
    exact h
  | exc c ε' s' =>
    rw [q] at h
    exact h
  | bad =>
    rw [q] at h
    exact h
theorem rss_cons (h1 : RS X CL W st d1) (h2 : RSs X CL W rest d2) : RSs X CL W (st :: rest) (sSeq d1 d2) := pss_weak (pss_cons h1 h2) fun _ _ _ h => tDS_seq h
theorem rss_one (h1 : RS X CL W st d1) : RSs X CL W [st] d1 := pss_one h1
theorem tDS_set {D : Ends} {σ : L2.St} {H : Hp} {i : Nat} {t : TE} (ht : ∀ Q, tD X.K CL W de σ H Q → t σ H Q) (h : tDS X.K CL W (sSet i de) D σ H) : tAsg t (gName i) D σ H := by
  obtain ⟨F, G, as, ε, s, S, E, h⟩ := h
  refine ht _ ⟨F, G, as, ε, s, S, E, Pst.imp (PF.bind E h) fun v H1 ⟨F1, as1, s1, y, l, S1, rx, h1⟩ => ?_⟩
  exact h1 F1 as1 _ H1 Le.refl S1 ((E.mono l).set i rx)
theorem rs_set {i : Nat} (O : Okc X W k) (hi : X.N[i]? = some x) (hx : Loc X.env.scope x) (he : RE X CL W e de) (hs : swapsWith e (some (.Name x pos')) pos.line X.env = pure false := by rfl) (hf : X.fn x = true ∨ X.env.scope.names.lookup x = some .local := by first | exact .inl rfl | exact .inr rfl | assumption) :
    RS X CL W (.Assign [.Name x pos'] e pos) (sSet i de) := ps_weak (ps_set O.nd hi hx he hs hf) fun _ _ _ h => tDS_set (fun _ q => q) h
theorem rs_ret (he : RE X CL W e de) : RS X CL W (.Return (some e) pos) (sRet de) := ps_weak (ps_ret he) fun D σ H h => by
  obtain ⟨F, G, as, ε, s, S, E, h⟩ := h
  refine ⟨F, G, as, ε, s, S, E, Pst.imp (PF.bind E h) fun v H1 ⟨F1, as1, s1, y, l, S1, rx, h1⟩ => ?_⟩
  exact h1 F1 as1 H1 v Le.refl S1 rx
theorem rs_if {c : Expr} {b1 b2 : List Stmt} (hc : RT X CL W c dt) (h1 : RSs X CL W b1 d1) (h2 : RSs X CL W b2 d2) : RS X CL W (.If c b1 b2 pos) (sIf dt d1 d2) := ps_weak (ps_if hc h1 h2) fun D σ H h => by
  obtain ⟨F, G, as, ε, s, S, E, h⟩ := h
  refine ⟨F, G, as, ε, s, S, E, Pst.imp (PF.bind E h) fun v H1 ⟨F1, as1, s1, y, l, S1, rx, h1⟩ => ?_⟩
  subst rx
  cases y with
  | true => exact iteT ⟨F1, G, as1, ε, s1, S1, E.mono l, h1⟩
  | false => exact iteF ⟨F1, G, as1, ε, s1, S1, E.mono l, h1⟩
end

/-! ### stores -/
/-- o[i] = v -/
noncomputable def gSetIx (v o i : Va) (s : Sto) : Option Sto := match o with
  | .ref n => match s[n]? with
    | some (.lst xs) => match i with
      | .int j => match ixN xs.length j with
        | some m => some (s.set n (.lst (xs.set m v)))
        | none => none
      | _ => none
    | some (.dicK kvs) => match kOf i with
      | some key => if leq kvs.length 1000000 then some (s.set n (.dicK (pt kvs key v))) else none
      | none => none
    | some (.dicT kvs) => match i with
      | .tup ys => match ksOf ys with
        | some key => if leq kvs.length 1000000 then some (s.set n (.dicT (pt kvs key v))) else none
        | none => none
      | _ => none
    | _ => none
  | _ => none
section
variable {K : PySem.W.Frag} {CL : Cls0} {F F' G H : Hp} {as as' : List Addr} {s s' : Sto} {x y z : Va} {v u w : V}
theorem RlK.any {kvs : List (Key × Va)} {ks : List (Key × V)} (r : RlK K F as kvs ks) (k : Key) : (kvs.any fun kv => decide (kv.1 = k)) = ks.any fun kv => decide (kv.1 = k) := by
  induction kvs generalizing ks with
  | nil => cases r; rfl
  | cons p r' ih =>
    cases r with
    | cons h t => rw [List.any_cons, List.any_cons, ih t]
theorem RlT.any {kvs : List (List Key × Va)} {ks : List (List Key × V)} (r : RlT K F as kvs ks) (k : List Key) : (kvs.any fun kv => decide (kv.1 = k)) = ks.any fun kv => decide (kv.1 = k) := by
  induction kvs generalizing ks with
  | nil => cases r; rfl
  | cons p r' ih =>
    cases r with
    | cons h t => rw [List.any_cons, List.any_cons, ih t]
theorem RlK.app {kvs kvs' : List (Key × Va)} {ks ks' : List (Key × V)} (r : RlK K F as kvs ks) (r' : RlK K F as kvs' ks') : RlK K F as (kvs ++ kvs') (ks ++ ks') := by
  induction kvs generalizing ks with
  | nil => cases r; exact r'
  | cons p q ih =>
    cases r with
    | cons h t => exact .cons h (ih t)
theorem RlT.app {kvs kvs' : List (List Key × Va)} {ks ks' : List (List Key × V)} (r : RlT K F as kvs ks) (r' : RlT K F as kvs' ks') : RlT K F as (kvs ++ kvs') (ks ++ ks') := by
  induction kvs generalizing ks with
  | nil => cases r; exact r'
  | cons p q ih =>
    cases r with
    | cons h t => exact .cons h (ih t)
theorem RlK.upd {kvs : List (Key × Va)} {ks : List (Key × V)} (r : RlK K F as kvs ks) (k : Key) (h : Rl K F as x v) : RlK K F as (kvs.map fun kv => if kv.1 = k then (kv.1, x) else kv) (ks.map fun kv => if kv.1 = k then (kv.1, v) else kv) := by
  induction kvs generalizing ks with
  | nil => cases r; exact .nil
  | cons p q ih =>
    cases r with
    | cons h0 t =>
      rename_i k0 _ _ _
      rw [List.map_cons, List.map_cons]
      by_cases e : k0 = k
      · rw [if_pos e, if_pos e]
        exact .cons h (ih t)
      · rw [if_neg e, if_neg e]
        exact .cons h0 (ih t)
theorem RlT.upd {kvs : List (List Key × Va)} {ks : List (List Key × V)} (r : RlT K F as kvs ks) (k : List Key) (h : Rl K F as x v) : RlT K F as (kvs.map fun kv => if kv.1 = k then (kv.1, x) else kv) (ks.map fun kv => if kv.1 = k then (kv.1, v) else kv) := by
  induction kvs generalizing ks with
  | nil => cases r; exact .nil
  | cons p q ih =>
    cases r with
    | cons h0 t =>
      rename_i k0 _ _ _
      rw [List.map_cons, List.map_cons]
      by_cases e : k0 = k
      · rw [if_pos e, if_pos e]
        exact .cons h (ih t)
      · rw [if_neg e, if_neg e]
        exact .cons h0 (ih t)
theorem RlK.put {kvs : List (Key × Va)} {ks : List (Key × V)} (r : RlK K F as kvs ks) (k : Key) (h : Rl K F as x v) : RlK K F as (pt kvs k x) (putK ks k v) := by
  unfold pt putK
  rw [r.any k]
  split
  · exact r.upd k h
  · exact r.app (.cons h .nil)
theorem RlT.put {kvs : List (List Key × Va)} {ks : List (List Key × V)} (r : RlT K F as kvs ks) (k : List Key) (h : Rl K F as x v) : RlT K F as (pt kvs k x) (putK ks k v) := by
  unfold pt putK
  rw [r.any k]
  split
  · exact r.upd k h
  · exact r.app (.cons h .nil)
theorem RlT.len : ∀ {xs : List (List Key × Va)} {vs : List (List Key × V)}, RlT K F as xs vs → xs.length = vs.length
  | _, _, .nil => rfl
  | _, _, .cons _ r => congrArg (· + 1) (RlT.len r)
/-- a store by values: the list's, the dict's -/
def rSetA : V → V → V → Hp → (Hp → Prop) → Prop := fun o i v H Q => rSetL o i v H Q ∨ ∃ a H', o = .ref a ∧ DPut H a i v H' ∧ Q H'
theorem gSetIx_ok {Q : Hp → Prop} (S : Sim K F G as s H) (rv : Rl K F as z w) (rx : Rl K F as x v) (ry : Rl K F as y u) (h : gSetIx z x y s = some s') (q : ∀ H', Sim K F G as s' H' → Q H') : rSetA v u w H Q := by
  unfold gSetIx at h
  split at h
  · cases rx with
    | ref ha =>
      split at h
      · rename_i n xs e
        obtain ⟨hf, vs, h1, h2⟩ := S.ref ha e
        split at h
        · cases ry
          split at h
          · rename_i m e2
            cases h
            refine .inl ⟨_, vs, _, m, rfl, rfl, h1, by rw [← h2.len]; exact e2, q _ ?_⟩
            exact S.change ha hf ⟨hf, _, upd_same, Rls.set rv m h2⟩
          · cases h
        · cases h
      · rename_i n kvs e
        obtain ⟨hf, ks, h1, h2⟩ := S.ref ha e
        split at h
        · rename_i key e2
          split at h
          · rename_i hc
            cases h
            refine .inr ⟨_, _, rfl, by rw [kOf_ok ry e2]; exact DPut.k h1 (by rw [← h2.len]; exact Nat.lt_of_le_of_lt hc (by decide)), q _ ?_⟩
            exact S.change ha hf ⟨hf, _, upd_same, h2.put key rv⟩
          · cases h
        · cases h
      · rename_i n kvs e
        obtain ⟨hf, ks, h1, h2⟩ := S.ref ha e
        split at h
        · obtain ⟨b, us, rfl, h3, h4⟩ := seqT_ok S ry rfl
          split at h
          · rename_i key e2
            split at h
            · rename_i hc
              cases h
              refine .inr ⟨_, _, rfl, DPut.t h1 (by rw [h3, ksOf_ok h4 e2]) (by rw [← h2.len]; exact Nat.lt_of_le_of_lt hc (by decide)), q _ ?_⟩
              exact S.change ha hf ⟨hf, _, upd_same, h2.put key rv⟩
            · cases h
          · cases h
        · cases h
      · cases h
  · cases h
end
section
variable {X : Cx} {CL : Cls0} {W : WX} {k : Nat} {x : Str} {p pos pos' : Pos} {e o i : Expr} {de d0 di : DE}
theorem set_any (hu : X.A.units + 65 < cLine) : PSet X rSetA := by
  intro pins s σ H o i v ov iv u Q I r1 r2 r3 h
  rcases h with h | ⟨a, H', rfl, h, q⟩
  · exact set_list pins s σ H o i v ov iv u Q I r1 r2 r3 h
  · cases r1
    exact d_setItem (by omega) I h r2 r3 fun s4 I4 => ⟨H', I4, q⟩
noncomputable def sSetIx (d0 di de : DE) : DS := fun ε s => (de ε s).fl ε fun v s1 => (d0 ε s1).fl ε fun o s2 => (di ε s2).fl ε fun i s3 => match gSetIx v o i s3 with
  | some s4 => .nx ε s4
  | none => .bad
theorem rs_setIx (O : Okc X W k) (ho : RE X CL W o d0) (hi : RE X CL W i di) (he : RE X CL W e de) (hs : swapsWithSole [.Subscript o i pos'] e pos.line X.env = pure false := by rfl) (hw : swappedStores [.Subscript o i pos'] e X.env = pure none := by rfl)
    (h1 : (assignEach [.Subscript o i pos'] X.env).map (·.2) = [assign (.Subscript o i pos') X.env] := by rfl)
    (ha : ∀ v, assign (.Subscript o i pos') X.env v = (do
      let ov ← holding [v] (eval o X.env)
      let iv ← holding [v, ov] (eval i X.env)
      standAt pos'
      holding [v, ov, iv] (setItem ov iv v)
      release [v, ov, iv] []) := by intro _; rfl) : RS X CL W (.Assign [.Subscript o i pos'] e pos) (sSetIx d0 di de) :=
  ps_weak (ps_asg he (pg_sub ho hi (set_any O.hu) ha) hs hw h1) fun D σ H h => by
    obtain ⟨F, G, as, ε, s, S, E, h⟩ := h
    refine ⟨F, G, as, ε, s, S, E, Pst.imp (PF.bind E h) fun v H1 ⟨F1, as1, s1, y, l, S1, rx, h1⟩ => ?_⟩
    refine ⟨F1, G, as1, ε, s1, S1, E.mono l, Pst.imp (PF.bind (E.mono l) h1) fun v2 H2 ⟨F2, as2, s2, y2, l2, S2, rx2, h2⟩ => ?_⟩
    refine ⟨F2, G, as2, ε, s2, S2, (E.mono l).mono l2, Pst.imp (PF.bind ((E.mono l).mono l2) h2) fun v3 H3 ⟨F3, as3, s3, y3, l3, S3, rx3, h3⟩ => ?_⟩
    split at h3
    · rename_i s4 e4
      exact gSetIx_ok S3 ((rx.mono l2).mono l3) (rx2.mono l3) rx3 e4 fun H' S4 => h3 F3 as3 σ H' Le.refl S4 (((E.mono l).mono l2).mono l3)
    · exact h3.elim
end

end Dn

set_option Elab.async false
set_option linter.all false
set_option maxRecDepth 100000
set_option maxHeartbeats 1000000
/-! Dn, part E: targets, loops, comprehensions. -/
namespace Dn
open PySem PySem.Spec PyProof.Rows L2

/-! ### targets -/
abbrev DG := Va → En → Sto → Option En
/-- ts: the slots that are stored -/
structure RG (X : Cx) (tg : Expr) (g : TG) (dg : DG) (ts : List Nat) : Prop where
  pg : PG X tg g
  ok : ∀ F G as s H x v ε ε' σ Q, Sim X.K F G as s H → Rl X.K F as x v → ER X.K F as ε σ → dg x ε s = some ε' → (∀ σ', ER X.K F as ε' σ' → σ'.length = σ.length → (∀ i, i ∉ ts → σ'[i]? = σ[i]?) → Q σ' H) → g v σ H Q
def dgName (i : Nat) : DG := fun x ε _ => some (ε.set i (some x))
section
variable {X : Cx} {CL : Cls0} {W : WX} {k : Nat} {x : Str} {p pos pos' : Pos}
theorem rg_name {i : Nat} (O : Okc X W k) (hi : X.N[i]? = some x) (hx : Loc X.env.scope x) (hf : X.fn x = true ∨ X.env.scope.names.lookup x = some .local := by first | exact .inl rfl | exact .inr rfl | assumption) : RG X (.Name x pos) (gName i) (dgName i) [i] where
  pg := pg_name O.nd hi hx hf
  ok := fun F G as s H x v ε ε' σ Q S r E h q => by
    cases h
    refine q _ (E.set i r) (by rw [List.length_set]) fun j hj => List.getElem?_set_ne fun e => hj (by simp [e])
end

/-! ### what is walked -/
/-- a list of the store that the turns leave as it is -/
def okk (ck : Option (Nat × Ob)) (s : Sto) : Prop := match ck with
  | none => True
  | some (n, o) => s[n]? = some o
structure Src (K : PySem.W.Frag) (J : It) (F : Hp) (as : List Addr) (ck : Option (Nat × Ob)) (xs : List Va) : Prop where
  stop : ∀ F' G as' s' H, Le F as F' as' → Sim K F' G as' s' H → okk ck s' → J.stop xs.length H
  go : ∀ i F' G as' s' H, i < xs.length → Le F as F' as' → Sim K F' G as' s' H → okk ck s' → J.go i H
  yl : ∀ i F' G as' s' H x H', i < xs.length → Le F as F' as' → Sim K F' G as' s' H → okk ck s' → J.yld i H x H' → ∃ z F2, xs[i]? = some z ∧ Le F' as' F2 as' ∧ Sim K F2 G as' s' H' ∧ Rl K F2 as' z x
abbrev DI := En → Sto → Rs (Option (Nat × Ob) × List Va)
structure RI (X : Cx) (CL : Cls0) (W : WX) (tg iter : Expr) (wi : TI) (di : DI) : Prop where
  pi : PI X tg iter wi
  ok : ∀ σ H R, (∃ F G as ε s, Sim X.K F G as s H ∧ ER X.K F as ε σ ∧ Pst X.K CL (fun c d H => W c d σ H) F G as (fun F' as' src J => Src X.K J F' as' src.1 src.2) (di ε s) R) → wi σ H R
section
variable {K : PySem.W.Frag} {F : Hp} {as : List Addr} {a : Addr} {xs : List Va}
theorem src_l (h : ∀ F' G as' s' H, Le F as F' as' → Sim K F' G as' s' H → ∃ vs, SqL K H a vs ∧ Rls K F' as' xs vs) : Src K (Itl K a) F as none xs where
  stop := fun F' G as' s' H l S o => by
    obtain ⟨vs, h1, h2⟩ := h F' G as' s' H l S
    exact ⟨vs, h1, by rw [h2.len]; exact Nat.le_refl _⟩
  go := fun i F' G as' s' H hi l S o => by
    obtain ⟨vs, h1, h2⟩ := h F' G as' s' H l S
    obtain ⟨v, h3, h4⟩ := h2.get (List.getElem?_eq_getElem hi)
    exact ⟨vs, v, h1, h3⟩
  yl := fun i F' G as' s' H x H' hi l S o y => by
    obtain ⟨e, y⟩ := y
    subst e
    obtain ⟨vs, h1, h2⟩ := h F' G as' s' _ l S
    obtain ⟨z, z1, z2⟩ := h2.getV (y vs h1)
    exact ⟨z, F', z1, Le.refl, S, z2⟩
theorem src_r {n : Nat} (h : as[n]? = some a) : Src K (Itl K a) F as (some (n, .lst xs)) xs where
  stop := fun F' G as' s' H l S o => by
    obtain ⟨_, vs, h1, h2⟩ := S.ref (l.a _ _ h) o
    exact ⟨vs, SqL.of h1, by rw [h2.len]; exact Nat.le_refl _⟩
  go := fun i F' G as' s' H hi l S o => by
    obtain ⟨_, vs, h1, h2⟩ := S.ref (l.a _ _ h) o
    obtain ⟨v, h3, h4⟩ := h2.get (List.getElem?_eq_getElem hi)
    exact ⟨vs, v, SqL.of h1, h3⟩
  yl := fun i F' G as' s' H x H' hi l S o y => by
    obtain ⟨e, y⟩ := y
    subst e
    obtain ⟨_, vs, h1, h2⟩ := S.ref (l.a _ _ h) o
    obtain ⟨z, z1, z2⟩ := h2.getV (y vs (SqL.of h1))
    exact ⟨z, F', z1, Le.refl, S, z2⟩
theorem src_t (h : ∀ F' G as' s' H, Le F as F' as' → Sim K F' G as' s' H → ∃ vs, SqT K H a vs ∧ Rls K F' as' xs vs) : Src K (Itt K a) F as none xs where
  stop := fun F' G as' s' H l S o => by
    obtain ⟨vs, h1, h2⟩ := h F' G as' s' H l S
    exact ⟨vs, h1, by rw [h2.len]; exact Nat.le_refl _⟩
  go := fun i F' G as' s' H hi l S o => by
    obtain ⟨vs, h1, h2⟩ := h F' G as' s' H l S
    obtain ⟨v, h3, h4⟩ := h2.get (List.getElem?_eq_getElem hi)
    exact ⟨vs, v, h1, h3⟩
  yl := fun i F' G as' s' H x H' hi l S o y => by
    obtain ⟨e, y⟩ := y
    subst e
    obtain ⟨vs, h1, h2⟩ := h F' G as' s' _ l S
    obtain ⟨z, z1, z2⟩ := h2.getV (y vs h1)
    exact ⟨z, F', z1, Le.refl, S, z2⟩
def rgA (a b : Int) : List Va := (List.range (b - a).toNat).map fun i => Va.int (a + (i : Nat))
theorem rgA_get {a b : Int} {i : Nat} (h : i < (b - a).toNat) : (rgA a b)[i]? = some (.int (a + i)) := by
  unfold rgA
  rw [List.getElem?_map, List.getElem?_range h]
  rfl
theorem rgA_len {a b : Int} : (rgA a b).length = (b - a).toNat := by
  unfold rgA
  rw [List.length_map, List.length_range]
theorem src_g {lo hi : Int} : Src K (Itr lo (hi - lo).toNat) F as none (rgA lo hi) where
  stop := fun F' G as' s' H l S o => by
    show (hi - lo).toNat ≤ _
    rw [rgA_len]
    exact Nat.le_refl _
  go := fun i F' G as' s' H hi l S o => by
    rw [rgA_len] at hi
    exact hi
  yl := fun i F' G as' s' H x H' hi l S o y => by
    rw [rgA_len] at hi
    obtain ⟨e, y⟩ := y
    subst e y
    exact ⟨_, F', rgA_get hi, Le.refl, S, .int _⟩
end
/-- a list or a tuple walked -/
def iSeq (K : PySem.W.Frag) (tl : TE) : TI := fun σ H R => tl σ H fun x H1 => ∃ a, x = .ref a ∧ (((∃ xs, SqL K H1 a xs) ∧ R (Itl K a) H1) ∨ ((∃ xs, SqT K H1 a xs) ∧ R (Itt K a) H1))
theorem pie_new {X : Cx} {pins : List (Addr × Obj)} {σ : L2.St} {H : Hp} {s : Shared} {tg : Expr} {o : Obj} {tn : Nat → Heap → Prop} {J : It} {R : It → Hp → Prop} (I : Inv X pins σ H s) (T : Turn X.prog X.w X.K tg J [s.heap.objs.size] s.heap.objs.size tn) (st : tn 0 (s.heap.push o)) (r : R J H) :
    PIE X pins σ tg R (.ref s.heap.objs.size) { s with heap := s.heap.push o } := by
  refine ⟨_, _, tn, J, H, rfl, I.kept (t' := s.toks) fun b u k => Heap.get?_push_of_some _ k, T, st, ?_, r⟩
  intro b hb
  obtain rfl := List.mem_singleton.mp hb
  exact I.fpOk (Nat.le_refl _) (I.hok.fresh (Nat.le_refl _))
theorem pi_seq {X : Cx} {tg : Expr} {l : Expr} {tl : TE} (hl : PE X l tl) : PI X tg l (iSeq X.K tl) := by
  constructor
  intro pins s σ H R I h
  refine thn (hl.run pins s σ H _ I h) ?_
  rintro u s1 ⟨_, H1, I1, rx, a, rfl, it⟩
  obtain rfl : u = Value.ref a := rx
  rcases it with ⟨⟨xs, hq⟩, q⟩ | ⟨⟨xs, hq⟩, q⟩
  · obtain ⟨its, -, here, -⟩ := I1.list hq
    exact wpAny_pyIter_list here.isList (pie_new I1 (turn_list a _) ⟨_, Heap.get?_push_size _ rfl, rfl, rfl⟩ q)
  · obtain ⟨its, -, here, -⟩ := I1.tuple hq
    exact wpAny_pyIter_tuple (items := its.toArray) here (pie_new I1 (turn_tuple a _) ⟨_, Heap.get?_push_size _ rfl, rfl, rfl⟩ q)
def dSeq (de : DE) : DI := fun ε s => (de ε s).bind fun x s1 => match x with
  | .ref n => match s1[n]? with
    | some (.lst xs) => .ok (some (n, .lst xs), xs) s1
    | _ => .bad
  | .lst xs => .ok (none, xs) s1
  | .tup xs => .ok (none, xs) s1
  | .ext xs => .ok (none, xs) s1
  | _ => .bad
noncomputable def dRg1 (da : DA) : DI := fun ε s => (evA da ε s).bind fun vs s1 => match vs with
  | [.int j] => if inR j then .ok (none, rgA 0 j) s1 else .bad
  | _ => .bad
noncomputable def dRg2 (da : DA) : DI := fun ε s => (evA da ε s).bind fun vs s1 => match vs with
  | [.int i, .int j] => if inR i ∧ inR j then .ok (none, rgA i j) s1 else .bad
  | _ => .bad
section
variable {X : Cx} {CL : Cls0} {W : WX} {k : Nat} {tg iter a b : Expr} {de : DE} {da : DA} {p pos : Pos}
theorem ri_seq (h : RE X CL W iter de) : RI X CL W tg iter (iSeq X.K (tD X.K CL W de)) (dSeq de) where
  pi := pi_seq h
  ok := fun σ H R q => by
    obtain ⟨F, G, as, ε, s, S, E, q⟩ := q
    refine ⟨F, G, as, ε, s, S, E, Pst.imp (Pst.bind q) fun v H1 ⟨F1, as1, s1, y, l, S1, rx, h1⟩ => ?_⟩
    split at h1
    · cases rx with
      | ref ha =>
        split at h1
        · rename_i e
          obtain ⟨hf, vs, q1, q2⟩ := S1.ref ha e
          exact ⟨_, rfl, .inl ⟨⟨vs, SqL.of q1⟩, h1.ok Le.refl S1 (src_r ha)⟩⟩
        · exact h1.elim
    · cases rx with
      | lst hf hr => exact ⟨_, rfl, .inl ⟨⟨_, SqL.of (S1.sub _ _ hf)⟩, h1.ok Le.refl S1 (src_l fun F' G as' s' H l S => ⟨_, SqL.of (S.sub _ _ (l.f _ _ hf)), hr.mono l⟩)⟩⟩
    · cases rx with
      | tup hf hr => exact ⟨_, rfl, .inr ⟨⟨_, SqT.of (S1.sub _ _ hf)⟩, h1.ok Le.refl S1 (src_t fun F' G as' s' H l S => ⟨_, SqT.of (S.sub _ _ (l.f _ _ hf)), hr.mono l⟩)⟩⟩
    · cases rx with
      | ext hf hr =>
        rcases hf with hf | hf
        · exact ⟨_, rfl, .inl ⟨⟨_, sqL_mono S1.sub hf⟩, h1.ok Le.refl S1 (src_l fun F' G as' s' H l S => ⟨_, sqL_mono S.sub (sqL_mono l.f hf), hr.mono l⟩)⟩⟩
        · exact ⟨_, rfl, .inr ⟨⟨_, sqT_mono S1.sub hf⟩, h1.ok Le.refl S1 (src_t fun F' G as' s' H l S => ⟨_, sqT_mono S.sub (sqT_mono l.f hf), hr.mono l⟩)⟩⟩
    · exact h1.elim
theorem ri_rg1 (hm : X.mg "range" = none) (ha : RA X CL W [a] da) (hG : Gl X "range" := by rfl) (hst : starEach [a] X.env = [(false, eval a X.env)] := by rfl) : RI X CL W tg (.Call (.Name "range" p) [a] [] pos) (iRng1 (tDA X.K CL W da)) (dRg1 da) where
  pi := pi_range1 hG hm ha hst
  ok := fun σ H R q => by
    obtain ⟨F, G, as, ε, s, S, E, q⟩ := q
    refine ⟨F, G, as, ε, s, S, E, Pst.imp (Pst.bind q) fun v H1 ⟨F1, as1, s1, y, l, S1, rx, h1⟩ => ?_⟩
    split at h1
    · obtain ⟨v, rfl, r⟩ := Rls1 rx
      cases r
      split at h1
      · rename_i hc
        unfold inR at hc
        refine ⟨_, rfl, by omega, by omega, ?_⟩
        have z := h1.ok Le.refl S1 src_g
        rw [Int.sub_zero] at z
        exact z
      · exact h1.elim
    · exact h1.elim
end

/-! ### for -/
open Classical in
noncomputable def lp (ck : Option (Nat × Ob)) (body : Va → DS) : List Va → DS
  | [], ε, s => if okk ck s then .nx ε s else .bad
  | x :: r, ε, s => if okk ck s then (match body x ε s with
    | .nx ε' s' => lp ck body r ε' s'
    | .ct ε' s' => lp ck body r ε' s'
    | .brk ε' s' => .nx ε' s'
    | o => o) else .bad
def fBody (dg : DG) (db : DS) (x : Va) : DS := fun ε s => match dg x ε s with
  | some ε' => db ε' s
  | none => .bad
noncomputable def sFor (di : DI) (dg : DG) (db : DS) : DS := fun ε s => (di ε s).fl ε fun src s1 => lp src.1 (fBody dg db) src.2 ε s1
section
variable {K : PySem.W.Frag} {CL : Cls0} {W : WX}
def AtLp (K : PySem.W.Frag) (CL : Cls0) (W : WX) (F G : Hp) (as : List Addr) (D : Ends) (ck : Option (Nat × Ob)) (d : List Va → DS) (xs : List Va) (i : Nat) (σ : L2.St) (H : Hp) : Prop :=
  ∃ F' as' ε' s', Le F as F' as' ∧ Sim K F' G as' s' H ∧ ER K F' as' ε' σ ∧ okk ck s' ∧ PF K CL W F' G as' (d (xs.drop i) ε' s') D
theorem lp_ck {ck : Option (Nat × Ob)} {body : Va → DS} {r : List Va} {ε : En} {s : Sto} {F G : Hp} {as : List Addr} {D : Ends} (h : PF K CL W F G as (lp ck body r ε s) D) : okk ck s := by
  cases r with
  | nil =>
    unfold lp at h
    split at h
    · assumption
    · exact h.elim
  | cons x r =>
    unfold lp at h
    split at h
    · assumption
    · exact h.elim
end
section
variable {X : Cx} {CL : Cls0} {W : WX} {k : Nat} {tg iter : Expr} {body : List Stmt} {wi : TI} {g : TG} {dg : DG} {ts : List Nat} {db : DS} {di : DI} {pos p : Pos}
theorem rs_for (O : Okc X W k) (hi : RI X CL W tg iter wi di) (hg : RG X tg g dg ts) (hb : RSs X CL W body db) (hs : ∀ x, foldedSetIterable iter X.env x = pure x := by intro _; rfl) : RS X CL W (.For tg iter body [] pos) (sFor di dg db) :=
  ps_weak (ps_for O.hp O.calm hi.pi hg.pg hb hs) fun D σ H h => by
    obtain ⟨F, G, as, ε, s, S, E, h⟩ := h
    refine hi.ok σ H _ ⟨F, G, as, ε, s, S, E, Pst.imp (PF.bind E h) fun J H1 ⟨F1, as1, s1, src, l, S1, sr, h1⟩ => ?_⟩
    obtain ⟨ck, xs⟩ := src
    dsimp only at sr h1
    refine ⟨fun i m σ H => m = xs.length - i ∧ i ≤ xs.length ∧ AtLp X.K CL W F1 G as1 D ck (lp ck (fBody dg db)) xs i σ H, ⟨xs.length, by simp, Nat.zero_le _, F1, as1, ε, s1, Le.refl, S1, E.mono l, lp_ck h1, h1⟩, ?_⟩
    rintro i m σ2 H2 ⟨rfl, hi2, F', as', ε', s', l', S', E', ok', h'⟩
    by_cases hlt : i < xs.length
    · refine .inr ⟨sr.go i F' G as' s' H2 hlt l' S' ok', AtLp X.K CL W F1 G as1 D ck (lp ck (fBody dg db)) xs (i + 1), fun σ3 H3 p3 => ⟨xs.length - (i + 1), by omega, rfl, hlt, p3⟩, fun v H3 y => ?_⟩
      obtain ⟨z, F2, e, l2, S2, r⟩ := sr.yl i F' G as' s' H2 v H3 hlt l' S' ok' y
      have ed : xs.drop i = z :: xs.drop (i + 1) := by
        obtain ⟨q1, q2⟩ := List.getElem?_eq_some_iff.mp e
        rw [List.drop_eq_getElem_cons q1, q2]
      rw [ed] at h'
      unfold lp fBody at h'
      rw [if_pos ok'] at h'
      cases q : dg z ε' s' with
      | none =>
        rw [q] at h'
        exact h'.elim
      | some ε2 =>
        rw [q] at h'
        dsimp only at h'
        refine hg.ok F2 G as' s' H3 z v ε' ε2 σ2 _ S2 r (E'.mono l2) q fun σ' E2 _ _ => ⟨F2, G, as', ε2, s', S2, E2, ?_⟩
        have h' := PF.le l2 h'
        cases q2 : db ε2 s' with
        | nx ε3 s3 =>
          rw [q2] at h'
          exact fun F4 as4 σ4 H4 l4 S4 E4 => ⟨F4, as4, ε3, s3, (l'.trans l2).trans l4, S4, E4, lp_ck h', PF.le l4 h'⟩
        | ct ε3 s3 =>
          rw [q2] at h'
          exact fun F4 as4 σ4 H4 l4 S4 E4 => ⟨F4, as4, ε3, s3, (l'.trans l2).trans l4, S4, E4, lp_ck h', PF.le l4 h'⟩
        | brk ε3 s3 =>
          rw [q2] at h'
          exact h'
        | ret y s3 =>
          rw [q2] at h'
          exact h'
        | exc c ε3 s3 =>
          rw [q2] at h'
          exact h'
        | bad =>
          rw [q2] at h'
          exact h'
    · have ei : i = xs.length := by omega
      subst ei
      refine .inl ⟨sr.stop F' G as' s' H2 l' S' ok', ?_⟩
      rw [List.drop_length] at h'
      unfold lp at h'
      rw [if_pos ok'] at h'
      exact h' F' as' σ2 H2 Le.refl S' E'
end

/-! ### comprehensions -/
def Rs.noexc {α : Type} : Rs α → Rs α
  | .ok a s => .ok a s
  | _ => .bad
open Classical in
noncomputable def cl (ck : Option (Nat × Ob)) (dg : DG) (dt : DT) (del : DE) (ε : En) : List Va → List Va → Sto → Rs (List Va)
  | [], acc, s => if okk ck s then .ok acc s else .bad
  | x :: r, acc, s => if okk ck s then (match dg x ε s with
    | none => .bad
    | some ε2 => (dt ε2 s).noexc.bind fun b s1 => if b = true then (del ε2 s1).noexc.bind fun y s2 => cl ck dg dt del ε r (acc ++ [y]) s2 else cl ck dg dt del ε r acc s1) else .bad
noncomputable def dLc (bx : Bool) (di : DI) (dg : DG) (dt : DT) (del : DE) (vs : List Nat) : DE := fun ε s => (di ε s).bind fun src s1 => if leq src.2.length 100000 then (cl src.1 dg dt del (wip ε vs) src.2 [] s1).bind fun acc s2 => mkL bx acc s2 else .bad
abbrev W0 : WX := fun _ _ _ _ => False
section
variable {K : PySem.W.Frag} {CL : Cls0} {W : Value → Option Addr → Hp → Prop} {F G H : Hp} {as : List Addr} {s : Sto}
theorem Pst.noexc {α β : Type} {RA : Hp → List Addr → α → β → Prop} {r : Rs α} {Q : β → Hp → Prop} {W' : Value → Option Addr → Hp → Prop} (h : Pst K CL W F G as RA r.noexc Q) : Pst K CL W' F G as RA r Q := by
  cases r with
  | ok x s => exact h
  | exc c s => exact h.elim
  | bad => exact h.elim
/-- the new list stands in what is kept -/
theorem Sim.hide {D : Addr} {o : HO} (S : Sim K F G as s H) (h : H D = none) : Sim K F (upd G D o) as s (upd H D o) where
  sub := fun a u e => by
    have ne : a ≠ D := fun z => by
      rw [z, S.fnone h] at e
      cases e
    rw [upd_ne ne]
    exact S.sub a u e
  fr := fun a u e => by
    by_cases q : a = D
    · subst q
      rw [upd_same] at e ⊢
      refine ⟨e, .inl (S.fnone h), fun z => ?_⟩
      obtain ⟨w, hw⟩ := S.here a z
      rw [h] at hw
      cases hw
    · rw [upd_ne q] at e ⊢
      exact S.fr a u e
  len := S.len
  here := fun a ha => by
    obtain ⟨w, hw⟩ := S.here a ha
    rw [upd_ne (ne_of_none hw h)]
    exact ⟨w, hw⟩
  nd := S.nd
  obj := fun i a ob h1 h2 => by
    obtain ⟨w, hw⟩ := S.here a (List.mem_of_getElem? h1)
    exact (S.obj i a ob h1 h2).mono2 Le.refl (fun z => z) (upd_ne (ne_of_none hw h))
theorem Sim.hid {D : Addr} {o : HO} (S : Sim K F (upd G D o) as s H) (ho : ∀ vs, o ≠ .tup vs) : F D = none := by
  obtain ⟨_, d2, _⟩ := S.fr D o upd_same
  rcases d2 with d | ⟨_, vs, e⟩
  · exact d
  · exact absurd e (ho vs)
theorem Sim.hidden {D : Addr} {o o' : HO} (S : Sim K F (upd G D o) as s H) (ho : ∀ vs, o ≠ .tup vs := by intro _ z; cases z) : Sim K F (upd G D o') as s (upd H D o') := by
  obtain ⟨d1, _, d3⟩ := S.fr D o upd_same
  have d2 := S.hid ho
  refine ⟨fun a u e => ?_, fun a u e => ?_, S.len, fun a ha => ?_, S.nd, fun i a ob h1 h2 => ?_⟩
  · have ne : a ≠ D := ne_of_none e d2
    rw [upd_ne ne]
    exact S.sub a u e
  · by_cases q : a = D
    · subst q
      rw [upd_same] at e ⊢
      exact ⟨e, .inl d2, d3⟩
    · rw [upd_ne q] at e ⊢
      exact S.fr a u (by rw [upd_ne q]; exact e)
  · obtain ⟨w, hw⟩ := S.here a ha
    have ne : a ≠ D := fun z => d3 (by rw [← z]; exact ha)
    rw [upd_ne ne]
    exact ⟨w, hw⟩
  · have ne : a ≠ D := fun z => d3 (by rw [← z]; exact List.mem_of_getElem? h1)
    exact (S.obj i a ob h1 h2).mono2 Le.refl (fun z => z) (upd_ne ne)
/-- it is frozen, or becomes an object of the store -/
theorem Sim.shown {D : Addr} {accV : List V} {acc : List Va} {bx : Bool} {Q : VK} (hG : G D = none) (S : Sim K F (upd G D (.lst accV)) as s H) (r : Rls K F as acc accV) (h : Pst K CL W F G as (Rl K) (mkL bx acc s) Q) : Q (.ref D) H := by
  obtain ⟨d1, _, d3⟩ := S.fr D _ upd_same
  have d2 := S.hid (fun _ z => by cases z)
  cases bx with
  | false =>
    refine h.ok (F' := upd F D (.lst accV)) (as' := as) (Le.new d2) ⟨fun a u e => ?_, fun a u e => ?_, S.len, S.here, S.nd, fun i a ob h1 h2 => ?_⟩ (.lst upd_same (r.mono (Le.new d2)))
    · by_cases q : a = D
      · subst q
        rw [upd_same] at e
        cases e
        exact d1
      · rw [upd_ne q] at e
        exact S.sub a u e
    · have q : a ≠ D := fun z => by
        rw [z, hG] at e
        cases e
      obtain ⟨e1, e2, e3⟩ := S.fr a u (by rw [upd_ne q]; exact e)
      rw [upd_ne q]
      exact ⟨e1, e2, e3⟩
    · have ne : a ≠ D := fun z => d3 (by rw [← z]; exact List.mem_of_getElem? h1)
      exact (S.obj i a ob h1 h2).mono2 (Le.new d2) (fun z => by rw [upd_ne ne]; exact z) rfl
  | true =>
    refine h.ok (F' := F) (as' := as ++ [D]) Le.push ⟨S.sub, fun a u e => ?_, by rw [List.length_append, List.length_append, S.len]; rfl, fun a ha => ?_, ?_, fun i a ob h1 h2 => ?_⟩ (.ref ?_)
    · have q : a ≠ D := fun z => by
        rw [z, hG] at e
        cases e
      obtain ⟨e1, e2, e3⟩ := S.fr a u (by rw [upd_ne q]; exact e)
      refine ⟨e1, e2, fun z => ?_⟩
      rcases List.mem_append.mp z with z | z
      · exact e3 z
      · exact q (List.mem_singleton.mp z)
    · rcases List.mem_append.mp ha with z | z
      · exact S.here a z
      · rw [List.mem_singleton.mp z]
        exact ⟨_, d1⟩
    · refine List.nodup_append.mpr ⟨S.nd, by simp, fun a ha b hb e => ?_⟩
      rw [List.mem_singleton.mp hb] at e
      exact d3 (by rw [← e]; exact ha)
    · by_cases hi : i < as.length
      · rw [List.getElem?_append_left hi] at h1
        rw [List.getElem?_append_left (by rw [← S.len]; exact hi)] at h2
        exact (S.obj i a ob h1 h2).mono2 Le.push (fun z => z) rfl
      · have l1 := (List.getElem?_eq_some_iff.mp h1).1
        rw [List.length_append] at l1
        have e : i = as.length := by simp at l1; omega
        subst e
        rw [List.getElem?_concat_length] at h1
        rw [S.len, List.getElem?_concat_length] at h2
        cases h1
        cases h2
        exact ⟨d2, accV, d1, r.mono Le.push⟩
    · rw [← S.len]
      exact List.getElem?_concat_length
end
theorem wipe_in {σ : L2.St} {i : Nat} : ∀ {vs : List Nat}, i ∈ vs → i < σ.length → (wipe σ vs)[i]? = some none
  | v :: vs, h, hl => by
    unfold wipe
    by_cases e : v = i
    · subst e
      rw [List.getElem?_set_self (by rw [wipe_length]; exact hl)]
    · rw [List.getElem?_set_ne e]
      rcases List.mem_cons.mp h with z | z
      · exact absurd z.symm e
      · exact wipe_in z hl
theorem wipe_eq {σ σ' : L2.St} {vs ts : List Nat} (hs : ∀ i ∈ ts, i ∈ vs) (hl : σ'.length = (wipe σ vs).length) (h : ∀ i, i ∉ ts → σ'[i]? = (wipe σ vs)[i]?) : wipe σ' vs = wipe σ vs := by
  apply List.ext_getElem?
  intro i
  rw [wipe_length] at hl
  by_cases hi : i ∈ vs
  · by_cases hz : i < σ.length
    · rw [wipe_in hi (by rw [hl]; exact hz), wipe_in hi hz]
    · rw [List.getElem?_eq_none (by rw [wipe_length, hl]; omega), List.getElem?_eq_none (by rw [wipe_length]; omega)]
  · rw [wipe_out hi]
    exact h i fun z => hi (hs i z)
section
variable {X : Cx} {CL : Cls0} {W : WX} {k : Nat} {elt tg iter : Expr} {ifs : List Expr} {scope : Scope} {own : List (Str × Nat)} {wi : TI} {g : TG} {dg : DG} {ts : List Nat} {dt : DT} {del : DE} {di : DI} {pos spos : Pos}
theorem tD_lc {σ : L2.St} {H : Hp} {Q : VK} (bx : Bool) (hi : RI X CL W tg iter wi di) (hg : ∀ F G as s H x v ε ε' σ Q, Sim X.K F G as s H → Rl X.K F as x v → ER X.K F as ε σ → dg x ε s = some ε' → (∀ σ', ER X.K F as ε' σ' → σ'.length = σ.length → (∀ i, i ∉ ts → σ'[i]? = σ[i]?) → Q σ' H) → g v σ H Q) {vs : List Nat} (hts : ∀ i ∈ ts, i ∈ vs)
    (h : tD X.K CL W (dLc bx di dg dt del vs) σ H Q) : tLc wi g (tDT X.K CL W0 dt) (tD X.K CL W0 del) vs σ H Q := by
  obtain ⟨F, G, as, ε, s, S, E, h⟩ := h
  refine hi.ok σ H _ ⟨F, G, as, ε, s, S, E, Pst.imp (Pst.bind h) fun J H1 ⟨F1, as1, s1, src, l, S1, sr, h1⟩ => ?_⟩
  obtain ⟨ck, xs⟩ := src
  dsimp only at sr h1
  split at h1
  case isFalse => exact h1.elim
  case isTrue hlen =>
  unfold leq at hlen
  intro D hD
  have hGD : G D = none := by
    cases q : G D with
    | none => rfl
    | some o =>
      have := (S1.fr D o q).1
      rw [hD] at this
      cases this
  refine ⟨fun i m H => m = xs.length - i ∧ i ≤ xs.length ∧ ∃ F' as' s' acc accV, Le F1 as1 F' as' ∧ Sim X.K F' (upd G D (.lst accV)) as' s' H ∧ Rls X.K F' as' acc accV ∧ acc.length ≤ i ∧
    Pst X.K CL (fun c d H => W c d σ H) F' G as' (Rl X.K) ((cl ck dg dt del (wip ε vs) (xs.drop i) acc s').bind fun acc s2 => mkL bx acc s2) Q,
    ⟨xs.length, by simp, Nat.zero_le _, F1, as1, s1, [], [], Le.refl, S1.hide hD, .nil, Nat.le_refl _, h1⟩, ?_⟩
  rintro i m H2 ⟨rfl, hi2, F', as', s', acc, accV, l', S', ra, hacc, h'⟩
  have ok' : okk ck s' := by
    cases q : xs.drop i with
    | nil =>
      rw [q] at h'
      unfold cl at h'
      split at h'
      · assumption
      · exact h'.elim
    | cons y r =>
      rw [q] at h'
      unfold cl at h'
      split at h'
      · assumption
      · exact h'.elim
  by_cases hlt : i < xs.length
  · refine .inr ⟨sr.go i F' _ as' s' H2 hlt l' S' ok', fun H3 => i + 1 ≤ xs.length ∧ ∃ F' as' s' acc accV, Le F1 as1 F' as' ∧ Sim X.K F' (upd G D (.lst accV)) as' s' H3 ∧ Rls X.K F' as' acc accV ∧ acc.length ≤ i + 1 ∧
      Pst X.K CL (fun c d H => W c d σ H) F' G as' (Rl X.K) ((cl ck dg dt del (wip ε vs) (xs.drop (i + 1)) acc s').bind fun acc s2 => mkL bx acc s2) Q, fun H3 p3 => ⟨xs.length - (i + 1), by omega, rfl, p3⟩, fun v H3 y => ?_⟩
    obtain ⟨z, F2, e, l2, S2, r⟩ := sr.yl i F' _ as' s' H2 v H3 hlt l' S' ok' y
    have ed : xs.drop i = z :: xs.drop (i + 1) := by
      obtain ⟨q1, q2⟩ := List.getElem?_eq_some_iff.mp e
      rw [List.drop_eq_getElem_cons q1, q2]
    rw [ed] at h'
    unfold cl at h'
    rw [if_pos ok'] at h'
    have EW : ER X.K F2 as' (wip ε vs) (wipe σ vs) := ER.wipe (E.mono ((l.trans l').trans l2)) vs
    cases q : dg z (wip ε vs) s' with
    | none =>
      rw [q] at h'
      exact h'.elim
    | some ε2 =>
      rw [q] at h'
      dsimp only at h'
      refine hg F2 _ as' s' H3 z v _ ε2 _ _ S2 r EW q fun σ2 E2 hl2 ho2 => ⟨wipe_eq hts hl2 ho2, ?_⟩
      refine ⟨F2, _, as', ε2, s', S2, E2, ?_⟩
      have h' := Pst.le l2 h'
      cases q3 : dt ε2 s' with
      | exc c s3 =>
        rw [q3] at h'
        exact h'.elim
      | bad =>
        rw [q3] at h'
        exact h'.elim
      | ok b s3 =>
        rw [q3] at h'
        intro F3 as3 H4 b' l3 S3 eb
        subst eb
        cases b with
        | true =>
          rw [if_pos rfl]
          dsimp only [Rs.noexc, Rs.bind] at h'
          rw [if_pos rfl] at h'
          refine ⟨F3, _, as3, ε2, s3, S3, E2.mono l3, ?_⟩
          cases q4 : del ε2 s3 with
          | exc c s4 =>
            rw [q4] at h'
            exact h'.elim
          | bad =>
            rw [q4] at h'
            exact h'.elim
          | ok y s4 =>
            rw [q4] at h'
            intro F4 as4 H5 w l4 S4 ry
            have la : accV.length ≤ 100000 := by rw [← ra.len]; omega
            refine ⟨accV, (S4.fr D _ upd_same).1, Nat.lt_of_le_of_lt la (by decide), by omega, F4, as4, s4, acc ++ [y], accV ++ [w], ((l'.trans l2).trans l3).trans l4, S4.hidden, ((ra.mono ((l2.trans l3).trans l4)).app (.cons ry .nil)), by rw [List.length_append]; simp; omega, ?_⟩
            exact Pst.le (l3.trans l4) h'
        | false =>
          rw [if_neg (by decide)]
          dsimp only [Rs.noexc, Rs.bind] at h'
          rw [if_neg (by decide)] at h'
          exact ⟨by omega, F3, as3, s3, acc, accV, (l'.trans l2).trans l3, S3, ra.mono (l2.trans l3), by omega, Pst.le l3 h'⟩
  · have ei : i = xs.length := by omega
    subst ei
    refine .inl ⟨sr.stop F' _ as' s' H2 l' S' ok', ?_⟩
    rw [List.drop_length] at h'
    unfold cl at h'
    rw [if_pos ok'] at h'
    exact S'.shown hGD ra h'
abbrev RTs (X : Cx) (CL : Cls0) (W : WX) (ifs : List Expr) (d : DT) : Prop := PTs X ifs (tDT X.K CL W d)
def dYes : DT := fun _ s => .ok true s
theorem rts_nil : RTs X CL W [] dYes := ⟨fun pins s σ H Q I h => pts_nil.run pins s σ H Q I (by
  obtain ⟨F, G, as, ε, s, S, E, h⟩ := h
  exact h.ok Le.refl S rfl)⟩
theorem re_lc (O : Okc X W k) (bx : Bool) (hi : RI X CL W tg iter wi di) (ok : BlkOk X.N X.env.scope scope own)
    (hg : ∀ (s : Shared) (H : Hp) (C : Addr) (cl : List (Str × Addr)) (fp : List Addr), Okc (X.blk s H scope (compEnvC scope cl C X.env) fp) W0 k → RG (X.blk s H scope (compEnvC scope cl C X.env) fp) tg g dg ts)
    (ht : ∀ (s : Shared) (H : Hp) (C : Addr) (cl : List (Str × Addr)) (fp : List Addr), Okc (X.blk s H scope (compEnvC scope cl C X.env) fp) W0 k → RTs (X.blk s H scope (compEnvC scope cl C X.env) fp) CL W0 ifs dt)
    (he : ∀ (s : Shared) (H : Hp) (C : Addr) (cl : List (Str × Addr)) (fp : List Addr), Okc (X.blk s H scope (compEnvC scope cl C X.env) fp) W0 k → RE (X.blk s H scope (compEnvC scope cl C X.env) fp) CL W0 elt del)
    (hts : ∀ i ∈ ts, i ∈ own.map (·.2) := by decide) (hs : ∀ x, foldedSetIterable iter X.env x = pure x := by intro _; rfl) :
    RE X CL W (.ListComp elt [⟨tg, iter, ifs, 0⟩] scope pos) (dLc bx di dg dt del (own.map (·.2))) := by
  have OB : ∀ (s : Shared) (H : Hp) (C : Addr) (cl : List (Str × Addr)) (fp : List Addr), Okc (X.blk s H scope (compEnvC scope cl C X.env) fp) W0 k := fun s H C cl fp => ⟨O.calm, takes0, PassesOwn.never, O.room, O.nd⟩
  refine pe_weak (pe_lc (te := tD X.K CL W0 del) (tt := tDT X.K CL W0 dt) (g := g) O.calm O.nd hi.pi ok (fun s H C cl fp => (hg s H C cl fp (OB s H C cl fp)).pg) (fun s H C cl fp => ht s H C cl fp (OB s H C cl fp)) (fun s H C cl fp => he s H C cl fp (OB s H C cl fp)) hs) fun σ H Q h => ?_
  exact tD_lc bx hi (hg X.s_0 (fun _ => none) 0 [] [] (OB _ _ _ _ _)).ok hts h
theorem rs_setLc {i : Nat} {y : Str} {py : Pos} (O : Okc X W k) (hy : X.N[i]? = some y) (hyl : X.env.scope.names.lookup y = some .local) (hsw : swapsWith (.ListComp elt [⟨tg, iter, ifs, 0⟩] scope pos) (some (.Name y py)) spos.line X.env = pure true) (bx : Bool) (hi : RI X CL W tg iter wi di) (ok : BlkOk X.N X.env.scope scope own)
    (hg : ∀ (s : Shared) (H : Hp) (C : Addr) (cl : List (Str × Addr)) (fp : List Addr), Okc (X.blk s H scope (compEnvC scope cl C X.env) fp) W0 k → RG (X.blk s H scope (compEnvC scope cl C X.env) fp) tg g dg ts)
    (ht : ∀ (s : Shared) (H : Hp) (C : Addr) (cl : List (Str × Addr)) (fp : List Addr), Okc (X.blk s H scope (compEnvC scope cl C X.env) fp) W0 k → RTs (X.blk s H scope (compEnvC scope cl C X.env) fp) CL W0 ifs dt)
    (he : ∀ (s : Shared) (H : Hp) (C : Addr) (cl : List (Str × Addr)) (fp : List Addr), Okc (X.blk s H scope (compEnvC scope cl C X.env) fp) W0 k → RE (X.blk s H scope (compEnvC scope cl C X.env) fp) CL W0 elt del)
    (hts : ∀ i ∈ ts, i ∈ own.map (·.2) := by decide) (hs : ∀ x, foldedSetIterable iter X.env x = pure x := by intro _; rfl) :
    RS X CL W (.Assign [.Name y py] (.ListComp elt [⟨tg, iter, ifs, 0⟩] scope pos) spos) (sSet i (dLc bx di dg dt del (own.map (·.2)))) := by
  have OB : ∀ (s : Shared) (H : Hp) (C : Addr) (cl : List (Str × Addr)) (fp : List Addr), Okc (X.blk s H scope (compEnvC scope cl C X.env) fp) W0 k := fun s H C cl fp => ⟨O.calm, takes0, PassesOwn.never, O.room, O.nd⟩
  refine ps_weak (ps_setLc (te := tD X.K CL W0 del) (tt := tDT X.K CL W0 dt) (g := g) O.calm O.nd hy hyl hsw hi.pi ok (fun s H C cl fp => (hg s H C cl fp (OB s H C cl fp)).pg) (fun s H C cl fp => ht s H C cl fp (OB s H C cl fp)) (fun s H C cl fp => he s H C cl fp (OB s H C cl fp)) hs) fun D σ H h => ?_
  exact tDS_set (fun Q q => tD_lc bx hi (hg X.s_0 (fun _ => none) 0 [] [] (OB _ _ _ _ _)).ok hts q) h
end
end Dn

set_option Elab.async false
set_option linter.all false
set_option maxRecDepth 100000
set_option maxHeartbeats 1000000
/-! Dn, part F: calls and defs; freezing; while; raise. -/
namespace Dn
open PySem PySem.Spec PyProof.Rows L2

/-! ### what a def promises -/
def spF (K : PySem.W.Frag) (CL : Cls0) (n : Nat) (F0 : List Va → Sto → Rs Va) : Sp := fun vs H Q E => ∃ F G as s args, Sim K F G as s H ∧ Rls K F as args vs ∧ args.length = n ∧ Pst K CL E F G as (Rl K) (F0 args s) Q
def gFn (n : Nat) (F0 : List Va → Sto → Rs Va) : List Va → Sto → Rs Va := fun xs s => if xs.length = n then F0 xs s else .bad
section
variable {X : Cx} {CL : Cls0} {W : WX} {k j : Nat} {f : Addr} {fd : FuncData} {ps : List Str} {F0 : List Va → Sto → Rs Va} {x : Str} {p pos : Pos} {e : Expr} {es : List Expr} {dr : DA}
theorem re_call (O : Okc X W j) (F : FnOk X.prog X.w X.K X.mg X.base (L2.CX X.prog X.w) k f fd ps (spF X.K CL ps.length F0)) (hk : k ≤ j) (hm : X.mg x = some (.ref f)) (hkp : PySem.W.keepIn X.K (.ref f) = true) (hb : Binds X.K fd ps []) (ha : RA X CL W (e :: es) dr) (hg : Gl X x := by rfl)
    (hdb : (x == ("__debug__" : Str)) = false := by decide) (he : starEach (e :: es) X.env = (false, eval e X.env) :: starEach es X.env := by rfl) (hpl : (backTo pos (starEach es X.env)).any (·.1) = false := by rfl) :
    RE X CL W (.Call (.Name x p) (e :: es) [] pos) (dApp (gFn ps.length F0) dr) :=
  pe_weak (pe_callS (E := WE W) F (O.room.mono hk) hg hm hkp hb (fun σ => passAt O.tk σ) ha hdb he hpl) fun σ H Q h => by
    obtain ⟨F, G, as, ε, s, S, E, h⟩ := h
    refine ⟨F, G, as, ε, s, S, E, Pst.imp (Pst.bind h) fun v H1 ⟨F1, as1, s1, y, l, S1, rx, h1⟩ => ?_⟩
    unfold gFn at h1
    split at h1
    · rename_i hc
      exact ⟨F1, G, as1, s1, y, S1, rx, hc, h1⟩
    · exact h1.elim
end

/-! ### refs below a bound -/
mutual
def vaB (n : Nat) : Va → Prop
  | .ref i => i < n
  | .tup xs => vasB n xs
  | .lst xs => vasB n xs
  | .ext xs => vasB n xs
  | .dicK kvs => vksB n kvs
  | .dicT kvs => vtsB n kvs
  | .non => True
  | .bl _ => True
  | .int _ => True
  | .str _ => True
def vasB (n : Nat) : List Va → Prop
  | [] => True
  | x :: xs => vaB n x ∧ vasB n xs
def vksB (n : Nat) : List (Key × Va) → Prop
  | [] => True
  | (_, x) :: xs => vaB n x ∧ vksB n xs
def vtsB (n : Nat) : List (List Key × Va) → Prop
  | [] => True
  | (_, x) :: xs => vaB n x ∧ vtsB n xs
end
def vfsB (n : Nat) : List (Str × Va) → Prop
  | [] => True
  | (_, x) :: xs => vaB n x ∧ vfsB n xs
def vbsB (n : Nat) : List (List Bool × Va) → Prop
  | [] => True
  | (_, x) :: xs => vaB n x ∧ vbsB n xs
def obB (n : Nat) : Ob → Prop
  | .lst xs => vasB n xs
  | .dicK kvs => vksB n kvs
  | .dicT kvs => vtsB n kvs
  | .ins _ fs => vfsB n fs
  | .dead => True
  | .fdK _ _ kvs => vksB n kvs
  | .fdT _ _ kvs => vtsB n kvs
  | .dicB kvs => vbsB n kvs
  | .fdB _ _ kvs => vbsB n kvs
def WFn (n : Nat) (s : Sto) : Prop := ∀ o ∈ s, obB n o
section
variable {K : PySem.W.Frag} {F G H : Hp} {as : List Addr} {s : Sto}
mutual
theorem Rl.bnd : ∀ {x : Va} {v : V}, Rl K F as x v → vaB as.length x
  | _, _, .non => trivial
  | _, _, .bl b => trivial
  | _, _, .int i => trivial
  | _, _, .str x => trivial
  | _, _, .tup _ r => Rls.bnd r
  | _, _, .lst _ r => Rls.bnd r
  | _, _, .ext _ r => Rls.bnd r
  | _, _, .dicK _ r => RlK.bnd r
  | _, _, .dicT _ r => RlT.bnd r
  | _, _, .ref h => (List.getElem?_eq_some_iff.mp h).1
theorem Rls.bnd : ∀ {xs : List Va} {vs : List V}, Rls K F as xs vs → vasB as.length xs
  | _, _, .nil => trivial
  | _, _, .cons h r => ⟨Rl.bnd h, Rls.bnd r⟩
theorem RlK.bnd : ∀ {xs : List (Key × Va)} {vs : List (Key × V)}, RlK K F as xs vs → vksB as.length xs
  | _, _, .nil => trivial
  | _, _, .cons h r => ⟨Rl.bnd h, RlK.bnd r⟩
theorem RlT.bnd : ∀ {xs : List (List Key × Va)} {vs : List (List Key × V)}, RlT K F as xs vs → vtsB as.length xs
  | _, _, .nil => trivial
  | _, _, .cons h r => ⟨Rl.bnd h, RlT.bnd r⟩
end
theorem RlF.bnd : ∀ {xs : List (Str × Va)} {vs : List (Str × V)}, RlF K F as xs vs → vfsB as.length xs
  | _, _, .nil => trivial
  | _, _, .cons h r => ⟨Rl.bnd h, RlF.bnd r⟩
mutual
theorem Rl.cut (n : Nat) : ∀ {x : Va} {v : V}, Rl K F as x v → vaB n x → Rl K F (as.take n) x v
  | _, _, .non, _ => .non
  | _, _, .bl b, _ => .bl b
  | _, _, .int i, _ => .int i
  | _, _, .str x, _ => .str x
  | _, _, .tup h r, b => .tup h (Rls.cut n r b)
  | _, _, .lst h r, b => .lst h (Rls.cut n r b)
  | _, _, .ext h r, b => .ext h (Rls.cut n r b)
  | _, _, .dicK h r, b => .dicK h (RlK.cut n r b)
  | _, _, .dicT h r, b => .dicT h (RlT.cut n r b)
  | _, _, .ref h, b => .ref (by rw [List.getElem?_take_of_lt b]; exact h)
theorem Rls.cut (n : Nat) : ∀ {xs : List Va} {vs : List V}, Rls K F as xs vs → vasB n xs → Rls K F (as.take n) xs vs
  | _, _, .nil, _ => .nil
  | _, _, .cons h r, b => .cons (Rl.cut n h b.1) (Rls.cut n r b.2)
theorem RlK.cut (n : Nat) : ∀ {xs : List (Key × Va)} {vs : List (Key × V)}, RlK K F as xs vs → vksB n xs → RlK K F (as.take n) xs vs
  | _, _, .nil, _ => .nil
  | _, _, .cons h r, b => .cons (Rl.cut n h b.1) (RlK.cut n r b.2)
theorem RlT.cut (n : Nat) : ∀ {xs : List (List Key × Va)} {vs : List (List Key × V)}, RlT K F as xs vs → vtsB n xs → RlT K F (as.take n) xs vs
  | _, _, .nil, _ => .nil
  | _, _, .cons h r, b => .cons (Rl.cut n h b.1) (RlT.cut n r b.2)
end
theorem RlF.cut (n : Nat) : ∀ {xs : List (Str × Va)} {vs : List (Str × V)}, RlF K F as xs vs → vfsB n xs → RlF K F (as.take n) xs vs
  | _, _, .nil, _ => .nil
  | _, _, .cons h r, b => .cons (Rl.cut n h b.1) (RlF.cut n r b.2)
theorem RlB.cut (n : Nat) : ∀ {xs : List (List Bool × Va)} {vs : List (List Bool × V)}, RlB K F as xs vs → vbsB n xs → RlB K F (as.take n) xs vs
  | _, _, .nil, _ => .nil
  | _, _, .cons h r, b => .cons (Rl.cut n h b.1) (RlB.cut n r b.2)
theorem RlB.bnd : ∀ {xs : List (List Bool × Va)} {vs : List (List Bool × V)}, RlB K F as xs vs → vbsB as.length xs
  | _, _, .nil => trivial
  | _, _, .cons h r => ⟨Rl.bnd h, RlB.bnd r⟩
theorem Sim.wf (S : Sim K F G as s H) : WFn s.length s := fun o ho => by
  obtain ⟨i, hi, e⟩ := List.mem_iff_getElem.mp ho
  have e2 : s[i]? = some o := by rw [List.getElem?_eq_getElem hi, e]
  obtain ⟨a, ha⟩ := S.at e2
  have r := S.obj i a o ha e2
  rw [← S.len]
  cases o with
  | lst xs => obtain ⟨_, vs, _, h⟩ := r; exact h.bnd
  | dicK xs => obtain ⟨_, vs, _, h⟩ := r; exact h.bnd
  | dicT xs => obtain ⟨_, vs, _, h⟩ := r; exact h.bnd
  | ins C xs => obtain ⟨_, dx, vs, _, h⟩ := r; exact h.bnd
  | dead => trivial
  | fdK od ks xs => obtain ⟨_, _, h⟩ := r; exact h.bnd
  | fdT od ks xs => obtain ⟨_, _, h⟩ := r; exact h.bnd
  | dicB xs => obtain ⟨_, ks, ys, _, _, h⟩ := r; exact h.bnd
  | fdB od ys xs => obtain ⟨_, ks, _, _, h⟩ := r; exact h.bnd
theorem ObR.cut {a : Addr} {o : Ob} (n : Nat) (h : ObR K F as H a o) (b : obB n o) : ObR K F (as.take n) H a o := by
  cases o with
  | lst xs => obtain ⟨hf, vs, h1, h2⟩ := h; exact ⟨hf, vs, h1, h2.cut n b⟩
  | dicK xs => obtain ⟨hf, vs, h1, h2⟩ := h; exact ⟨hf, vs, h1, h2.cut n b⟩
  | dicT xs => obtain ⟨hf, vs, h1, h2⟩ := h; exact ⟨hf, vs, h1, h2.cut n b⟩
  | ins C xs => obtain ⟨hf, dx, vs, h1, h2⟩ := h; exact ⟨hf, dx, vs, h1, h2.cut n b⟩
  | dead => trivial
  | fdK od ks xs => obtain ⟨hf, h1, h2⟩ := h; exact ⟨hf, h1, h2.cut n b⟩
  | fdT od ks xs => obtain ⟨hf, h1, h2⟩ := h; exact ⟨hf, h1, h2.cut n b⟩
  | dicB xs => obtain ⟨hf, ks, ys, h1, h2, h3⟩ := h; exact ⟨hf, ks, ys, h1, h2, h3.cut n b⟩
  | fdB od ys xs => obtain ⟨hf, ks, h1, h2, h3⟩ := h; exact ⟨hf, ks, h1, h2, h3.cut n b⟩
theorem Sim.cut (n : Nat) (S : Sim K F G as s H) (w : WFn n (s.take n)) : Sim K F G (as.take n) (s.take n) H where
  sub := S.sub
  fr := fun a o e => by
    obtain ⟨h1, h2, h3⟩ := S.fr a o e
    exact ⟨h1, h2, fun z => h3 (List.mem_of_mem_take z)⟩
  len := by rw [List.length_take, List.length_take, S.len]
  here := fun a ha => S.here a (List.mem_of_mem_take ha)
  nd := S.nd.sublist (List.take_sublist _ _)
  obj := fun i a o h1 h2 => by
    have hi : i < n := by
      have := (List.getElem?_eq_some_iff.mp h2).1
      rw [List.length_take] at this
      omega
    have e2 := h2
    rw [List.getElem?_take_of_lt hi] at h1 h2
    exact (S.obj i a o h1 h2).cut n (w o (List.mem_of_getElem? e2))
/-- .. and one object kept behind them -/
theorem Sim.cutBox (n : Nat) {i : Nat} {a : Addr} {o : Ob} (S : Sim K F G as s H) (w : WFn n (s.take n)) (hn : n ≤ s.length) (hi : n ≤ i) (ha : as[i]? = some a) (ho : s[i]? = some o) (hb : obB n o) : Sim K F G (as.take n ++ [a]) (s.take n ++ [o]) H := by
  have S1 := S.cut n w
  have hm : a ∉ as.take n := fun z => by
    obtain ⟨j, hj, e⟩ := List.mem_iff_getElem.mp z
    rw [List.length_take] at hj
    rw [List.getElem_take] at e
    obtain ⟨l2, e2⟩ := List.getElem?_eq_some_iff.mp ha
    have := (List.getElem_inj S.nd).mp (e.trans e2.symm)
    omega
  refine ⟨S.sub, fun b u e => ?_, by rw [List.length_append, List.length_append, S1.len]; rfl, fun b hb => ?_, ?_, fun j b ob h1 h2 => ?_⟩
  · obtain ⟨h1, h2, h3⟩ := S.fr b u e
    refine ⟨h1, h2, fun z => h3 ?_⟩
    rcases List.mem_append.mp z with z | z
    · exact List.mem_of_mem_take z
    · rw [List.mem_singleton.mp z]
      exact List.mem_of_getElem? ha
  · rcases List.mem_append.mp hb with z | z
    · exact S1.here b z
    · rw [List.mem_singleton.mp z]
      exact S.here a (List.mem_of_getElem? ha)
  · refine List.nodup_append.mpr ⟨S1.nd, by simp, fun b hb c hc e => ?_⟩
    rw [List.mem_singleton.mp hc] at e
    exact hm (by rw [← e]; exact hb)
  · by_cases hj : j < (as.take n).length
    · rw [List.getElem?_append_left hj] at h1
      rw [List.getElem?_append_left (by rw [← S1.len]; exact hj)] at h2
      exact (S1.obj j b ob h1 h2).mono2 Le.push (fun z => z) rfl
    · have l1 := (List.getElem?_eq_some_iff.mp h1).1
      rw [List.length_append] at l1
      have e : j = (as.take n).length := by simp at l1 hj ⊢; omega
      subst e
      rw [List.getElem?_concat_length] at h1
      rw [S1.len, List.getElem?_concat_length] at h2
      cases h1
      cases h2
      exact ((S.obj i a o ha ho).cut n hb).mono2 Le.push (fun z => z) rfl
end

/-! ### freezing -/
mutual
inductive Frz : Va → Sto → Va → Sto → Prop
  | same (x : Va) (s : Sto) : Frz x s x s
  | lst {i : Nat} {xs xs' : List Va} {s s1 : Sto} : s[i]? = some (.lst xs) → Frzs xs s xs' s1 → s1[i]? = some (.lst xs) → Frz (.ref i) s (.lst xs') (s1.set i .dead)
  | dicK {i : Nat} {kvs : List (Key × Va)} {s : Sto} : s[i]? = some (.dicK kvs) → Frz (.ref i) s (.dicK kvs) (s.set i .dead)
  | dicT {i : Nat} {kvs : List (List Key × Va)} {s : Sto} : s[i]? = some (.dicT kvs) → Frz (.ref i) s (.dicT kvs) (s.set i .dead)
  | tup {xs xs' : List Va} {s s' : Sto} : Frzs xs s xs' s' → Frz (.tup xs) s (.tup xs') s'
  | lstI {xs xs' : List Va} {s s' : Sto} : Frzs xs s xs' s' → Frz (.lst xs) s (.lst xs') s'
inductive Frzs : List Va → Sto → List Va → Sto → Prop
  | nil (s : Sto) : Frzs [] s [] s
  | cons {x x' : Va} {xs xs' : List Va} {s s1 s2 : Sto} : Frz x s x' s1 → Frzs xs s1 xs' s2 → Frzs (x :: xs) s (x' :: xs') s2
end
theorem Frzs.same : ∀ (xs : List Va) (s : Sto), Frzs xs s xs s
  | [], s => .nil s
  | x :: xs, s => .cons (.same x s) (Frzs.same xs s)
section
variable {K : PySem.W.Frag} {G H : Hp} {as : List Addr}
mutual
theorem frz_ok : ∀ {x x' : Va} {s s' : Sto}, Frz x s x' s' → ∀ {F : Hp} {v : V}, Sim K F G as s H → Rl K F as x v → ∃ F', Le F as F' as ∧ Sim K F' G as s' H ∧ Rl K F' as x' v
  | _, _, _, _, .same x s, F, v, S, r => ⟨F, Le.refl, S, r⟩
  | _, _, _, _, .lst (i := i) (xs := xs) (xs' := xs') e h e2, F, v, S, r => by
    cases r with
    | ref ha =>
      obtain ⟨hf, vs, h1, h2⟩ := S.ref ha e
      obtain ⟨F1, l1, S1, r1⟩ := frzs_ok h S h2
      obtain ⟨hf1, vs1, h3, h4⟩ := S1.ref ha e2
      exact ⟨_, l1.trans (Le.new hf1), S1.freeze ha h1 hf1, .lst upd_same (r1.mono (Le.new hf1))⟩
  | _, _, _, _, .dicK e, F, v, S, r => by
    cases r with
    | ref ha =>
      obtain ⟨hf, vs, h1, h2⟩ := S.ref ha e
      exact ⟨_, Le.new hf, S.freeze ha h1 hf, .dicK upd_same (h2.mono (Le.new hf))⟩
  | _, _, _, _, .dicT e, F, v, S, r => by
    cases r with
    | ref ha =>
      obtain ⟨hf, vs, h1, h2⟩ := S.ref ha e
      exact ⟨_, Le.new hf, S.freeze ha h1 hf, .dicT upd_same (h2.mono (Le.new hf))⟩
  | _, _, _, _, .tup h, F, v, S, r => by
    cases r with
    | tup hf hr =>
      obtain ⟨F1, l1, S1, r1⟩ := frzs_ok h S hr
      exact ⟨F1, l1, S1, .tup (l1.f _ _ hf) r1⟩
  | _, _, _, _, .lstI h, F, v, S, r => by
    cases r with
    | lst hf hr =>
      obtain ⟨F1, l1, S1, r1⟩ := frzs_ok h S hr
      exact ⟨F1, l1, S1, .lst (l1.f _ _ hf) r1⟩
theorem frzs_ok : ∀ {xs xs' : List Va} {s s' : Sto}, Frzs xs s xs' s' → ∀ {F : Hp} {vs : List V}, Sim K F G as s H → Rls K F as xs vs → ∃ F', Le F as F' as ∧ Sim K F' G as s' H ∧ Rls K F' as xs' vs
  | _, _, _, _, .nil s, F, v, S, r => by
    cases r
    exact ⟨F, Le.refl, S, .nil⟩
  | _, _, _, _, .cons h1 h2, F, v, S, r => by
    cases r with
    | cons q1 q2 =>
      obtain ⟨F1, l1, S1, r1⟩ := frz_ok h1 S q1
      obtain ⟨F2, l2, S2, r2⟩ := frzs_ok h2 S1 (q2.mono l1)
      exact ⟨F2, l1.trans l2, S2, .cons (r1.mono l2) r2⟩
end
end

/-! ### defs -/
/-- how a def's end stands to its mirror's -/
inductive Fin (n : Nat) (raw : Fl) : Rs Va → Prop
  | bad : Fin n raw .bad
  | exc {c : Str} {s0 : Sto} {ε : En} : raw = .exc c ε s0 → WFn n (s0.take n) → Fin n raw (.exc c (s0.take n))
  | ok {v0 v : Va} {s0 s1 : Sto} : (raw = .ret v0 s0 ∨ ∃ ε, raw = .nx ε s0 ∧ v0 = .non) → Frz v0 s0 v s1 → vaB n v → WFn n (s1.take n) → Fin n raw (.ok v (s1.take n))
  | box {v0 : Va} {s0 s1 : Sto} {i : Nat} {o : Ob} : raw = .ret v0 s0 → Frz v0 s0 (.ref i) s1 → n ≤ i → s1[i]? = some o → obB n o → WFn n (s1.take n) → Fin n raw (.ok (.ref n) (s1.take n ++ [o]))
  | keep {v0 : Va} {s0 : Sto} : (raw = .ret v0 s0 ∨ ∃ ε, raw = .nx ε s0 ∧ v0 = .non) → Fin n raw (.ok v0 s0)
def startA (n : Nat) (args : List Va) : En := args.map some ++ List.replicate (n - args.length) none
theorem ER.start {K : PySem.W.Frag} {F : Hp} {as : List Addr} {N : List Str} {args : List Va} {vs : List V} (r : Rls K F as args vs) : ER K F as (startA N.length args) (L2.start N vs) where
  len := by
    unfold startA L2.start
    rw [List.length_append, List.length_append, List.length_map, List.length_map, List.length_replicate, List.length_replicate, r.len]
  get := fun i x h => by
    unfold startA at h
    by_cases hi : i < args.length
    · rw [List.getElem?_append_left (by simpa using hi), List.getElem?_map] at h
      cases e : args[i]? with
      | none =>
        rw [e] at h
        cases h
      | some y =>
        rw [e] at h
        cases h
        obtain ⟨v, h1, h2⟩ := r.get e
        refine ⟨v, ?_, h2⟩
        unfold L2.start
        rw [List.getElem?_append_left (by rw [List.length_map, ← r.len]; exact hi), List.getElem?_map, h1]
        rfl
    · rw [List.getElem?_append_right (by simpa using hi), List.getElem?_replicate] at h
      split at h <;> cases h
section
variable {P : Program} {w : World} {K : PySem.W.Frag} {mg : Str → Option Value} {base : Heap} {CL : Cls0}
theorem take_le {as as' : List Addr} {n : Nat} {F F' : Hp} (l : Le F as F' as') (h : as.length = n) : Le F as F' (as'.take n) := ⟨l.f, fun i p e => by
  have hi := (List.getElem?_eq_some_iff.mp e).1
  rw [List.getElem?_take_of_lt (by omega)]
  exact l.a i p e⟩
theorem fin_ok {W : WX} {E : XK} {F G : Hp} {as : List Addr} {n : Nat} {raw : Fl} {r : Rs Va} {Q : VK} (hW : ∀ c d σ H, E c d H → W c d σ H) (hl : as.length = n) (f : Fin n raw r) (h : Pst K CL E F G as (Rl K) r Q) : PF K CL W F G as raw { nx := fun _ H' => Q .non H', rt := Q } := by
  cases f with
  | bad => exact h.elim
  | exc e w =>
    subst e
    exact fun F' as' σ' H' l S E' => hW _ _ _ _ (h F' (as'.take n) H' (take_le l hl) (S.cut n w))
  | ok e z b w =>
    have go : ∀ F' as' H' v, Le F as F' as' → Sim K F' G as' _ H' → Rl K F' as' _ v → Q v H' := fun F' as' H' v l S r => by
      obtain ⟨F2, l2, S2, r2⟩ := frz_ok z S r
      exact h F2 (as'.take n) H' v (take_le (l.trans l2) hl) (S2.cut n w) (r2.cut n b)
    rcases e with e | ⟨ε, e, e2⟩
    · subst e
      exact go
    · subst e e2
      exact fun F' as' σ' H' l S _ => go F' as' H' .non l S .non
  | box e z hi ho hb w =>
    subst e
    intro F' as' H' v l S r
    obtain ⟨F2, l2, S2, r2⟩ := frz_ok z S r
    cases r2 with
    | @ref _ a ha =>
      have hn : n ≤ as'.length := by
        have := (List.getElem?_eq_some_iff.mp ha).1
        omega
      refine h F2 (as'.take n ++ [a]) H' _ ⟨(l.trans l2).f, fun i p e => ?_⟩ (S2.cutBox n w (by rw [← S2.len]; exact hn) hi ha ho hb) (.ref ?_)
      · have := (take_le (l.trans l2) hl).a i p e
        rw [List.getElem?_append_left (List.getElem?_eq_some_iff.mp this).1]
        exact this
      · have e3 : (as'.take n).length = n := by rw [List.length_take]; omega
        have := List.getElem?_concat_length (l := as'.take n) (a := a)
        rw [e3] at this
        exact this
  | keep e =>
    rcases e with e | ⟨ε, e, e2⟩
    · subst e
      exact h
    · subst e e2
      exact fun F' as' σ' H' l S _ => h F' as' H' .non l S .non
theorem fn_D {x qual : Str} {st : Stmt} {f : Addr} {fd : FuncData} {N ps : List Str} {k : Nat} {b : DS} {F0 : List Va → Sto → Rs Va} (F : Fun K x qual st f fd) (S : FnScope N ps (defScope st))
    (hb : ∀ (cdv : Value) (A : Around) (outer : List Env) (s : Shared) (H : Hp) (E : XK), Okc (cxOf (L2.CX P w) P w K mg base N qual (defScope st) f cdv A outer s H E) (fun cls d _ H => E cls d H) k →
      RSs (cxOf (L2.CX P w) P w K mg base N qual (defScope st) f cdv A outer s H E) CL (fun cls d _ H => E cls d H) (defBody st) b)
    (hfin : ∀ args s, WFn s.length s → vasB s.length args → args.length = ps.length → Fin s.length (b (startA N.length args) s) (F0 args s)) : FnOk P w K mg base (L2.CX P w) (k + 1) f fd ps (spF K CL ps.length F0) := by
  refine F.okX S (fun vs H Q E h => ?_) (fun cdv A outer s H vs Q E hr h => ?_)
  · obtain ⟨_, _, _, _, args, _, r, hl, _⟩ := h
    rw [← r.len]
    exact hl
  · obtain ⟨F1, G, as, st', args, Sm, ra, hl, hp⟩ := h
    refine ⟨_, hb cdv A outer s H E ⟨rfl, takes_of rfl rfl rfl rfl, passes_of rfl, hr, S.nd⟩, F1, G, as, _, st', Sm, ER.start ra, ?_⟩
    exact fin_ok (fun _ _ _ _ h => h) Sm.len (hfin args st' Sm.wf (by rw [← Sm.len]; exact ra.bnd) hl) hp
end

/-! ### raise -/
def sRaise (c : Str) : DS := fun ε s => .exc c ε s
/-! ### while -/
section
variable {X : Cx} {CL : Cls0} {W : WX} {k : Nat} {c : Expr} {body : List Stmt} {dc : DT} {db : DS} {pos : Pos}
end

/-! ### the law -/
theorem law_sp {K : PySem.W.Frag} {CL : Cls0} {F0 : List Va → Sto → Rs Va} {H : Hp} {a : Addr} {ns : List Int} (hS : SqL K H a (ns.map V.int)) (h : F0 [.ext (ns.map .int)] [] = .ok (.bl true) []) :
    spF K CL 1 F0 [.ref a] H (fun v _ => v = .bl true) fun _ _ _ => False := by
  refine ⟨H, fun _ => none, [], [], [.ext (ns.map .int)], ⟨fun _ _ h => h, fun _ _ h => (nomatch h), rfl, fun _ h => (nomatch h), List.nodup_nil, fun i a o h => by simp at h⟩, .cons (.ext (.inl hS) Rls.ofInts) .nil, rfl, ?_⟩
  rw [h]
  intro F' as' H' v l S r
  cases r
  rfl
theorem law_cx {P : Program} {w : World} {H : Hp} {s : Shared} {e : Value} {s' : Shared} (h : L2.CX P w [] H s (fun _ _ _ => False) e s') : False := by
  obtain ⟨_, _, _, _, _, _, _, _, _, _, _, _, z⟩ := h
  exact z.elim
end Dn

set_option Elab.async false
set_option linter.all false
set_option maxRecDepth 100000
set_option maxHeartbeats 1000000
/-! Dn, part G: the text's defs, calls by name; simp sets for evaluation. -/
namespace Dn
open PySem PySem.Spec PyProof.Rows L2

/-- a def of the text -/
def Txt (K : PySem.W.Frag) (mg : Str → Option Value) (x : Str) (st : Stmt) (ps : List Str) : Prop := ∃ f fd, Fun K x x st f fd ∧ mg x = some (.ref f) ∧ Binds K fd ps []
/-- a def that may be called -/
def Cal (P : Program) (w : World) (K : PySem.W.Frag) (mg : Str → Option Value) (base : Heap) (CL : Cls0) (x : Str) (ps : List Str) (k : Nat) (F0 : List Va → Sto → Rs Va) : Prop :=
  ∃ f fd, FnOk P w K mg base (L2.CX P w) k f fd ps (spF K CL ps.length F0) ∧ mg x = some (.ref f) ∧ PySem.W.keepIn K (.ref f) = true ∧ Binds K fd ps []
section
variable {P : Program} {w : World} {K : PySem.W.Frag} {mg : Str → Option Value} {base : Heap} {CL : Cls0}
theorem txt_mk {x : Str} {st : Stmt} {ps : List Str} {f : Addr} {oc : Value} {od an : Option Addr} {osl : Array (Option Value)} {kV doc pm cdv ct : Value} (hm : mg x = some (.ref f)) (l : K.lookup f = some ⟨oc, od, .func (PySem.W.fnOf x x (defArgs st) (defBody st) (defScope st) .none kV doc pm an cdv ct), osl⟩)
    (c : PySem.W.codeIn K cdv x = true) (k : PySem.W.keepIn K (.ref f) = true)
    (b : ∀ (kV doc pm : Value) (an : Option Addr) (cdv ct : Value) (us : List Value), us.length = ps.length → bindArgs (PySem.W.fnOf x x (defArgs st) (defBody st) (defScope st) .none kV doc pm an cdv ct) ⟨us, []⟩ = pure (ps.zip us)) : Txt K mg x st ps :=
  ⟨f, _, fun_mk l c k, hm, (fun_mk l c k).binds b⟩
theorem cal_D {x : Str} {st : Stmt} {N ps : List Str} {k : Nat} {b : DS} {F0 : List Va → Sto → Rs Va} (T : Txt K mg x st ps) (S : FnScope N ps (defScope st))
    (hb : ∀ (f : Addr) (cdv : Value) (A : Around) (outer : List Env) (s : Shared) (H : Hp) (E : XK), Okc (cxOf (L2.CX P w) P w K mg base N x (defScope st) f cdv A outer s H E) (fun cls d _ H => E cls d H) k →
      RSs (cxOf (L2.CX P w) P w K mg base N x (defScope st) f cdv A outer s H E) CL (fun cls d _ H => E cls d H) (defBody st) b)
    (hfin : ∀ args s, WFn s.length s → vasB s.length args → args.length = ps.length → Fin s.length (b (startA N.length args) s) (F0 args s)) : Cal P w K mg base CL x ps (k + 1) F0 := by
  obtain ⟨f, fd, F, hm, hbn⟩ := T
  exact ⟨f, fd, fn_D F S (hb f) hfin, hm, F.kp, hbn⟩
end
section
variable {X : Cx} {CL : Cls0} {W : WX} {k j : Nat} {ps : List Str} {F0 : List Va → Sto → Rs Va} {x : Str} {p pos : Pos} {e : Expr} {es : List Expr} {dr : DA}
theorem re_fn (O : Okc X W j) (C : Cal X.prog X.w X.K X.mg X.base CL x ps k F0) (hk : k ≤ j) (ha : RA X CL W (e :: es) dr) (hg : Gl X x := by rfl)
    (hdb : (x == ("__debug__" : Str)) = false := by decide) (he : starEach (e :: es) X.env = (false, eval e X.env) :: starEach es X.env := by rfl) (hpl : (backTo pos (starEach es X.env)).any (·.1) = false := by rfl) :
    RE X CL W (.Call (.Name x p) (e :: es) [] pos) (dApp (gFn ps.length F0) dr) := by
  obtain ⟨f, fd, F, hm, hkp, hb⟩ := C
  exact re_call O F hk hm hkp hb ha hg hdb he hpl
end
end Dn

set_option Elab.async false
set_option linter.all false
set_option maxRecDepth 100000
set_option maxHeartbeats 1000000
/-! Dn, part I: more built-in calls, methods of lists, chains of comparisons. -/
namespace Dn
open PySem PySem.Spec PyProof.Rows L2
def blsOf : List Va → Option (List Bool)
  | [] => some []
  | .bl i :: xs => (blsOf xs).map (i :: ·)
  | _ :: _ => none
theorem blsOf_eq : ∀ {xs : List Va} {ns : List Bool}, blsOf xs = some ns → xs = ns.map .bl
  | [], ns, h => by
    cases h
    rfl
  | x :: xs, ns, h => by
    cases x <;> simp [blsOf] at h
    obtain ⟨ms, h1, h2⟩ := h
    rw [← h2, blsOf_eq h1]
    rfl
theorem blsOf_map (ns : List Bool) : blsOf (ns.map .bl) = some ns := by
  induction ns with
  | nil => rfl
  | cons n ns ih => rw [List.map_cons, blsOf, ih]; rfl
def intsOf : List Va → Option (List Int)
  | [] => some []
  | .int i :: xs => (intsOf xs).map (i :: ·)
  | _ :: _ => none
theorem intsOf_map (ns : List Int) : intsOf (ns.map .int) = some ns := by
  induction ns with
  | nil => rfl
  | cons n ns ih => rw [List.map_cons, intsOf, ih]; rfl
theorem intsOf_eq : ∀ {xs : List Va} {ns : List Int}, intsOf xs = some ns → xs = ns.map .int
  | [], ns, h => by
    cases h
    rfl
  | x :: xs, ns, h => by
    cases x <;> simp [intsOf] at h
    obtain ⟨ms, h1, h2⟩ := h
    rw [← h2, intsOf_eq h1]
    rfl
section
variable {K : PySem.W.Frag}
def gAll (xs : List Va) (s : Sto) : Rs Va := match xs with
  | [x] => match seqL x s with
    | some ys => match blsOf ys with
      | some bs => .ok (.bl (bs.all id)) s
      | none => .bad
    | none => .bad
  | _ => .bad
theorem opN_all : OpN K (rAll K) gAll := by
  intro CL W F G as s H x v Q S rx q
  unfold gAll at q
  split at q
  · obtain ⟨v, rfl, r⟩ := Rls1 rx
    split at q
    · rename_i ys e
      obtain ⟨a, vs, rfl, h2, h3⟩ := seqL_ok S r e
      split at q
      · rename_i bs e2
        rw [blsOf_eq e2] at h3
        rw [h3.bls] at h2
        exact ⟨a, bs, rfl, SqL.of h2, q.okv S (.bl _)⟩
      · exact q.elim
    · exact q.elim
  · exact q.elim
end
section
variable {X : Cx} {CL : Cls0} {W : WX} {k : Nat} {x : Str} {p pos apos p2 p1 p3 : Pos} {e e2 o a b c : Expr} {es : List Expr} {dr da : DA} {de d1 d2 d3 : DE}
theorem re_all (O : Okc X W k) (hm : X.mg "all" = none) (ha : RA X CL W [e] dr) (hG : Gl X "all" := by rfl) (he : starEach [e] X.env = (false, eval e X.env) :: starEach [] X.env := by rfl) : RE X CL W (.Call (.Name "all" p) [e] [] pos) (dApp gAll dr) := re_callB (cr_all O.calm) opN_all hG hm (by decide +kernel) ha (he := he)
/-- list(range(n)), list(range(i, j)) -/
noncomputable def gRg (bx : Bool) (i j : Int) (s : Sto) : Rs Va := if inR i ∧ inR j ∧ leq (j - i).toNat 100000 then mkL bx (rgA i j) s else .bad
noncomputable def dLstRg1 (bx : Bool) (de : DE) : DE := fun ε s => (de ε s).bind fun x s1 => match x with
  | .int j => gRg bx 0 j s1
  | _ => .bad
/-! ### methods of lists -/
def isL (x : Va) (s : Sto) : Bool := (seqL x s).isSome
def dMt (g : Va → List Va → Sto → Rs Va) (do_ : DE) (da : DA) : DE := fun ε s => (do_ ε s).bind fun x s1 => if isL x s1 = true then (evA da ε s1).bind fun xs s2 => g x xs s2 else .bad
def dMt0 (g : Va → Sto → Rs Va) (do_ : DE) : DE := fun ε s => (do_ ε s).bind fun x s1 => if isL x s1 = true then g x s1 else .bad
/-! ### chains of comparisons of ints -/
end
end Dn

set_option Elab.async false
set_option linter.all false
set_option maxRecDepth 100000
set_option maxHeartbeats 1000000
/-! Dn, part H: equations by which a denotation is reckoned. -/
namespace Dn
open PySem PySem.Spec PyProof.Rows L2
section
variable {α β : Type} {a : α} {s s' : Sto} {c : Str} {k : α → Sto → Rs β} {kf : α → Sto → Fl} {ε ε' : En} {x y : Va}
@[simp] theorem bind_ok : (Rs.ok a s).bind k = k a s := rfl
@[simp] theorem bind_exc : (Rs.exc c s : Rs α).bind k = .exc c s := rfl
@[simp] theorem bind_bad : (Rs.bad : Rs α).bind k = .bad := rfl
@[simp] theorem fl_ok : (Rs.ok a s).fl ε kf = kf a s := rfl
@[simp] theorem fl_exc : (Rs.exc c s : Rs α).fl ε kf = .exc c ε s := rfl
@[simp] theorem fl_bad : (Rs.bad : Rs α).fl ε kf = .bad := rfl
@[simp] theorem noexc_ok : (Rs.ok a s).noexc = .ok a s := rfl
@[simp] theorem noexc_bad : (Rs.bad : Rs α).noexc = .bad := rfl
@[simp] theorem e_C : dC x ε s = .ok x s := rfl
@[simp] theorem e_V {i : Nat} : dV i ε s = match ε[i]? with | some (some x) => .ok x s | _ => .bad := rfl
@[simp] theorem e_Nil : evA [] ε s = .ok [] s := rfl
@[simp] theorem e_Cons {da : DE} {dr : DA} : evA (da :: dr) ε s = (da ε s).bind fun x s1 => (evA dr ε s1).bind fun xs s2 => .ok (x :: xs) s2 := rfl
@[simp] theorem e_Bin {g : Va → Va → Sto → Rs Va} {da db : DE} : dBin g da db ε s = (da ε s).bind fun x s1 => (db ε s1).bind fun y s2 => g x y s2 := rfl
@[simp] theorem e_Un {g : Va → Sto → Rs Va} {da : DE} : dUn g da ε s = (da ε s).bind g := rfl
@[simp] theorem e_App {g : List Va → Sto → Rs Va} {da : DA} : dApp g da ε s = (evA da ε s).bind g := rfl
@[simp] theorem e_Lst {b : Bool} {da : DA} : dLst b da ε s = (evA da ε s).bind fun xs s1 => mkL b xs s1 := rfl
@[simp] theorem e_Tup {da : DA} : dTup da ε s = (evA da ε s).bind fun xs s1 => .ok (.tup xs) s1 := rfl
@[simp] theorem e_Sl {b : Bool} {da : DE} {dl dh : DO} : dSl b da dl dh ε s = (da ε s).bind fun x s1 => (dl ε s1).bind fun l s2 => (dh ε s2).bind fun h s3 => gSl b x l h s3 := rfl
@[simp] theorem e_No : dNo ε s = .ok none s := rfl
@[simp] theorem e_Some {d : DE} : dSome d ε s = (d ε s).bind fun x s1 => match x with | .int i => .ok (some i) s1 | _ => .bad := rfl
@[simp] theorem e_TB {da : DE} : dTB da ε s = (da ε s).bind fun x s1 => match x with | .bl b => .ok b s1 | _ => .bad := rfl
@[simp] theorem e_Tr {da : DE} : dTr da ε s = (da ε s).bind fun x s1 => match truA x s1 with | some b => .ok b s1 | none => .bad := rfl
@[simp] theorem e_And {ta tb : DT} : dAnd ta tb ε s = (ta ε s).bind fun b s1 => if b = true then tb ε s1 else .ok false s1 := rfl
@[simp] theorem e_Or {ta tb : DT} : dOr ta tb ε s = (ta ε s).bind fun b s1 => if b = true then .ok true s1 else tb ε s1 := rfl
@[simp] theorem e_Not {ta : DT} : dNot ta ε s = (ta ε s).bind fun b s1 => .ok (!b) s1 := rfl
@[simp] theorem e_AndV {da db : DE} : dAndV da db ε s = (da ε s).bind fun x s1 => match truA x s1 with | some true => db ε s1 | some false => .ok x s1 | none => .bad := rfl
@[simp] theorem e_OrV {da db : DE} : dOrV da db ε s = (da ε s).bind fun x s1 => match truA x s1 with | some true => .ok x s1 | some false => db ε s1 | none => .bad := rfl
@[simp] theorem e_NotV {da : DE} : dNotV da ε s = (da ε s).bind fun x s1 => match truA x s1 with | some b => .ok (.bl (!b)) s1 | none => .bad := rfl
@[simp] theorem e_If {ta : DT} {da db : DE} : dIf ta da db ε s = (ta ε s).bind fun b s1 => if b = true then da ε s1 else db ε s1 := rfl
@[simp] theorem e_Yes : dYes ε s = .ok true s := rfl
@[simp] theorem e_seq {d1 d2 : DS} : sSeq d1 d2 ε s = match d1 ε s with | .nx ε' s' => d2 ε' s' | r => r := rfl
@[simp] theorem e_next : sNext ε s = .nx ε s := rfl
@[simp] theorem e_brk : sBrk ε s = .brk ε s := rfl
@[simp] theorem e_ct : sCt ε s = .ct ε s := rfl
@[simp] theorem e_set {i : Nat} {de : DE} : sSet i de ε s = (de ε s).fl ε fun x s1 => .nx (ε.set i (some x)) s1 := rfl
@[simp] theorem e_ret {de : DE} : sRet de ε s = (de ε s).fl ε fun x s1 => .ret x s1 := rfl
@[simp] theorem e_retN : sRetN ε s = .ret .non s := rfl
@[simp] theorem e_drop {de : DE} : sDrop de ε s = (de ε s).fl ε fun _ s1 => .nx ε s1 := rfl
@[simp] theorem e_ifS {t : DT} {d1 d2 : DS} : sIf t d1 d2 ε s = (t ε s).fl ε fun b s1 => if b = true then d1 ε s1 else d2 ε s1 := rfl
@[simp] theorem e_setIx {d0 di de : DE} : sSetIx d0 di de ε s = (de ε s).fl ε fun v s1 => (d0 ε s1).fl ε fun o s2 => (di ε s2).fl ε fun i s3 => match gSetIx v o i s3 with | some s4 => .nx ε s4 | none => .bad := rfl
@[simp] theorem e_for {di : DI} {dg : DG} {db : DS} : sFor di dg db ε s = (di ε s).fl ε fun src s1 => lp src.1 (fBody dg db) src.2 ε s1 := rfl
@[simp] theorem e_Mt {g : Va → List Va → Sto → Rs Va} {do_ : DE} {da : DA} : dMt g do_ da ε s = (do_ ε s).bind fun x s1 => if isL x s1 = true then (evA da ε s1).bind fun xs s2 => g x xs s2 else .bad := rfl
@[simp] theorem e_Mt0 {g : Va → Sto → Rs Va} {do_ : DE} : dMt0 g do_ ε s = (do_ ε s).bind fun x s1 => if isL x s1 = true then g x s1 else .bad := rfl
@[simp] theorem e_LstRg1 {bx : Bool} {d1 : DE} : dLstRg1 bx d1 ε s = (d1 ε s).bind fun x s1 => match x with | .int j => gRg bx 0 j s1 | _ => .bad := rfl
@[simp] theorem e_raise : sRaise c ε s = .exc c ε s := rfl
@[simp] theorem e_rg1 {da : DA} : dRg1 da ε s = (evA da ε s).bind fun vs s1 => match vs with | [.int j] => if inR j then .ok (none, rgA 0 j) s1 else .bad | _ => .bad := rfl
@[simp] theorem e_rg2 {da : DA} : dRg2 da ε s = (evA da ε s).bind fun vs s1 => match vs with | [.int i, .int j] => if inR i ∧ inR j then .ok (none, rgA i j) s1 else .bad | _ => .bad := rfl
@[simp] theorem e_dgName {i : Nat} : dgName i x ε s = some (ε.set i (some x)) := rfl
end
@[simp] theorem g_add_int {bx : Bool} {i j : Int} {s : Sto} : gAdd bx (.int i) (.int j) s = .ok (.int (i + j)) s := rfl
@[simp] theorem g_sub {i j : Int} {s : Sto} : gSub (.int i) (.int j) s = .ok (.int (i - j)) s := rfl
@[simp] theorem g_neg {i : Int} {s : Sto} : gNeg (.int i) s = .ok (.int (-i)) s := rfl
@[simp] theorem g_lt {i j : Int} {s : Sto} : gLt (.int i) (.int j) s = .ok (.bl (decide (i < j))) s := rfl
@[simp] theorem g_le {i j : Int} {s : Sto} : gLe (.int i) (.int j) s = .ok (.bl (decide (i ≤ j))) s := rfl
@[simp] theorem g_gt {i j : Int} {s : Sto} : gGt (.int i) (.int j) s = .ok (.bl (decide (j < i))) s := rfl
@[simp] theorem g_ge {i j : Int} {s : Sto} : gGe (.int i) (.int j) s = .ok (.bl (decide (j ≤ i))) s := rfl
@[simp] theorem g_mod {i j : Int} {s : Sto} : gMod (.int i) (.int j) s = if 0 < j then .ok (.int (i % j)) s else .bad := rfl
@[simp] theorem g_fdiv {i j : Int} {s : Sto} : gFdiv (.int i) (.int j) s = if CDiv i j then .ok (.int (i / j)) s else .bad := rfl
@[simp] theorem g_mul {bx : Bool} {i j : Int} {s : Sto} : gMul bx (.int i) (.int j) s = if CMul i j ∨ CMulW i j then .ok (.int (i * j)) s else .bad := rfl
theorem cmul_r {i j : Int} (h : -(2 ^ 64) < j ∧ j < 2 ^ 64) : CMul i j ∨ CMulW i j := .inl (.inr h)
@[simp] theorem g_eq_int {b : Bool} {i j : Int} {s : Sto} : gEq b (.int i) (.int j) s = .ok (.bl (b != decide (i = j))) s := rfl
@[simp] theorem g_eq_bl {b : Bool} {i j : Bool} {s : Sto} : gEq b (.bl i) (.bl j) s = .ok (.bl (b != decide (i = j))) s := rfl
@[simp] theorem g_eq_str {b : Bool} {i j : Str} {s : Sto} : gEq b (.str i) (.str j) s = .ok (.bl (b != decide (i = j))) s := rfl
@[simp] theorem g_len_lst {xs : List Va} {s : Sto} : gLen [.lst xs] s = .ok (.int xs.length) s := rfl
@[simp] theorem g_len_ext {xs : List Va} {s : Sto} : gLen [.ext xs] s = .ok (.int xs.length) s := rfl
@[simp] theorem g_len_tup {xs : List Va} {s : Sto} : gLen [.tup xs] s = .ok (.int xs.length) s := rfl
@[simp] theorem g_int_int {i : Int} {s : Sto} : gInt [.int i] s = .ok (.int i) s := rfl
@[simp] theorem g_int_bl {i : Bool} {s : Sto} : gInt [.bl i] s = .ok (.int (if i then 1 else 0)) s := rfl
@[simp] theorem g_abs {i : Int} {s : Sto} : gAbs [.int i] s = .ok (.int (if i < 0 then -i else i)) s := rfl
@[simp] theorem g_list_ext {xs : List Va} {bx : Bool} {s : Sto} : gList bx [.ext xs] s = mkL bx xs s := rfl
@[simp] theorem g_list_lst {xs : List Va} {bx : Bool} {s : Sto} : gList bx [.lst xs] s = mkL bx xs s := rfl
@[simp] theorem g_list_tup {xs : List Va} {bx : Bool} {s : Sto} : gList bx [.tup xs] s = mkL bx xs s := rfl
@[simp] theorem g_mkL_f {xs : List Va} {s : Sto} : mkL false xs s = .ok (.lst xs) s := rfl
@[simp] theorem g_mkL_t {xs : List Va} {s : Sto} : mkL true xs s = .ok (.ref s.length) (s ++ [.lst xs]) := rfl
@[simp] theorem g_ix_lst {xs : List Va} {i : Int} {s : Sto} : gIx (.lst xs) (.int i) s = match atI xs i with | some z => .ok z s | none => .bad := rfl
@[simp] theorem g_ix_tup {xs : List Va} {i : Int} {s : Sto} : gIx (.tup xs) (.int i) s = match atI xs i with | some z => .ok z s | none => .bad := rfl
theorem g_ix_ref {n : Nat} {xs : List Va} {i : Int} {s : Sto} (h : s[n]? = some (.lst xs)) : gIx (.ref n) (.int i) s = match atI xs i with | some z => .ok z s | none => .bad := by
  have hs : seqA (.ref n) s = some xs := by simp only [seqA, h]
  unfold gIx
  rw [hs]
  all_goals rfl
theorem g_set_ref {n : Nat} {xs : List Va} {i : Int} {v : Va} {s : Sto} {m : Nat} (h : s[n]? = some (.lst xs)) (hi : ixN xs.length i = some m) : gSetIx v (.ref n) (.int i) s = some (s.set n (.lst (xs.set m v))) := by
  unfold gSetIx
  simp only [h, hi]
@[simp] theorem e_gFn {n : Nat} {F : List Va → Sto → Rs Va} {xs : List Va} {s : Sto} (h : xs.length = n) : gFn n F xs s = F xs s := if_pos h
@[simp] theorem e_fBody {dg : DG} {db : DS} {x : Va} {ε : En} {s : Sto} : fBody dg db x ε s = match dg x ε s with | some ε' => db ε' s | none => .bad := rfl
@[simp] theorem lp_nil {body : Va → DS} {ε : En} {s : Sto} : lp none body [] ε s = .nx ε s := by
  rw [lp, if_pos (show okk none s from trivial)]
@[simp] theorem lp_cons {body : Va → DS} {x : Va} {r : List Va} {ε : En} {s : Sto} : lp none body (x :: r) ε s = match body x ε s with
    | .nx ε' s' => lp none body r ε' s'
    | .ct ε' s' => lp none body r ε' s'
    | .brk ε' s' => .nx ε' s'
    | o => o := by
  rw [lp, if_pos (show okk none s from trivial)]
  all_goals (cases body x ε s <;> rfl)
@[simp] theorem cl_nil {dg : DG} {dt : DT} {del : DE} {ε : En} {acc : List Va} {s : Sto} : cl none dg dt del ε [] acc s = .ok acc s := by
  rw [cl, if_pos (show okk none s from trivial)]
@[simp] theorem cl_cons {dg : DG} {dt : DT} {del : DE} {ε : En} {x : Va} {r acc : List Va} {s : Sto} : cl none dg dt del ε (x :: r) acc s = match dg x ε s with
    | none => .bad
    | some ε2 => (dt ε2 s).noexc.bind fun b s1 => if b = true then (del ε2 s1).noexc.bind fun y s2 => cl none dg dt del ε r (acc ++ [y]) s2 else cl none dg dt del ε r acc s1 := by
  rw [cl, if_pos (show okk none s from trivial)]
  all_goals (cases dg x ε s <;> rfl)
@[simp] theorem e_Lc {bx : Bool} {di : DI} {dg : DG} {dt : DT} {del : DE} {vs : List Nat} {ε : En} {s : Sto} : dLc bx di dg dt del vs ε s = (di ε s).bind fun src s1 => if leq src.2.length 100000 then (cl src.1 dg dt del (wip ε vs) src.2 [] s1).bind fun acc s2 => mkL bx acc s2 else .bad := rfl
theorem cl_map {α : Type} (e f : α → Va) {j : Nat} {dt : DT} {del : DE} {ε : En} {s : Sto} (p : α → Bool) : ∀ (l : List α) (acc : List Va), (∀ a ∈ l, dt (ε.set j (some (e a))) s = .ok (p a) s) → (∀ a ∈ l, p a = true → del (ε.set j (some (e a))) s = .ok (f a) s) →
    cl none (dgName j) dt del ε (l.map e) acc s = .ok (acc ++ (l.filter p).map f) s
  | [], acc, _, _ => by
    rw [List.map_nil, cl_nil, List.filter_nil, List.map_nil, List.append_nil]
  | a :: l, acc, h1, h2 => by
    rw [List.map_cons, cl_cons, e_dgName]
    dsimp only
    rw [h1 a List.mem_cons_self]
    simp only [noexc_ok, bind_ok]
    cases hp : p a with
    | true =>
      rw [if_pos rfl, h2 a List.mem_cons_self hp]
      simp only [noexc_ok, bind_ok]
      rw [cl_map e f p l _ (fun b hb => h1 b (List.mem_cons_of_mem _ hb)) (fun b hb => h2 b (List.mem_cons_of_mem _ hb)), List.filter_cons_of_pos hp, List.map_cons, List.append_assoc]
      rfl
    | false =>
      rw [if_neg (by decide), cl_map e f p l _ (fun b hb => h1 b (List.mem_cons_of_mem _ hb)) (fun b hb => h2 b (List.mem_cons_of_mem _ hb)), List.filter_cons_of_neg (by rw [hp]; decide)]
theorem cl_all {α : Type} (e f : α → Va) {j : Nat} {del : DE} {ε : En} {s : Sto} (l : List α) (acc : List Va) (h2 : ∀ a ∈ l, del (ε.set j (some (e a))) s = .ok (f a) s) :
    cl none (dgName j) dYes del ε (l.map e) acc s = .ok (acc ++ l.map f) s := by
  have := cl_map e f (j := j) (dt := dYes) (del := del) (ε := ε) (s := s) (fun _ => true) l acc (fun _ _ => rfl) (fun a ha _ => h2 a ha)
  rw [List.filter_eq_self.mpr (fun _ _ => rfl)] at this
  exact this
theorem toNat_inj {a b : Char} (h : a.toNat = b.toNat) : a = b := Char.ext (UInt32.toNat_inj.mp h)
@[simp] theorem ofString_inj {a b : String} : (Str.ofString a = Str.ofString b) = (a = b) := by
  apply propext
  constructor
  · intro h
    rw [Str.ofString_eq_toList, Str.ofString_eq_toList] at h
    injection h with h
    have h := congrArg Array.toList h
    have h : a.toList.map Char.toNat = b.toList.map Char.toNat := h
    exact String.toList_inj.mp (List.map_inj_right (fun _ _ => toNat_inj) |>.mp h)
  · intro h
    rw [h]
theorem get_set {s : Sto} {n : Nat} {o o' : Ob} (h : s[n]? = some o) : (s.set n o')[n]? = some o' := List.getElem?_set_self (List.getElem?_eq_some_iff.mp h).1
theorem get_set_ne {s : Sto} {n m : Nat} {o' : Ob} (h : n ≠ m) : (s.set n o')[m]? = s[m]? := List.getElem?_set_ne h
theorem atI_0 {x : Va} {xs : List Va} : atI (x :: xs) 0 = some x := atI_nat (j := 0) rfl
theorem atI_1 {x y : Va} {xs : List Va} : atI (x :: y :: xs) 1 = some y := atI_nat (j := 1) rfl
theorem atI_2 {x y z : Va} {xs : List Va} : atI (x :: y :: z :: xs) 2 = some z := atI_nat (j := 2) rfl
theorem atI_3 {x y z u : Va} {xs : List Va} : atI (x :: y :: z :: u :: xs) 3 = some u := atI_nat (j := 3) rfl
end Dn

set_option Elab.async false
set_option linter.all false
set_option maxRecDepth 100000
set_option maxHeartbeats 1000000
/-! Dn, part L: the laws' own helpers: the stream of draws. -/
namespace Dn
open PySem PySem.Spec PyProof.Rows L2

structure Stm where
  sc : List Int
  x : Int
  y : Nat
  z : Int
def Stm.ob (t : Stm) : Ob := .lst [.lst (t.sc.map .int), .int t.x, .int t.y, .int t.z]
def Stm.of : Ob → Option Stm
  | .lst [.lst sc, .int x, .int y, .int z] => match intsOf sc with
    | some ns => if 0 ≤ y then some ⟨ns, x, y.toNat, z⟩ else none
    | none => none
  | _ => none
theorem Stm.of_ob (t : Stm) : Stm.of t.ob = some t := by
  show (match intsOf (t.sc.map Va.int) with | some ns => if (0 : Int) ≤ (t.y : Int) then some (⟨ns, t.x, (t.y : Int).toNat, t.z⟩ : Stm) else none | none => none) = some t
  rw [intsOf_map]
  simp
theorem Stm.ob_of {o : Ob} {t : Stm} (h : Stm.of o = some t) : o = t.ob := by
  unfold Stm.of at h
  split at h
  · rename_i sc x y z
    split at h
    · rename_i ns e
      split at h
      · rename_i hy
        cases h
        rw [intsOf_eq e]
        show _ = Ob.lst [.lst (ns.map .int), .int x, .int (y.toNat : Nat), .int z]
        rw [Int.toNat_of_nonneg hy]
      · cases h
    · cases h
  · cases h
/-- the stream at a -/
def stAt (s : Sto) (a : Nat) : Option Stm := (s[a]?).bind Stm.of
theorem stAt_get {s : Sto} {a : Nat} {t : Stm} (h : stAt s a = some t) : s[a]? = some t.ob := by
  unfold stAt at h
  cases e : s[a]? with
  | none =>
    rw [e] at h
    cases h
  | some o =>
    rw [e] at h
    rw [Stm.ob_of h]
@[simp] theorem stAt_set {s : Sto} {a : Nat} {t t' : Stm} (h : stAt s a = some t) : stAt (s.set a t'.ob) a = some t' := by
  unfold stAt
  rw [get_set (stAt_get h)]
  exact Stm.of_ob t'
/-- what a draw takes, and the stream behind it -/
def Stm.pull (t : Stm) : Stm := if t.x = 0 ∧ t.y < t.sc.length then { t with x := if t.sc.getD t.y 0 < 0 then -(t.sc.getD t.y 0) else t.sc.getD t.y 0, y := t.y + 1 } else t
def Stm.draw (t : Stm) (m : Int) : Int × Stm :=
  if t.pull.x = 0 then (((t.pull.z * 48271 + 11) % 2147483647 / 97) % m, { t.pull with z := (t.pull.z * 48271 + 11) % 2147483647 }) else (t.pull.x % m, { t.pull with x := t.pull.x / m })
noncomputable def F_l_draw (args : List Va) (s : Sto) : Rs Va := match args with
  | [.ref a, .int m] => match stAt s a with
    | some t => if 0 < m ∧ m < 1073741824 then .ok (.int (t.draw m).1) (s.set a (t.draw m).2.ob) else .bad
    | none => .bad
  | _ => .bad
noncomputable def b_l_draw : DS := (sSeq (sIf (dAnd (dTB (dBin (gEq false) (dBin gIx (dV 0) (dC (.int 1))) (dC (.int 0)))) (dTB (dBin gLt (dBin gIx (dV 0) (dC (.int 2))) (dApp gLen (dCons (dBin gIx (dV 0) (dC (.int 0))) dNil))))) (sSeq (sSetIx (dV 0) (dC (.int 1)) (dApp gAbs (dCons (dApp gInt (dCons (dBin gIx (dBin gIx (dV 0) (dC (.int 0))) (dBin gIx (dV 0) (dC (.int 2)))) dNil)) dNil)))
  (sSetIx (dV 0) (dC (.int 2)) (dBin (gAdd false) (dBin gIx (dV 0) (dC (.int 2))) (dC (.int 1))))) sNext)
  (sSeq (sIf (dTB (dBin (gEq false) (dBin gIx (dV 0) (dC (.int 1))) (dC (.int 0)))) (sSeq (sSetIx (dV 0) (dC (.int 3)) (dBin gMod (dApp gInt (dCons (dBin (gAdd false) (dBin (gMul false) (dBin gIx (dV 0) (dC (.int 3))) (dC (.int 48271))) (dC (.int 11))) dNil)) (dC (.int 2147483647))))
  (sRet (dBin gMod (dApp gInt (dCons (dBin gFdiv (dBin gIx (dV 0) (dC (.int 3))) (dC (.int 97))) dNil)) (dV 1)))) sNext)
  (sSeq (sSet 2 (dBin gMod (dApp gInt (dCons (dBin gIx (dV 0) (dC (.int 1))) dNil)) (dV 1)))
  (sSeq (sSetIx (dV 0) (dC (.int 1)) (dBin gFdiv (dBin gIx (dV 0) (dC (.int 1))) (dV 1)))
  (sRet (dV 2))))))
/-- what stands in a stream's object -/
theorem ob_get {s : Sto} {a : Nat} {t : Stm} (h : s[a]? = some t.ob) : s[a]? = some (.lst [.lst (t.sc.map .int), .int t.x, .int t.y, .int t.z]) := h
theorem at_int {ns : List Int} {y : Nat} (h : y < ns.length) : atI (ns.map Va.int) (y : Int) = some (.int (ns.getD y 0)) := by
  refine atI_nat ?_
  rw [List.getElem?_map, List.getElem?_eq_getElem h, List.getD_eq_getElem?_getD, List.getElem?_eq_getElem h]
  rfl
theorem wf_set {s : Sto} {a n : Nat} {o : Ob} (w : WFn n s) (h : obB n o) : WFn n (s.set a o) := fun u hu => by
  rcases List.mem_or_eq_of_mem_set hu with z | z
  · exact w u z
  · rw [z]
    exact h
theorem vasB_ints {n : Nat} : ∀ {ns : List Int}, vasB n (ns.map .int)
  | [] => trivial
  | _ :: _ => ⟨trivial, vasB_ints⟩
theorem Stm.b (t : Stm) (n : Nat) : obB n t.ob := ⟨vasB_ints, trivial, trivial, trivial, trivial⟩
/-- the end of a def that made nothing that stays -/
theorem Fin.ret0 {raw : Fl} {v : Va} {s s0 : Sto} (h : raw = .ret v s0) (hl : s0.length = s.length) (hv : vaB s.length v) (hw : WFn s.length s0) : Fin s.length raw (.ok v s0) := by
  have e : s0.take s.length = s0 := by rw [← hl]; exact List.take_length
  have := Fin.ok (n := s.length) (raw := raw) (.inl h) (.same v s0) hv (by rw [e]; exact hw)
  rw [e] at this
  exact this
theorem set1 {s : Sto} {n : Nat} {a b c d v : Va} (h : s[n]? = some (.lst [a, b, c, d])) : gSetIx v (.ref n) (.int 1) s = some (s.set n (.lst [a, v, c, d])) := g_set_ref h (show ixN 4 1 = some 1 from rfl)
theorem set2 {s : Sto} {n : Nat} {a b c d v : Va} (h : s[n]? = some (.lst [a, b, c, d])) : gSetIx v (.ref n) (.int 2) s = some (s.set n (.lst [a, b, v, d])) := g_set_ref h (show ixN 4 2 = some 2 from rfl)
theorem set3 {s : Sto} {n : Nat} {a b c d v : Va} (h : s[n]? = some (.lst [a, b, c, d])) : gSetIx v (.ref n) (.int 3) s = some (s.set n (.lst [a, b, c, v])) := g_set_ref h (show ixN 4 3 = some 3 from rfl)
theorem set_same {s : Sto} {n : Nat} {o : Ob} (h : s[n]? = some o) : s.set n o = s := by
  obtain ⟨h1, h2⟩ := List.getElem?_eq_some_iff.mp h
  rw [← h2]
  exact List.set_getElem_self h1
theorem draw_run1 {s : Sto} {a : Nat} {t : Stm} {m : Int} (hs : s[a]? = some t.ob) : sIf (dAnd (dTB (dBin (gEq false) (dBin gIx (dV 0) (dC (.int 1))) (dC (.int 0)))) (dTB (dBin gLt (dBin gIx (dV 0) (dC (.int 2))) (dApp gLen (dCons (dBin gIx (dV 0) (dC (.int 0))) dNil))))) (sSeq (sSetIx (dV 0) (dC (.int 1)) (dApp gAbs (dCons (dApp gInt (dCons (dBin gIx (dBin gIx (dV 0) (dC (.int 0))) (dBin gIx (dV 0) (dC (.int 2)))) dNil)) dNil)))
  (sSetIx (dV 0) (dC (.int 2)) (dBin (gAdd false) (dBin gIx (dV 0) (dC (.int 2))) (dC (.int 1))))) sNext [some (.ref a), some (.int m), none] s = .nx [some (.ref a), some (.int m), none] (s.set a t.pull.ob) := by
  have h0 := set_same hs
  have hs := ob_get hs
  unfold Stm.pull
  by_cases h1 : t.x = 0
  · by_cases h2 : t.y < t.sc.length
    · rw [if_pos ⟨h1, h2⟩]
      simp [g_ix_ref hs, atI_1, atI_2, atI_0, h1, h2, at_int h2, set1 hs, g_ix_ref (get_set hs), set2 (get_set hs), Stm.ob]
    · rw [if_neg (fun h => h2 h.2), h0]
      simp [g_ix_ref hs, atI_1, atI_2, atI_0, h1, h2]
  · rw [if_neg (fun h => h1 h.1), h0]
    simp [g_ix_ref hs, atI_1, h1]
theorem cmul_c {i : Int} : CMul i 48271 ∨ CMulW i 48271 := cmul_r (by decide)
theorem draw_run2 {s2 : Sto} {a : Nat} {u : Stm} {m : Int} (h2 : s2[a]? = some u.ob) (hm : 0 < m ∧ m < 1073741824) : (sSeq (sIf (dTB (dBin (gEq false) (dBin gIx (dV 0) (dC (.int 1))) (dC (.int 0)))) (sSeq (sSetIx (dV 0) (dC (.int 3)) (dBin gMod (dApp gInt (dCons (dBin (gAdd false) (dBin (gMul false) (dBin gIx (dV 0) (dC (.int 3))) (dC (.int 48271))) (dC (.int 11))) dNil)) (dC (.int 2147483647))))
  (sRet (dBin gMod (dApp gInt (dCons (dBin gFdiv (dBin gIx (dV 0) (dC (.int 3))) (dC (.int 97))) dNil)) (dV 1)))) sNext)
  (sSeq (sSet 2 (dBin gMod (dApp gInt (dCons (dBin gIx (dV 0) (dC (.int 1))) dNil)) (dV 1)))
  (sSeq (sSetIx (dV 0) (dC (.int 1)) (dBin gFdiv (dBin gIx (dV 0) (dC (.int 1))) (dV 1)))
  (sRet (dV 2))))) [some (.ref a), some (.int m), none] s2 =
    if u.x = 0 then .ret (.int (((u.z * 48271 + 11) % 2147483647 / 97) % m)) (s2.set a { u with z := (u.z * 48271 + 11) % 2147483647 : Stm }.ob) else .ret (.int (u.x % m)) (s2.set a { u with x := u.x / m : Stm }.ob) := by
  have hm2 : CDiv u.x m := hm
  have h2 := ob_get h2
  by_cases h1 : u.x = 0
  · rw [if_pos h1]
    simp [g_ix_ref h2, atI_1, atI_3, h1, cmul_c, set3 h2, g_ix_ref (get_set h2), Stm.ob, CDiv, hm.1]
  · rw [if_neg h1]
    simp [g_ix_ref h2, atI_1, atI_3, h1, set1 h2, g_ix_ref (get_set h2), Stm.ob, hm2, hm.1]
theorem draw_run {s : Sto} {a : Nat} {t : Stm} {m : Int} (hs : s[a]? = some t.ob) (hm : 0 < m ∧ m < 1073741824) : b_l_draw [some (.ref a), some (.int m), none] s = .ret (.int (t.draw m).1) (s.set a (t.draw m).2.ob) := by
  unfold b_l_draw
  rw [e_seq, draw_run1 hs]
  dsimp only
  rw [draw_run2 (get_set hs) hm]
  unfold Stm.draw
  simp only [List.set_set]
  split <;> rfl
theorem fin_l_draw (args : List Va) (s : Sto) (wf : WFn s.length s) (_ : vasB s.length args) (hl : args.length = 2) : Fin s.length (b_l_draw (startA 3 args) s) (F_l_draw args s) := by
  unfold F_l_draw
  split
  · rename_i a m
    split
    · rename_i t e
      split
      · rename_i hm
        exact Fin.ret0 (draw_run (stAt_get e) hm) (by rw [List.length_set]) trivial (wf_set wf (Stm.b _ _))
      · exact .bad
    · exact .bad
  · exact .bad
end Dn

set_option Elab.async false
set_option linter.all false
set_option maxRecDepth 100000
set_option maxHeartbeats 4000000
/-! Dn, part M: the laws' own helpers: stream, pick, units, other, record, keeps. -/
namespace Dn
open PySem PySem.Spec PyProof.Rows L2

theorem stAt_of {s : Sto} {a : Nat} {t : Stm} (h : s[a]? = some t.ob) : stAt s a = some t := by
  unfold stAt
  rw [h]
  exact Stm.of_ob t
theorem stAt_lt {s : Sto} {a : Nat} {t : Stm} (h : stAt s a = some t) : a < s.length := (List.getElem?_eq_some_iff.mp (stAt_get h)).1
theorem stAt_put {s : Sto} {a : Nat} {t : Stm} (h : a < s.length) : stAt (s.set a t.ob) a = some t := stAt_of (List.getElem?_set_self h)
theorem Stm.draw_in (t : Stm) {m : Int} (h : 0 < m) : 0 ≤ (t.draw m).1 ∧ (t.draw m).1 < m := by
  unfold Stm.draw
  split
  · exact ⟨Int.emod_nonneg _ (by omega), Int.emod_lt_of_pos _ h⟩
  · exact ⟨Int.emod_nonneg _ (by omega), Int.emod_lt_of_pos _ h⟩
theorem atI_in {α : Type} {xs : List α} {i : Int} (d : α) (h0 : 0 ≤ i) (h1 : i < xs.length) : atI xs i = some (xs.getD i.toNat d) := by
  have e : i = (i.toNat : Int) := by omega
  have h2 : i.toNat < xs.length := by omega
  rw [e]
  refine atI_nat ?_
  rw [Int.toNat_natCast, List.getElem?_eq_getElem h2, List.getD_eq_getElem?_getD, List.getElem?_eq_getElem h2]
  rfl
theorem vasB_get {n : Nat} : ∀ {xs : List Va} {i : Nat}, vasB n xs → vaB n (xs.getD i .non)
  | [], i, _ => by
    rw [List.getD_nil]
    trivial
  | x :: xs, 0, h => h.1
  | x :: xs, i + 1, h => by
    rw [List.getD_cons_succ]
    exact vasB_get h.2
theorem getD_map {α β : Type} (f : α → β) (xs : List α) (i : Nat) (d : α) (e : β) (h : i < xs.length) : (xs.map f).getD i e = f (xs.getD i d) := by
  rw [List.getD_eq_getElem?_getD, List.getD_eq_getElem?_getD, List.getElem?_map, List.getElem?_eq_getElem h]
  rfl

/-! ### the stream -/
def mixed : List Int → Int → Int
  | [], m => m
  | c :: cs, m => mixed cs ((m * 48271 + c % 65521 + 1) % 2147483647)
def Stm.mk0 (sc : List Int) : Stm := ⟨sc, 0, 0, mixed sc 17⟩
noncomputable def b_l_stream : DS := (sSeq (sSet 1 (dC (.int 17)))
  (sSeq (sFor (dSeq (dV 0)) (dgName 2)
   (sSet 1 (dBin gMod (dApp gInt (dCons (dBin (gAdd false) (dBin (gAdd false) (dBin (gMul false) (dV 1) (dC (.int 48271))) (dBin gMod (dApp gInt (dCons (dV 2) dNil)) (dC (.int 65521)))) (dC (.int 1))) dNil)) (dC (.int 2147483647)))))
  (sRet (dLst true (dCons (dApp (gList false) (dCons (dV 0) dNil)) (dCons (dC (.int 0)) (dCons (dC (.int 0)) (dCons (dV 1) dNil))))))))
theorem stream_loop (ns all : List Int) (s : Sto) : ∀ (m : Int) (y : Option Va), ∃ y', lp none (fBody (dgName 2) (sSet 1 (dBin gMod (dApp gInt (dCons (dBin (gAdd false) (dBin (gAdd false) (dBin (gMul false) (dV 1) (dC (.int 48271))) (dBin gMod (dApp gInt (dCons (dV 2) dNil)) (dC (.int 65521)))) (dC (.int 1))) dNil)) (dC (.int 2147483647))))) (ns.map .int) [some (.ext (all.map .int)), some (.int m), y] s =
    .nx [some (.ext (all.map .int)), some (.int (mixed ns m)), y'] s := by
  induction ns with
  | nil =>
    intro m y
    refine ⟨y, ?_⟩
    rw [List.map_nil, lp_nil]
    rfl
  | cons c cs ih =>
    intro m y
    obtain ⟨y', e⟩ := ih ((m * 48271 + c % 65521 + 1) % 2147483647) (some (.int c))
    refine ⟨y', ?_⟩
    rw [List.map_cons, lp_cons]
    simp [cmul_c]
    exact e
noncomputable def F_l_stream (args : List Va) (s : Sto) : Rs Va := match args with
  | [.ext xs] => match intsOf xs with
    | some ns => .ok (.ref s.length) (s ++ [(Stm.mk0 ns).ob])
    | none => .bad
  | _ => .bad
/-- the end of a def that hands back a new object and nothing else stays -/
theorem Fin.box0 {raw : Fl} {s : Sto} {o : Ob} (h : raw = .ret (.ref s.length) (s ++ [o])) (ho : obB s.length o) (hw : WFn s.length s) : Fin s.length raw (.ok (.ref s.length) (s ++ [o])) := by
  have e : (s ++ [o]).take s.length = s := by rw [List.take_left]
  have := Fin.box (n := s.length) (raw := raw) (i := s.length) (o := o) h (.same _ _) (Nat.le_refl _) List.getElem?_concat_length ho (by rw [e]; exact hw)
  rw [e] at this
  exact this
theorem fin_l_stream (args : List Va) (s : Sto) (wf : WFn s.length s) (_ : vasB s.length args) (hl : args.length = 1) : Fin s.length (b_l_stream (startA 3 args) s) (F_l_stream args s) := by
  unfold F_l_stream
  split
  · rename_i xs
    split
    · rename_i ns e
      have e2 := intsOf_eq e
      subst e2
      refine Fin.box0 ?_ (Stm.b _ _) wf
      unfold b_l_stream startA
      obtain ⟨y', e3⟩ := stream_loop ns ns s 17 none
      simp [dSeq, e3, Stm.ob, Stm.mk0]
    · exact .bad
  · exact .bad

/-! ### a pick -/
noncomputable def b_l_pick : DS := (sRet (dBin gIx (dV 1) (dApp (gFn 2 F_l_draw) (dCons (dV 0) (dCons (dApp gLen (dCons (dV 1) dNil)) dNil)))))
noncomputable def F_l_pick (args : List Va) (s : Sto) : Rs Va := match args with
  | [.ref a, .lst xs] => match stAt s a with
    | some t => if 0 < xs.length ∧ xs.length < 1073741824 then .ok (xs.getD (t.draw xs.length).1.toNat .non) (s.set a (t.draw xs.length).2.ob) else .bad
    | none => .bad
  | [.ref a, .ref j] => match stAt s a, s[j]? with
    | some t, some (.lst xs) => if 0 < xs.length ∧ xs.length < 1073741824 ∧ j ≠ a then .ok (xs.getD (t.draw xs.length).1.toNat .non) (s.set a (t.draw xs.length).2.ob) else .bad
    | _, _ => .bad
  | _ => .bad
theorem fin_l_pick (args : List Va) (s : Sto) (wf : WFn s.length s) (wa : vasB s.length args) (hl : args.length = 2) : Fin s.length (b_l_pick (startA 2 args) s) (F_l_pick args s) := by
  unfold F_l_pick
  split
  · rename_i a xs
    split
    · rename_i t e
      split
      · rename_i hc
        have hd := t.draw_in (m := xs.length) (by omega)
        have hc2 : (0 : Int) < xs.length ∧ (xs.length : Int) < 1073741824 := by omega
        refine Fin.ret0 ?_ (by rw [List.length_set]) (vasB_get wa.2.1) (wf_set wf (Stm.b _ _))
        unfold b_l_pick startA
        simp [F_l_draw, e, hc2, hc.1, atI_in Va.non hd.1 hd.2]

      · exact .bad
    · exact .bad
  · rename_i a j
    split
    · rename_i t xs e e2
      split
      · rename_i hc
        have hd := t.draw_in (m := xs.length) (by omega)
        have hc2 : (0 : Int) < xs.length ∧ (xs.length : Int) < 1073741824 := by omega
        refine Fin.ret0 ?_ (by rw [List.length_set]) (vasB_get (wf _ (List.mem_of_getElem? e2))) (wf_set wf (Stm.b _ _))
        have e3 : (s.set a (t.draw xs.length).2.ob)[j]? = some (.lst xs) := by rw [get_set_ne (Ne.symm hc.2.2)]; exact e2
        unfold b_l_pick startA
        simp [F_l_draw, e, hc2, hc.1, gLen, seqA, e2, g_ix_ref e3, atI_in Va.non hd.1 hd.2]

      · exact .bad
    · exact .bad
  · exact .bad

/-! ### units, other units -/
noncomputable def b_l_units : DS := (sRet (dBin (gAdd false) (dC (.int 1)) (dApp (gFn 2 F_l_draw) (dCons (dV 0) (dCons (dBin gIx (dLst false (dCons (dC (.int 4)) (dCons (dC (.int 6)) (dCons (dC (.int 12)) dNil)))) (dApp (gFn 2 F_l_draw) (dCons (dV 0) (dCons (dC (.int 3)) dNil)))) dNil)))))
noncomputable def b_l_other : DS := (sRet (dBin gMod (dApp gInt (dCons (dBin (gAdd false) (dBin (gAdd false) (dV 2) (dC (.int 1))) (dApp (gFn 2 F_l_draw) (dCons (dV 0) (dCons (dBin gSub (dV 1) (dC (.int 1))) dNil)))) dNil)) (dV 1)))
theorem at3 {a b c i : Int} (h0 : 0 ≤ i) (h1 : i < 3) : atI [Va.int a, .int b, .int c] i = some (.int ([a, b, c].getD i.toNat 0)) := by
  have e : i = 0 ∨ i = 1 ∨ i = 2 := by omega
  rcases e with rfl | rfl | rfl <;> rfl
def unitsM (t : Stm) : Int × Stm := (1 + ((t.draw 3).2.draw ([4, 6, 12].getD (t.draw 3).1.toNat 0)).1, ((t.draw 3).2.draw ([4, 6, 12].getD (t.draw 3).1.toNat 0)).2)
theorem pick3_in (t : Stm) : [(4 : Int), 6, 12].getD (t.draw 3).1.toNat 0 = 4 ∨ [(4 : Int), 6, 12].getD (t.draw 3).1.toNat 0 = 6 ∨ [(4 : Int), 6, 12].getD (t.draw 3).1.toNat 0 = 12 := by
  have h := t.draw_in (m := 3) (by decide)
  have e : (t.draw 3).1 = 0 ∨ (t.draw 3).1 = 1 ∨ (t.draw 3).1 = 2 := by omega
  rcases e with e | e | e <;> rw [e] <;> decide
theorem unitsM_in (t : Stm) : 1 ≤ (unitsM t).1 ∧ (unitsM t).1 ≤ 12 := by
  unfold unitsM
  rcases pick3_in t with e | e | e <;> rw [e]
  · have := (t.draw 3).2.draw_in (m := 4) (by decide); dsimp only; omega
  · have := (t.draw 3).2.draw_in (m := 6) (by decide); dsimp only; omega
  · have := (t.draw 3).2.draw_in (m := 12) (by decide); dsimp only; omega
noncomputable def F_l_units (args : List Va) (s : Sto) : Rs Va := match args with
  | [.ref a] => match stAt s a with
    | some t => .ok (.int (unitsM t).1) (s.set a (unitsM t).2.ob)
    | none => .bad
  | _ => .bad
theorem draw_eq {s : Sto} {a : Nat} {t : Stm} {m : Int} (h : stAt s a = some t) (h1 : 0 < m) (h2 : m < 1073741824) : F_l_draw [.ref a, .int m] s = .ok (.int (t.draw m).1) (s.set a (t.draw m).2.ob) := by
  unfold F_l_draw
  simp only [h, h1, h2, and_self, if_true]
theorem fin_l_units (args : List Va) (s : Sto) (wf : WFn s.length s) (wa : vasB s.length args) (hl : args.length = 1) : Fin s.length (b_l_units (startA 1 args) s) (F_l_units args s) := by
  unfold F_l_units
  split
  · rename_i a
    split
    · rename_i t e
      have la := stAt_lt e
      refine Fin.ret0 ?_ (by rw [List.length_set]) trivial (wf_set wf (Stm.b _ _))
      unfold b_l_units startA unitsM
      have h := t.draw_in (m := 3) (by decide)
      have hp : 0 < [(4 : Int), 6, 12].getD (t.draw 3).1.toNat 0 ∧ [(4 : Int), 6, 12].getD (t.draw 3).1.toNat 0 < 1073741824 := by rcases pick3_in t with e | e | e <;> rw [e] <;> decide
      have e2 := stAt_put (t := (t.draw 3).2) la
      have e3 := draw_eq e2 hp.1 hp.2
      simp [draw_eq e, at3 h.1 h.2, -List.getD_eq_getElem?_getD, e3]
    · exact .bad
  · exact .bad
def otherM (t : Stm) (n a : Int) : Int × Stm := ((a + 1 + (t.draw (n - 1)).1) % n, (t.draw (n - 1)).2)
noncomputable def F_l_other (args : List Va) (s : Sto) : Rs Va := match args with
  | [.ref a, .int n, .int u] => match stAt s a with
    | some t => if 2 ≤ n ∧ n < 1073741824 then .ok (.int (otherM t n u).1) (s.set a (otherM t n u).2.ob) else .bad
    | none => .bad
  | _ => .bad
theorem fin_l_other (args : List Va) (s : Sto) (wf : WFn s.length s) (wa : vasB s.length args) (hl : args.length = 3) : Fin s.length (b_l_other (startA 3 args) s) (F_l_other args s) := by
  unfold F_l_other
  split
  · rename_i a n u
    split
    · rename_i t e
      split
      · rename_i hc
        refine Fin.ret0 ?_ (by rw [List.length_set]) trivial (wf_set wf (Stm.b _ _))
        unfold b_l_other startA otherM
        simp [draw_eq e (show 0 < n - 1 by omega) (show n - 1 < 1073741824 by omega), show 0 < n by omega]
      · exact .bad
    · exact .bad
  · exact .bad

/-! ### records -/
inductive Rec where
  | before (a b g : Int) | same (a b : Int) | within (a b g : Int) | since (a y w : Int) | upto (a y w : Int) | kind (a : Int) (k : Str)
def Rec.va : Rec → Va
  | .before a b g => .tup [.str "before", .int a, .int b, .int g]
  | .same a b => .tup [.str "same", .int a, .int b]
  | .within a b g => .tup [.str "within", .int a, .int b, .int g]
  | .since a y w => .tup [.str "since", .int a, .int y, .int w]
  | .upto a y w => .tup [.str "until", .int a, .int y, .int w]
  | .kind a k => .tup [.str "kind", .int a, .str k]
theorem Rec.b (r : Rec) (n : Nat) : vaB n r.va := by
  cases r <;> exact ⟨trivial, trivial, trivial, by first | exact trivial | exact ⟨trivial, trivial⟩⟩
noncomputable def b_l_record : DS := (sSeq (sSet 3 (dApp (gFn 2 F_l_pick) (dCons (dV 0) (dCons (dV 2) dNil))))
  (sSeq (sSet 4 (dApp (gFn 2 F_l_draw) (dCons (dV 0) (dCons (dV 1) dNil))))
  (sSeq (sIf (dOr (dTB (dBin (gEq false) (dV 3) (dC (.str "kind")))) (dAnd (dTB (dBin (gEq false) (dV 1) (dC (.int 1)))) (dTB (dBin (gIn false) (dV 3) (dTup (dCons (dC (.str "before")) (dCons (dC (.str "same")) (dCons (dC (.str "within")) dNil)))))))) (sRet (dTup (dCons (dC (.str "kind")) (dCons (dV 4) (dCons (dBin gIx (dLst false (dCons (dC (.str "a")) (dCons (dC (.str "b")) (dCons (dC (.str "c")) (dCons (dC (.str "pot")) (dCons (dC (.str "zzzzzzzz")) dNil)))))) (dApp (gFn 2 F_l_draw) (dCons (dV 0) (dCons (dC (.int 5)) dNil)))) dNil))))) sNext)
  (sSeq (sIf (dTB (dBin (gIn false) (dV 3) (dTup (dCons (dC (.str "since")) (dCons (dC (.str "until")) dNil))))) (sSeq (sSet 5 (dApp (gFn 2 F_l_pick) (dCons (dV 0) (dCons (dLst false (dCons (dBin gSub (dApp (gFn 2 F_l_draw) (dCons (dV 0) (dCons (dC (.int 40)) dNil))) (dC (.int 20))) (dCons (dBin gSub (dApp (gFn 2 F_l_draw) (dCons (dV 0) (dCons (dC (.int 40001)) dNil))) (dC (.int 20000))) dNil))) dNil))))
  (sRet (dTup (dCons (dV 3) (dCons (dV 4) (dCons (dV 5) (dCons (dApp (gFn 2 F_l_pick) (dCons (dV 0) (dCons (dLst false (dCons (dC (.int 1)) (dCons (dBin (gAdd false) (dC (.int 1)) (dApp (gFn 2 F_l_draw) (dCons (dV 0) (dCons (dC (.int 5)) dNil)))) (dCons (dBin (gAdd false) (dC (.int 1)) (dApp (gFn 2 F_l_draw) (dCons (dV 0) (dCons (dC (.int 100)) dNil)))) dNil)))) dNil))) dNil))))))) sNext)
  (sSeq (sSet 6 (dApp (gFn 3 F_l_other) (dCons (dV 0) (dCons (dV 1) (dCons (dV 4) dNil)))))
  (sSeq (sIf (dTB (dBin (gEq false) (dV 3) (dC (.str "same")))) (sRet (dTup (dCons (dV 3) (dCons (dV 4) (dCons (dV 6) dNil))))) sNext)
  (sRet (dTup (dCons (dV 3) (dCons (dV 4) (dCons (dV 6) (dCons (dApp (gFn 2 F_l_pick) (dCons (dV 0) (dCons (dLst false (dCons (dC (.int 0)) (dCons (dApp (gFn 2 F_l_draw) (dCons (dV 0) (dCons (dC (.int 12)) dNil))) (dCons (dApp (gFn 2 F_l_draw) (dCons (dV 0) (dCons (dC (.int 5001)) dNil))) dNil)))) dNil))) dNil))))))))))))
def strsOf : List Va → Option (List Str)
  | [] => some []
  | .str i :: xs => (strsOf xs).map (i :: ·)
  | _ :: _ => none
theorem strsOf_eq : ∀ {xs : List Va} {ns : List Str}, strsOf xs = some ns → xs = ns.map .str
  | [], ns, h => by
    cases h
    rfl
  | x :: xs, ns, h => by
    cases x <;> simp [strsOf] at h
    obtain ⟨ms, h1, h2⟩ := h
    rw [← h2, strsOf_eq h1]
    rfl
def sixWords : List Str := ["before", "same", "within", "since", "until", "kind"]
def kindNames : List Str := ["a", "b", "c", "pot", "zzzzzzzz"]
def recordW (W : Str) (a : Int) (q : Stm) (n : Int) : Rec × Stm :=
  if W = "kind" ∨ (n = 1 ∧ (W = "before" ∨ W = "same" ∨ W = "within")) then (.kind a (kindNames.getD (q.draw 5).1.toNat ""), (q.draw 5).2)
  else if W = "since" ∨ W = "until" then
    let d1 := q.draw 40
    let d2 := d1.2.draw 40001
    let pk := d2.2.draw 2
    let y := [d1.1 - 20, d2.1 - 20000].getD pk.1.toNat 0
    let e1 := pk.2.draw 5
    let e2 := e1.2.draw 100
    let pl := e2.2.draw 3
    let w := [1, 1 + e1.1, 1 + e2.1].getD pl.1.toNat 0
    (if W = "since" then .since a y w else .upto a y w, pl.2)
  else
    let b := otherM q n a
    if W = "same" then (.same a b.1, b.2) else
    let d1 := b.2.draw 12
    let d2 := d1.2.draw 5001
    let pk := d2.2.draw 3
    let g := [0, d1.1, d2.1].getD pk.1.toNat 0
    (if W = "before" then .before a b.1 g else .within a b.1 g, pk.2)
def recordM (t : Stm) (n : Int) (words : List Str) : Rec × Stm :=
  recordW (words.getD (t.draw words.length).1.toNat "") ((t.draw words.length).2.draw n).1 ((t.draw words.length).2.draw n).2 n
noncomputable def F_l_record (args : List Va) (s : Sto) : Rs Va := match args with
  | [.ref a, .int n, .lst ws] => match stAt s a, strsOf ws with
    | some t, some words => if 1 ≤ n ∧ n ≤ 1000 ∧ 0 < words.length ∧ words.length ≤ 1000 ∧ (∀ x ∈ words, x ∈ sixWords) then .ok (recordM t n words).1.va (s.set a (recordM t n words).2.ob) else .bad
    | _, _ => .bad
  | _ => .bad
theorem pick_eq {s : Sto} {a : Nat} {t : Stm} {xs : List Va} (h : stAt s a = some t) (h1 : 0 < xs.length) (h2 : xs.length < 1073741824) : F_l_pick [.ref a, .lst xs] s = .ok (xs.getD (t.draw xs.length).1.toNat .non) (s.set a (t.draw xs.length).2.ob) := by
  unfold F_l_pick
  simp only [h, h1, h2, and_self, if_true]
theorem at5 {a b c d e : Str} {i : Int} (h0 : 0 ≤ i) (h1 : i < 5) : atI [Va.str a, .str b, .str c, .str d, .str e] i = some (.str ([a, b, c, d, e].getD i.toNat "")) := by
  have e : i = 0 ∨ i = 1 ∨ i = 2 ∨ i = 3 ∨ i = 4 := by omega
  rcases e with rfl | rfl | rfl | rfl | rfl <;> rfl
theorem gd3 {a b c i : Int} (h0 : 0 ≤ i) (h1 : i < 3) : [Va.int a, .int b, .int c].getD i.toNat .non = .int ([a, b, c].getD i.toNat 0) := by
  have e : i = 0 ∨ i = 1 ∨ i = 2 := by omega
  rcases e with rfl | rfl | rfl <;> rfl
theorem gd2 {a b i : Int} (h0 : 0 ≤ i) (h1 : i < 2) : [Va.int a, .int b].getD i.toNat .non = .int ([a, b].getD i.toNat 0) := by
  have e : i = 0 ∨ i = 1 := by omega
  rcases e with rfl | rfl <;> rfl
end Dn

set_option Elab.async false
set_option linter.all false
set_option maxRecDepth 100000
set_option maxHeartbeats 4000000
/-! Dn, part N: a drawn record. -/
namespace Dn
open PySem PySem.Spec PyProof.Rows L2

theorem six_cases {x : Str} (h : x ∈ sixWords) : x = "before" ∨ x = "same" ∨ x = "within" ∨ x = "since" ∨ x = "until" ∨ x = "kind" := by
  unfold sixWords at h
  simp only [List.mem_cons, List.mem_nil_iff, or_false] at h
  exact h
theorem getD_mem {α : Type} {xs : List α} {i : Nat} {d : α} (h : i < xs.length) : xs.getD i d ∈ xs := by
  rw [List.getD_eq_getElem?_getD, List.getElem?_eq_getElem h]
  exact List.getElem_mem h
theorem str_in3 {a b c x : Str} {s : Sto} : gIn false (.str x) (.tup [.str a, .str b, .str c]) s = .ok (.bl (decide (x = a ∨ x = b ∨ x = c))) s := by
  unfold gIn
  simp [gLook, dicKr?, dicTr?, seqA, flatA, inA, eqFA, eq_comm]
  rw [Bool.eq_iff_iff]
  simp
theorem str_in2 {a b x : Str} {s : Sto} : gIn false (.str x) (.tup [.str a, .str b]) s = .ok (.bl (decide (x = a ∨ x = b))) s := by
  unfold gIn
  simp [gLook, dicKr?, dicTr?, seqA, flatA, inA, eqFA, eq_comm]
  rw [Bool.eq_iff_iff]
  simp
section
variable {s : Sto} {a : Nat} {u : Stm}
theorem draw_st (la : a < s.length) {m : Int} (h1 : 0 < m) (h2 : m < 1073741824) : F_l_draw [.ref a, .int m] (s.set a u.ob) = .ok (.int (u.draw m).1) (s.set a (u.draw m).2.ob) := by
  rw [draw_eq (stAt_put la) h1 h2, List.set_set]
theorem pick3_st (la : a < s.length) {x y z : Int} : F_l_pick [.ref a, .lst [.int x, .int y, .int z]] (s.set a u.ob) = .ok (.int ([x, y, z].getD (u.draw 3).1.toNat 0)) (s.set a (u.draw 3).2.ob) := by
  have h := u.draw_in (m := 3) (by decide)
  rw [pick_eq (xs := [.int x, .int y, .int z]) (stAt_put la) (by simp) (by simp), List.set_set]
  show Rs.ok ([Va.int x, .int y, .int z].getD (u.draw 3).1.toNat .non) _ = _
  rw [gd3 h.1 h.2]
  rfl
theorem pick2_st (la : a < s.length) {x y : Int} : F_l_pick [.ref a, .lst [.int x, .int y]] (s.set a u.ob) = .ok (.int ([x, y].getD (u.draw 2).1.toNat 0)) (s.set a (u.draw 2).2.ob) := by
  have h := u.draw_in (m := 2) (by decide)
  rw [pick_eq (xs := [.int x, .int y]) (stAt_put la) (by simp) (by simp), List.set_set]
  show Rs.ok ([Va.int x, .int y].getD (u.draw 2).1.toNat .non) _ = _
  rw [gd2 h.1 h.2]
  rfl
theorem other_st (la : a < s.length) {n b : Int} (h1 : 2 ≤ n) (h2 : n < 1073741824) : F_l_other [.ref a, .int n, .int b] (s.set a u.ob) = .ok (.int (otherM u n b).1) (s.set a (otherM u n b).2.ob) := by
  unfold F_l_other
  simp only [stAt_put la, h1, h2, and_self, if_true, List.set_set]
theorem at5_st {b c d e f : Str} : atI [Va.str b, .str c, .str d, .str e, .str f] (u.draw 5).1 = some (.str ([b, c, d, e, f].getD (u.draw 5).1.toNat "")) := by
  have h := u.draw_in (m := 5) (by decide)
  exact at5 h.1 h.2
end
theorem fin_l_record (args : List Va) (s : Sto) (wf : WFn s.length s) (wa : vasB s.length args) (hl : args.length = 3) : Fin s.length (b_l_record (startA 7 args) s) (F_l_record args s) := by
  unfold F_l_record
  split
  · rename_i a n ws
    split
    · rename_i t words e ew
      split
      · rename_i hc
        obtain ⟨c1, c2, c3, c4, c5⟩ := hc
        have ew := strsOf_eq ew
        subst ew
        have la := stAt_lt e
        refine Fin.ret0 ?_ (by rw [List.length_set]) (Rec.b _ _) (wf_set wf (Stm.b _ _))
        have hp := t.draw_in (m := words.length) (by omega)
        have hi : (t.draw words.length).1.toNat < words.length := by omega
        have g1 : (words.map Va.str).getD (t.draw words.length).1.toNat .non = .str (words.getD (t.draw words.length).1.toNat "") := getD_map Va.str words _ "" .non hi
        have hw := six_cases (c5 (words.getD (t.draw words.length).1.toNat "") (getD_mem hi))
        have p1 := pick_eq (xs := words.map Va.str) e (by rw [List.length_map]; exact c3) (by rw [List.length_map]; omega)
        rw [List.length_map, g1] at p1
        unfold b_l_record startA recordM
        generalize words.getD (t.draw words.length).1.toNat "" = W at p1 hw ⊢
        generalize (t.draw words.length).2 = t1 at p1 ⊢
        have n0 : 0 < n := by omega
        have n1 : n < 1073741824 := by omega
        unfold recordW
        rcases hw with rfl | rfl | rfl | rfl | rfl | rfl
        · by_cases hn : n = 1
          · simp [p1, n0, n1, str_in3, draw_st la, at5_st, Rec.va, kindNames, -List.getD_eq_getElem?_getD, hn]
          · simp [p1, n0, n1, str_in3, str_in2, draw_st la, pick3_st la, other_st la (show 2 ≤ n by omega) (show n < 1073741824 by omega), Rec.va, kindNames, -List.getD_eq_getElem?_getD, hn]
        · by_cases hn : n = 1
          · simp [p1, n0, n1, str_in3, draw_st la, at5_st, Rec.va, kindNames, -List.getD_eq_getElem?_getD, hn]
          · simp [p1, n0, n1, str_in3, str_in2, draw_st la, pick3_st la, other_st la (show 2 ≤ n by omega) (show n < 1073741824 by omega), Rec.va, kindNames, -List.getD_eq_getElem?_getD, hn]
        · by_cases hn : n = 1
          · simp [p1, n0, n1, str_in3, draw_st la, at5_st, Rec.va, kindNames, -List.getD_eq_getElem?_getD, hn]
          · simp [p1, n0, n1, str_in3, str_in2, draw_st la, pick3_st la, other_st la (show 2 ≤ n by omega) (show n < 1073741824 by omega), Rec.va, kindNames, -List.getD_eq_getElem?_getD, hn]
        · simp [p1, n0, n1, str_in3, str_in2, draw_st la, pick3_st la, pick2_st la, Rec.va, kindNames, -List.getD_eq_getElem?_getD]
        · simp [p1, n0, n1, str_in3, str_in2, draw_st la, pick3_st la, pick2_st la, Rec.va, kindNames, -List.getD_eq_getElem?_getD]
        · simp [p1, n0, n1, draw_st la, at5_st, Rec.va, kindNames, -List.getD_eq_getElem?_getD]
      · exact .bad
    · exact .bad
  · exact .bad
end Dn

set_option Elab.async false
set_option linter.all false
set_option maxRecDepth 100000
set_option maxHeartbeats 4000000
/-! Dn, part O: a value that is the same as another one; whether a dating keeps a record. -/
namespace Dn
open PySem PySem.Spec PyProof.Rows L2
mutual
def datB : Va → Bool
  | .non => true
  | .bl _ => true
  | .int _ => true
  | .str _ => true
  | .tup xs => decide (xs.length ≤ 100000) && datsB xs
  | .lst xs => decide (xs.length ≤ 100000) && datsB xs
  | _ => false
def datsB : List Va → Bool
  | [] => true
  | x :: xs => datB x && datsB xs
end
mutual
def dep : Va → Nat
  | .tup xs => deps xs + 1
  | .lst xs => deps xs + 1
  | _ => 0
def deps : List Va → Nat
  | [] => 0
  | x :: xs => max (dep x) (deps xs)
end
mutual
def sameB : Va → Va → Bool
  | .non, .non => true
  | .bl a, .bl b => decide (a = b)
  | .int a, .int b => decide (a = b)
  | .str a, .str b => decide (a = b)
  | .tup xs, .tup ys => samesB xs ys
  | .lst xs, .lst ys => samesB xs ys
  | _, _ => false
def samesB : List Va → List Va → Bool
  | [], [] => true
  | x :: xs, y :: ys => sameB x y && samesB xs ys
  | _, _ => false
end
noncomputable def F_l_same (d : Nat) (args : List Va) (s : Sto) : Rs Va := match args with
  | [x, y] => if datB x = true ∧ datB y = true ∧ dep y < d then .ok (.bl (sameB x y)) s else .bad
  | _ => .bad
noncomputable def b_l_same (d : Nat) : DS := (sSeq (sIf (dOr (dTr (dUn (gIsi "tuple") (dV 1))) (dTr (dUn (gIsi "list") (dV 1)))) (sSeq (sIf (dOr (dTB (dBin (gEq true) (dUn (gIsi "tuple") (dV 0)) (dUn (gIsi "tuple") (dV 1)))) (dTB (dBin (gEq true) (dUn (gIsi "list") (dV 0)) (dUn (gIsi "list") (dV 1))))) (sRet (dC (.bl false))) sNext)
  (sRet (dAndV (dBin (gEq false) (dApp gLen (dCons (dV 0) dNil)) (dApp gLen (dCons (dV 1) dNil))) (dApp gAll (dCons (dLc false (dRg1 (dCons (dApp gLen (dCons (dV 1) dNil)) dNil)) (dgName 2) dYes (dApp (gFn 2 (F_l_same d)) (dCons (dBin gIx (dV 0) (dV 2)) (dCons (dBin gIx (dV 1) (dV 2)) dNil))) [2]) dNil))))) sNext)
  (sSeq (sIf (dTB (dBin (gIs false) (dV 1) (dC .non))) (sRet (dBin (gIs false) (dV 0) (dC .non))) sNext)
  (sSeq (sIf (dTr (dUn (gIsi "str") (dV 1))) (sRet (dAndV (dUn (gIsi "str") (dV 0)) (dBin (gEq false) (dV 0) (dV 1)))) sNext)
  (sRet (dAndV (dUn (gIsi "int") (dV 0)) (dAndV (dBin (gEq false) (dUn (gIsi "bool") (dV 0)) (dUn (gIsi "bool") (dV 1))) (dBin (gEq false) (dV 0) (dV 1))))))))
theorem samesB_len : ∀ {xs ys : List Va}, xs.length ≠ ys.length → samesB xs ys = false
  | [], [], h => absurd rfl h
  | [], _ :: _, _ => by unfold samesB; rfl
  | _ :: _, [], _ => by unfold samesB; rfl
  | x :: xs, y :: ys, h => by
    unfold samesB
    rw [samesB_len (xs := xs) (ys := ys) (fun e => h (by rw [List.length_cons, List.length_cons, e]))]
    exact Bool.and_false _
theorem samesB_rg : ∀ {xs ys : List Va}, xs.length = ys.length → ((List.range ys.length).map fun i => sameB (xs.getD i .non) (ys.getD i .non)).all id = samesB xs ys
  | [], [], _ => rfl
  | [], _ :: _, h => by simp at h
  | _ :: _, [], h => by simp at h
  | x :: xs, y :: ys, h => by
    have ih := samesB_rg (xs := xs) (ys := ys) (by simpa using h)
    rw [List.length_cons, List.range_succ_eq_map, List.map_cons, List.all_cons, List.map_map]
    unfold samesB
    rw [← ih]
    rfl
theorem datsB_get : ∀ {xs : List Va} {i : Nat}, datsB xs = true → datB (xs.getD i .non) = true
  | [], _, _ => by rw [List.getD_nil]; rfl
  | x :: xs, 0, h => by
    unfold datsB at h
    rw [Bool.and_eq_true] at h
    exact h.1
  | x :: xs, i + 1, h => by
    unfold datsB at h
    rw [Bool.and_eq_true] at h
    rw [List.getD_cons_succ]
    exact datsB_get h.2
theorem deps_get : ∀ {xs : List Va} {i : Nat}, dep (xs.getD i .non) ≤ deps xs
  | [], _ => by rw [List.getD_nil]; exact Nat.zero_le _
  | x :: xs, 0 => by
    unfold deps
    exact Nat.le_max_left _ _
  | x :: xs, i + 1 => by
    unfold deps
    rw [List.getD_cons_succ]
    exact Nat.le_trans deps_get (Nat.le_max_right _ _)
theorem gIx_at {x : Va} {xs : List Va} {i : Nat} {s : Sto} (h : seqA x s = some xs) (hi : i < xs.length) : gIx x (.int (i : Int)) s = .ok (xs.getD i .non) s := by
  unfold gIx
  rw [h]
  dsimp only
  rw [atI_in .non (by omega) (by omega)]
  rfl
theorem isi_of {T t : String} {x : Va} {s : Sto} {b : Bool} (h : tyA x s = some t) (k : kitB t T = some b) : gIsi T x s = .ok (.bl b) s := by
  unfold gIsi
  rw [h]
  dsimp only
  rw [k]
@[simp] theorem isi_tuple_tuple {xs : List Va} {s : Sto} : gIsi "tuple" (.tup xs) s = .ok (.bl true) s := isi_of (show tyA (.tup xs) s = some "tuple" from rfl) (by decide +kernel)
@[simp] theorem isi_tuple_list {xs : List Va} {s : Sto} : gIsi "tuple" (.lst xs) s = .ok (.bl false) s := isi_of (show tyA (.lst xs) s = some "list" from rfl) (by decide +kernel)
@[simp] theorem isi_tuple_str {x : Str} {s : Sto} : gIsi "tuple" (.str x) s = .ok (.bl false) s := isi_of (show tyA (.str x) s = some "str" from rfl) (by decide +kernel)
@[simp] theorem isi_tuple_int {i : Int} {s : Sto} : gIsi "tuple" (.int i) s = .ok (.bl false) s := isi_of (show tyA (.int i) s = some "int" from rfl) (by decide +kernel)
@[simp] theorem isi_tuple_bool {b : Bool} {s : Sto} : gIsi "tuple" (.bl b) s = .ok (.bl false) s := isi_of (show tyA (.bl b) s = some "bool" from rfl) (by decide +kernel)
@[simp] theorem isi_tuple_NoneType  {s : Sto} : gIsi "tuple" (.non) s = .ok (.bl false) s := isi_of (show tyA (.non) s = some "NoneType" from rfl) (by decide +kernel)
@[simp] theorem isi_list_tuple {xs : List Va} {s : Sto} : gIsi "list" (.tup xs) s = .ok (.bl false) s := isi_of (show tyA (.tup xs) s = some "tuple" from rfl) (by decide +kernel)
@[simp] theorem isi_list_list {xs : List Va} {s : Sto} : gIsi "list" (.lst xs) s = .ok (.bl true) s := isi_of (show tyA (.lst xs) s = some "list" from rfl) (by decide +kernel)
@[simp] theorem isi_list_str {x : Str} {s : Sto} : gIsi "list" (.str x) s = .ok (.bl false) s := isi_of (show tyA (.str x) s = some "str" from rfl) (by decide +kernel)
@[simp] theorem isi_list_int {i : Int} {s : Sto} : gIsi "list" (.int i) s = .ok (.bl false) s := isi_of (show tyA (.int i) s = some "int" from rfl) (by decide +kernel)
@[simp] theorem isi_list_bool {b : Bool} {s : Sto} : gIsi "list" (.bl b) s = .ok (.bl false) s := isi_of (show tyA (.bl b) s = some "bool" from rfl) (by decide +kernel)
@[simp] theorem isi_list_NoneType  {s : Sto} : gIsi "list" (.non) s = .ok (.bl false) s := isi_of (show tyA (.non) s = some "NoneType" from rfl) (by decide +kernel)
@[simp] theorem isi_str_tuple {xs : List Va} {s : Sto} : gIsi "str" (.tup xs) s = .ok (.bl false) s := isi_of (show tyA (.tup xs) s = some "tuple" from rfl) (by decide +kernel)
@[simp] theorem isi_str_list {xs : List Va} {s : Sto} : gIsi "str" (.lst xs) s = .ok (.bl false) s := isi_of (show tyA (.lst xs) s = some "list" from rfl) (by decide +kernel)
@[simp] theorem isi_str_str {x : Str} {s : Sto} : gIsi "str" (.str x) s = .ok (.bl true) s := isi_of (show tyA (.str x) s = some "str" from rfl) (by decide +kernel)
@[simp] theorem isi_str_int {i : Int} {s : Sto} : gIsi "str" (.int i) s = .ok (.bl false) s := isi_of (show tyA (.int i) s = some "int" from rfl) (by decide +kernel)
@[simp] theorem isi_str_bool {b : Bool} {s : Sto} : gIsi "str" (.bl b) s = .ok (.bl false) s := isi_of (show tyA (.bl b) s = some "bool" from rfl) (by decide +kernel)
@[simp] theorem isi_str_NoneType  {s : Sto} : gIsi "str" (.non) s = .ok (.bl false) s := isi_of (show tyA (.non) s = some "NoneType" from rfl) (by decide +kernel)
@[simp] theorem isi_int_tuple {xs : List Va} {s : Sto} : gIsi "int" (.tup xs) s = .ok (.bl false) s := isi_of (show tyA (.tup xs) s = some "tuple" from rfl) (by decide +kernel)
@[simp] theorem isi_int_list {xs : List Va} {s : Sto} : gIsi "int" (.lst xs) s = .ok (.bl false) s := isi_of (show tyA (.lst xs) s = some "list" from rfl) (by decide +kernel)
@[simp] theorem isi_int_str {x : Str} {s : Sto} : gIsi "int" (.str x) s = .ok (.bl false) s := isi_of (show tyA (.str x) s = some "str" from rfl) (by decide +kernel)
@[simp] theorem isi_int_int {i : Int} {s : Sto} : gIsi "int" (.int i) s = .ok (.bl true) s := isi_of (show tyA (.int i) s = some "int" from rfl) (by decide +kernel)
@[simp] theorem isi_int_bool {b : Bool} {s : Sto} : gIsi "int" (.bl b) s = .ok (.bl true) s := isi_of (show tyA (.bl b) s = some "bool" from rfl) (by decide +kernel)
@[simp] theorem isi_int_NoneType  {s : Sto} : gIsi "int" (.non) s = .ok (.bl false) s := isi_of (show tyA (.non) s = some "NoneType" from rfl) (by decide +kernel)
@[simp] theorem isi_bool_tuple {xs : List Va} {s : Sto} : gIsi "bool" (.tup xs) s = .ok (.bl false) s := isi_of (show tyA (.tup xs) s = some "tuple" from rfl) (by decide +kernel)
@[simp] theorem isi_bool_list {xs : List Va} {s : Sto} : gIsi "bool" (.lst xs) s = .ok (.bl false) s := isi_of (show tyA (.lst xs) s = some "list" from rfl) (by decide +kernel)
@[simp] theorem isi_bool_str {x : Str} {s : Sto} : gIsi "bool" (.str x) s = .ok (.bl false) s := isi_of (show tyA (.str x) s = some "str" from rfl) (by decide +kernel)
@[simp] theorem isi_bool_int {i : Int} {s : Sto} : gIsi "bool" (.int i) s = .ok (.bl false) s := isi_of (show tyA (.int i) s = some "int" from rfl) (by decide +kernel)
@[simp] theorem isi_bool_bool {b : Bool} {s : Sto} : gIsi "bool" (.bl b) s = .ok (.bl true) s := isi_of (show tyA (.bl b) s = some "bool" from rfl) (by decide +kernel)
@[simp] theorem isi_bool_NoneType  {s : Sto} : gIsi "bool" (.non) s = .ok (.bl false) s := isi_of (show tyA (.non) s = some "NoneType" from rfl) (by decide +kernel)
theorem Fin.ret1 {raw : Fl} {v : Va} {s : Sto} (h : raw = .ret v s) (hv : vaB s.length v) (hw : WFn s.length s) : Fin s.length raw (.ok v s) := Fin.ret0 h rfl hv hw
theorem same_eq {d : Nat} {x y : Va} {s : Sto} : F_l_same d [x, y] s = if datB x = true ∧ datB y = true ∧ dep y < d then .ok (.bl (sameB x y)) s else .bad := rfl
theorem same_loop {d : Nat} {x y : Va} {xs ys : List Va} {s : Sto} (hx : seqA x s = some xs) (hy : seqA y s = some ys) (hl : xs.length = ys.length) (dx : datsB xs = true) (dy : datsB ys = true) (hd : deps ys < d) :
    cl none (dgName 2) dYes (dApp (gFn 2 (F_l_same d)) (dCons (dBin gIx (dV 0) (dV 2)) (dCons (dBin gIx (dV 1) (dV 2)) dNil))) [some x, some y, none] (rgA 0 ys.length) [] s = .ok (((List.range ys.length).map fun i => sameB (xs.getD i .non) (ys.getD i .non)).map .bl) s := by
  unfold rgA
  rw [Int.sub_zero, Int.toNat_natCast]
  rw [cl_all (fun i : Nat => Va.int (0 + (i : Int))) (fun i : Nat => Va.bl (sameB (xs.getD i .non) (ys.getD i .non))), List.nil_append, List.map_map]
  · rfl
  · intro i hi
    have hi := List.mem_range.mp hi
    have q1 := gIx_at (s := s) hx (by rw [hl]; exact hi)
    have q2 := gIx_at (s := s) hy hi
    have c1 := datsB_get (i := i) dx
    have c2 := datsB_get (i := i) dy
    have c3 := deps_get (xs := ys) (i := i)
    rw [Int.zero_add]
    simp only [e_App, e_Cons, e_Bin, e_V, e_Nil, List.set, List.getElem?_cons_zero, List.getElem?_cons_succ, bind_ok, q1, q2, e_gFn, List.length_cons, List.length_nil]
    rw [same_eq, if_pos ⟨c1, c2, by omega⟩]
end Dn

set_option Elab.async false
set_option linter.all false
set_option maxRecDepth 100000
set_option maxHeartbeats 4000000
/-! Dn, part P: the same value: the body. -/
namespace Dn
open PySem PySem.Spec PyProof.Rows L2
theorem same_tup_eq {d : Nat} {xs ys : List Va} {s : Sto} (hq : xs.length = ys.length) (d1 : xs.length ≤ 100000 ∧ datsB xs = true) (d2 : ys.length ≤ 100000 ∧ datsB ys = true) (d3 : deps ys < d) : b_l_same d [some (.tup xs), some (.tup ys), none] s = .ret (.bl (samesB xs ys)) s := by
  unfold b_l_same
  have L := same_loop (s := s) (x := .tup xs) (y := .tup ys) rfl rfl hq d1.2 d2.2 d3
  rw [← samesB_rg hq]
  have hr : inR (ys.length : Int) := ⟨by omega, by omega⟩
  have hl : leq (rgA 0 (ys.length : Int)).length 100000 := by unfold leq; rw [rgA_len]; omega
  generalize (List.range ys.length).map (fun i => sameB (xs.getD i .non) (ys.getD i .non)) = bs at L ⊢
  simp only [e_seq, e_ifS, e_Or, e_Tr, e_Un, e_V, List.getElem?_cons_zero, List.getElem?_cons_succ, bind_ok, isi_tuple_tuple, isi_list_tuple, truA, fl_ok, if_true, if_false, e_TB, e_Bin, g_eq_bl, Bool.false_eq_true, decide_true, decide_false, bne_self_eq_false, e_ret, e_AndV, e_App, e_Cons, e_Nil, g_len_tup, g_len_lst, g_eq_int, hq, e_next, e_C]
  simp only [e_Lc, e_rg1, e_Cons, e_Nil, e_App, e_V, List.getElem?_cons_zero, List.getElem?_cons_succ, bind_ok, g_len_tup, g_len_lst, hr, and_self, if_true, hl, wip, List.set, L, g_mkL_f, gAll, seqL, blsOf_map, fl_ok, Bool.false_bne]
theorem same_tup_ne {d : Nat} {xs ys : List Va} {s : Sto} (hq : xs.length ≠ ys.length) : b_l_same d [some (.tup xs), some (.tup ys), none] s = .ret (.bl (samesB xs ys)) s := by
  unfold b_l_same
  rw [samesB_len hq]
  have hq2 : ¬ (xs.length : Int) = (ys.length : Int) := fun e => hq (by omega)
  simp only [e_seq, e_ifS, e_Or, e_Tr, e_Un, e_V, List.getElem?_cons_zero, List.getElem?_cons_succ, bind_ok, isi_tuple_tuple, isi_list_tuple, truA, fl_ok, if_true, if_false, e_TB, e_Bin, g_eq_bl, Bool.false_eq_true, decide_true, decide_false, bne_self_eq_false, e_ret, e_AndV, e_App, e_Cons, e_Nil, g_len_tup, g_len_lst, g_eq_int, hq2, e_next, e_C]
theorem same_lst_eq {d : Nat} {xs ys : List Va} {s : Sto} (hq : xs.length = ys.length) (d1 : xs.length ≤ 100000 ∧ datsB xs = true) (d2 : ys.length ≤ 100000 ∧ datsB ys = true) (d3 : deps ys < d) : b_l_same d [some (.lst xs), some (.lst ys), none] s = .ret (.bl (samesB xs ys)) s := by
  unfold b_l_same
  have L := same_loop (s := s) (x := .lst xs) (y := .lst ys) rfl rfl hq d1.2 d2.2 d3
  rw [← samesB_rg hq]
  have hr : inR (ys.length : Int) := ⟨by omega, by omega⟩
  have hl : leq (rgA 0 (ys.length : Int)).length 100000 := by unfold leq; rw [rgA_len]; omega
  generalize (List.range ys.length).map (fun i => sameB (xs.getD i .non) (ys.getD i .non)) = bs at L ⊢
  simp only [e_seq, e_ifS, e_Or, e_Tr, e_Un, e_V, List.getElem?_cons_zero, List.getElem?_cons_succ, bind_ok, isi_tuple_list, isi_list_list, truA, fl_ok, if_true, if_false, e_TB, e_Bin, g_eq_bl, Bool.false_eq_true, decide_true, decide_false, bne_self_eq_false, e_ret, e_AndV, e_App, e_Cons, e_Nil, g_len_tup, g_len_lst, g_eq_int, hq, e_next, e_C]
  simp only [e_Lc, e_rg1, e_Cons, e_Nil, e_App, e_V, List.getElem?_cons_zero, List.getElem?_cons_succ, bind_ok, g_len_tup, g_len_lst, hr, and_self, if_true, hl, wip, List.set, L, g_mkL_f, gAll, seqL, blsOf_map, fl_ok, Bool.false_bne]
theorem same_lst_ne {d : Nat} {xs ys : List Va} {s : Sto} (hq : xs.length ≠ ys.length) : b_l_same d [some (.lst xs), some (.lst ys), none] s = .ret (.bl (samesB xs ys)) s := by
  unfold b_l_same
  rw [samesB_len hq]
  have hq2 : ¬ (xs.length : Int) = (ys.length : Int) := fun e => hq (by omega)
  simp only [e_seq, e_ifS, e_Or, e_Tr, e_Un, e_V, List.getElem?_cons_zero, List.getElem?_cons_succ, bind_ok, isi_tuple_list, isi_list_list, truA, fl_ok, if_true, if_false, e_TB, e_Bin, g_eq_bl, Bool.false_eq_true, decide_true, decide_false, bne_self_eq_false, e_ret, e_AndV, e_App, e_Cons, e_Nil, g_len_tup, g_len_lst, g_eq_int, hq2, e_next, e_C]
theorem same_at {d : Nat} {x y : Va} {s : Sto} (c1 : datB x = true) (c2 : flatA y = true) : b_l_same d [some x, some y, none] s = .ret (.bl (sameB x y)) s := by
  unfold b_l_same
  cases y with
  | non => cases x <;> first | (simp [sameB, truA, gIs]; done) | (simp [datB] at c1; done)
  | bl b => cases x <;> first | (simp [sameB, truA, gIs]; done) | (simp [datB] at c1; done)
  | int i => cases x <;> first | (simp [sameB, truA, gIs]; done) | (simp [datB] at c1; done)
  | str z => cases x <;> first | (simp [sameB, truA, gIs]; done) | (simp [datB] at c1; done)
  | _ => simp [flatA] at c2
theorem same_no {d : Nat} {x : Va} {ys : List Va} {s : Sto} (c1 : datB x = true) : ((∀ xs, x ≠ .tup xs) → b_l_same d [some x, some (.tup ys), none] s = .ret (.bl false) s) ∧ ((∀ xs, x ≠ .lst xs) → b_l_same d [some x, some (.lst ys), none] s = .ret (.bl false) s) := by
  unfold b_l_same
  constructor
  · intro h
    cases x <;> first | (exact absurd rfl (h _)) | (simp [truA]; done) | (simp [datB] at c1; done)
  · intro h
    cases x <;> first | (exact absurd rfl (h _)) | (simp [truA]; done) | (simp [datB] at c1; done)
theorem datB_seq {xs : List Va} : (datB (.tup xs) = true → xs.length ≤ 100000 ∧ datsB xs = true) ∧ (datB (.lst xs) = true → xs.length ≤ 100000 ∧ datsB xs = true) := by
  constructor
  · intro h
    unfold datB at h
    rw [Bool.and_eq_true] at h
    exact ⟨of_decide_eq_true h.1, h.2⟩
  · intro h
    unfold datB at h
    rw [Bool.and_eq_true] at h
    exact ⟨of_decide_eq_true h.1, h.2⟩
theorem same_run {d : Nat} {x y : Va} {s : Sto} (c1 : datB x = true) (c2 : datB y = true) (c3 : dep y < d + 1) : b_l_same d [some x, some y, none] s = .ret (.bl (sameB x y)) s := by
  cases y with
  | non => exact same_at c1 rfl
  | bl b => exact same_at c1 rfl
  | int i => exact same_at c1 rfl
  | str z => exact same_at c1 rfl
  | tup ys =>
    have d2 := datB_seq.1 c2
    have d3 : deps ys < d := by
      unfold dep at c3
      omega
    cases x with
    | tup xs =>
      have d1 := datB_seq.1 c1
      unfold sameB
      by_cases hq : xs.length = ys.length
      · exact same_tup_eq hq d1 d2 d3
      · exact same_tup_ne hq
    | _ =>
      rw [(same_no c1).1 (fun _ h => nomatch h)]
      unfold sameB
      rfl
  | lst ys =>
    have d2 := datB_seq.2 c2
    have d3 : deps ys < d := by
      unfold dep at c3
      omega
    cases x with
    | lst xs =>
      have d1 := datB_seq.2 c1
      unfold sameB
      by_cases hq : xs.length = ys.length
      · exact same_lst_eq hq d1 d2 d3
      · exact same_lst_ne hq
    | _ =>
      rw [(same_no c1).2 (fun _ h => nomatch h)]
      unfold sameB
      rfl
  | _ => simp [datB] at c2
theorem fin_l_same {d : Nat} (args : List Va) (s : Sto) (wf : WFn s.length s) (wa : vasB s.length args) (hl : args.length = 2) : Fin s.length (b_l_same d (startA 3 args) s) (F_l_same (d + 1) args s) := by
  unfold F_l_same
  split
  · rename_i x y
    split
    · rename_i hc
      exact Fin.ret1 (same_run hc.1 hc.2.1 hc.2.2) trivial wf
    · exact .bad
  · exact .bad
end Dn

set_option Elab.async false
set_option linter.all false
set_option maxRecDepth 100000
set_option maxHeartbeats 4000000
/-! Dn, part Q: whether a dating keeps a record: the law's helper and the program's def. -/
namespace Dn
open PySem PySem.Spec PyProof.Rows L2
/-- a value that is a record's -/
def recOf : Va → Option Rec
  | .tup [.str w, .int a, .int b, .int g] => if w = "before" then some (.before a b g) else if w = "within" then some (.within a b g) else if w = "since" then some (.since a b g) else if w = "until" then some (.upto a b g) else none
  | .tup [.str w, .int a, .int b] => if w = "same" then some (.same a b) else none
  | .tup [.str w, .int a, .str k] => if w = "kind" then some (.kind a k) else none
  | _ => none
theorem recOf_va (r : Rec) : recOf r.va = some r := by
  cases r <;> simp [recOf, Rec.va]
theorem recOf_eq {x : Va} {r : Rec} (h : recOf x = some r) : x = r.va := by
  unfold recOf at h
  split at h
  · split at h
    · rename_i e
      cases h
      rw [e]
      rfl
    · split at h
      · rename_i e
        cases h
        rw [e]
        rfl
      · split at h
        · rename_i e
          cases h
          rw [e]
          rfl
        · split at h
          · rename_i e
            cases h
            rw [e]
            rfl
          · cases h
  · split at h
    · rename_i e
      cases h
      rw [e]
      rfl
    · cases h
  · split at h
    · rename_i e
      cases h
      rw [e]
      rfl
    · cases h
  · cases h
/-- the year of a unit -/
def yr (ys : List Int) (a : Int) : Int := ys.getD a.toNat 0
def Rec.keeps (ys : List Int) : Rec → Bool
  | .before a b g => decide (yr ys a + g ≤ yr ys b)
  | .same a b => decide (yr ys a = yr ys b)
  | .within a b g => decide (yr ys b ≤ yr ys a + g)
  | .since a y _ => decide (y ≤ yr ys a)
  | .upto a y _ => decide (yr ys a ≤ y)
  | .kind _ _ => true
/-- its units are below n -/
def Rec.fits (n : Int) : Rec → Prop
  | .before a b _ => (0 ≤ a ∧ a < n) ∧ (0 ≤ b ∧ b < n)
  | .same a b => (0 ≤ a ∧ a < n) ∧ (0 ≤ b ∧ b < n)
  | .within a b _ => (0 ≤ a ∧ a < n) ∧ (0 ≤ b ∧ b < n)
  | .since a _ _ => 0 ≤ a ∧ a < n
  | .upto a _ _ => 0 ≤ a ∧ a < n
  | .kind a _ => 0 ≤ a ∧ a < n
noncomputable instance (n : Int) (r : Rec) : Decidable (r.fits n) := Classical.propDecidable _
noncomputable def F_keeps (args : List Va) (s : Sto) : Rs Va := match args with
  | [x, d] => match recOf x, seqL d s with
    | some r, some xs => match intsOf xs with
      | some ys => if r.fits ys.length then .ok (.bl (r.keeps ys)) s else .bad
      | none => .bad
    | _, _ => .bad
  | _ => .bad
noncomputable abbrev F_l_keeps := F_keeps
noncomputable def b_l_keeps : DS := (sSeq (sSet 2 (dBin gIx (dV 0) (dC (.int 0))))
  (sSeq (sIf (dTB (dBin (gEq false) (dV 2) (dC (.str "kind")))) (sRet (dC (.bl true))) sNext)
  (sSeq (sIf (dTB (dBin (gEq false) (dV 2) (dC (.str "since")))) (sRet (dBin gGe (dBin gIx (dV 1) (dBin gIx (dV 0) (dC (.int 1)))) (dBin gIx (dV 0) (dC (.int 2))))) sNext)
  (sSeq (sIf (dTB (dBin (gEq false) (dV 2) (dC (.str "until")))) (sRet (dBin gLe (dBin gIx (dV 1) (dBin gIx (dV 0) (dC (.int 1)))) (dBin gIx (dV 0) (dC (.int 2))))) sNext)
  (sSeq (sSet 3 (dBin gSub (dBin gIx (dV 1) (dBin gIx (dV 0) (dC (.int 2)))) (dBin gIx (dV 1) (dBin gIx (dV 0) (dC (.int 1))))))
  (sSeq (sIf (dTB (dBin (gEq false) (dV 2) (dC (.str "same")))) (sRet (dBin (gEq false) (dV 3) (dC (.int 0)))) sNext)
  (sSeq (sIf (dTB (dBin (gEq false) (dV 2) (dC (.str "before")))) (sRet (dBin gGe (dV 3) (dBin gIx (dV 0) (dC (.int 3))))) sNext)
  (sRet (dBin gLe (dV 3) (dBin gIx (dV 0) (dC (.int 3))))))))))))
noncomputable def b_keeps : DS := (sSeq (sSet 2 (dBin gIx (dV 0) (dC (.int 0))))
  (sSeq (sIf (dTB (dBin (gEq false) (dV 2) (dC (.str "kind")))) (sRet (dC (.bl true))) sNext)
  (sSeq (sSet 3 (dBin gIx (dV 1) (dBin gIx (dV 0) (dC (.int 1)))))
  (sSeq (sIf (dTB (dBin (gEq false) (dV 2) (dC (.str "since")))) (sRet (dBin gGe (dV 3) (dBin gIx (dV 0) (dC (.int 2))))) sNext)
  (sSeq (sIf (dTB (dBin (gEq false) (dV 2) (dC (.str "until")))) (sRet (dBin gLe (dV 3) (dBin gIx (dV 0) (dC (.int 2))))) sNext)
  (sSeq (sSet 4 (dBin gIx (dV 1) (dBin gIx (dV 0) (dC (.int 2)))))
  (sSeq (sIf (dTB (dBin (gEq false) (dV 2) (dC (.str "before")))) (sRet (dBin gLe (dBin (gAdd false) (dV 3) (dBin gIx (dV 0) (dC (.int 3)))) (dV 4))) sNext)
  (sRet (dIf (dTB (dBin (gEq false) (dV 2) (dC (.str "same")))) (dBin (gEq false) (dV 3) (dV 4)) (dBin gLe (dV 4) (dBin (gAdd false) (dV 3) (dBin gIx (dV 0) (dC (.int 3))))))))))))))
theorem ix_yr {d : Va} {ys : List Int} {s : Sto} {a : Int} (h : seqL d s = some (ys.map .int)) (h0 : 0 ≤ a) (h1 : a < ys.length) : gIx d (.int a) s = .ok (.int (yr ys a)) s := by
  have h2 : seqA d s = some (ys.map .int) := by
    cases d <;> simp [seqL] at h <;> simp [seqA, h]
  unfold gIx
  rw [h2]
  dsimp only
  rw [atI_in .non h0 (by rw [List.length_map]; exact h1), getD_map Va.int ys a.toNat 0 .non (by omega)]
  rfl
theorem keeps_run {r : Rec} {d : Va} {ys : List Int} {s : Sto} (h : seqL d s = some (ys.map .int)) (hf : r.fits ys.length) : b_keeps [some r.va, some d, none, none, none] s = .ret (.bl (r.keeps ys)) s := by
  unfold b_keeps
  cases r with
  | before a b g =>
    obtain ⟨⟨a0, a1⟩, b0, b1⟩ := hf
    simp [Rec.va, atI_0, atI_1, atI_2, atI_3, ix_yr h a0 a1, ix_yr h b0 b1, Rec.keeps]
  | same a b =>
    obtain ⟨⟨a0, a1⟩, b0, b1⟩ := hf
    simp [Rec.va, atI_0, atI_1, atI_2, ix_yr h a0 a1, ix_yr h b0 b1, Rec.keeps]
  | within a b g =>
    obtain ⟨⟨a0, a1⟩, b0, b1⟩ := hf
    simp [Rec.va, atI_0, atI_1, atI_2, atI_3, ix_yr h a0 a1, ix_yr h b0 b1, Rec.keeps]
  | since a y w =>
    obtain ⟨a0, a1⟩ := hf
    simp [Rec.va, atI_0, atI_1, atI_2, ix_yr h a0 a1, Rec.keeps]
  | upto a y w =>
    obtain ⟨a0, a1⟩ := hf
    simp [Rec.va, atI_0, atI_1, atI_2, ix_yr h a0 a1, Rec.keeps]
  | kind a k => simp [Rec.va, atI_0, Rec.keeps]
theorem l_keeps_run {r : Rec} {d : Va} {ys : List Int} {s : Sto} (h : seqL d s = some (ys.map .int)) (hf : r.fits ys.length) : b_l_keeps [some r.va, some d, none, none] s = .ret (.bl (r.keeps ys)) s := by
  unfold b_l_keeps
  cases r with
  | before a b g =>
    obtain ⟨⟨a0, a1⟩, b0, b1⟩ := hf
    simp [Rec.va, atI_0, atI_1, atI_2, atI_3, ix_yr h a0 a1, ix_yr h b0 b1, Rec.keeps]
    omega
  | same a b =>
    obtain ⟨⟨a0, a1⟩, b0, b1⟩ := hf
    simp [Rec.va, atI_0, atI_1, atI_2, ix_yr h a0 a1, ix_yr h b0 b1, Rec.keeps]
    omega
  | within a b g =>
    obtain ⟨⟨a0, a1⟩, b0, b1⟩ := hf
    simp [Rec.va, atI_0, atI_1, atI_2, atI_3, ix_yr h a0 a1, ix_yr h b0 b1, Rec.keeps]
    omega
  | since a y w =>
    obtain ⟨a0, a1⟩ := hf
    simp [Rec.va, atI_0, atI_1, atI_2, ix_yr h a0 a1, Rec.keeps]
  | upto a y w =>
    obtain ⟨a0, a1⟩ := hf
    simp [Rec.va, atI_0, atI_1, atI_2, ix_yr h a0 a1, Rec.keeps]
  | kind a k => simp [Rec.va, atI_0, Rec.keeps]
theorem fin_keeps (args : List Va) (s : Sto) (wf : WFn s.length s) (wa : vasB s.length args) (hl : args.length = 2) : Fin s.length (b_keeps (startA 5 args) s) (F_keeps args s) := by
  unfold F_keeps
  split
  · split
    · rename_i r xs e1 e2
      split
      · rename_i ys e3
        split
        · rename_i hc
          rw [recOf_eq e1]
          rw [intsOf_eq e3] at e2
          exact Fin.ret1 (keeps_run e2 hc) trivial wf
        · exact .bad
      · exact .bad
    · exact .bad
  · exact .bad
theorem fin_l_keeps (args : List Va) (s : Sto) (wf : WFn s.length s) (wa : vasB s.length args) (hl : args.length = 2) : Fin s.length (b_l_keeps (startA 4 args) s) (F_keeps args s) := by
  unfold F_keeps
  split
  · split
    · rename_i r xs e1 e2
      split
      · rename_i ys e3
        split
        · rename_i hc
          rw [recOf_eq e1]
          rw [intsOf_eq e3] at e2
          exact Fin.ret1 (l_keeps_run e2 hc) trivial wf
        · exact .bad
      · exact .bad
    · exact .bad
  · exact .bad
end Dn

set_option Elab.async false
set_option linter.all false
set_option maxRecDepth 100000
set_option maxHeartbeats 4000000
/-! k03: the law. -/
namespace Dn
open PySem PySem.Spec PyProof.Rows L2
theorem other_in {t : Stm} {n a : Int} (h : 1 ≤ n) : 0 ≤ (otherM t n a).1 ∧ (otherM t n a).1 < n := ⟨Int.emod_nonneg _ (by omega), Int.emod_lt_of_pos _ (by omega)⟩
theorem recordM_fits {t : Stm} {n : Int} {words : List Str} (h : 1 ≤ n) : (recordM t n words).1.fits n := by
  unfold recordM
  have hq := (t.draw words.length).2.draw_in (m := n) (by omega)
  generalize ((t.draw words.length).2.draw n).1 = A at hq ⊢
  generalize ((t.draw words.length).2.draw n).2 = u
  have ho := other_in (t := u) (a := A) h
  unfold recordW
  dsimp only
  split
  · exact hq
  · split
    · split
      · exact hq
      · exact hq
    · split
      · exact ⟨hq, ho⟩
      · split
        · exact ⟨hq, ho⟩
        · exact ⟨hq, ho⟩
noncomputable def el03 : DE := (dApp (gFn 2 F_l_pick) (dCons (dV 1) (dCons (dLst false (dCons (dApp (gFn 2 F_l_draw) (dCons (dV 1) (dCons (dC (.int 30)) dNil))) (dCons (dUn gNeg (dBin gPow (dC (.int 10)) (dC (.int 30)))) (dCons (dBin gPow (dC (.int 10)) (dC (.int 30))) dNil)))) dNil)))
noncomputable def p3 : DS := (sIf (dTB (dBin (gIn false) (dBin gIx (dV 4) (dC (.int 0))) (dTup (dCons (dC (.str "since")) (dCons (dC (.str "until")) dNil))))) (sSetIx (dV 5) (dBin gIx (dV 4) (dC (.int 1))) (dBin gSub (dBin (gAdd false) (dBin gIx (dV 4) (dC (.int 2))) (dApp (gFn 2 F_l_draw) (dCons (dV 1) (dCons (dC (.int 3)) dNil)))) (dC (.int 1)))) (sIf (dAnd (dTB (dBin (gEq true) (dBin gIx (dV 4) (dC (.int 0))) (dC (.str "kind")))) (dTB (dBin gGt (dApp (gFn 2 F_l_draw) (dCons (dV 1) (dCons (dC (.int 3)) dNil))) (dC (.int 0))))) (sSeq (sSet 7 (dC (.int 0)))
  (sSeq (sIf (dTB (dBin (gEq true) (dBin gIx (dV 4) (dC (.int 0))) (dC (.str "same")))) (sSet 7 (dBin gIx (dV 4) (dC (.int 3)))) sNext)
  (sSetIx (dV 5) (dBin gIx (dV 4) (dC (.int 2))) (dBin gSub (dBin (gAdd false) (dBin (gAdd false) (dBin gIx (dV 5) (dBin gIx (dV 4) (dC (.int 1)))) (dV 7)) (dApp (gFn 2 F_l_draw) (dCons (dV 1) (dCons (dC (.int 3)) dNil)))) (dC (.int 1)))))) sNext))
noncomputable def p4 : DS := (sIf (dNot (dTr (dApp (gFn 2 (F_l_same 6)) (dCons (dApp (gFn 2 F_keeps) (dCons (dV 4) (dCons (dApp (gList false) (dCons (dV 5) dNil)) dNil))) (dCons (dApp (gFn 2 F_l_keeps) (dCons (dV 4) (dCons (dV 5) dNil))) dNil))))) (sRet (dC (.bl false))) sNext)
noncomputable def body03 : DS := (sSeq (sSet 4 (dApp (gFn 3 F_l_record) (dCons (dV 1) (dCons (dV 2) (dCons (dLst false (dCons (dC (.str "before")) (dCons (dC (.str "same")) (dCons (dC (.str "within")) (dCons (dC (.str "since")) (dCons (dC (.str "until")) (dCons (dC (.str "kind")) dNil))))))) dNil)))))
  (sSeq (sSet 5 (dLc true (dRg1 (dCons (dV 2) dNil)) (dgName 6) dYes el03 [6]))
  (sSeq p3
  p4)))
noncomputable def b_law03 : DS := (sSeq (sSet 1 (dApp (gFn 1 F_l_stream) (dCons (dV 0) dNil)))
  (sSeq (sSet 2 (dApp (gFn 1 F_l_units) (dCons (dV 1) dNil)))
  (sSeq (sFor (dRg1 (dCons (dC (.int 6)) dNil)) (dgName 3)
   body03)
  (sRet (dC (.bl true))))))
theorem set_self {s : Sto} {a : Nat} {t : Stm} (h : stAt s a = some t) : s = s.set a t.ob := (set_same (stAt_get h)).symm
theorem years_loop {e0 e2 e3 e4 e5 e7 : Option Va} {a : Nat} : ∀ (l acc : List Int) (s : Sto) (t : Stm) (e6 : Option Va), stAt s a = some t → ∃ (ys : List Int) (t' : Stm), cl none (dgName 6) dYes el03 [e0, some (.ref a), e2, e3, e4, e5, e6, e7] (l.map .int) (acc.map .int) s = .ok ((acc ++ ys).map .int) (s.set a t'.ob) ∧ ys.length = l.length
  | [], acc, s, t, e6, h => ⟨[], t, by rw [List.map_nil, cl_nil, List.append_nil, ← set_self h], rfl⟩
  | k :: l, acc, s, t, e6, h => by
    have la := stAt_lt h
    have e1 : ∃ (y : Int) (u : Stm), el03 [e0, some (.ref a), e2, e3, e4, e5, some (.int k), e7] s = .ok (.int y) (s.set a u.ob) := by
      unfold el03
      rw [set_self h]
      have q1 : CPow 10 30 := ⟨by decide, by decide, by decide⟩
      apply Exists.intro
      apply Exists.intro
      simp [draw_st la, pick3_st la, gPow, gInt2, q1, -List.getD_eq_getElem?_getD]
      exact ⟨rfl, rfl⟩
    obtain ⟨y, u, e1⟩ := e1
    obtain ⟨ys, t', e3', e4'⟩ := years_loop (e0 := e0) (e2 := e2) (e3 := e3) (e4 := e4) (e5 := e5) (e7 := e7) l (acc ++ [y]) (s.set a u.ob) u e6 (stAt_put la)
    refine ⟨y :: ys, t', ?_, by rw [List.length_cons, List.length_cons, e4']⟩
    rw [List.map_cons, cl_cons, e_dgName]
    simp only [List.set, e_Yes, noexc_ok, bind_ok, if_true, e1]
    rw [List.map_append, List.map_cons, List.map_nil] at e3'
    rw [e3', List.set_set, List.append_assoc]
    rfl
theorem ixN_in {n : Nat} {i : Int} (h0 : 0 ≤ i) (h1 : i < n) : ixN n i = some i.toNat := by
  unfold ixN
  rw [if_pos h0, if_pos (by omega)]
theorem set_yr {s : Sto} {m : Nat} {ys : List Int} {a v : Int} (hm : s[m]? = some (.lst (ys.map .int))) (h0 : 0 ≤ a) (h1 : a < ys.length) : gSetIx (.int v) (.ref m) (.int a) s = some (s.set m (.lst ((ys.set a.toNat v).map .int))) := by
  rw [g_set_ref hm (ixN_in h0 (by rw [List.length_map]; exact h1)), List.map_set]
theorem stAt_other {s : Sto} {m : Nat} {t : Stm} {o : Ob} (h : stAt s 0 = some t) (hm : 0 < m) : stAt (s.set m o) 0 = some t := by
  refine stAt_of ?_
  rw [get_set_ne (by omega)]
  exact stAt_get h
structure Aft (n m : Nat) (ε : En) (f : Fl) : Prop where
  go : ∃ (s' : Sto) (t' : Stm) (ys' : List Int) (e7 : Option Va), f = .nx (ε.set 7 e7) s' ∧ stAt s' 0 = some t' ∧ s'[m]? = some (.lst (ys'.map .int)) ∧ ys'.length = n
theorem p3_run {s : Sto} {m : Nat} {t : Stm} {ys : List Int} {r : Rec} {e0 e2 e3 e6 e7 : Option Va} (h : stAt s 0 = some t) (hm : s[m]? = some (.lst (ys.map .int))) (h0 : 0 < m) (hf : r.fits ys.length) :
    Aft ys.length m [e0, some (.ref 0), e2, e3, some r.va, some (.ref m), e6, e7] (p3 [e0, some (.ref 0), e2, e3, some r.va, some (.ref m), e6, e7] s) := by
  have d3 := draw_eq (m := 3) h (by decide) (by decide)
  have l0 := stAt_lt h
  have hm1 : (s.set 0 (t.draw 3).2.ob)[m]? = some (.lst (ys.map .int)) := by
    rw [get_set_ne (by omega)]
    exact hm
  have h1 := stAt_put (t := (t.draw 3).2) l0
  have d4 := draw_eq (m := 3) h1 (by decide) (by decide)
  have hm2 : ((s.set 0 (t.draw 3).2.ob).set 0 ((t.draw 3).2.draw 3).2.ob)[m]? = some (.lst (ys.map .int)) := by
    rw [get_set_ne (by omega)]
    exact hm1
  have h2 := stAt_put (s := s.set 0 (t.draw 3).2.ob) (t := ((t.draw 3).2.draw 3).2) (a := 0) (by rw [List.length_set]; exact l0)
  rw [List.set_set] at d4 hm2 h2
  have lm1 := (List.getElem?_eq_some_iff.mp hm1).1
  have lm2 := (List.getElem?_eq_some_iff.mp hm2).1
  have hs : seqL (.ref m) (s.set 0 (t.draw 3).2.ob) = some (ys.map .int) := by
    unfold seqL
    simp only [hm1]
  have hs2 : seqL (.ref m) s = some (ys.map .int) := by
    unfold seqL
    simp only [hm]
  unfold p3
  cases r with
  | before a b g =>
    obtain ⟨⟨a0, a1⟩, b0, b1⟩ := hf
    by_cases hd : 0 < (t.draw 3).1
    · simp [Rec.va, atI_0, atI_1, atI_2, atI_3, str_in2, d3, d4, hd, ix_yr hs a0 a1, set_yr hm2 b0 b1, -List.getD_eq_getElem?_getD, -List.map_set]
      refine ⟨_, _, _, _, rfl, stAt_other h2 h0, List.getElem?_set_self lm2, (List.length_set : (ys.set _ _).length = ys.length)⟩
    · simp [Rec.va, atI_0, atI_1, atI_2, atI_3, str_in2, d3, d4, hd, ix_yr hs a0 a1, set_yr hm2 b0 b1, -List.getD_eq_getElem?_getD, -List.map_set]
      exact ⟨_, _, _, e7, rfl, h1, hm1, rfl⟩
  | same a b =>
    obtain ⟨⟨a0, a1⟩, b0, b1⟩ := hf
    by_cases hd : 0 < (t.draw 3).1
    · simp [Rec.va, atI_0, atI_1, atI_2, atI_3, str_in2, d3, d4, hd, ix_yr hs a0 a1, set_yr hm2 b0 b1, -List.getD_eq_getElem?_getD, -List.map_set]
      refine ⟨_, _, _, _, rfl, stAt_other h2 h0, List.getElem?_set_self lm2, (List.length_set : (ys.set _ _).length = ys.length)⟩
    · simp [Rec.va, atI_0, atI_1, atI_2, atI_3, str_in2, d3, d4, hd, ix_yr hs a0 a1, set_yr hm2 b0 b1, -List.getD_eq_getElem?_getD, -List.map_set]
      exact ⟨_, _, _, e7, rfl, h1, hm1, rfl⟩
  | within a b g =>
    obtain ⟨⟨a0, a1⟩, b0, b1⟩ := hf
    by_cases hd : 0 < (t.draw 3).1
    · simp [Rec.va, atI_0, atI_1, atI_2, atI_3, str_in2, d3, d4, hd, ix_yr hs a0 a1, set_yr hm2 b0 b1, -List.getD_eq_getElem?_getD, -List.map_set]
      refine ⟨_, _, _, _, rfl, stAt_other h2 h0, List.getElem?_set_self lm2, (List.length_set : (ys.set _ _).length = ys.length)⟩
    · simp [Rec.va, atI_0, atI_1, atI_2, atI_3, str_in2, d3, d4, hd, ix_yr hs a0 a1, set_yr hm2 b0 b1, -List.getD_eq_getElem?_getD, -List.map_set]
      exact ⟨_, _, _, e7, rfl, h1, hm1, rfl⟩
  | since a y w =>
    obtain ⟨a0, a1⟩ := hf
    simp [Rec.va, atI_0, atI_1, atI_2, atI_3, str_in2, d3, set_yr hm1 a0 a1, -List.getD_eq_getElem?_getD, -List.map_set]
    exact ⟨_, _, _, e7, rfl, stAt_other h1 h0, List.getElem?_set_self lm1, (List.length_set : (ys.set _ _).length = ys.length)⟩
  | upto a y w =>
    obtain ⟨a0, a1⟩ := hf
    simp [Rec.va, atI_0, atI_1, atI_2, atI_3, str_in2, d3, set_yr hm1 a0 a1, -List.getD_eq_getElem?_getD, -List.map_set]
    exact ⟨_, _, _, e7, rfl, stAt_other h1 h0, List.getElem?_set_self lm1, (List.length_set : (ys.set _ _).length = ys.length)⟩
  | kind a k =>
    simp [Rec.va, atI_0, str_in2]
    exact ⟨_, _, _, e7, rfl, h, hm, rfl⟩
theorem keeps_eq {r : Rec} {d : Va} {ys : List Int} {s : Sto} (h : seqL d s = some (ys.map .int)) (hf : r.fits ys.length) : F_keeps [r.va, d] s = .ok (.bl (r.keeps ys)) s := by
  unfold F_keeps
  simp only [recOf_va, h, intsOf_map]
  rw [if_pos hf]
theorem same_bl {b : Bool} {s : Sto} : F_l_same 6 [.bl b, .bl b] s = .ok (.bl true) s := by
  unfold F_l_same
  simp [datB, dep, sameB]
theorem p4_run {s : Sto} {m : Nat} {ys : List Int} {r : Rec} {e0 e1 e2 e3 e6 e7 : Option Va} (hm : s[m]? = some (.lst (ys.map .int))) (hf : r.fits ys.length) :
    p4 [e0, e1, e2, e3, some r.va, some (.ref m), e6, e7] s = .nx [e0, e1, e2, e3, some r.va, some (.ref m), e6, e7] s := by
  have hs : seqL (.ref m) s = some (ys.map .int) := by
    unfold seqL
    simp only [hm]
  have hl : gList false [.ref m] s = .ok (.lst (ys.map .int)) s := by
    simp [gList, seqA, hm]
  unfold p4
  simp [hl, keeps_eq hs hf, keeps_eq (d := .lst (ys.map .int)) (s := s) rfl hf, same_bl, truA]
def Good3 (n : Int) (ε : En) (s : Sto) : Prop := ∃ (e0 e3 e4 e5 e6 e7 : Option Va) (t : Stm), ε = [e0, some (.ref 0), some (.int n), e3, e4, e5, e6, e7] ∧ stAt s 0 = some t
theorem seven : (∀ x ∈ [("before" : Str), "same", "within", "since", "until", "kind"], x ∈ sixWords) := fun _ h => h
theorem turn3 {n : Int} (h1 : 1 ≤ n) (h2 : n ≤ 12) {ε : En} {s : Sto} (k : Va) (g : Good3 n ε s) : ∃ ε' s', body03 (ε.set 3 (some k)) s = .nx ε' s' ∧ Good3 n ε' s' := by
  obtain ⟨e0, e3, e4, e5, e6, e7, t, rfl, h⟩ := g
  have l0 := stAt_lt h
  have hr : F_l_record [.ref 0, .int n, .lst [.str "before", .str "same", .str "within", .str "since", .str "until", .str "kind"]] s = .ok (recordM t n ["before", "same", "within", "since", "until", "kind"]).1.va (s.set 0 (recordM t n ["before", "same", "within", "since", "until", "kind"]).2.ob) := by
    unfold F_l_record
    have e : strsOf [.str "before", .str "same", .str "within", .str "since", .str "until", .str "kind"] = some ([("before" : Str), "same", "within", "since", "until", "kind"] : List Str) := rfl
    simp only [h, e]
    rw [if_pos ⟨h1, by omega, by decide, by decide, seven⟩]
  have hf := recordM_fits (t := t) (words := ["before", "same", "within", "since", "until", "kind"]) h1
  generalize recordM t n ["before", "same", "within", "since", "until", "kind"] = R at hr hf
  obtain ⟨r, u⟩ := R
  dsimp only at hr hf
  obtain ⟨N, hN⟩ := Int.eq_ofNat_of_zero_le (by omega : 0 ≤ n)
  subst hN
  obtain ⟨ys, t', hy, hy2⟩ := years_loop (e0 := e0) (e2 := some (.int N)) (e3 := some k) (e4 := some r.va) (e5 := e5) (e7 := e7) ((List.range N).map fun i : Nat => (0 : Int) + (i : Int)) [] (s.set 0 u.ob) u none (stAt_put l0)
  rw [List.length_map, List.length_range] at hy2
  have hlen : 0 < ((s.set 0 u.ob).set 0 t'.ob).length := by rw [List.length_set, List.length_set]; exact l0
  have hst : stAt ((s.set 0 u.ob).set 0 t'.ob ++ [.lst (ys.map .int)]) 0 = some t' := by
    refine stAt_of ?_
    rw [List.getElem?_append_left hlen]
    exact List.getElem?_set_self (by rw [List.length_set]; exact l0)
  have hm : ((s.set 0 u.ob).set 0 t'.ob ++ [.lst (ys.map .int)])[((s.set 0 u.ob).set 0 t'.ob).length]? = some (.lst (ys.map .int)) := List.getElem?_concat_length ..
  obtain ⟨s3, t3, ys3, e73, f1, f2, f3, f4⟩ := (p3_run (e0 := e0) (e2 := some (.int N)) (e3 := some k) (e6 := e6) (e7 := e7) hst hm hlen (r := r) (by rw [hy2]; exact hf)).go
  have h4 := p4_run (r := r) (e0 := e0) (e1 := some (.ref 0)) (e2 := some (.int N)) (e3 := some k) (e6 := e6) (e7 := e73) f3 (by rw [f4, hy2]; exact hf)
  refine ⟨_, s3, ?_, e0, some k, some r.va, some (.ref ((s.set 0 u.ob).set 0 t'.ob).length), e6, e73, t3, rfl, f2⟩
  have hin : inR (N : Int) := ⟨by omega, by omega⟩
  have hrg : rgA 0 (N : Int) = ((List.range N).map fun i : Nat => (0 : Int) + (i : Int)).map .int := by
    unfold rgA
    rw [Int.sub_zero, Int.toNat_natCast, List.map_map]
    rfl
  have hlq : leq (((List.range N).map fun i : Nat => (0 : Int) + (i : Int)).map Va.int).length 100000 := by
    unfold leq
    rw [List.length_map, List.length_map, List.length_range]
    omega
  have hc : cl none (dgName 6) dYes el03 (wip [e0, some (.ref 0), some (.int N), some k, some r.va, e5, e6, e7] [6]) (((List.range N).map fun i : Nat => (0 : Int) + (i : Int)).map .int) [] (s.set 0 u.ob) = .ok (ys.map .int) ((s.set 0 u.ob).set 0 t'.ob) := hy
  unfold body03
  simp only [e_seq, e_set, e_App, e_Cons, e_Nil, e_Lst, e_C, e_V, List.set, List.getElem?_cons_zero, List.getElem?_cons_succ, bind_ok, g_mkL_f, gFn, List.length_cons, List.length_nil, if_true, hr, fl_ok, e_Lc, e_rg1, hin, hrg, hlq, hc, g_mkL_t, f1, h4]
theorem loop3 {n : Int} (h1 : 1 ≤ n) (h2 : n ≤ 12) : ∀ (l : List Va) (ε : En) (s : Sto), Good3 n ε s → ∃ ε' s', lp none (fBody (dgName 3) body03) l ε s = .nx ε' s' ∧ Good3 n ε' s'
  | [], ε, s, g => ⟨ε, s, lp_nil, g⟩
  | k :: l, ε, s, g => by
    obtain ⟨ε1, s1, e1, g1⟩ := turn3 h1 h2 k g
    obtain ⟨ε2, s2, e2, g2⟩ := loop3 h1 h2 l ε1 s1 g1
    refine ⟨ε2, s2, ?_, g2⟩
    rw [lp_cons, e_fBody, e_dgName]
    dsimp only
    rw [e1]
    exact e2
/-- what a law answers that holds at every script -/
noncomputable def F_yes (args : List Va) (s : Sto) : Rs Va := match args with
  | [.ext xs] => match intsOf xs, s with
    | some _, [] => .ok (.bl true) []
    | _, _ => .bad
  | _ => .bad
theorem F_yes_eq {ns : List Int} : F_yes [.ext (ns.map .int)] [] = .ok (.bl true) [] := by
  unfold F_yes
  dsimp only
  rw [intsOf_map]
theorem Fin.yes {raw : Fl} {s0 : Sto} (h : raw = .ret (.bl true) s0) : Fin 0 raw (.ok (.bl true) []) := by
  have := Fin.ok (n := 0) (raw := raw) (v := .bl true) (.inl h) (.same _ _) trivial (fun o ho => by rw [List.take_zero] at ho; cases ho)
  rw [List.take_zero] at this
  exact this
theorem law03_run (ns : List Int) : ∃ s0, b_law03 (startA 8 [.ext (ns.map .int)]) [] = .ret (.bl true) s0 := by
  have h := unitsM_in (Stm.mk0 ns)
  have e1 : F_l_stream [.ext (ns.map .int)] [] = .ok (.ref 0) [(Stm.mk0 ns).ob] := by
    unfold F_l_stream
    dsimp only
    rw [intsOf_map]
    rfl
  have e2 : stAt [(Stm.mk0 ns).ob] 0 = some (Stm.mk0 ns) := stAt_of rfl
  have e3 : F_l_units [.ref 0] [(Stm.mk0 ns).ob] = .ok (.int (unitsM (Stm.mk0 ns)).1) [(unitsM (Stm.mk0 ns)).2.ob] := by
    unfold F_l_units
    simp only [e2]
    rfl
  obtain ⟨ε', s', e4, g⟩ := loop3 h.1 h.2 (rgA 0 6) [some (.ext (ns.map .int)), some (.ref 0), some (.int (unitsM (Stm.mk0 ns)).1), none, none, none, none, none] [(unitsM (Stm.mk0 ns)).2.ob] ⟨_, _, _, _, _, _, _, rfl, stAt_of rfl⟩
  have h6 : inR 6 := ⟨by decide, by decide⟩
  refine ⟨s', ?_⟩
  have e0 : startA 8 [.ext (ns.map .int)] = [some (.ext (ns.map .int)), none, none, none, none, none, none, none] := rfl
  rw [e0]
  unfold b_law03
  simp only [e_seq, e_set, e_App, e_Cons, e_Nil, e_C, e_V, List.set, List.getElem?_cons_zero, List.getElem?_cons_succ, bind_ok, gFn, List.length_cons, List.length_nil, if_true, e1, e3, fl_ok, e_for, e_rg1, h6, e4, e_ret]
theorem fin_law03 (args : List Va) (s : Sto) (wf : WFn s.length s) (wa : vasB s.length args) (hl : args.length = 1) : Fin s.length (b_law03 (startA 8 args) s) (F_yes args s) := by
  unfold F_yes
  split
  · split
    · rename_i e
      rw [intsOf_eq e]
      obtain ⟨s0, h⟩ := law03_run _
      exact Fin.yes h
    · exact .bad
  · exact .bad
end Dn

set_option Elab.async false
set_option linter.all false
set_option maxRecDepth 100000
set_option maxHeartbeats 4000000
/-! the rows. -/
namespace Dn
open PySem PySem.Spec PyProof.Rows L2
def noCls : Cls0 := fun _ => .none
noncomputable abbrev b_law := b_law03
theorem fin_law (args : List Va) (s : Sto) (wf : WFn s.length s) (wa : vasB s.length args) (hl : args.length = 1) : Fin s.length (b_law03 (startA 8 args) s) (F_yes args s) := fin_law03 args s wf wa hl
theorem cal_bad {P : Program} {w : World} {K : PySem.W.Frag} {mg : Str → Option Value} {base : Heap} {CL : Cls0} {x : Str} {st : Stmt} {ps : List Str} {k : Nat} {F0 : List Va → Sto → Rs Va} (T : Txt K mg x st ps) (hF : ∀ args s, F0 args s = .bad) : Cal P w K mg base CL x ps k F0 := by
  obtain ⟨f, fd, F, hm, hbn⟩ := T
  refine ⟨f, fd, ⟨fun vs H Q E h => ?_, fun A outer s H args us vs Q E _ _ _ _ h => ?_⟩, hm, F.kp, hbn⟩
  · obtain ⟨_, _, _, _, args, _, _, _, hp⟩ := h
    rw [hF] at hp
    exact hp.elim
  · obtain ⟨_, _, _, _, args, _, _, _, hp⟩ := h
    rw [hF] at hp
    exact hp.elim
theorem F_l_same0 (args : List Va) (s : Sto) : F_l_same 0 args s = .bad := by
  unfold F_l_same
  split
  · rw [if_neg (fun h => Nat.not_lt_zero _ h.2.2)]
  · rfl
def topS (i : Nat) : Stmt := PySem.Challenge.pw_digteller_k03_keeping.main.body.getD i (.Pass ⟨0, 0, 0, 0⟩)
abbrev s_keeps : Stmt := topS 1
abbrev N_keeps : List Str := ["record", "dating", "word", "year", "other"]
abbrev P_keeps : List Str := ["record", "dating"]
theorem sc_keeps : FnScope N_keeps P_keeps (defScope s_keeps) := ⟨rfl, rfl, rfl, by decide +kernel, rfl, by decide +kernel, by decide +kernel⟩
abbrev s_l_stream : Stmt := topS 3
abbrev N_l_stream : List Str := ["script", "mixed", "cell"]
abbrev P_l_stream : List Str := ["script"]
theorem sc_l_stream : FnScope N_l_stream P_l_stream (defScope s_l_stream) := ⟨rfl, rfl, rfl, by decide +kernel, rfl, by decide +kernel, by decide +kernel⟩
abbrev s_l_draw : Stmt := topS 4
abbrev N_l_draw : List Str := ["stream", "many", "value"]
abbrev P_l_draw : List Str := ["stream", "many"]
theorem sc_l_draw : FnScope N_l_draw P_l_draw (defScope s_l_draw) := ⟨rfl, rfl, rfl, by decide +kernel, rfl, by decide +kernel, by decide +kernel⟩
abbrev s_l_pick : Stmt := topS 5
abbrev N_l_pick : List Str := ["stream", "rows"]
abbrev P_l_pick : List Str := ["stream", "rows"]
theorem sc_l_pick : FnScope N_l_pick P_l_pick (defScope s_l_pick) := ⟨rfl, rfl, rfl, by decide +kernel, rfl, by decide +kernel, by decide +kernel⟩
abbrev s_l_same : Stmt := topS 6
abbrev N_l_same : List Str := ["one", "two", "k"]
abbrev P_l_same : List Str := ["one", "two"]
theorem sc_l_same : FnScope N_l_same P_l_same (defScope s_l_same) := ⟨rfl, rfl, rfl, by decide +kernel, rfl, by decide +kernel, by decide +kernel⟩
abbrev s_l_units : Stmt := topS 7
abbrev N_l_units : List Str := ["stream"]
abbrev P_l_units : List Str := ["stream"]
theorem sc_l_units : FnScope N_l_units P_l_units (defScope s_l_units) := ⟨rfl, rfl, rfl, by decide +kernel, rfl, by decide +kernel, by decide +kernel⟩
abbrev s_l_other : Stmt := topS 8
abbrev N_l_other : List Str := ["stream", "n", "a"]
abbrev P_l_other : List Str := ["stream", "n", "a"]
theorem sc_l_other : FnScope N_l_other P_l_other (defScope s_l_other) := ⟨rfl, rfl, rfl, by decide +kernel, rfl, by decide +kernel, by decide +kernel⟩
abbrev s_l_record : Stmt := topS 9
abbrev N_l_record : List Str := ["stream", "n", "words", "word", "a", "year", "b"]
abbrev P_l_record : List Str := ["stream", "n", "words"]
theorem sc_l_record : FnScope N_l_record P_l_record (defScope s_l_record) := ⟨rfl, rfl, rfl, by decide +kernel, rfl, by decide +kernel, by decide +kernel⟩
abbrev s_l_keeps : Stmt := topS 11
abbrev N_l_keeps : List Str := ["record", "years", "word", "behind"]
abbrev P_l_keeps : List Str := ["record", "years"]
theorem sc_l_keeps : FnScope N_l_keeps P_l_keeps (defScope s_l_keeps) := ⟨rfl, rfl, rfl, by decide +kernel, rfl, by decide +kernel, by decide +kernel⟩
abbrev s_law : Stmt := topS 12
abbrev N_law : List Str := ["script", "stream", "n", "k", "record", "years", "unit", "late"]
abbrev P_law : List Str := ["script"]
theorem sc_law : FnScope N_law P_law (defScope s_law) := ⟨rfl, rfl, rfl, by decide +kernel, rfl, by decide +kernel, by decide +kernel⟩
section
variable {P : Program} {w : World} {K : PySem.W.Frag} {mg : Str → Option Value} {base : Heap} {CL : Cls0}
theorem ok_keeps (T : Txt K mg "keeps" s_keeps P_keeps)  : Cal P w K mg base CL "keeps" P_keeps 1 F_keeps :=
  cal_D T sc_keeps (b := b_keeps) (fun f cdv A outer s H E O =>
  (rss_cons (rs_set (i := 2) O rfl (by first | exact .inl rfl | exact .inr rfl) (re_sub2 O.hu (re_var 0) re_int))
  (rss_cons (rs_if (rt_eq O.hu (re_var 2) re_str) (rss_one (rs_ret re_bl)) rss_nil)
  (rss_cons (rs_set (i := 3) O rfl (by first | exact .inl rfl | exact .inr rfl) (re_sub2 O.hu (re_var 1) (re_sub2 O.hu (re_var 0) re_int)))
  (rss_cons (rs_if (rt_eq O.hu (re_var 2) re_str) (rss_one (rs_ret (re_ge (re_var 3) (re_sub2 O.hu (re_var 0) re_int)))) rss_nil)
  (rss_cons (rs_if (rt_eq O.hu (re_var 2) re_str) (rss_one (rs_ret (re_le (re_var 3) (re_sub2 O.hu (re_var 0) re_int)))) rss_nil)
  (rss_cons (rs_set (i := 4) O rfl (by first | exact .inl rfl | exact .inr rfl) (re_sub2 O.hu (re_var 1) (re_sub2 O.hu (re_var 0) re_int)))
  (rss_cons (rs_if (rt_eq O.hu (re_var 2) re_str) (rss_one (rs_ret (re_le (re_add false (re_var 3) (re_sub2 O.hu (re_var 0) re_int)) (re_var 4)))) rss_nil)
  (rss_one (rs_ret (re_if (rt_eq O.hu (re_var 2) re_str) (re_eq O.hu (re_var 3) (re_var 4)) (re_le (re_var 4) (re_add false (re_var 3) (re_sub2 O.hu (re_var 0) re_int)))))))))))))) fin_keeps
theorem ok_l_stream (T : Txt K mg "_law_stream" s_l_stream P_l_stream) (m_int : mg "int" = none) (m_list : mg "list" = none) : Cal P w K mg base CL "_law_stream" P_l_stream 1 F_l_stream :=
  cal_D T sc_l_stream (b := b_l_stream) (fun f cdv A outer s H E O =>
  (rss_cons (rs_set (i := 1) O rfl (by first | exact .inl rfl | exact .inr rfl) re_int)
  (rss_cons (rs_for O (ri_seq (re_var 0)) (rg_name (i := 2) O rfl (by first | exact .inl rfl | exact .inr rfl))
   (rss_one (rs_set (i := 1) O rfl (by first | exact .inl rfl | exact .inr rfl) (re_mod (re_intc m_int (ra_cons (re_add false (re_add false (re_mul false (re_var 1) re_int) (re_mod (re_intc m_int (ra_cons (re_var 2) ra_nil)) re_int)) re_int) ra_nil)) re_int))))
  (rss_one (rs_ret (re_lst true (ra_cons (re_list O false m_list (ra_cons (re_var 0) ra_nil)) (ra_cons re_int (ra_cons re_int (ra_cons (re_var 1) ra_nil)))))))))) fin_l_stream
theorem ok_l_draw (T : Txt K mg "_law_draw" s_l_draw P_l_draw) (m_abs : mg "abs" = none) (m_int : mg "int" = none) (m_len : mg "len" = none) : Cal P w K mg base CL "_law_draw" P_l_draw 1 F_l_draw :=
  cal_D T sc_l_draw (b := b_l_draw) (fun f cdv A outer s H E O =>
  (rss_cons (rs_if (PW.pt (rw_and (rt_eq O.hu (re_sub2 O.hu (re_var 0) re_int) re_int) (rw_and1 (rt_lt (re_sub2 O.hu (re_var 0) re_int) (re_len m_len (ra_cons (re_sub2 O.hu (re_var 0) re_int) ra_nil)))))) (rss_cons (rs_setIx O (re_var 0) re_int (re_abs m_abs (ra_cons (re_intc m_int (ra_cons (re_sub2 O.hu (re_sub2 O.hu (re_var 0) re_int) (re_sub2 O.hu (re_var 0) re_int)) ra_nil)) ra_nil)))
  (rss_one (rs_setIx O (re_var 0) re_int (re_add false (re_sub2 O.hu (re_var 0) re_int) re_int)))) rss_nil)
  (rss_cons (rs_if (rt_eq O.hu (re_sub2 O.hu (re_var 0) re_int) re_int) (rss_cons (rs_setIx O (re_var 0) re_int (re_mod (re_intc m_int (ra_cons (re_add false (re_mul false (re_sub2 O.hu (re_var 0) re_int) re_int) re_int) ra_nil)) re_int))
  (rss_one (rs_ret (re_mod (re_intc m_int (ra_cons (re_fdiv (re_sub2 O.hu (re_var 0) re_int) re_int) ra_nil)) (re_var 1))))) rss_nil)
  (rss_cons (rs_set (i := 2) O rfl (by first | exact .inl rfl | exact .inr rfl) (re_mod (re_intc m_int (ra_cons (re_sub2 O.hu (re_var 0) re_int) ra_nil)) (re_var 1)))
  (rss_cons (rs_setIx O (re_var 0) re_int (re_fdiv (re_sub2 O.hu (re_var 0) re_int) (re_var 1)))
  (rss_one (rs_ret (re_var 2)))))))) fin_l_draw
theorem ok_l_pick (T : Txt K mg "_law_pick" s_l_pick P_l_pick) (C_l_draw : Cal P w K mg base CL "_law_draw" P_l_draw 1 F_l_draw) (m_len : mg "len" = none) : Cal P w K mg base CL "_law_pick" P_l_pick 2 F_l_pick :=
  cal_D T sc_l_pick (b := b_l_pick) (fun f cdv A outer s H E O =>
  (rss_one (rs_ret (re_sub2 O.hu (re_var 1) (re_fn O C_l_draw (by decide) (ra_cons (re_var 0) (ra_cons (re_len m_len (ra_cons (re_var 1) ra_nil)) ra_nil))))))) fin_l_pick
theorem ok1_l_same (T : Txt K mg "_law_same" s_l_same P_l_same) {d : Nat} (C_l_same : Cal P w K mg base CL "_law_same" P_l_same d (F_l_same d)) (m_all : mg "all" = none) (m_bool : mg "bool" = none) (m_int : mg "int" = none) (m_isinstance : mg "isinstance" = none) (m_len : mg "len" = none) (m_list : mg "list" = none) (m_range : mg "range" = none) (m_str : mg "str" = none) (m_tuple : mg "tuple" = none) : Cal P w K mg base CL "_law_same" P_l_same (d + 1) (F_l_same (d + 1)) :=
  cal_D T sc_l_same (b := b_l_same d) (fun f cdv A outer s H E O =>
  (rss_cons (rs_if (PW.pt (rw_or (rt_tr (re_isi m_isinstance m_tuple (by decide +kernel) (re_var 1))) (rw_or1 (rt_tr (re_isi m_isinstance m_list (by decide +kernel) (re_var 1)))))) (rss_cons (rs_if (PW.pt (rw_or (rt_ne O.hu (re_isi m_isinstance m_tuple (by decide +kernel) (re_var 0)) (re_isi m_isinstance m_tuple (by decide +kernel) (re_var 1))) (rw_or1 (rt_ne O.hu (re_isi m_isinstance m_list (by decide +kernel) (re_var 0)) (re_isi m_isinstance m_list (by decide +kernel) (re_var 1)))))) (rss_one (rs_ret re_bl)) rss_nil)
  (rss_one (rs_ret (re_and (re_eq O.hu (re_len m_len (ra_cons (re_var 0) ra_nil)) (re_len m_len (ra_cons (re_var 1) ra_nil))) (re_one (re_all O m_all (ra_cons (re_lc (own := [("k", 2)]) O false (ri_rg1 m_range (ra_cons (re_len m_len (ra_cons (re_var 1) ra_nil)) ra_nil)) (blkOk_by (N := N_l_same) (sc := defScope s_l_same) (by decide +kernel)) (fun _ _ _ _ _ O' => (rg_name (i := 2) O' rfl (by first | exact .inl rfl | exact .inr rfl))) (fun _ _ _ _ _ O' => rts_nil) (fun _ _ _ _ _ O' => (re_fn O' C_l_same (Nat.le_refl _) (ra_cons (re_sub2 O'.hu (re_var 0) (re_var 2)) (ra_cons (re_sub2 O'.hu (re_var 1) (re_var 2)) ra_nil))))) ra_nil))))))) rss_nil)
  (rss_cons (rs_if (rt_is (re_var 1) re_non) (rss_one (rs_ret (re_is (re_var 0) re_non))) rss_nil)
  (rss_cons (rs_if (rt_tr (re_isi m_isinstance m_str (by decide +kernel) (re_var 1))) (rss_one (rs_ret (re_and (re_isi m_isinstance m_str (by decide +kernel) (re_var 0)) (re_one (re_eq O.hu (re_var 0) (re_var 1)))))) rss_nil)
  (rss_one (rs_ret (re_and (re_isi m_isinstance m_int (by decide +kernel) (re_var 0)) (re_and (re_eq O.hu (re_isi m_isinstance m_bool (by decide +kernel) (re_var 0)) (re_isi m_isinstance m_bool (by decide +kernel) (re_var 1))) (re_one (re_eq O.hu (re_var 0) (re_var 1))))))))))) fin_l_same
theorem okr_l_same (T : Txt K mg "_law_same" s_l_same P_l_same) (m_all : mg "all" = none) (m_bool : mg "bool" = none) (m_int : mg "int" = none) (m_isinstance : mg "isinstance" = none) (m_len : mg "len" = none) (m_list : mg "list" = none) (m_range : mg "range" = none) (m_str : mg "str" = none) (m_tuple : mg "tuple" = none) : ∀ d, Cal P w K mg base CL "_law_same" P_l_same d (F_l_same d)
  | 0 => cal_bad T F_l_same0
  | d + 1 => ok1_l_same T (okr_l_same T m_all m_bool m_int m_isinstance m_len m_list m_range m_str m_tuple d) m_all m_bool m_int m_isinstance m_len m_list m_range m_str m_tuple
theorem ok_l_same (T : Txt K mg "_law_same" s_l_same P_l_same) (m_all : mg "all" = none) (m_bool : mg "bool" = none) (m_int : mg "int" = none) (m_isinstance : mg "isinstance" = none) (m_len : mg "len" = none) (m_list : mg "list" = none) (m_range : mg "range" = none) (m_str : mg "str" = none) (m_tuple : mg "tuple" = none) : Cal P w K mg base CL "_law_same" P_l_same 6 (F_l_same 6) := okr_l_same T m_all m_bool m_int m_isinstance m_len m_list m_range m_str m_tuple 6
theorem ok_l_units (T : Txt K mg "_law_units" s_l_units P_l_units) (C_l_draw : Cal P w K mg base CL "_law_draw" P_l_draw 1 F_l_draw) : Cal P w K mg base CL "_law_units" P_l_units 2 F_l_units :=
  cal_D T sc_l_units (b := b_l_units) (fun f cdv A outer s H E O =>
  (rss_one (rs_ret (re_add false re_int (re_fn O C_l_draw (by decide) (ra_cons (re_var 0) (ra_cons (re_sub2 O.hu (re_lst false (ra_cons re_int (ra_cons re_int (ra_cons re_int ra_nil)))) (re_fn O C_l_draw (by decide) (ra_cons (re_var 0) (ra_cons re_int ra_nil)))) ra_nil))))))) fin_l_units
theorem ok_l_other (T : Txt K mg "_law_other" s_l_other P_l_other) (C_l_draw : Cal P w K mg base CL "_law_draw" P_l_draw 1 F_l_draw) (m_int : mg "int" = none) : Cal P w K mg base CL "_law_other" P_l_other 2 F_l_other :=
  cal_D T sc_l_other (b := b_l_other) (fun f cdv A outer s H E O =>
  (rss_one (rs_ret (re_mod (re_intc m_int (ra_cons (re_add false (re_add false (re_var 2) re_int) (re_fn O C_l_draw (by decide) (ra_cons (re_var 0) (ra_cons (re_sub (re_var 1) re_int) ra_nil)))) ra_nil)) (re_var 1))))) fin_l_other
theorem ok_l_record (T : Txt K mg "_law_record" s_l_record P_l_record) (C_l_draw : Cal P w K mg base CL "_law_draw" P_l_draw 1 F_l_draw) (C_l_pick : Cal P w K mg base CL "_law_pick" P_l_pick 2 F_l_pick) (C_l_other : Cal P w K mg base CL "_law_other" P_l_other 2 F_l_other) : Cal P w K mg base CL "_law_record" P_l_record 3 F_l_record :=
  cal_D T sc_l_record (b := b_l_record) (fun f cdv A outer s H E O =>
  (rss_cons (rs_set (i := 3) O rfl (by first | exact .inl rfl | exact .inr rfl) (re_fn O C_l_pick (by decide) (ra_cons (re_var 0) (ra_cons (re_var 2) ra_nil))))
  (rss_cons (rs_set (i := 4) O rfl (by first | exact .inl rfl | exact .inr rfl) (re_fn O C_l_draw (by decide) (ra_cons (re_var 0) (ra_cons (re_var 1) ra_nil))))
  (rss_cons (rs_if (PW.pt (rw_or (rt_eq O.hu (re_var 3) re_str) (rw_or1 (PW.pt (rw_and (rt_eq O.hu (re_var 1) re_int) (rw_and1 (rt_in O.hu (re_var 3) (re_tup (ra_cons re_str (ra_cons re_str (ra_cons re_str ra_nil))))))))))) (rss_one (rs_ret (re_tup (ra_cons re_str (ra_cons (re_var 4) (ra_cons (re_sub2 O.hu (re_lst false (ra_cons re_str (ra_cons re_str (ra_cons re_str (ra_cons re_str (ra_cons re_str ra_nil)))))) (re_fn O C_l_draw (by decide) (ra_cons (re_var 0) (ra_cons re_int ra_nil)))) ra_nil)))))) rss_nil)
  (rss_cons (rs_if (rt_in O.hu (re_var 3) (re_tup (ra_cons re_str (ra_cons re_str ra_nil)))) (rss_cons (rs_set (i := 5) O rfl (by first | exact .inl rfl | exact .inr rfl) (re_fn O C_l_pick (by decide) (ra_cons (re_var 0) (ra_cons (re_lst false (ra_cons (re_sub (re_fn O C_l_draw (by decide) (ra_cons (re_var 0) (ra_cons re_int ra_nil))) re_int) (ra_cons (re_sub (re_fn O C_l_draw (by decide) (ra_cons (re_var 0) (ra_cons re_int ra_nil))) re_int) ra_nil))) ra_nil))))
  (rss_one (rs_ret (re_tup (ra_cons (re_var 3) (ra_cons (re_var 4) (ra_cons (re_var 5) (ra_cons (re_fn O C_l_pick (by decide) (ra_cons (re_var 0) (ra_cons (re_lst false (ra_cons re_int (ra_cons (re_add false re_int (re_fn O C_l_draw (by decide) (ra_cons (re_var 0) (ra_cons re_int ra_nil)))) (ra_cons (re_add false re_int (re_fn O C_l_draw (by decide) (ra_cons (re_var 0) (ra_cons re_int ra_nil)))) ra_nil)))) ra_nil))) ra_nil)))))))) rss_nil)
  (rss_cons (rs_set (i := 6) O rfl (by first | exact .inl rfl | exact .inr rfl) (re_fn O C_l_other (by decide) (ra_cons (re_var 0) (ra_cons (re_var 1) (ra_cons (re_var 4) ra_nil)))))
  (rss_cons (rs_if (rt_eq O.hu (re_var 3) re_str) (rss_one (rs_ret (re_tup (ra_cons (re_var 3) (ra_cons (re_var 4) (ra_cons (re_var 6) ra_nil)))))) rss_nil)
  (rss_one (rs_ret (re_tup (ra_cons (re_var 3) (ra_cons (re_var 4) (ra_cons (re_var 6) (ra_cons (re_fn O C_l_pick (by decide) (ra_cons (re_var 0) (ra_cons (re_lst false (ra_cons re_int (ra_cons (re_fn O C_l_draw (by decide) (ra_cons (re_var 0) (ra_cons re_int ra_nil))) (ra_cons (re_fn O C_l_draw (by decide) (ra_cons (re_var 0) (ra_cons re_int ra_nil))) ra_nil)))) ra_nil))) ra_nil)))))))))))))) fin_l_record
theorem ok_l_keeps (T : Txt K mg "_law_keeps" s_l_keeps P_l_keeps)  : Cal P w K mg base CL "_law_keeps" P_l_keeps 1 F_l_keeps :=
  cal_D T sc_l_keeps (b := b_l_keeps) (fun f cdv A outer s H E O =>
  (rss_cons (rs_set (i := 2) O rfl (by first | exact .inl rfl | exact .inr rfl) (re_sub2 O.hu (re_var 0) re_int))
  (rss_cons (rs_if (rt_eq O.hu (re_var 2) re_str) (rss_one (rs_ret re_bl)) rss_nil)
  (rss_cons (rs_if (rt_eq O.hu (re_var 2) re_str) (rss_one (rs_ret (re_ge (re_sub2 O.hu (re_var 1) (re_sub2 O.hu (re_var 0) re_int)) (re_sub2 O.hu (re_var 0) re_int)))) rss_nil)
  (rss_cons (rs_if (rt_eq O.hu (re_var 2) re_str) (rss_one (rs_ret (re_le (re_sub2 O.hu (re_var 1) (re_sub2 O.hu (re_var 0) re_int)) (re_sub2 O.hu (re_var 0) re_int)))) rss_nil)
  (rss_cons (rs_set (i := 3) O rfl (by first | exact .inl rfl | exact .inr rfl) (re_sub (re_sub2 O.hu (re_var 1) (re_sub2 O.hu (re_var 0) re_int)) (re_sub2 O.hu (re_var 1) (re_sub2 O.hu (re_var 0) re_int))))
  (rss_cons (rs_if (rt_eq O.hu (re_var 2) re_str) (rss_one (rs_ret (re_eq O.hu (re_var 3) re_int))) rss_nil)
  (rss_cons (rs_if (rt_eq O.hu (re_var 2) re_str) (rss_one (rs_ret (re_ge (re_var 3) (re_sub2 O.hu (re_var 0) re_int)))) rss_nil)
  (rss_one (rs_ret (re_le (re_var 3) (re_sub2 O.hu (re_var 0) re_int)))))))))))) fin_l_keeps
theorem all_mk {l : PySem.W.OpenLaw} {w : World} {K : PySem.W.Frag} {h : Heap} {mg : Str → Option Value} {fa : Addr} (X : K.In h) (G : h.Ns mainGlobals mg) (hfa : mg "law" = some (.ref fa))
    {f0 : Addr} {od0 an0 : Option Addr} {sl0 : Array (Option Value)} {oc0 kV0 dc0 pm0 cd0 ct0 : Value}
    (a0 : PySem.W.nsIn K mainGlobals "keeps" = some (some (.ref f0))) (l0 : K.lookup f0 = some ⟨oc0, od0, .func (PySem.W.fnOf "keeps" "keeps" (defArgs s_keeps) (defBody s_keeps) (defScope s_keeps) .none kV0 dc0 pm0 an0 cd0 ct0), sl0⟩)
    (c0 : PySem.W.codeIn K cd0 "keeps" = true) (k0 : PySem.W.keepIn K (.ref f0) = true)
    {f1 : Addr} {od1 an1 : Option Addr} {sl1 : Array (Option Value)} {oc1 kV1 dc1 pm1 cd1 ct1 : Value}
    (a1 : PySem.W.nsIn K mainGlobals "_law_stream" = some (some (.ref f1))) (l1 : K.lookup f1 = some ⟨oc1, od1, .func (PySem.W.fnOf "_law_stream" "_law_stream" (defArgs s_l_stream) (defBody s_l_stream) (defScope s_l_stream) .none kV1 dc1 pm1 an1 cd1 ct1), sl1⟩)
    (c1 : PySem.W.codeIn K cd1 "_law_stream" = true) (k1 : PySem.W.keepIn K (.ref f1) = true)
    {f2 : Addr} {od2 an2 : Option Addr} {sl2 : Array (Option Value)} {oc2 kV2 dc2 pm2 cd2 ct2 : Value}
    (a2 : PySem.W.nsIn K mainGlobals "_law_draw" = some (some (.ref f2))) (l2 : K.lookup f2 = some ⟨oc2, od2, .func (PySem.W.fnOf "_law_draw" "_law_draw" (defArgs s_l_draw) (defBody s_l_draw) (defScope s_l_draw) .none kV2 dc2 pm2 an2 cd2 ct2), sl2⟩)
    (c2 : PySem.W.codeIn K cd2 "_law_draw" = true) (k2 : PySem.W.keepIn K (.ref f2) = true)
    {f3 : Addr} {od3 an3 : Option Addr} {sl3 : Array (Option Value)} {oc3 kV3 dc3 pm3 cd3 ct3 : Value}
    (a3 : PySem.W.nsIn K mainGlobals "_law_pick" = some (some (.ref f3))) (l3 : K.lookup f3 = some ⟨oc3, od3, .func (PySem.W.fnOf "_law_pick" "_law_pick" (defArgs s_l_pick) (defBody s_l_pick) (defScope s_l_pick) .none kV3 dc3 pm3 an3 cd3 ct3), sl3⟩)
    (c3 : PySem.W.codeIn K cd3 "_law_pick" = true) (k3 : PySem.W.keepIn K (.ref f3) = true)
    {f4 : Addr} {od4 an4 : Option Addr} {sl4 : Array (Option Value)} {oc4 kV4 dc4 pm4 cd4 ct4 : Value}
    (a4 : PySem.W.nsIn K mainGlobals "_law_same" = some (some (.ref f4))) (l4 : K.lookup f4 = some ⟨oc4, od4, .func (PySem.W.fnOf "_law_same" "_law_same" (defArgs s_l_same) (defBody s_l_same) (defScope s_l_same) .none kV4 dc4 pm4 an4 cd4 ct4), sl4⟩)
    (c4 : PySem.W.codeIn K cd4 "_law_same" = true) (k4 : PySem.W.keepIn K (.ref f4) = true)
    {f5 : Addr} {od5 an5 : Option Addr} {sl5 : Array (Option Value)} {oc5 kV5 dc5 pm5 cd5 ct5 : Value}
    (a5 : PySem.W.nsIn K mainGlobals "_law_units" = some (some (.ref f5))) (l5 : K.lookup f5 = some ⟨oc5, od5, .func (PySem.W.fnOf "_law_units" "_law_units" (defArgs s_l_units) (defBody s_l_units) (defScope s_l_units) .none kV5 dc5 pm5 an5 cd5 ct5), sl5⟩)
    (c5 : PySem.W.codeIn K cd5 "_law_units" = true) (k5 : PySem.W.keepIn K (.ref f5) = true)
    {f6 : Addr} {od6 an6 : Option Addr} {sl6 : Array (Option Value)} {oc6 kV6 dc6 pm6 cd6 ct6 : Value}
    (a6 : PySem.W.nsIn K mainGlobals "_law_other" = some (some (.ref f6))) (l6 : K.lookup f6 = some ⟨oc6, od6, .func (PySem.W.fnOf "_law_other" "_law_other" (defArgs s_l_other) (defBody s_l_other) (defScope s_l_other) .none kV6 dc6 pm6 an6 cd6 ct6), sl6⟩)
    (c6 : PySem.W.codeIn K cd6 "_law_other" = true) (k6 : PySem.W.keepIn K (.ref f6) = true)
    {f7 : Addr} {od7 an7 : Option Addr} {sl7 : Array (Option Value)} {oc7 kV7 dc7 pm7 cd7 ct7 : Value}
    (a7 : PySem.W.nsIn K mainGlobals "_law_record" = some (some (.ref f7))) (l7 : K.lookup f7 = some ⟨oc7, od7, .func (PySem.W.fnOf "_law_record" "_law_record" (defArgs s_l_record) (defBody s_l_record) (defScope s_l_record) .none kV7 dc7 pm7 an7 cd7 ct7), sl7⟩)
    (c7 : PySem.W.codeIn K cd7 "_law_record" = true) (k7 : PySem.W.keepIn K (.ref f7) = true)
    {f8 : Addr} {od8 an8 : Option Addr} {sl8 : Array (Option Value)} {oc8 kV8 dc8 pm8 cd8 ct8 : Value}
    (a8 : PySem.W.nsIn K mainGlobals "_law_keeps" = some (some (.ref f8))) (l8 : K.lookup f8 = some ⟨oc8, od8, .func (PySem.W.fnOf "_law_keeps" "_law_keeps" (defArgs s_l_keeps) (defBody s_l_keeps) (defScope s_l_keeps) .none kV8 dc8 pm8 an8 cd8 ct8), sl8⟩)
    (c8 : PySem.W.codeIn K cd8 "_law_keeps" = true) (k8 : PySem.W.keepIn K (.ref f8) = true)
    {f9 : Addr} {od9 an9 : Option Addr} {sl9 : Array (Option Value)} {oc9 kV9 dc9 pm9 cd9 ct9 : Value}
    (a9 : PySem.W.nsIn K mainGlobals "law" = some (some (.ref f9))) (l9 : K.lookup f9 = some ⟨oc9, od9, .func (PySem.W.fnOf "law" "law" (defArgs s_law) (defBody s_law) (defScope s_law) .none kV9 dc9 pm9 an9 cd9 ct9), sl9⟩)
    (c9 : PySem.W.codeIn K cd9 "law" = true) (k9 : PySem.W.keepIn K (.ref f9) = true)
    (z_int : PySem.W.nsIn K mainGlobals "int" = some none)
    (z_list : PySem.W.nsIn K mainGlobals "list" = some none)
    (z_abs : PySem.W.nsIn K mainGlobals "abs" = some none)
    (z_len : PySem.W.nsIn K mainGlobals "len" = some none)
    (z_all : PySem.W.nsIn K mainGlobals "all" = some none)
    (z_bool : PySem.W.nsIn K mainGlobals "bool" = some none)
    (z_isinstance : PySem.W.nsIn K mainGlobals "isinstance" = some none)
    (z_range : PySem.W.nsIn K mainGlobals "range" = some none)
    (z_str : PySem.W.nsIn K mainGlobals "str" = some none)
    (z_tuple : PySem.W.nsIn K mainGlobals "tuple" = some none) :
    ∃ fd : FuncData, (∀ (s : Shared) (v : Value), BindsTo s fd ⟨[v], []⟩ [("script", v)]) ∧ ∀ base : Heap, K.In base → base.Ns mainGlobals mg → FnOk l.prog w K mg base (L2.CX l.prog w) 7 fa fd ["script"] (spF K noCls 1 F_yes) := by
  have e := hfa.symm.trans (PySem.W.mg_of X G a9)
  cases e
  have m_int := PySem.W.mg_none_of X G z_int
  have m_list := PySem.W.mg_none_of X G z_list
  have m_abs := PySem.W.mg_none_of X G z_abs
  have m_len := PySem.W.mg_none_of X G z_len
  have m_all := PySem.W.mg_none_of X G z_all
  have m_bool := PySem.W.mg_none_of X G z_bool
  have m_isinstance := PySem.W.mg_none_of X G z_isinstance
  have m_range := PySem.W.mg_none_of X G z_range
  have m_str := PySem.W.mg_none_of X G z_str
  have m_tuple := PySem.W.mg_none_of X G z_tuple
  have T_keeps : Txt K mg "keeps" s_keeps P_keeps := txt_mk (PySem.W.mg_of X G a0) l0 c0 k0 fun _ _ _ _ _ _ us hl => match us, hl with | [_, _], _ => rfl
  have T_l_stream : Txt K mg "_law_stream" s_l_stream P_l_stream := txt_mk (PySem.W.mg_of X G a1) l1 c1 k1 fun _ _ _ _ _ _ us hl => match us, hl with | [_], _ => rfl
  have T_l_draw : Txt K mg "_law_draw" s_l_draw P_l_draw := txt_mk (PySem.W.mg_of X G a2) l2 c2 k2 fun _ _ _ _ _ _ us hl => match us, hl with | [_, _], _ => rfl
  have T_l_pick : Txt K mg "_law_pick" s_l_pick P_l_pick := txt_mk (PySem.W.mg_of X G a3) l3 c3 k3 fun _ _ _ _ _ _ us hl => match us, hl with | [_, _], _ => rfl
  have T_l_same : Txt K mg "_law_same" s_l_same P_l_same := txt_mk (PySem.W.mg_of X G a4) l4 c4 k4 fun _ _ _ _ _ _ us hl => match us, hl with | [_, _], _ => rfl
  have T_l_units : Txt K mg "_law_units" s_l_units P_l_units := txt_mk (PySem.W.mg_of X G a5) l5 c5 k5 fun _ _ _ _ _ _ us hl => match us, hl with | [_], _ => rfl
  have T_l_other : Txt K mg "_law_other" s_l_other P_l_other := txt_mk (PySem.W.mg_of X G a6) l6 c6 k6 fun _ _ _ _ _ _ us hl => match us, hl with | [_, _, _], _ => rfl
  have T_l_record : Txt K mg "_law_record" s_l_record P_l_record := txt_mk (PySem.W.mg_of X G a7) l7 c7 k7 fun _ _ _ _ _ _ us hl => match us, hl with | [_, _, _], _ => rfl
  have T_l_keeps : Txt K mg "_law_keeps" s_l_keeps P_l_keeps := txt_mk (PySem.W.mg_of X G a8) l8 c8 k8 fun _ _ _ _ _ _ us hl => match us, hl with | [_, _], _ => rfl
  have FL := fun_mk (st := s_law) l9 c9 k9
  refine ⟨PySem.W.fnOf "law" "law" (defArgs s_law) (defBody s_law) (defScope s_law) .none kV9 dc9 pm9 an9 cd9 ct9, fun s v => .of_eq rfl, fun base _ _ => ?_⟩
  have C_keeps := ok_keeps (P := l.prog) (w := w) (base := base) (CL := noCls) T_keeps 
  have C_l_stream := ok_l_stream (P := l.prog) (w := w) (base := base) (CL := noCls) T_l_stream m_int m_list
  have C_l_draw := ok_l_draw (P := l.prog) (w := w) (base := base) (CL := noCls) T_l_draw m_abs m_int m_len
  have C_l_pick := ok_l_pick (P := l.prog) (w := w) (base := base) (CL := noCls) T_l_pick C_l_draw m_len
  have C_l_same := ok_l_same (P := l.prog) (w := w) (base := base) (CL := noCls) T_l_same m_all m_bool m_int m_isinstance m_len m_list m_range m_str m_tuple
  have C_l_units := ok_l_units (P := l.prog) (w := w) (base := base) (CL := noCls) T_l_units C_l_draw
  have C_l_other := ok_l_other (P := l.prog) (w := w) (base := base) (CL := noCls) T_l_other C_l_draw m_int
  have C_l_record := ok_l_record (P := l.prog) (w := w) (base := base) (CL := noCls) T_l_record C_l_draw C_l_pick C_l_other
  have C_l_keeps := ok_l_keeps (P := l.prog) (w := w) (base := base) (CL := noCls) T_l_keeps 
  exact fn_D FL sc_law (b := b_law) (fun cdv A outer s H E O =>
  (rss_cons (rs_set (i := 1) O rfl (by first | exact .inl rfl | exact .inr rfl) (re_fn O C_l_stream (by decide) (ra_cons (re_var 0) ra_nil)))
  (rss_cons (rs_set (i := 2) O rfl (by first | exact .inl rfl | exact .inr rfl) (re_fn O C_l_units (by decide) (ra_cons (re_var 1) ra_nil)))
  (rss_cons (rs_for O (ri_rg1 m_range (ra_cons re_int ra_nil)) (rg_name (i := 3) O rfl (by first | exact .inl rfl | exact .inr rfl))
   (rss_cons (rs_set (i := 4) O rfl (by first | exact .inl rfl | exact .inr rfl) (re_fn O C_l_record (by decide) (ra_cons (re_var 1) (ra_cons (re_var 2) (ra_cons (re_lst false (ra_cons re_str (ra_cons re_str (ra_cons re_str (ra_cons re_str (ra_cons re_str (ra_cons re_str ra_nil))))))) ra_nil)))))
  (rss_cons (rs_setLc (i := 5) (own := [("unit", 6)]) O rfl rfl (sw_true rfl rfl rfl (by decide +kernel)) true (ri_rg1 m_range (ra_cons (re_var 2) ra_nil)) (blkOk_by (N := N_law) (sc := defScope s_law) (by decide +kernel)) (fun _ _ _ _ _ O' => (rg_name (i := 6) O' rfl (by first | exact .inl rfl | exact .inr rfl))) (fun _ _ _ _ _ O' => rts_nil) (fun _ _ _ _ _ O' => (re_fn O' C_l_pick (by decide) (ra_cons (re_var 1) (ra_cons (re_lst false (ra_cons (re_fn O' C_l_draw (by decide) (ra_cons (re_var 1) (ra_cons re_int ra_nil))) (ra_cons (re_neg (re_pow re_int re_int)) (ra_cons (re_pow re_int re_int) ra_nil)))) ra_nil)))))
  (rss_cons (rs_if (rt_in O.hu (re_sub2 O.hu (re_var 4) re_int) (re_tup (ra_cons re_str (ra_cons re_str ra_nil)))) (rss_one (rs_setIx O (re_var 5) (re_sub2 O.hu (re_var 4) re_int) (re_sub (re_add false (re_sub2 O.hu (re_var 4) re_int) (re_fn O C_l_draw (by decide) (ra_cons (re_var 1) (ra_cons re_int ra_nil)))) re_int))) (rss_one (rs_if (PW.pt (rw_and (rt_ne O.hu (re_sub2 O.hu (re_var 4) re_int) re_str) (rw_and1 (rt_gt (re_fn O C_l_draw (by decide) (ra_cons (re_var 1) (ra_cons re_int ra_nil))) re_int)))) (rss_cons (rs_set (i := 7) O rfl (by first | exact .inl rfl | exact .inr rfl) re_int)
  (rss_cons (rs_if (rt_ne O.hu (re_sub2 O.hu (re_var 4) re_int) re_str) (rss_one (rs_set (i := 7) O rfl (by first | exact .inl rfl | exact .inr rfl) (re_sub2 O.hu (re_var 4) re_int))) rss_nil)
  (rss_one (rs_setIx O (re_var 5) (re_sub2 O.hu (re_var 4) re_int) (re_sub (re_add false (re_add false (re_sub2 O.hu (re_var 5) (re_sub2 O.hu (re_var 4) re_int)) (re_var 7)) (re_fn O C_l_draw (by decide) (ra_cons (re_var 1) (ra_cons re_int ra_nil)))) re_int))))) rss_nil)))
  (rss_one (rs_if (rt_not (rt_tr (re_fn O C_l_same (by decide) (ra_cons (re_fn O C_keeps (by decide) (ra_cons (re_var 4) (ra_cons (re_list O false m_list (ra_cons (re_var 5) ra_nil)) ra_nil))) (ra_cons (re_fn O C_l_keeps (by decide) (ra_cons (re_var 4) (ra_cons (re_var 5) ra_nil))) ra_nil))))) (rss_one (rs_ret re_bl)) rss_nil))))))
  (rss_one (rs_ret re_bl)))))) fin_law
end
end Dn
open PySem PySem.W PyProof.Rows
set_option maxHeartbeats 0 in
theorem PySem.Challenge.cw_digteller_k03_keeping_holds : PySem.Challenge.rw_digteller_k03_keeping.Holds := by
  w_on; o_law; k_head; (case hw => w_witness2)
  k_fill
  refine L2.walk_of (l := PySem.Challenge.rw_digteller_k03_keeping) (n := 63) (k := 7) (x := "script") (CX := fun w => L2.CX PySem.Challenge.rw_digteller_k03_keeping.prog w) (sp := fun w => Dn.spF _ Dn.noCls 1 Dn.F_yes) rfl (by decide) rfl ⟨rfl, by decide, by decide⟩ (fun w h Y => PySem.W.kIn_of Y) ?F (fun _ _ a ns hl _ hS => Dn.law_sp hS Dn.F_yes_eq) (fun _ _ _ _ _ h => (Dn.law_cx h).elim)
  case F =>
    intro w mg fa h KX G hmg
    refine' Dn.all_mk KX G hmg ?a0 ?l0 ?c0 ?k0 ?a1 ?l1 ?c1 ?k1 ?a2 ?l2 ?c2 ?k2 ?a3 ?l3 ?c3 ?k3 ?a4 ?l4 ?c4 ?k4 ?a5 ?l5 ?c5 ?k5 ?a6 ?l6 ?c6 ?k6 ?a7 ?l7 ?c7 ?k7 ?a8 ?l8 ?c8 ?k8 ?a9 ?l9 ?c9 ?k9 ?z_int ?z_list ?z_abs ?z_len ?z_all ?z_bool ?z_isinstance ?z_range ?z_str ?z_tuple
    (case a0 => k_is); (case l0 => k_is); (case c0 => k_is); (case k0 => k_is); (case a1 => k_is); (case l1 => k_is); (case c1 => k_is); (case k1 => k_is); (case a2 => k_is); (case l2 => k_is); (case c2 => k_is); (case k2 => k_is); (case a3 => k_is); (case l3 => k_is); (case c3 => k_is); (case k3 => k_is); (case a4 => k_is); (case l4 => k_is); (case c4 => k_is); (case k4 => k_is); (case a5 => k_is); (case l5 => k_is); (case c5 => k_is); (case k5 => k_is); (case a6 => k_is); (case l6 => k_is); (case c6 => k_is); (case k6 => k_is); (case a7 => k_is); (case l7 => k_is); (case c7 => k_is); (case k7 => k_is); (case a8 => k_is); (case l8 => k_is); (case c8 => k_is); (case k8 => k_is); (case a9 => k_is); (case l9 => k_is); (case c9 => k_is); (case k9 => k_is); (case z_int => k_is); (case z_list => k_is); (case z_abs => k_is); (case z_len => k_is); (case z_all => k_is); (case z_bool => k_is); (case z_isinstance => k_is); (case z_range => k_is); (case z_str => k_is); (case z_tuple => k_is)

